import PyProof.Rows.All
import Wide.All
import OpenK.AllK
import Wide.FinOn
import HandS.ForMost
import HandS.Exc
import HandS.ExcInit
import HandS.TupAny
import HandS.IsInst
import HandS.Deep
import HandS.Flow
import HandS.Wide
import HandS.More
import HandS.WordsExc
import HandS.Nested
import KE.KExcSuper
import HandS.TryMany
import HandS.TryOnly
import HandS.ExcField
import HandS.ExcIs
import KE.KExcIs
import PyProof.AutoSeq1
import KE.GoesEnum
import HandS.HeadHook4
import HandS.SetBool
import HandS.SetKeys
import HandS.Strs
import HandS.HeadEnd
import HandS.ExcOwn
import HandS.ExcValue
import HandS.Text
import Wide.Once
import HandS.Head0
import HandS.Head1
import HandS.Head2
import PySem.Challenge.RW_handsroom_k00_names_and_words
set_option Elab.async false
set_option linter.all false
set_option maxRecDepth 100000
set_option maxHeartbeats 4000000
/-! PM: values by what they hold. A slot holds a frozen thing (val), a list of the def's own (own), a list that the caller lent (bor). -/
namespace PM
open PySem L2
open PySem.PyData (strOk)

/-- what a value holds, at any depth; an instance: its class by number, its attributes' names, their things -/
inductive D where
  | non | bl (b : Bool) | int (i : Int) | str (x : Str) | lst (xs : List D) | tup (xs : List D) | obj (c : Nat) (ks : List Str) (ds : List D) | scr (ns : List Int)
/-- where the numbered classes stand, and what stays as it is -/
structure Ca where
  at_ : Nat → Addr
  pin : Hp
  frz : Hp
  ea : Addr
  nol : ∀ a o, pin a = some o → ∀ xs, o ≠ .lst xs
/-- the written part, and where the numbered classes stand -/
structure Gd where
  K : PySem.W.Frag
  ca : Ca
/-- how an own object lies: an instance of the numbered class; from 100 on: an exception of the class with the number less 100 -/
def ObA (G : Gd) (H : Hp) (c : Nat) (a : Addr) (fs : List (Str × V)) : Prop :=
  if c < 100 then ∃ dx, H a = some (.ins (G.ca.at_ c) dx fs) ∧ H dx = some (.own a)
  else (∃ dx, H a = some (exo a (G.ca.at_ (c - 100)) (some dx)) ∧ H dx = some (exd dx fs)) ∨ (fs = [] ∧ H a = some (exo a (G.ca.at_ (c - 100)) none))
theorem obA_same {G : Gd} {H H' : Hp} {c : Nat} {a : Addr} {fs : List (Str × V)} (e : Same H H') (h : ObA G H c a fs) : ObA G H' c a fs := by
  unfold ObA at h ⊢
  split at h
  · rename_i q
    rw [if_pos q]
    obtain ⟨dx, h1, h2⟩ := h
    exact ⟨dx, e _ _ h1, e _ _ h2⟩
  · rename_i q
    rw [if_neg q]
    rcases h with ⟨dx, h1, h2⟩ | ⟨h1, h2⟩
    · exact .inl ⟨dx, e _ _ h1, e _ _ h2⟩
    · exact .inr ⟨h1, e _ _ h2⟩
mutual
inductive Dp (G : Gd) (H : Hp) : V → D → Prop
  | non : Dp G H .non .non
  | bl (b : Bool) : Dp G H (.bl b) (.bl b)
  | int (i : Int) : Dp G H (.int i) (.int i)
  | str (x : Str) : strOk x = true → Dp G H (.str x) (.str x)
  | lst {a : Addr} {xs : List V} {ds : List D} : H a = some (.lst xs) → DpAll G H xs ds → Dp G H (.ref a) (.lst ds)
  | tup {a : Addr} {xs : List V} {ds : List D} : SqT G.K H a xs → DpAll G H xs ds → Dp G H (.ref a) (.tup ds)
  | obj {a : Addr} {c : Nat} {fs : List (Str × V)} {ks : List Str} {ds : List D} : ObA G H c a fs → fs.map (·.1) = ks → DpAll G H (fs.map (·.2)) ds → Dp G H (.ref a) (.obj c ks ds)
  | scr {a : Addr} {ns : List Int} : SqL G.K H a (ns.map V.int) → Dp G H (.ref a) (.scr ns)
inductive DpAll (G : Gd) (H : Hp) : List V → List D → Prop
  | nil : DpAll G H [] []
  | cons {v : V} {vs : List V} {d : D} {ds : List D} : Dp G H v d → DpAll G H vs ds → DpAll G H (v :: vs) (d :: ds)
end

inductive Sl where
  | un | exn | val (d : D) | own (ds : List D) | bor (ds : List D)
abbrev En := List Sl
inductive Rv where
  | val (d : D) | own (ds : List D) | loc (i : Nat)
/-- an error in flight: its class (by number), its fields -/
structure Xc where
  cls : Nat
  fs : List (Str × D)
inductive Res (α : Type) where
  | ok (a : α) (ρ : En) | err (x : Xc) (ρ : En) | bad
abbrev M (α : Type) := En → Res α
abbrev M.ret {α : Type} (a : α) : M α := fun ρ => .ok a ρ
def M.bind {α β : Type} (m : M α) (f : α → M β) : M β := fun ρ => match m ρ with
  | .ok a ρ' => f a ρ'
  | .err x ρ' => .err x ρ'
  | .bad => .bad

/-! ### states -/
def Lst (s : Sl) (ds : List D) : Prop := s = .own ds ∨ s = .bor ds
def Owned (ρ : En) (σ : L2.St) (p : Addr) : Prop := ∃ (i : Nat) (s : Sl) (ds : List D), ρ[i]? = some s ∧ Lst s ds ∧ σ[i]? = some (some (.ref p))
structure RelS (G : Gd) (ρ : En) (σ : L2.St) (F H : Hp) : Prop where
  ex : Same F H
  len : ρ.length = σ.length
  val : ∀ (i : Nat) (d : D), ρ[i]? = some (.val d) → ∃ v, σ[i]? = some (some v) ∧ Dp G F v d
  lst : ∀ (i : Nat) (s : Sl) (ds : List D), ρ[i]? = some s → Lst s ds → ∃ p vs, σ[i]? = some (some (.ref p)) ∧ F p = none ∧ H p = some (.lst vs) ∧ DpAll G F vs ds
  inj : ∀ (i j : Nat) (s t : Sl) (ds es : List D) (p : Addr), ρ[i]? = some s → Lst s ds → ρ[j]? = some t → Lst t es → σ[i]? = some (some (.ref p)) → σ[j]? = some (some (.ref p)) → i = j
  pin : Same G.ca.pin H
  frz : Same G.ca.frz F
  exn : ∀ (i : Nat), ρ[i]? = some .exn → σ[i]? = some (some (.ref G.ca.ea))
/-- what a piece of code leaves alone -/
structure Fm (ρ : En) (σ : L2.St) (F H : Hp) (ρ' : En) (σ' : L2.St) (F' H' : Hp) : Prop where
  ex : Same F F'
  keep : ∀ a o, H a = some o → ¬ Owned ρ σ a → H' a = some o
  new : ∀ a o, F' a = some o → F a = none → Owned ρ σ a ∨ H a = none
  own : ∀ a, Owned ρ' σ' a → Owned ρ σ a ∨ H a = none
  bor : ∀ (i : Nat) (ds : List D), ρ[i]? = some (.bor ds) → σ'[i]? = σ[i]? ∧ ∃ ds', ρ'[i]? = some (.bor ds')
  len : σ'.length = σ.length
theorem Fm.refl {ρ : En} {σ : L2.St} {F H : Hp} : Fm ρ σ F H ρ σ F H := ⟨Same.refl _, fun _ _ h _ => h, fun a o h h' => (by rw [h'] at h; cases h), fun _ h => .inl h, fun _ ds h => ⟨rfl, ds, h⟩, rfl⟩
theorem Fm.dead {ρ ρ' : En} {σ σ' : L2.St} {F H F' H' : Hp} (f : Fm ρ σ F H ρ' σ' F' H') {a : Addr} (h : H' a = none) : Owned ρ σ a ∨ H a = none := by
  by_cases q : Owned ρ σ a
  · exact .inl q
  · cases e : H a with
    | none => exact .inr rfl
    | some o =>
      rw [f.keep a o e q] at h
      cases h
theorem Fm.back {ρ ρ' : En} {σ σ' : L2.St} {F H F' H' : Hp} (f : Fm ρ σ F H ρ' σ' F' H') {a : Addr} (h : Owned ρ' σ' a ∨ H' a = none) : Owned ρ σ a ∨ H a = none := by
  rcases h with h | h
  · exact f.own a h
  · exact f.dead h
theorem Fm.trans {ρ ρ1 ρ2 : En} {σ σ1 σ2 : L2.St} {F H F1 H1 F2 H2 : Hp} (f : Fm ρ σ F H ρ1 σ1 F1 H1) (g : Fm ρ1 σ1 F1 H1 ρ2 σ2 F2 H2) : Fm ρ σ F H ρ2 σ2 F2 H2 where
  ex := f.ex.trans g.ex
  keep := fun a o h n => g.keep a o (f.keep a o h n) fun q => by
    rcases f.own a q with q | q
    · exact n q
    · rw [q] at h
      cases h
  new := fun a o h n => by
    cases e : F1 a with
    | none => exact f.back (g.new a o h e)
    | some u => exact f.new a u e n
  own := fun a h => f.back (g.own a h)
  bor := fun i ds h => by
    obtain ⟨e, ds1, h1⟩ := f.bor i ds h
    obtain ⟨e2, r⟩ := g.bor i ds1 h1
    exact ⟨e2.trans e, r⟩
  len := g.len.trans f.len

/-! ### what is the case of a frozen thing stays so -/
theorem sqL_same {K : PySem.W.Frag} {H H' : Hp} {a : Addr} {xs : List V} (e : Same H H') (h : SqL K H a xs) : SqL K H' a xs := e.seq h
theorem sqT_same {K : PySem.W.Frag} {H H' : Hp} {a : Addr} {xs : List V} (e : Same H H') (h : SqT K H a xs) : SqT K H' a xs := by
  rcases h with (h | ⟨o, h⟩) | h
  · exact .inl (.inl (e _ _ h))
  · exact .inl (.inr ⟨o, e _ _ h⟩)
  · exact .inr h
mutual
theorem dp_same {G : Gd} {H H' : Hp} (e : Same H H') : ∀ {v : V} {d : D}, Dp G H v d → Dp G H' v d
  | _, _, .non => .non
  | _, _, .bl b => .bl b
  | _, _, .int i => .int i
  | _, _, .str x h => .str x h
  | _, _, .lst h r => .lst (e _ _ h) (dpAll_same e r)
  | _, _, .tup h r => .tup (sqT_same e h) (dpAll_same e r)
  | _, _, .obj h k r => .obj (obA_same e h) k (dpAll_same e r)
  | _, _, .scr h => .scr (sqL_same e h)
theorem dpAll_same {G : Gd} {H H' : Hp} (e : Same H H') : ∀ {vs : List V} {ds : List D}, DpAll G H vs ds → DpAll G H' vs ds
  | _, _, .nil => .nil
  | _, _, .cons h r => .cons (dp_same e h) (dpAll_same e r)
end

/-! ### what an expression gives -/
def RvR (G : Gd) (ρ0 : En) (H0 : Hp) (ρ : En) (σ : L2.St) (F H : Hp) (v : V) : Rv → Prop
  | .val d => Dp G F v d
  | .own ds => ∃ p vs, v = .ref p ∧ F p = none ∧ H p = some (.lst vs) ∧ DpAll G F vs ds ∧ ¬ Owned ρ σ p ∧ (Owned ρ0 σ p ∨ H0 p = none)
  | .loc i => σ[i]? = some (some v)
def deref (ρ : En) : Rv → Option D
  | .val d => some d
  | .own ds => some (.lst ds)
  | .loc i => match ρ[i]? with
    | some (.val d) => some d
    | some (.own ds) => some (.lst ds)
    | some (.bor ds) => some (.lst ds)
    | _ => none
theorem deref_dp {G : Gd} {ρ0 ρ : En} {σ : L2.St} {H0 F H : Hp} {v : V} {r : Rv} {d : D} (R : RelS G ρ σ F H) (h : RvR G ρ0 H0 ρ σ F H v r) (e : deref ρ r = some d) : Dp G H v d := by
  cases r with
  | val d' =>
    cases e
    exact dp_same R.ex h
  | own ds =>
    cases e
    obtain ⟨p, vs, rfl, _, hp, ha, _⟩ := h
    exact .lst hp (dpAll_same R.ex ha)
  | loc i =>
    have h : σ[i]? = some (some v) := h
    unfold deref at e
    dsimp only at e
    cases q : ρ[i]? with
    | none => rw [q] at e; cases e
    | some s =>
      rw [q] at e
      cases s with
      | un => cases e
      | exn => cases e
      | val d' =>
        cases e
        obtain ⟨u, hu, k⟩ := R.val i _ q
        rw [h] at hu
        cases hu
        exact dp_same R.ex k
      | own ds =>
        cases e
        obtain ⟨p, vs, hu, _, hp, ha⟩ := R.lst i _ ds q (.inl rfl)
        rw [h] at hu
        cases hu
        exact .lst hp (dpAll_same R.ex ha)
      | bor ds =>
        cases e
        obtain ⟨p, vs, hu, _, hp, ha⟩ := R.lst i _ ds q (.inr rfl)
        rw [h] at hu
        cases hu
        exact .lst hp (dpAll_same R.ex ha)
/-- a result stands while other code runs -/
theorem RvR.step {G : Gd} {ρ0 ρ ρ' : En} {σ : L2.St} {H0 F H F' H' : Hp} {v : V} {r : Rv} (h : RvR G ρ0 H0 ρ σ F H v r) (f : Fm ρ σ F H ρ' σ F' H') : RvR G ρ0 H0 ρ' σ F' H' v r := by
  cases r with
  | val d => exact dp_same f.ex h
  | own ds =>
    obtain ⟨p, vs, rfl, hf, hp, ha, no, nw⟩ := h
    have hp' := f.keep p _ hp no
    refine ⟨p, vs, rfl, ?_, hp', dpAll_same f.ex ha, fun q => ?_, nw⟩
    · cases e : F' p with
      | none => rfl
      | some o =>
        rcases f.new p o e hf with q | q
        · exact (no q).elim
        · rw [hp] at q
          cases q
    · rcases f.own p q with q | q
      · exact no q
      · rw [hp] at q
        cases q
  | loc i => exact h
/-- a result, seen from further back -/
theorem RvR.from {G : Gd} {ρ0 ρ1 ρ : En} {σ : L2.St} {H0 H1 F0 F1 F H : Hp} {v : V} {r : Rv} (h : RvR G ρ1 H1 ρ σ F H v r) (f : Fm ρ0 σ F0 H0 ρ1 σ F1 H1) : RvR G ρ0 H0 ρ σ F H v r := by
  cases r with
  | val d => exact h
  | own ds =>
    obtain ⟨p, vs, rfl, hf, hp, ha, no, nw⟩ := h
    exact ⟨p, vs, rfl, hf, hp, ha, no, f.back nw⟩
  | loc i => exact h

/-! ### the readings of pieces -/
/-- how an error lies: its class and its fields -/
structure XR (G : Gd) (F H : Hp) (x : Xc) (cls : Value) (d : Option Addr) : Prop where
  cls : cls = .ref (G.ca.at_ x.cls)
  fs : x.fs = [] ∧ d = none ∨ ∃ (dx : Addr) (vs : List (Str × V)), d = some dx ∧ H dx = some (.xd vs) ∧ vs.map (·.1) = x.fs.map (·.1) ∧ DpAll G F (vs.map (·.2)) (x.fs.map (·.2))
def Post {α β : Type} (G : Gd) (W : WX) (RR : En → Hp → En → L2.St → Hp → Hp → β → α → Prop) (ρ : En) (σ : L2.St) (F H : Hp) (Q : β → Hp → Prop) : Res α → Prop
  | .ok a ρ' => ∀ b F' H', RelS G ρ' σ F' H' → Fm ρ σ F H ρ' σ F' H' → RR ρ H ρ' σ F' H' b a → Q b H'
  | .err x ρ' => ∀ cls d F' H', RelS G ρ' σ F' H' → Fm ρ σ F H ρ' σ F' H' → XR G F' H' x cls d → W cls d σ H'
  | .bad => False
abbrev tE (G : Gd) (W : WX) (m : M Rv) : TE := fun σ H Q => ∃ F ρ, RelS G ρ σ F H ∧ Post G W (RvR G) ρ σ F H Q (m ρ)
def RB : En → Hp → En → L2.St → Hp → Hp → Bool → Bool → Prop := fun _ _ _ _ _ _ b a => b = a
abbrev tT (G : Gd) (W : WX) (m : M Bool) : TT := fun σ H Q => ∃ F ρ, RelS G ρ σ F H ∧ Post G W RB ρ σ F H Q (m ρ)
/-- the address of a list that nobody has yet -/
def ownA : V → Rv → List Addr
  | .ref p, .own _ => [p]
  | _, _ => []
def ownsA : List V → List Rv → List Addr
  | v :: vs, r :: rs => ownA v r ++ ownsA vs rs
  | _, _ => []
inductive RvA (G : Gd) (ρ0 : En) (H0 : Hp) (ρ : En) (σ : L2.St) (F H : Hp) : List V → List Rv → Prop
  | nil : RvA G ρ0 H0 ρ σ F H [] []
  | cons {v : V} {vs : List V} {r : Rv} {rs : List Rv} : RvR G ρ0 H0 ρ σ F H v r → RvA G ρ0 H0 ρ σ F H vs rs → (∀ p ∈ ownA v r, ∀ q ∈ ownsA vs rs, p ≠ q) → RvA G ρ0 H0 ρ σ F H (v :: vs) (r :: rs)
abbrev tAr (G : Gd) (W : WX) (m : M (List Rv)) : TA := fun σ H Q => ∃ F ρ, RelS G ρ σ F H ∧ Post G W (RvA G) ρ σ F H Q (m ρ)
theorem Post.imp {α β : Type} {G : Gd} {W : WX} {RR : En → Hp → En → L2.St → Hp → Hp → β → α → Prop} {ρ : En} {σ : L2.St} {F H : Hp} {Q Q' : β → Hp → Prop} {r : Res α} (h : Post G W RR ρ σ F H Q r) (q : ∀ b H', Q b H' → Q' b H') : Post G W RR ρ σ F H Q' r := by
  cases r with
  | ok a ρ' => exact fun b F' H' R f x => q _ _ (h b F' H' R f x)
  | err x ρ' => exact h
  | bad => exact h
/-- one piece behind another -/
theorem Post.seq {α β γ δ : Type} {G : Gd} {W : WX} {RR : En → Hp → En → L2.St → Hp → Hp → β → α → Prop} {SS : En → Hp → En → L2.St → Hp → Hp → δ → γ → Prop} {ρ : En} {σ : L2.St} {F H : Hp}
    {Q : δ → Hp → Prop} {Q1 : β → Hp → Prop} {r : Res α} {f : α → M γ} (h : Post G W SS ρ σ F H Q (match r with | .ok a ρ' => f a ρ' | .err x ρ' => .err x ρ' | .bad => .bad))
    (k : ∀ (a : α) (b : β) (ρ1 : En) (F1 H1 : Hp), RelS G ρ1 σ F1 H1 → Fm ρ σ F H ρ1 σ F1 H1 → RR ρ H ρ1 σ F1 H1 b a → Post G W SS ρ σ F H Q (f a ρ1) → Q1 b H1) : Post G W RR ρ σ F H Q1 r := by
  cases r with
  | ok a ρ' => exact fun b F' H' R g x => k a b ρ' F' H' R g x h
  | err x ρ' => exact h
  | bad => exact h
/-- a post told from the start, wanted from a later place -/
theorem Post.from {α β : Type} {G : Gd} {W : WX} {RR : En → Hp → En → L2.St → Hp → Hp → β → α → Prop} {ρ ρ1 : En} {σ : L2.St} {F H F1 H1 : Hp} {Q : β → Hp → Prop} {r : Res α}
    (h : Post G W RR ρ σ F H Q r) (f : Fm ρ σ F H ρ1 σ F1 H1) (k : ∀ ρ' F' H' b a, RR ρ1 H1 ρ' σ F' H' b a → RR ρ H ρ' σ F' H' b a) : Post G W RR ρ1 σ F1 H1 Q r := by
  cases r with
  | ok a ρ' => exact fun b F' H' R g x => h b F' H' R (f.trans g) (k _ _ _ _ _ x)
  | err x ρ' => exact fun c d F' H' R g x => h c d F' H' R (f.trans g) x
  | bad => exact h
theorem RvA.step {G : Gd} {ρ0 ρ ρ' : En} {σ : L2.St} {H0 F H F' H' : Hp} {vs : List V} {rs : List Rv} (h : RvA G ρ0 H0 ρ σ F H vs rs) (f : Fm ρ σ F H ρ' σ F' H') : RvA G ρ0 H0 ρ' σ F' H' vs rs := by
  induction h with
  | nil => exact .nil
  | cons a _ n ih => exact .cons (a.step f) ih n
theorem RvR.new {G : Gd} {ρ0 ρ : En} {σ : L2.St} {H0 F H : Hp} {v : V} {r : Rv} (h : RvR G ρ0 H0 ρ σ F H v r) : ∀ q ∈ ownA v r, (Owned ρ0 σ q ∨ H0 q = none) ∧ ¬ Owned ρ σ q ∧ F q = none ∧ ∃ vs, H q = some (.lst vs) := fun q m => by
  cases r with
  | val d => cases v <;> cases m
  | loc i => cases v <;> cases m
  | own ds =>
    obtain ⟨p, vs, rfl, hf, hp, ha, no, nw⟩ := h
    cases m with
    | head => exact ⟨nw, no, hf, vs, hp⟩
    | tail _ z => cases z
theorem RvA.new {G : Gd} {ρ0 ρ : En} {σ : L2.St} {H0 F H : Hp} {vs : List V} {rs : List Rv} (h : RvA G ρ0 H0 ρ σ F H vs rs) : ∀ q ∈ ownsA vs rs, (Owned ρ0 σ q ∨ H0 q = none) ∧ ¬ Owned ρ σ q ∧ F q = none ∧ ∃ vs, H q = some (.lst vs) := by
  induction h with
  | nil => exact fun q m => nomatch m
  | cons a _ _ ih =>
    intro q m
    rcases List.mem_append.mp m with m | m
    · exact a.new q m
    · exact ih q m
theorem RvA.from {G : Gd} {ρ0 ρ1 ρ : En} {σ : L2.St} {H0 H1 F0 F1 F H : Hp} {vs : List V} {rs : List Rv} (h : RvA G ρ1 H1 ρ σ F H vs rs) (f : Fm ρ0 σ F0 H0 ρ1 σ F1 H1) : RvA G ρ0 H0 ρ σ F H vs rs := by
  induction h with
  | nil => exact .nil
  | cons a _ n ih => exact .cons (a.from f) ih n
end PM
set_option Elab.async false
set_option linter.all false
set_option maxRecDepth 100000
set_option maxHeartbeats 4000000
namespace PM
open PySem L2
open PySem.PyData (strOk)

/-! ### a step that only lays new things -/
structure Grow (F H F' H' : Hp) : Prop where
  ff : Same F F'
  fh : Same F' H'
  hh : Same H H'
  new : ∀ a o, F' a = some o → F a = none → H a = none
theorem Grow.refl {F H : Hp} (h : Same F H) : Grow F H F H := ⟨Same.refl _, h, Same.refl _, fun a o h h' => by rw [h'] at h; cases h⟩
theorem same_new {H : Hp} {p : Addr} {o : HO} (h : H p = none) : Same H (upd H p o) := fun a u e => by
  rw [upd_ne (ne_of_none e h)]
  exact e
theorem same_both {F H : Hp} {p : Addr} {o : HO} (e : Same F H) : Same (upd F p o) (upd H p o) := fun a u q => by
  by_cases h : a = p
  · subst h
    rw [upd_same] at q ⊢
    exact q
  · rw [upd_ne h] at q ⊢
    exact e _ _ q
/-- a new frozen thing -/
theorem Grow.lay {F H : Hp} {p : Addr} {o : HO} (e : Same F H) (h : H p = none) : Grow F H (upd F p o) (upd H p o) where
  ff := same_new (e.free h)
  fh := same_both e
  hh := same_new h
  new := fun a u q n => by
    by_cases z : a = p
    · rw [z]; exact h
    · rw [upd_ne z, n] at q
      cases q
/-- a new thing of one's own -/
theorem Grow.own {F H : Hp} {p : Addr} {o : HO} (e : Same F H) (h : H p = none) : Grow F H F (upd H p o) where
  ff := Same.refl _
  fh := e.trans (same_new h)
  hh := same_new h
  new := fun a u q n => by rw [n] at q; cases q
theorem Grow.out {F H F' H' : Hp} (g : Grow F H F' H') {p : Addr} {o : HO} (hf : F p = none) (hp : H p = some o) : F' p = none := by
  cases e : F' p with
  | none => rfl
  | some u =>
    have z := g.new p u e hf
    rw [hp] at z
    cases z
theorem RelS.grow {G : Gd} {ρ : En} {σ : L2.St} {F H F' H' : Hp} (R : RelS G ρ σ F H) (g : Grow F H F' H') : RelS G ρ σ F' H' where
  ex := g.fh
  len := R.len
  val := fun i d h => by
    obtain ⟨v, e, k⟩ := R.val i d h
    exact ⟨v, e, dp_same g.ff k⟩
  lst := fun i s ds h l => by
    obtain ⟨p, vs, e, hf, hp, ha⟩ := R.lst i s ds h l
    exact ⟨p, vs, e, g.out hf hp, g.hh _ _ hp, dpAll_same g.ff ha⟩
  inj := R.inj
  pin := R.pin.trans g.hh
  frz := R.frz.trans g.ff
  exn := R.exn
theorem Fm.grow {ρ : En} {σ : L2.St} {F H F' H' : Hp} (g : Grow F H F' H') : Fm ρ σ F H ρ σ F' H' := ⟨g.ff, fun a o h _ => g.hh a o h, fun a o h n => .inr (g.new a o h n), fun _ h => .inl h, fun _ ds h => ⟨rfl, ds, h⟩, rfl⟩

/-! ### operands: frozen, or a list that is not (its items are) -/
inductive Dq (G : Gd) (F H : Hp) : V → D → Prop
  | fz {v : V} {d : D} : Dp G F v d → Dq G F H v d
  | ol {p : Addr} {vs : List V} {ds : List D} : H p = some (.lst vs) → DpAll G F vs ds → Dq G F H (.ref p) (.lst ds)
inductive DqAll (G : Gd) (F H : Hp) : List V → List D → Prop
  | nil : DqAll G F H [] []
  | cons {v : V} {vs : List V} {d : D} {ds : List D} : Dq G F H v d → DqAll G F H vs ds → DqAll G F H (v :: vs) (d :: ds)
theorem deref_dq {G : Gd} {ρ0 ρ : En} {σ : L2.St} {H0 F H : Hp} {v : V} {r : Rv} {d : D} (R : RelS G ρ σ F H) (h : RvR G ρ0 H0 ρ σ F H v r) (e : deref ρ r = some d) : Dq G F H v d := by
  cases r with
  | val d' =>
    cases e
    exact .fz h
  | own ds =>
    cases e
    obtain ⟨p, vs, rfl, _, hp, ha, _⟩ := h
    exact .ol hp ha
  | loc i =>
    have h : σ[i]? = some (some v) := h
    unfold deref at e
    dsimp only at e
    cases q : ρ[i]? with
    | none => rw [q] at e; cases e
    | some s =>
      rw [q] at e
      cases s with
      | un => cases e
      | exn => cases e
      | val d' =>
        cases e
        obtain ⟨u, hu, k⟩ := R.val i _ q
        rw [h] at hu
        cases hu
        exact .fz k
      | own ds =>
        cases e
        obtain ⟨p, vs, hu, _, hp, ha⟩ := R.lst i _ ds q (.inl rfl)
        rw [h] at hu
        cases hu
        exact .ol hp ha
      | bor ds =>
        cases e
        obtain ⟨p, vs, hu, _, hp, ha⟩ := R.lst i _ ds q (.inr rfl)
        rw [h] at hu
        cases hu
        exact .ol hp ha
theorem Dq.dp {G : Gd} {F H : Hp} {v : V} {d : D} (e : Same F H) (h : Dq G F H v d) : Dp G H v d := by
  cases h with
  | fz h => exact dp_same e h
  | ol h r => exact .lst h (dpAll_same e r)
def derefs (ρ : En) : List Rv → Option (List D)
  | [] => some []
  | r :: rs => match deref ρ r, derefs ρ rs with
    | some d, some ds => some (d :: ds)
    | _, _ => none
theorem derefs_dq {G : Gd} {ρ0 ρ : En} {σ : L2.St} {H0 F H : Hp} (R : RelS G ρ σ F H) : ∀ {vs : List V} {rs : List Rv} {ds : List D}, RvA G ρ0 H0 ρ σ F H vs rs → derefs ρ rs = some ds → DqAll G F H vs ds
  | _, _, _, .nil, e => by cases e; exact .nil
  | _, _, _, .cons (r := r) (rs := rs) h t _, e => by
    unfold derefs at e
    split at e
    · rename_i d ds' e1 e2
      cases e
      exact .cons (deref_dq R h e1) (derefs_dq R t e2)
    · cases e

/-- what an operation gives: new things may have been laid -/
def Outs (G : Gd) (F H : Hp) (z : Rv) (Q : VK) : Prop := ∀ v F' H', Grow F H F' H' → (match z with
  | .val d => Dp G F' v d
  | .own ds => ∃ p vs, v = .ref p ∧ H p = none ∧ F' p = none ∧ H' p = some (.lst vs) ∧ DpAll G F' vs ds
  | .loc _ => False) → Q v H'
def Op1 (G : Gd) (r : V → Hp → VK → Prop) (g : D → Option Rv) : Prop := ∀ d z, g d = some z → ∀ x F H Q, Same F H → Dq G F H x d → Outs G F H z Q → r x H Q
def Op2 (G : Gd) (r : R2) (g : D → D → Option Rv) : Prop := ∀ d e z, g d e = some z → ∀ x y F H Q, Same F H → Dq G F H x d → Dq G F H y e → Outs G F H z Q → r x y H Q
def OpN (G : Gd) (r : List V → Hp → VK → Prop) (g : List D → Option Rv) : Prop := ∀ ds z, g ds = some z → ∀ vs F H Q, Same F H → DqAll G F H vs ds → Outs G F H z Q → r vs H Q
def OpM (G : Gd) (r : V → List V → Hp → VK → Prop) (g : D → List D → Option Rv) : Prop := ∀ d ds z, g d ds = some z → ∀ x vs F H Q, Same F H → Dq G F H x d → DqAll G F H vs ds → Outs G F H z Q → r x vs H Q
theorem outs_post {G : Gd} {ρ : En} {σ : L2.St} {F H : Hp} {W : WX} {z : Rv} {Q : VK} (R : RelS G ρ σ F H) (h : Post G W (RvR G) ρ σ F H Q (.ok z ρ)) : Outs G F H z Q := fun v F' H' g k => by
  refine h v F' H' (R.grow g) (Fm.grow g) ?_
  cases z with
  | val d => exact k
  | loc i => exact k.elim
  | own ds =>
    obtain ⟨p, vs, rfl, hn, hf, hp, ha⟩ := k
    refine ⟨p, vs, rfl, hf, hp, ha, fun ⟨i, s, es, e1, l, e2⟩ => ?_, .inr hn⟩
    obtain ⟨p', vs', e, _, hp', _⟩ := R.lst i s es e1 l
    rw [e2] at e
    cases e
    rw [hn] at hp'
    cases hp'

/-! ### the judgements -/
section
variable (X : Cx) (ca : Ca) (W : WX)
def DE (e : Expr) (m : M Rv) : Prop := PE X e (tE ⟨X.K, ca⟩ W m)
def DT (e : Expr) (m : M Bool) : Prop := PT X e (tT ⟨X.K, ca⟩ W m)
def DW (e : Expr) (m : M Bool) : Prop := PW X e (tT ⟨X.K, ca⟩ W m)
def DA (es : List Expr) (m : M (List Rv)) : Prop := PA X es (tAr ⟨X.K, ca⟩ W m)
end
section
variable {X : Cx}
theorem pe_imp {e : Expr} {t t' : TE} (h : PE X e t) (k : ∀ σ H Q, t' σ H Q → t σ H Q) : PE X e t' := ⟨fun pins s σ H Q I q => h.run pins s σ H Q I (k _ _ _ q)⟩
theorem pt_imp {e : Expr} {t t' : TT} (h : PT X e t) (k : ∀ σ H Q, t' σ H Q → t σ H Q) : PT X e t' := ⟨fun pins s σ H Q I q => h.run pins s σ H Q I (k _ _ _ q)⟩
theorem pw_imp {e : Expr} {t t' : TT} (h : PW X e t) (k : ∀ σ H Q, t' σ H Q → t σ H Q) : PW X e t' := ⟨fun whole pins s σ H Q I q => h.run whole pins s σ H Q I (k _ _ _ q)⟩
theorem pa_imp {es : List Expr} {t t' : TA} (h : PA X es t) (k : ∀ σ H Q, t' σ H Q → t σ H Q) : PA X es t' := ⟨fun pos pins s σ H Q I q => h.run pos pins s σ H Q I (k _ _ _ q)⟩
theorem ps_imp {st : Stmt} {t t' : TS} (h : PS X st t) (k : ∀ D σ H, t' D σ H → t D σ H) : PS X st t' := ⟨fun pins s σ H D I q => h.run pins s σ H D I (k _ _ _ q)⟩
theorem pss_imp {st : List Stmt} {t t' : TS} (h : PSs X st t) (k : ∀ D σ H, t' D σ H → t D σ H) : PSs X st t' := ⟨fun pins s σ H D I q => h.run pins s σ H D I (k _ _ _ q)⟩
theorem opR_or {f : Value → Value → Sem Value} {r r' : R2} (h : OpR X f r) (h' : OpR X f r') : OpR X f (fun x y H Q => r x y H Q ∨ r' x y H Q) := by
  intro pins s σ H x y v u Q I rx ry q
  rcases q with q | q
  · exact h pins s σ H x y v u Q I rx ry q
  · exact h' pins s σ H x y v u Q I rx ry q
theorem callR_or {f : Value} {r r' : List V → Hp → VK → Prop} (h : CallR X f r) (h' : CallR X f r') : CallR X f (fun x H Q => r x H Q ∨ r' x H Q) := by
  intro pins s σ H x v Q I rx q
  rcases q with q | q
  · exact h pins s σ H x v Q I rx q
  · exact h' pins s σ H x v Q I rx q
end
section
variable {X : Cx} {ca : Ca} {W : WX}
/-- a name of the def -/
def mVar (i : Nat) : M Rv := fun ρ => match ρ[i]? with
  | some (.val d) => .ok (.val d) ρ
  | some (.own _) => .ok (.loc i) ρ
  | some (.bor _) => .ok (.loc i) ρ
  | _ => .bad
theorem de_var' {e : Expr} {i : Nat} (h : PE X e (tVar i)) : DE X ca W e (mVar i) := pe_imp h fun σ H Q ⟨F, ρ, R, p⟩ => by
  unfold mVar at p
  cases q : ρ[i]? with
  | none => rw [q] at p; exact p.elim
  | some s =>
    rw [q] at p
    cases s with
    | un => exact p.elim
    | exn => exact p.elim
    | val d =>
      obtain ⟨v, e, k⟩ := R.val i d q
      exact ⟨v, e, p v F H R Fm.refl k⟩
    | own ds =>
      obtain ⟨p', vs, e, _⟩ := R.lst i _ ds q (.inl rfl)
      exact ⟨_, e, p _ F H R Fm.refl e⟩
    | bor ds =>
      obtain ⟨p', vs, e, _⟩ := R.lst i _ ds q (.inr rfl)
      exact ⟨_, e, p _ F H R Fm.refl e⟩
theorem de_var (i : Nat) {x : Str} {pos : Pos} (hN : X.N[i]? = some x) (hv : Vis X.env.scope x) (hd : (x == ("__debug__" : Str)) = false) (hcd : (x == ("__classdict__" : Str)) = false) : DE X ca W (.Name x pos) (mVar i) := de_var' (pe_var hN hv hd hcd)
def mC (d : D) : M Rv := fun ρ => .ok (.val d) ρ
theorem de_c {e : Expr} {v : V} {d : D} (h : PE X e (tC v)) (k : ∀ F : Hp, Dp ⟨X.K, ca⟩ F v d) : DE X ca W e (mC d) := pe_imp h fun σ H Q ⟨F, ρ, R, p⟩ => p v F H R Fm.refl (k F)
theorem de_int {i j pos} : DE X ca W (.Constant (.int i) j pos) (mC (.int i)) := de_c pe_int fun _ => .int i
theorem de_bl {b j pos} : DE X ca W (.Constant (.bool b) j pos) (mC (.bl b)) := de_c pe_bl fun _ => .bl b
theorem de_non {j pos} : DE X ca W (.Constant .none j pos) (mC .non) := de_c pe_non fun _ => .non
theorem de_str {x j pos} (h : strOk x = true) : DE X ca W (.Constant (.str x) j pos) (mC (.str x)) := de_c pe_str fun _ => .str x h
/-- two operands -/
def mOp2 (g : D → D → Option Rv) (m n : M Rv) : M Rv := fun ρ => match m ρ with
  | .ok r1 ρ1 => match n ρ1 with
    | .ok r2 ρ2 => match deref ρ2 r1, deref ρ2 r2 with
      | some d, some e => match g d e with
        | some z => .ok z ρ2
        | none => .bad
      | _, _ => .bad
    | .err x ρ2 => .err x ρ2
    | .bad => .bad
  | .err x ρ1 => .err x ρ1
  | .bad => .bad
theorem t_op2 {r : R2} {g : D → D → Option Rv} {m n : M Rv} (hg : Op2 ⟨X.K, ca⟩ r g) {σ : L2.St} {H : Hp} {Q : VK} (h : tE ⟨X.K, ca⟩ W (mOp2 g m n) σ H Q) : tOp r (tE ⟨X.K, ca⟩ W m) (tE ⟨X.K, ca⟩ W n) σ H Q := by
  obtain ⟨F, ρ, R, p⟩ := h
  refine ⟨F, ρ, R, ?_⟩
  unfold mOp2 at p
  cases e1 : m ρ with
  | bad => rw [e1] at p; exact p
  | err x ρ1 => rw [e1] at p; exact p
  | ok r1 ρ1 =>
    rw [e1] at p
    intro v1 F1 H1 R1 f1 k1
    refine ⟨F1, ρ1, R1, ?_⟩
    dsimp only at p
    cases e2 : n ρ1 with
    | bad => rw [e2] at p; exact p
    | err x ρ2 =>
      rw [e2] at p
      exact fun c d F2 H2 R2 f2 x2 => p c d F2 H2 R2 (f1.trans f2) x2
    | ok r2 ρ2 =>
      rw [e2] at p
      intro v2 F2 H2 R2 f2 k2
      dsimp only at p
      have k1' := k1.step f2
      cases q1 : deref ρ2 r1 with
      | none => rw [q1] at p; exact p.elim
      | some d =>
        cases q2 : deref ρ2 r2 with
        | none => rw [q1, q2] at p; exact p.elim
        | some e =>
          rw [q1, q2] at p
          dsimp only at p
          cases q3 : g d e with
          | none => rw [q3] at p; exact p.elim
          | some z =>
            rw [q3] at p
            dsimp only at p
            refine hg d e z q3 v1 v2 F2 H2 Q R2.ex (deref_dq R2 k1' q1) (deref_dq R2 k2 q2) ?_
            exact outs_post R2 (Post.from p (f1.trans f2) fun ρ' F' H' b a x => RvR.from x (f1.trans f2))
theorem de_op2 {op : Operator} {r : R2} {g : D → D → Option Rv} {a b : Expr} {m n : M Rv} {pos : Pos} (ho : OpR X (binaryOp op) r) (hg : Op2 ⟨X.K, ca⟩ r g) (ha : DE X ca W a m) (hb : DE X ca W b n) : DE X ca W (.BinOp a op b pos) (mOp2 g m n) :=
  pe_imp (pe_op ho ha hb) fun _ _ _ h => t_op2 hg h
theorem de_cmp2 {op : CmpOp} {r : R2} {g : D → D → Option Rv} {a b : Expr} {m n : M Rv} {pos : Pos} (ho : OpR X (compareOp op) r) (hg : Op2 ⟨X.K, ca⟩ r g) (ha : DE X ca W a m) (hb : DE X ca W b n) (hm : behindInMarks op b = false) : DE X ca W (.Compare a [op] [b] pos) (mOp2 g m n) :=
  pe_imp (pe_cmpR ho ha hb hm) fun _ _ _ h => t_op2 hg h
theorem de_ix2 {r : R2} {g : D → D → Option Rv} {a b : Expr} {m n : M Rv} {pos : Pos} (ho : IxR X r) (hg : Op2 ⟨X.K, ca⟩ r g) (ha : DE X ca W a m) (hb : DE X ca W b n) (hs : PlainIx b) : DE X ca W (.Subscript a b pos) (mOp2 g m n) :=
  pe_imp (pe_ix ho ha hb hs) fun _ _ _ h => t_op2 hg h
/-- one operand -/
def mOp1 (g : D → Option Rv) (m : M Rv) : M Rv := fun ρ => match m ρ with
  | .ok r1 ρ1 => match deref ρ1 r1 with
    | some d => match g d with
      | some z => .ok z ρ1
      | none => .bad
    | none => .bad
  | .err x ρ1 => .err x ρ1
  | .bad => .bad
theorem t_op1 {r : V → Hp → VK → Prop} {g : D → Option Rv} {m : M Rv} (hg : Op1 ⟨X.K, ca⟩ r g) {σ : L2.St} {H : Hp} {Q : VK} (h : tE ⟨X.K, ca⟩ W (mOp1 g m) σ H Q) : tE ⟨X.K, ca⟩ W m σ H fun x H1 => r x H1 Q := by
  obtain ⟨F, ρ, R, p⟩ := h
  refine ⟨F, ρ, R, ?_⟩
  unfold mOp1 at p
  cases e1 : m ρ with
  | bad => rw [e1] at p; exact p
  | err x ρ1 => rw [e1] at p; exact p
  | ok r1 ρ1 =>
    rw [e1] at p
    intro v1 F1 H1 R1 f1 k1
    dsimp only at p
    cases q1 : deref ρ1 r1 with
    | none => rw [q1] at p; exact p.elim
    | some d =>
      rw [q1] at p
      dsimp only at p
      cases q3 : g d with
      | none => rw [q3] at p; exact p.elim
      | some z =>
        rw [q3] at p
        dsimp only at p
        refine hg d z q3 v1 F1 H1 Q R1.ex (deref_dq R1 k1 q1) ?_
        exact outs_post R1 (Post.from p f1 fun ρ' F' H' b a x => RvR.from x f1)
theorem de_un1 {op : UnaryOp} {r : V → Hp → VK → Prop} {g : D → Option Rv} {a : Expr} {m : M Rv} {pos : Pos} (ho : UnR X (unaryOp op) r) (hg : Op1 ⟨X.K, ca⟩ r g) (ha : DE X ca W a m) : DE X ca W (.UnaryOp op a pos) (mOp1 g m) :=
  pe_imp (pe_un ho ha) fun _ _ _ h => t_op1 hg h
/-! ### arguments -/
def mNil : M (List Rv) := fun ρ => .ok [] ρ
def mCons (m : M Rv) (n : M (List Rv)) : M (List Rv) := fun ρ => match m ρ with
  | .ok r ρ1 => match n ρ1 with
    | .ok rs ρ2 => .ok (r :: rs) ρ2
    | .err x ρ2 => .err x ρ2
    | .bad => .bad
  | .err x ρ1 => .err x ρ1
  | .bad => .bad
theorem da_nil : DA X ca W [] mNil := pa_imp pa_nil fun σ H Q ⟨F, ρ, R, p⟩ => p [] F H R Fm.refl .nil
theorem da_cons {e : Expr} {es : List Expr} {m : M Rv} {n : M (List Rv)} (ha : DE X ca W e m) (hr : DA X ca W es n) (hs : starEach (e :: es) X.env = (false, eval e X.env) :: starEach es X.env) : DA X ca W (e :: es) (mCons m n) :=
  pa_imp (pa_cons ha hr hs) fun σ H Q ⟨F, ρ, R, p⟩ => by
    refine ⟨F, ρ, R, ?_⟩
    unfold mCons at p
    cases e1 : m ρ with
    | bad => rw [e1] at p; exact p
    | err x ρ1 => rw [e1] at p; exact p
    | ok r1 ρ1 =>
      rw [e1] at p
      intro v1 F1 H1 R1 f1 k1
      refine ⟨F1, ρ1, R1, ?_⟩
      dsimp only at p
      cases e2 : n ρ1 with
      | bad => rw [e2] at p; exact p
      | err x ρ2 =>
        rw [e2] at p
        exact fun c d F2 H2 R2 f2 x2 => p c d F2 H2 R2 (f1.trans f2) x2
      | ok rs ρ2 =>
        rw [e2] at p
        exact fun vs F2 H2 R2 f2 k2 => p _ F2 H2 R2 (f1.trans f2) (.cons (k1.step f2) (k2.from f1) fun a ma b mb e => by
          obtain ⟨_, no, _, _, ha⟩ := k1.new a ma
          rcases (k2.new b mb).1 with q | q
          · exact no (e ▸ q)
          · rw [← e, ha] at q
            cases q)
/-- an operation on the arguments -/
def mOpN (g : List D → Option Rv) (m : M (List Rv)) : M Rv := fun ρ => match m ρ with
  | .ok rs ρ1 => match derefs ρ1 rs with
    | some ds => match g ds with
      | some z => .ok z ρ1
      | none => .bad
    | none => .bad
  | .err x ρ1 => .err x ρ1
  | .bad => .bad
theorem t_opN {r : List V → Hp → VK → Prop} {g : List D → Option Rv} {m : M (List Rv)} (hg : OpN ⟨X.K, ca⟩ r g) {σ : L2.St} {H : Hp} {Q : VK} (h : tE ⟨X.K, ca⟩ W (mOpN g m) σ H Q) : tAr ⟨X.K, ca⟩ W m σ H fun x H1 => r x H1 Q := by
  obtain ⟨F, ρ, R, p⟩ := h
  refine ⟨F, ρ, R, ?_⟩
  unfold mOpN at p
  cases e1 : m ρ with
  | bad => rw [e1] at p; exact p
  | err x ρ1 => rw [e1] at p; exact p
  | ok r1 ρ1 =>
    rw [e1] at p
    intro v1 F1 H1 R1 f1 k1
    dsimp only at p
    cases q1 : derefs ρ1 r1 with
    | none => rw [q1] at p; exact p.elim
    | some d =>
      rw [q1] at p
      dsimp only at p
      cases q3 : g d with
      | none => rw [q3] at p; exact p.elim
      | some z =>
        rw [q3] at p
        dsimp only at p
        refine hg d z q3 v1 F1 H1 Q R1.ex (derefs_dq R1 k1 q1) ?_
        exact outs_post R1 (Post.from p f1 fun ρ' F' H' b a x => RvR.from x f1)
end
end PM
set_option Elab.async false
set_option linter.all false
set_option maxRecDepth 100000
set_option maxHeartbeats 4000000
namespace PM
open PySem L2
open PySem.PyData (strOk)

theorem get_set {α : Type} {l : List α} {i j : Nat} {a b : α} (h : (l.set i a)[j]? = some b) : (i = j ∧ b = a ∧ i < l.length) ∨ (i ≠ j ∧ l[j]? = some b) := by
  by_cases e : i = j
  · subst e
    rw [List.getElem?_set] at h
    simp at h
    exact .inl ⟨rfl, h.2.symm, h.1⟩
  · rw [List.getElem?_set_ne e] at h
    exact .inr ⟨e, h⟩
theorem set_get {α : Type} {l : List α} {i : Nat} {a b : α} (h : l[i]? = some b) : (l.set i a)[i]? = some a := by
  rw [List.getElem?_set]
  have q : i < l.length := (List.getElem?_eq_some_iff.mp h).1
  simp [q]
/-! ### a list that is frozen -/
def esc (ρ : En) : Rv → Option (D × En)
  | .val d => some (d, ρ)
  | .own ds => some (.lst ds, ρ)
  | .loc i => match ρ[i]? with
    | some (.val d) => some (d, ρ)
    | some (.own ds) => some (.lst ds, ρ.set i (.val (.lst ds)))
    | _ => none
/-- a slot's list is frozen -/
theorem owned_set {ρ : En} {σ : L2.St} {i : Nat} {s : Sl} {a : Addr} (hs : ∀ ds, ¬ Lst s ds) (h : Owned (ρ.set i s) σ a) : Owned ρ σ a := by
  obtain ⟨j, t, ds, e1, l, e2⟩ := h
  rcases get_set e1 with ⟨rfl, rfl, _⟩ | ⟨_, e⟩
  · exact (hs _ l).elim
  · exact ⟨j, t, ds, e, l, e2⟩
theorem not_lst_val {d : D} (ds : List D) : ¬ Lst (.val d) ds := fun h => by rcases h with h | h <;> cases h
theorem not_lst_un (ds : List D) : ¬ Lst .un ds := fun h => by rcases h with h | h <;> cases h
theorem RelS.freeze {G : Gd} {ρ : En} {σ : L2.St} {F H : Hp} {p : Addr} {vs : List V} {ds : List D} (R : RelS G ρ σ F H) (hf : F p = none) (hp : H p = some (.lst vs)) (ha : DpAll G F vs ds) (no : ¬ Owned ρ σ p) : RelS G ρ σ (upd F p (.lst vs)) H where
  ex := fun a o e => by
    by_cases z : a = p
    · subst z
      rw [upd_same] at e
      cases e
      exact hp
    · rw [upd_ne z] at e
      exact R.ex _ _ e
  len := R.len
  val := fun i d h => by
    obtain ⟨v, e, k⟩ := R.val i d h
    exact ⟨v, e, dp_same (same_new hf) k⟩
  lst := fun i s es h l => by
    obtain ⟨q, ws, e, qf, qp, qa⟩ := R.lst i s es h l
    have ne : q ≠ p := fun z => no (z ▸ ⟨i, s, es, h, l, e⟩)
    exact ⟨q, ws, e, by rw [upd_ne ne]; exact qf, qp, dpAll_same (same_new hf) qa⟩
  inj := R.inj
  pin := R.pin
  frz := R.frz.trans (same_new hf)
  exn := R.exn
theorem RelS.setVal {G : Gd} {ρ : En} {σ : L2.St} {F H : Hp} {i : Nat} {v : V} {d : D} (R : RelS G ρ σ F H) (hv : σ[i]? = some (some v)) (k : Dp G F v d) : RelS G (ρ.set i (.val d)) σ F H where
  ex := R.ex
  len := by rw [List.length_set]; exact R.len
  val := fun j e h => by
    rcases get_set h with ⟨rfl, z, _⟩ | ⟨_, h⟩
    · cases z
      exact ⟨v, hv, k⟩
    · exact R.val j e h
  lst := fun j s es h l => by
    rcases get_set h with ⟨rfl, z, _⟩ | ⟨_, h⟩
    · subst z
      exact (not_lst_val _ l).elim
    · exact R.lst j s es h l
  inj := fun j k s t ds es p h1 l1 h2 l2 => by
    rcases get_set h1 with ⟨rfl, z, _⟩ | ⟨_, h1⟩
    · subst z
      exact (not_lst_val _ l1).elim
    rcases get_set h2 with ⟨rfl, z, _⟩ | ⟨_, h2⟩
    · subst z
      exact (not_lst_val _ l2).elim
    exact R.inj j k s t ds es p h1 l1 h2 l2
  pin := R.pin
  frz := R.frz
  exn := fun j h => by
    rcases get_set h with ⟨rfl, z, _⟩ | ⟨_, h⟩
    · cases z
    · exact R.exn j h
theorem RelS.setUn {G : Gd} {ρ : En} {σ : L2.St} {F H : Hp} {i : Nat} (R : RelS G ρ σ F H) : RelS G (ρ.set i .un) σ F H where
  ex := R.ex
  len := by rw [List.length_set]; exact R.len
  val := fun j e h => by
    rcases get_set h with ⟨rfl, z, _⟩ | ⟨_, h⟩
    · cases z
    · exact R.val j e h
  lst := fun j s es h l => by
    rcases get_set h with ⟨rfl, z, _⟩ | ⟨_, h⟩
    · subst z
      exact (not_lst_un _ l).elim
    · exact R.lst j s es h l
  inj := fun j k s t ds es p h1 l1 h2 l2 => by
    rcases get_set h1 with ⟨rfl, z, _⟩ | ⟨_, h1⟩
    · subst z
      exact (not_lst_un _ l1).elim
    rcases get_set h2 with ⟨rfl, z, _⟩ | ⟨_, h2⟩
    · subst z
      exact (not_lst_un _ l2).elim
    exact R.inj j k s t ds es p h1 l1 h2 l2
  pin := R.pin
  frz := R.frz
  exn := fun j h => by
    rcases get_set h with ⟨rfl, z, _⟩ | ⟨_, h⟩
    · cases z
    · exact R.exn j h
/-- which address a result's freezing freezes -/
structure Escd (G : Gd) (ρ0 : En) (F0 H0 : Hp) (ρ : En) (σ : L2.St) (F H : Hp) (v : V) (r : Rv) (d : D) (ρ' : En) (F' : Hp) : Prop where
  rel : RelS G ρ' σ F' H
  fm : Fm ρ0 σ F0 H0 ρ' σ F' H
  dp : Dp G F' v d
  ff : Same F F'
  own : ∀ a, Owned ρ' σ a → Owned ρ σ a
  new : ∀ a o, F' a = some o → F a = none → Owned ρ σ a ∨ a ∈ ownA v r
theorem esc_ok {G : Gd} {ρ0 ρ ρ' : En} {σ : L2.St} {F0 H0 F H : Hp} {v : V} {r : Rv} {d : D} (R : RelS G ρ σ F H) (f : Fm ρ0 σ F0 H0 ρ σ F H) (h : RvR G ρ0 H0 ρ σ F H v r) (e : esc ρ r = some (d, ρ')) : ∃ F', Escd G ρ0 F0 H0 ρ σ F H v r d ρ' F' := by
  cases r with
  | val d' =>
    cases e
    exact ⟨F, R, f, h, Same.refl _, fun _ q => q, fun a o q n => by rw [n] at q; cases q⟩
  | own ds =>
    cases e
    obtain ⟨p, vs, rfl, hf, hp, ha, no, nw⟩ := h
    refine ⟨upd F p (.lst vs), R.freeze hf hp ha no, ⟨f.ex.trans (same_new hf), f.keep, fun a o q n => ?_, f.own, f.bor, f.len⟩, .lst upd_same (dpAll_same (same_new hf) ha), same_new hf, fun _ q => q, fun a o q n => ?_⟩
    · by_cases z : a = p
      · subst z
        exact nw
      · rw [upd_ne z] at q
        exact f.new a o q n
    · by_cases z : a = p
      · subst z
        exact .inr (.head _)
      · rw [upd_ne z, n] at q
        cases q
  | loc i =>
    have h : σ[i]? = some (some v) := h
    unfold esc at e
    dsimp only at e
    cases q : ρ[i]? with
    | none => rw [q] at e; cases e
    | some s =>
      rw [q] at e
      cases s with
      | un => cases e
      | exn => cases e
      | bor ds => cases e
      | val d' =>
        cases e
        obtain ⟨u, hu, k⟩ := R.val i _ q
        rw [h] at hu
        cases hu
        exact ⟨F, R, f, k, Same.refl _, fun _ q => q, fun a o q n => by rw [n] at q; cases q⟩
      | own ds =>
        cases e
        obtain ⟨p, vs, hu, hf, hp, ha⟩ := R.lst i _ ds q (.inl rfl)
        rw [h] at hu
        cases hu
        have ow : Owned ρ σ p := ⟨i, _, ds, q, .inl rfl, h⟩
        have k : Dp G (upd F p (.lst vs)) (.ref p) (.lst ds) := .lst upd_same (dpAll_same (same_new hf) ha)
        have no : ¬ Owned (ρ.set i .un) σ p := fun ⟨j, t, es, e1, l, e2⟩ => by
          rcases get_set e1 with ⟨rfl, z, _⟩ | ⟨ne, e1⟩
          · subst z
            exact not_lst_un _ l
          · exact ne (R.inj i j _ t ds es p q (.inl rfl) e1 l h e2)
        have R1 := (R.setUn (i := i)).freeze hf hp ha no
        have R2 := R1.setVal h k
        rw [List.set_set] at R2
        refine ⟨upd F p (.lst vs), R2, ⟨f.ex.trans (same_new hf), f.keep, fun a o z n => ?_, fun a z => f.own a (owned_set not_lst_val z), fun j es z => ?_, f.len⟩, k, same_new hf, fun a z => owned_set not_lst_val z, fun a o z n => ?_⟩
        · by_cases y : a = p
          · subst y
            exact f.own _ ow
          · rw [upd_ne y] at z
            exact f.new a o z n
        · obtain ⟨z1, es', z2⟩ := f.bor j es z
          refine ⟨z1, es', ?_⟩
          by_cases y : i = j
          · subst y
            rw [q] at z2
            cases z2
          · rw [List.getElem?_set_ne y]
            exact z2
        · by_cases y : a = p
          · subst y
            exact .inl ow
          · rw [upd_ne y, n] at z
            cases z
/-- what was not frozen by it stands -/
theorem Escd.keep {G : Gd} {ρ0 ρ ρ' : En} {σ : L2.St} {F0 H0 F H F' : Hp} {v u : V} {r t : Rv} {d : D} (E : Escd G ρ0 F0 H0 ρ σ F H v r d ρ' F') (h : RvR G ρ0 H0 ρ σ F H u t) (n : ∀ p ∈ ownA v r, ∀ q ∈ ownA u t, p ≠ q) : RvR G ρ0 H0 ρ' σ F' H u t := by
  cases t with
  | val d' => exact dp_same E.ff h
  | loc i => exact h
  | own ds =>
    obtain ⟨p, vs, rfl, hf, hp, ha, no, nw⟩ := h
    refine ⟨p, vs, rfl, ?_, hp, dpAll_same E.ff ha, fun z => no (E.own p z), nw⟩
    cases e : F' p with
    | none => rfl
    | some o =>
      rcases E.new p o e hf with z | z
      · exact (no z).elim
      · exact (n p z p (.head _) rfl).elim
theorem Escd.keeps {G : Gd} {ρ0 ρ ρ' : En} {σ : L2.St} {F0 H0 F H F' : Hp} {v : V} {r : Rv} {d : D} {us : List V} {ts : List Rv} (E : Escd G ρ0 F0 H0 ρ σ F H v r d ρ' F') (h : RvA G ρ0 H0 ρ σ F H us ts) (n : ∀ p ∈ ownA v r, ∀ q ∈ ownsA us ts, p ≠ q) : RvA G ρ0 H0 ρ' σ F' H us ts := by
  induction h with
  | nil => exact .nil
  | cons a _ m ih => exact .cons (E.keep a fun p hp q hq => n p hp q (List.mem_append_left _ hq)) (ih fun p hp q hq => n p hp q (List.mem_append_right _ hq)) m
def escs (ρ : En) : List Rv → Option (List D × En)
  | [] => some ([], ρ)
  | r :: rs => match esc ρ r with
    | some (d, ρ1) => match escs ρ1 rs with
      | some (ds, ρ2) => some (d :: ds, ρ2)
      | none => none
    | none => none
theorem escs_ok {G : Gd} {ρ0 : En} {σ : L2.St} {F0 H0 H : Hp} : ∀ {rs : List Rv} {ρ ρ' : En} {F : Hp} {vs : List V} {ds : List D}, RelS G ρ σ F H → Fm ρ0 σ F0 H0 ρ σ F H → RvA G ρ0 H0 ρ σ F H vs rs → escs ρ rs = some (ds, ρ') →
    ∃ F', RelS G ρ' σ F' H ∧ Fm ρ0 σ F0 H0 ρ' σ F' H ∧ DpAll G F' vs ds ∧ Same F F'
  | [], ρ, ρ', F, vs, ds, R, f, h, e => by
    cases h
    cases e
    exact ⟨F, R, f, .nil, Same.refl _⟩
  | r :: rs, ρ, ρ', F, vs, ds, R, f, h, e => by
    cases h with
    | cons a t n =>
      unfold escs at e
      cases q : esc ρ r with
      | none => rw [q] at e; cases e
      | some x =>
        obtain ⟨d, ρ1⟩ := x
        rw [q] at e
        dsimp only at e
        cases q2 : escs ρ1 rs with
        | none => rw [q2] at e; cases e
        | some y =>
          obtain ⟨ds', ρ2⟩ := y
          rw [q2] at e
          cases e
          obtain ⟨F1, E1⟩ := esc_ok R f a q
          obtain ⟨F2, R2, f2, k2, s2⟩ := escs_ok E1.rel E1.fm (E1.keeps t n) q2
          exact ⟨F2, R2, f2, .cons (dp_same s2 E1.dp) k2, E1.ff.trans s2⟩
theorem DpAll.length {G : Gd} {H : Hp} : ∀ {vs : List V} {ds : List D}, DpAll G H vs ds → vs.length = ds.length
  | _, _, .nil => rfl
  | _, _, .cons _ t => by simp [DpAll.length t]

/-! ### displays -/
section
variable {X : Cx} {ca : Ca} {W : WX}
def mTup (m : M (List Rv)) : M Rv := fun ρ => match m ρ with
  | .ok rs ρ1 => match escs ρ1 rs with
    | some (ds, ρ2) => if ds.length ≤ sizeLine then .ok (.val (.tup ds)) ρ2 else .bad
    | none => .bad
  | .err x ρ1 => .err x ρ1
  | .bad => .bad
def mLst (m : M (List Rv)) : M Rv := fun ρ => match m ρ with
  | .ok rs ρ1 => match escs ρ1 rs with
    | some (ds, ρ2) => if ds.length ≤ sizeLine then .ok (.own ds) ρ2 else .bad
    | none => .bad
  | .err x ρ1 => .err x ρ1
  | .bad => .bad
theorem outs_from {G : Gd} {ρ0 ρ : En} {σ : L2.St} {F0 H0 F H : Hp} {z : Rv} {Q : VK} (R : RelS G ρ σ F H) (f : Fm ρ0 σ F0 H0 ρ σ F H) (h : Post G W (RvR G) ρ0 σ F0 H0 Q (.ok z ρ)) : Outs G F H z Q :=
  outs_post R (Post.from h f fun ρ' F' H' b a x => RvR.from x f)
theorem Outs.tup {G : Gd} {F H : Hp} {ds : List D} {vs : List V} {Q : VK} (e : Same F H) (h : Outs G F H (.val (.tup ds)) Q) (k : DpAll G F vs ds) (p : Addr) (hp : H p = none) : Q (.ref p) (upd H p (.tup vs)) :=
  h _ _ _ (Grow.lay e hp) (.tup (.inl (.inl upd_same)) (dpAll_same (same_new (e.free hp)) k))
theorem Outs.lst {G : Gd} {F H : Hp} {ds : List D} {vs : List V} {Q : VK} (e : Same F H) (h : Outs G F H (.own ds) Q) (k : DpAll G F vs ds) (p : Addr) (hp : H p = none) : Q (.ref p) (upd H p (.lst vs)) :=
  h _ _ _ (Grow.own e hp) ⟨p, vs, rfl, hp, e.free hp, upd_same, k⟩
theorem Outs.val {G : Gd} {F H : Hp} {d : D} {v : V} {Q : VK} (e : Same F H) (h : Outs G F H (.val d) Q) (k : Dp G F v d) : Q v H := h _ _ _ (Grow.refl e) k
theorem de_tup {es : List Expr} {m : M (List Rv)} {x1 pos} (h : DA X ca W es m) : DE X ca W (.Tuple es x1 pos) (mTup m) := pe_imp (pe_tup h) fun σ H Q ⟨F, ρ, R, p⟩ => by
  refine ⟨F, ρ, R, ?_⟩
  unfold mTup at p
  cases e1 : m ρ with
  | bad => rw [e1] at p; exact p
  | err x ρ1 => rw [e1] at p; exact p
  | ok rs ρ1 =>
    rw [e1] at p
    intro vs F1 H1 R1 f1 k1
    dsimp only at p
    cases q : escs ρ1 rs with
    | none => rw [q] at p; exact p.elim
    | some y =>
      obtain ⟨ds, ρ2⟩ := y
      rw [q] at p
      dsimp only at p
      by_cases c : ds.length ≤ sizeLine
      · rw [if_pos c] at p
        obtain ⟨F2, R2, f2, k2, s2⟩ := escs_ok R1 f1 k1 q
        exact ⟨by rw [k2.length]; exact c, fun a ha => (outs_from R2 f2 p).tup R2.ex k2 a ha⟩
      · rw [if_neg c] at p
        exact p.elim
theorem de_lst {es : List Expr} {m : M (List Rv)} {pos} (h : DA X ca W es m) : DE X ca W (.List es pos) (mLst m) := pe_imp (pe_lst h) fun σ H Q ⟨F, ρ, R, p⟩ => by
  refine ⟨F, ρ, R, ?_⟩
  unfold mLst at p
  cases e1 : m ρ with
  | bad => rw [e1] at p; exact p
  | err x ρ1 => rw [e1] at p; exact p
  | ok rs ρ1 =>
    rw [e1] at p
    intro vs F1 H1 R1 f1 k1
    dsimp only at p
    cases q : escs ρ1 rs with
    | none => rw [q] at p; exact p.elim
    | some y =>
      obtain ⟨ds, ρ2⟩ := y
      rw [q] at p
      dsimp only at p
      by_cases c : ds.length ≤ sizeLine
      · rw [if_pos c] at p
        obtain ⟨F2, R2, f2, k2, s2⟩ := escs_ok R1 f1 k1 q
        exact ⟨by rw [k2.length]; exact c, fun a ha => (outs_from R2 f2 p).lst R2.ex k2 a ha⟩
      · rw [if_neg c] at p
        exact p.elim
end
end PM
set_option Elab.async false
set_option linter.all false
set_option maxRecDepth 100000
set_option maxHeartbeats 4000000
namespace PM
open PySem L2
open PySem.PyData (strOk)

/-! ### plain data: equality -/
def pd : Nat → D → Bool
  | _, .non => true
  | _, .bl _ => true
  | _, .int _ => true
  | _, .str _ => true
  | 0, .lst _ => false
  | 0, .tup _ => false
  | n + 1, .lst xs => xs.all (pd n)
  | n + 1, .tup xs => xs.all (pd n)
  | _, .obj _ _ _ => false
  | _, .scr _ => false
mutual
def eqD : D → D → Bool
  | .non, .non => true
  | .bl a, .bl b => a == b
  | .bl a, .int j => (if a then 1 else 0) == j
  | .int i, .bl b => i == (if b then 1 else 0)
  | .int i, .int j => i == j
  | .str x, .str y => x == y
  | .lst xs, .lst ys => eqDs xs ys
  | .tup xs, .tup ys => eqDs xs ys
  | _, _ => false
def eqDs : List D → List D → Bool
  | [], [] => true
  | x :: xs, y :: ys => eqD x y && eqDs xs ys
  | _, _ => false
end
mutual
def toPy : D → PyData
  | .non => .none
  | .bl b => .bool b
  | .int i => .int i
  | .str x => .str x
  | .lst xs => .list (toPys xs)
  | .tup xs => .tuple (toPys xs)
  | .obj _ _ _ => .none
  | .scr _ => .none
def toPys : List D → List PyData
  | [] => []
  | x :: xs => toPy x :: toPys xs
end
theorem sqL_of {K : PySem.W.Frag} {H : Hp} {a : Addr} {xs : List V} (h : H a = some (.lst xs)) : SqL K H a xs := .inl (.inl h)
mutual
theorem py_dp {G : Gd} {H : Hp} : ∀ {v : V} {d : D} {n : Nat}, Dp G H v d → pd n d = true → L2.Dp G.K H v (toPy d) ∧ (toPy d).canLay0 = true ∧ (toPy d).depth ≤ n
  | _, _, n, .non, _ => ⟨by unfold toPy; exact .non, by simp [toPy, PyData.canLay0], by simp [toPy, PyData.depth]⟩
  | _, _, n, .bl b, _ => ⟨by unfold toPy; exact .bl b, by simp [toPy, PyData.canLay0], by simp [toPy, PyData.depth]⟩
  | _, _, n, .int b, _ => ⟨by unfold toPy; exact .int b, by simp [toPy, PyData.canLay0], by simp [toPy, PyData.depth]⟩
  | _, _, n, .str b h, _ => ⟨by unfold toPy; exact .str b, by simp [toPy, PyData.canLay0, h], by simp [toPy, PyData.depth]⟩
  | _, _, 0, .lst h r, q => by simp [pd] at q
  | _, _, n + 1, .lst h r, q => by
    obtain ⟨a, b, c⟩ := py_dps (n := n) r (by simpa [pd] using q)
    exact ⟨by unfold toPy; exact .lst (sqL_of h) a, by simp [toPy, PyData.canLay0, b], by simp [toPy, PyData.depth]; omega⟩
  | _, _, 0, .tup h r, q => by simp [pd] at q
  | _, _, n + 1, .tup h r, q => by
    obtain ⟨a, b, c⟩ := py_dps (n := n) r (by simpa [pd] using q)
    exact ⟨by unfold toPy; exact .tup h a, by simp [toPy, PyData.canLay0, b], by simp [toPy, PyData.depth]; omega⟩
  | _, _, 0, .obj .., q => by simp [pd] at q
  | _, _, n + 1, .obj .., q => by simp [pd] at q
  | _, _, 0, .scr .., q => by simp [pd] at q
  | _, _, n + 1, .scr .., q => by simp [pd] at q
theorem py_dps {G : Gd} {H : Hp} : ∀ {vs : List V} {ds : List D} {n : Nat}, DpAll G H vs ds → (∀ d ∈ ds, pd n d = true) → L2.DpAll G.K H vs (toPys ds) ∧ PyData.canLayAll0 (toPys ds) = true ∧ PyData.depthAll (toPys ds) ≤ n
  | _, _, n, .nil, _ => ⟨by unfold toPys; exact .nil, by simp [toPys, PyData.canLayAll0], by simp [toPys, PyData.depthAll]⟩
  | _, _, n, .cons h t, q => by
    obtain ⟨a, b, c⟩ := py_dp h (q _ (.head _))
    obtain ⟨a', b', c'⟩ := py_dps t fun d m => q d (.tail _ m)
    exact ⟨by unfold toPys; exact .cons a a', by simp [toPys, PyData.canLayAll0, b, b'], by simp [toPys, PyData.depthAll]; omega⟩
end
mutual
theorem py_eqv : ∀ (d e : D) (n : Nat), pd n d = true → pd n e = true → PyData.eqv (toPy d) (toPy e) = eqD d e
  | .obj .., _, n, h, _ => by cases n <;> simp [pd] at h
  | .scr .., _, n, h, _ => by cases n <;> simp [pd] at h
  | .non, e, n, _, h => by cases e <;> cases n <;> simp_all [toPy, PyData.eqv, eqD, pd]
  | .bl _, e, n, _, h => by cases e <;> cases n <;> simp_all [toPy, PyData.eqv, eqD, pd]
  | .int _, e, n, _, h => by cases e <;> cases n <;> simp_all [toPy, PyData.eqv, eqD, pd]
  | .str _, e, n, _, h => by cases e <;> cases n <;> simp_all [toPy, PyData.eqv, eqD, pd]
  | .lst xs, e, n, g, h => by
    cases n with
    | zero => simp [pd] at g
    | succ n =>
      cases e with
      | lst ys => simpa [toPy, PyData.eqv, eqD] using py_eqvs xs ys n (by simpa [pd] using g) (by simpa [pd] using h)
      | _ => simp_all [toPy, PyData.eqv, eqD, pd]
  | .tup xs, e, n, g, h => by
    cases n with
    | zero => simp [pd] at g
    | succ n =>
      cases e with
      | tup ys => simpa [toPy, PyData.eqv, eqD] using py_eqvs xs ys n (by simpa [pd] using g) (by simpa [pd] using h)
      | _ => simp_all [toPy, PyData.eqv, eqD, pd]
theorem py_eqvs : ∀ (ds es : List D) (n : Nat), (∀ d ∈ ds, pd n d = true) → (∀ d ∈ es, pd n d = true) → PyData.eqvAll (toPys ds) (toPys es) = eqDs ds es
  | [], [], n, _, _ => by simp [toPys, PyData.eqvAll, eqDs]
  | [], _ :: _, n, _, _ => by simp [toPys, PyData.eqvAll, eqDs]
  | _ :: _, [], n, _, _ => by simp [toPys, PyData.eqvAll, eqDs]
  | d :: ds, e :: es, n, g, h => by
    have a := py_eqv d e n (g _ (.head _)) (h _ (.head _))
    have b := py_eqvs ds es n (fun d m => g d (.tail _ m)) fun d m => h d (.tail _ m)
    simp [toPys, PyData.eqvAll, eqDs, a, b]
end
theorem shaped_of {G : Gd} {H : Hp} {v : V} {d : D} (h : Dp G H v d) (q : pd 64 d = true) : L2.Dp G.K H v (toPy d) ∧ SeqAt.shaped (toPy d) = true := by
  obtain ⟨a, b, c⟩ := py_dp h q
  exact ⟨a, by unfold SeqAt.shaped; simp [b, c]⟩
def gEq (d e : D) : Option Rv := if pd 64 d && pd 64 e then some (.val (.bl (eqD d e))) else none
def gNe (d e : D) : Option Rv := if pd 64 d && pd 64 e then some (.val (.bl (!eqD d e))) else none
section
variable {G : Gd}
theorem op_eq' : Op2 G (rEqD G.K) gEq := fun d e z h x y F H Q s hx hy k => by
  unfold gEq at h
  split at h
  · rename_i c
    cases h
    have c := Bool.and_eq_true_iff.mp c
    obtain ⟨a1, b1⟩ := shaped_of (hx.dp s) c.1
    obtain ⟨a2, b2⟩ := shaped_of (hy.dp s) c.2
    refine ⟨_, _, a1, a2, b1, b2, ?_⟩
    rw [py_eqv d e 64 c.1 c.2]
    exact k.val s (.bl _)
  · cases h
theorem op_ne' : Op2 G (rNeD G.K) gNe := fun d e z h x y F H Q s hx hy k => by
  unfold gNe at h
  split at h
  · rename_i c
    cases h
    have c := Bool.and_eq_true_iff.mp c
    obtain ⟨a1, b1⟩ := shaped_of (hx.dp s) c.1
    obtain ⟨a2, b2⟩ := shaped_of (hy.dp s) c.2
    refine ⟨_, _, a1, a2, b1, b2, ?_⟩
    rw [py_eqv d e 64 c.1 c.2]
    exact k.val s (.bl _)
  · cases h
theorem Dq.int {F H : Hp} {v : V} {i : Int} (h : Dq G F H v (.int i)) : v = .int i := by cases h with | fz h => cases h; rfl
theorem Dq.bl {F H : Hp} {v : V} {i : Bool} (h : Dq G F H v (.bl i)) : v = .bl i := by cases h with | fz h => cases h; rfl
theorem Dq.non {F H : Hp} {v : V} (h : Dq G F H v .non) : v = .non := by cases h with | fz h => cases h; rfl
theorem Dq.str {F H : Hp} {v : V} {i : Str} (h : Dq G F H v (.str i)) : v = .str i ∧ strOk i = true := by cases h with | fz h => cases h; exact ⟨rfl, by assumption⟩
theorem Dq.lst {F H : Hp} {v : V} {ds : List D} (s : Same F H) (h : Dq G F H v (.lst ds)) : ∃ p vs, v = .ref p ∧ H p = some (.lst vs) ∧ DpAll G F vs ds := by
  cases h with
  | fz h => cases h with | lst h r => exact ⟨_, _, rfl, s _ _ h, r⟩
  | ol h r => exact ⟨_, _, rfl, h, r⟩
theorem Dq.tup {F H : Hp} {v : V} {ds : List D} (s : Same F H) (h : Dq G F H v (.tup ds)) : ∃ p vs, v = .ref p ∧ SqT G.K F p vs ∧ SqT G.K H p vs ∧ DpAll G F vs ds := by
  cases h with
  | fz h => cases h with | tup h r => exact ⟨_, _, rfl, h, sqT_same s h, r⟩
/-! ### arithmetic -/
theorem strOk_append {x y : Str} (hx : strOk x = true) (hy : strOk y = true) : strOk (x ++ y) = true := by
  unfold strOk at *
  show (x.cps ++ y.cps).all _ = true
  rw [Array.all_append, hx, hy]
  rfl
theorem DpAll.append {F : Hp} : ∀ {vs us : List V} {ds es : List D}, DpAll G F vs ds → DpAll G F us es → DpAll G F (vs ++ us) (ds ++ es)
  | _, _, _, _, .nil, h => h
  | _, _, _, _, .cons a t, h => .cons a (DpAll.append t h)
def gAdd : D → D → Option Rv
  | .int i, .int j => some (.val (.int (i + j)))
  | .str x, .str y => if x.length + y.length ≤ sizeLine then some (.val (.str (x ++ y))) else none
  | .lst xs, .lst ys => if xs.length + ys.length ≤ sizeLine then some (.own (xs ++ ys)) else none
  | .tup xs, .tup ys => if xs.length + ys.length ≤ sizeLine then some (.val (.tup (xs ++ ys))) else none
  | _, _ => none
def rAddAny (K : PySem.W.Frag) : R2 := fun x y H Q => rI0 (fun i j => .int (i + j)) x y H Q ∨ (∃ i j, x = .str i ∧ y = .str j ∧ i.length + j.length ≤ sizeLine ∧ Q (.str (i ++ j)) H) ∨ rCat x y H Q ∨ rCatA K x y H Q
theorem or_add {X : Cx} : OpR X (binaryOp .Add) (rAddAny X.K) := opR_or op_add (opR_or op_add_str (opR_or op_cat op_catA))
theorem op_add' : Op2 G (rAddAny G.K) gAdd := fun d e z h x y F H Q s hx hy k => by
  unfold gAdd at h
  split at h
  · cases h
    cases hx.int
    cases hy.int
    exact .inl ⟨_, _, rfl, rfl, k.val s (.int _)⟩
  · split at h
    · rename_i c
      cases h
      obtain ⟨rfl, o1⟩ := hx.str
      obtain ⟨rfl, o2⟩ := hy.str
      exact .inr (.inl ⟨_, _, rfl, rfl, c, k.val s (.str _ (strOk_append o1 o2))⟩)
    · cases h
  · split at h
    · rename_i c
      cases h
      obtain ⟨p, vs, rfl, hp, r1⟩ := hx.lst s
      obtain ⟨q, us, rfl, hq, r2⟩ := hy.lst s
      exact .inr (.inr (.inl ⟨p, q, vs, us, rfl, rfl, hp, hq, by rw [r1.length, r2.length]; exact c, fun a ha => k.lst s (r1.append r2) a ha⟩))
    · cases h
  · split at h
    · rename_i c
      cases h
      obtain ⟨p, vs, rfl, hp0, hp, r1⟩ := hx.tup s
      obtain ⟨q, us, rfl, hq0, hq, r2⟩ := hy.tup s
      refine .inr (.inr (.inr ⟨p, q, vs, us, rfl, rfl, hp, hq, by rw [r1.length, r2.length]; exact c, fun e => ?_, fun _ e => ?_, fun _ _ a ha => k.tup s (r1.append r2) a ha⟩))
      · subst e
        cases r1
        exact k.val s (.tup hq0 r2)
      · subst e
        cases r2
        exact k.val s (by rw [List.append_nil]; exact .tup hp0 r1)
    · cases h
  · cases h
def gI (C : Int → Int → Prop) [∀ i j, Decidable (C i j)] (g : Int → Int → D) : D → D → Option Rv
  | .int i, .int j => if C i j then some (.val (g i j)) else none
  | _, _ => none
theorem op_I {C : Int → Int → Prop} [∀ i j, Decidable (C i j)] {g : Int → Int → D} {g' : Int → Int → V} (hg : ∀ i j F, Dp G F (g' i j) (g i j)) : Op2 G (rI C g') (gI C g) := fun d e z h x y F H Q s hx hy k => by
  unfold gI at h
  split at h
  · split at h
    · rename_i c
      cases h
      cases hx.int
      cases hy.int
      exact ⟨_, _, rfl, rfl, c, k.val s (hg _ _ _)⟩
    · cases h
  · cases h
def gI0 (g : Int → Int → D) : D → D → Option Rv
  | .int i, .int j => some (.val (g i j))
  | _, _ => none
theorem op_I0 {g : Int → Int → D} {g' : Int → Int → V} (hg : ∀ i j F, Dp G F (g' i j) (g i j)) : Op2 G (rI0 g') (gI0 g) := fun d e z h x y F H Q s hx hy k => by
  unfold gI0 at h
  split at h
  · cases h
    cases hx.int
    cases hy.int
    exact ⟨_, _, rfl, rfl, k.val s (hg _ _ _)⟩
  · cases h
end
instance (i j : Int) : Decidable (CMul i j) := by unfold CMul; infer_instance
instance (i j : Int) : Decidable (CDiv i j) := by unfold CDiv; infer_instance
instance (i j : Int) : Decidable (CPow i j) := by unfold CPow; infer_instance
abbrev gSub := gI0 fun i j => .int (i - j)
abbrev gMul := gI CMul fun i j => .int (i * j)
abbrev gMod := gI (fun _ j => 0 < j) fun i j => .int (i % j)
abbrev gFdiv := gI CDiv fun i j => .int (i / j)
abbrev gPow := gI CPow fun i j => .int (i ^ j.toNat)
abbrev gLt := gI0 fun i j => .bl (decide (i < j))
abbrev gLe := gI0 fun i j => .bl (decide (i ≤ j))
abbrev gGt := gI0 fun i j => .bl (decide (j < i))
abbrev gGe := gI0 fun i j => .bl (decide (j ≤ i))
end PM
set_option Elab.async false
set_option linter.all false
set_option maxRecDepth 100000
set_option maxHeartbeats 4000000
namespace PM
open PySem L2
open PySem.PyData (strOk)
section
variable {G : Gd}
/-! ### in -/
def flatD : D → Bool
  | .non => true
  | .bl _ => true
  | .int _ => true
  | .str _ => true
  | _ => false
theorem flat_of {F : Hp} {v : V} {d : D} (h : Dp G F v d) (e : flatD d = true) : flatV v = true := by
  cases h <;> first | rfl | cases e
theorem eqV_of {F : Hp} {v u : V} {d e : D} (h : Dp G F v d) (k : Dp G F u e) (f : flatD d = true) (g : flatD e = true) : eqV v u = eqD d e := by
  cases h <;> cases k <;> first | rfl | cases f | cases g | simp [eqV, eqD]
theorem any_of {F : Hp} {u : V} {e : D} (k : Dp G F u e) (g : flatD e = true) : ∀ {vs : List V} {ds : List D}, DpAll G F vs ds → ds.all flatD = true → vs.all flatV = true ∧ inV u vs = ds.any fun d => eqD d e
  | _, _, .nil, _ => ⟨rfl, rfl⟩
  | _, _, .cons h t, q => by
    simp only [List.all_cons, Bool.and_eq_true] at q
    obtain ⟨a, b⟩ := any_of k g t q.2
    refine ⟨by simp only [List.all_cons, Bool.and_eq_true]; exact ⟨flat_of h q.1, a⟩, ?_⟩
    unfold inV at *
    rw [List.any_cons, List.any_cons, b, eqV_of h k q.1 g]
def gIn (neg : Bool) (d : D) : D → Option Rv
  | .lst xs => if pd 63 d && xs.all (pd 63) then some (.val (.bl (neg ^^ xs.any fun z => eqD z d))) else none
  | .tup xs => if flatD d && xs.all flatD then some (.val (.bl (neg ^^ xs.any fun z => eqD z d))) else none
  | .str z => match d with
    | .str ⟨⟨[c]⟩⟩ => some (.val (.bl (neg ^^ decide (c ∈ z.cps.toList))))
    | _ => none
  | _ => none
def rInAny (K : PySem.W.Frag) : R2 := fun x y H Q => rInD K x y H Q ∨ rIn K false x y H Q ∨ (∃ (c : Nat) (z : Str), x = .str ⟨#[c]⟩ ∧ y = .str z ∧ Q (.bl (decide (c ∈ z.cps.toList))) H)
def rNotInAny (K : PySem.W.Frag) : R2 := fun x y H Q => rNotInD K x y H Q ∨ rIn K true x y H Q ∨ (∃ (c : Nat) (z : Str), x = .str ⟨#[c]⟩ ∧ y = .str z ∧ Q (.bl (!decide (c ∈ z.cps.toList))) H)
theorem or_in {X : Cx} (hu : X.A.units + 65 < cLine) : OpR X (compareOp .In) (rInAny X.K) := opR_or (op_inD hu) (opR_or op_in_seq op_in_sign)
theorem or_notIn {X : Cx} (hu : X.A.units + 65 < cLine) : OpR X (compareOp .NotIn) (rNotInAny X.K) := opR_or (op_notInD hu) (opR_or op_notIn_seq op_notIn_sign)
theorem pd_mono : ∀ {n m : Nat} {d : D}, n ≤ m → pd n d = true → pd m d = true := by
  intro n
  induction n with
  | zero =>
    intro m d _ h
    cases d <;> cases m <;> simp_all [pd]
  | succ n ih =>
    intro m d hm h
    cases m with
    | zero => omega
    | succ m =>
      cases d <;> simp_all [pd]
      all_goals (intro x hx; exact ih (by omega) (h x hx))
theorem any_py {d : D} (g : pd 63 d = true) : ∀ (xs : List D), xs.all (pd 63) = true → ((toPys xs).any fun z => PyData.eqv z (toPy d)) = xs.any fun z => eqD z d
  | [], _ => by simp [toPys]
  | x :: xs, q => by
    simp only [List.all_cons, Bool.and_eq_true] at q
    simp only [toPys, List.any_cons, any_py g xs q.2, py_eqv x d 63 q.1 g]
theorem op_in' : Op2 G (rInAny G.K) (gIn false) := fun d e z h x y F H Q s hx hy k => by
  unfold gIn at h
  split at h
  · rename_i xs
    split at h
    · rename_i c
      cases h
      have c := Bool.and_eq_true_iff.mp c
      obtain ⟨a1, b1⟩ := shaped_of (hx.dp s) (pd_mono (by omega) c.1)
      obtain ⟨a2, b2⟩ := shaped_of (d := .lst xs) (hy.dp s) (by show xs.all (pd 63) = true; exact c.2)
      simp only [toPy] at a2 b2
      refine .inl ⟨_, _, a1, a2, b1, b2, ?_⟩
      rw [any_py c.1 xs c.2]
      exact k.val s (by simp; exact .bl _)
    · cases h
  · split at h
    · rename_i c
      cases h
      have c := Bool.and_eq_true_iff.mp c
      obtain ⟨p, vs, rfl, hp0, hp, r⟩ := hy.tup s
      cases hx with
      | ol _ _ => simp [flatD] at c
      | fz hx =>
        obtain ⟨q1, q2⟩ := any_of hx c.1 r c.2
        refine .inr (.inl ⟨p, vs, rfl, .inr hp, flat_of hx c.1, q1, ?_⟩)
        rw [q2]
        exact k.val s (by simp; exact .bl _)
    · cases h
  · split at h
    · rename_i c
      cases h
      obtain ⟨rfl, _⟩ := hx.str
      obtain ⟨rfl, _⟩ := hy.str
      exact .inr (.inr ⟨c, _, rfl, rfl, k.val s (by simp; exact .bl _)⟩)
    · cases h
  · cases h
theorem op_notIn' : Op2 G (rNotInAny G.K) (gIn true) := fun d e z h x y F H Q s hx hy k => by
  unfold gIn at h
  split at h
  · rename_i xs
    split at h
    · rename_i c
      cases h
      have c := Bool.and_eq_true_iff.mp c
      obtain ⟨a1, b1⟩ := shaped_of (hx.dp s) (pd_mono (by omega) c.1)
      obtain ⟨a2, b2⟩ := shaped_of (d := .lst xs) (hy.dp s) (by show xs.all (pd 63) = true; exact c.2)
      simp only [toPy] at a2 b2
      refine .inl ⟨_, _, a1, a2, b1, b2, ?_⟩
      rw [any_py c.1 xs c.2]
      exact k.val s (by simp; exact .bl _)
    · cases h
  · split at h
    · rename_i c
      cases h
      have c := Bool.and_eq_true_iff.mp c
      obtain ⟨p, vs, rfl, hp0, hp, r⟩ := hy.tup s
      cases hx with
      | ol _ _ => simp [flatD] at c
      | fz hx =>
        obtain ⟨q1, q2⟩ := any_of hx c.1 r c.2
        refine .inr (.inl ⟨p, vs, rfl, .inr hp, flat_of hx c.1, q1, ?_⟩)
        rw [q2]
        exact k.val s (by simp; exact .bl _)
    · cases h
  · split at h
    · rename_i c
      cases h
      obtain ⟨rfl, _⟩ := hx.str
      obtain ⟨rfl, _⟩ := hy.str
      exact .inr (.inr ⟨c, _, rfl, rfl, k.val s (by simp; exact .bl _)⟩)
    · cases h
  · cases h
/-! ### is None -/
def isNon : D → Bool
  | .non => true
  | _ => false
theorem non_of {F H : Hp} {v : V} {d : D} (h : Dq G F H v d) : decide (v = V.non) = isNon d := by
  cases h with
  | fz h => cases h <;> simp [isNon]
  | ol h r => simp [isNon]
def gIsN (neg : Bool) (d : D) : D → Option Rv
  | .non => some (.val (.bl (neg ^^ isNon d)))
  | _ => none
theorem op_isN' : Op2 G (fun x y H Q => y = .non ∧ Q (.bl (decide (x = .non))) H) (gIsN false) := fun d e z h x y F H Q s hx hy k => by
  unfold gIsN at h
  split at h
  · cases h
    cases hy.non
    refine ⟨rfl, ?_⟩
    rw [non_of hx]
    exact k.val s (by simp; exact .bl _)
  · cases h
theorem op_notN' : Op2 G (fun x y H Q => y = .non ∧ Q (.bl (!decide (x = .non))) H) (gIsN true) := fun d e z h x y F H Q s hx hy k => by
  unfold gIsN at h
  split at h
  · cases h
    cases hy.non
    refine ⟨rfl, ?_⟩
    rw [non_of hx]
    exact k.val s (by simp; exact .bl _)
  · cases h
/-! ### items -/
theorem DpAll.get {F : Hp} : ∀ {vs : List V} {ds : List D} {i : Nat} {d : D}, DpAll G F vs ds → ds[i]? = some d → ∃ v, vs[i]? = some v ∧ Dp G F v d
  | _, _, _, _, .nil, e => by simp at e
  | _, _, 0, _, .cons h _, e => by simp at e; subst e; exact ⟨_, rfl, h⟩
  | _, _, i + 1, d, .cons _ t, e => by
    obtain ⟨v, a, b⟩ := DpAll.get (i := i) (d := d) t (by simpa using e)
    exact ⟨v, by simpa using a, b⟩
theorem atI_of {F : Hp} {vs : List V} {ds : List D} {i : Int} {d : D} (h : DpAll G F vs ds) (e : atI ds i = some d) : ∃ v, atI vs i = some v ∧ Dp G F v d := by
  unfold atI at *
  rw [h.length]
  cases q : ixN ds.length i with
  | none => rw [q] at e; cases e
  | some j =>
    rw [q] at e
    exact h.get e
def gIx : D → D → Option Rv
  | .lst xs, .int i => (atI xs i).map Rv.val
  | .tup xs, .int i => (atI xs i).map Rv.val
  | .str z, .int i => if z.length ≤ sizeLine then (atI z.cps.toList i).map fun c => .val (.str ⟨#[c]⟩) else none
  | _, _ => none
theorem ixN_lt {n : Nat} {i : Int} {j : Nat} (h : ixN n i = some j) : j < n := by
  unfold ixN at h
  split at h
  · split at h
    · cases h; omega
    · cases h
  · split at h
    · cases h; omega
    · cases h
theorem strOk_mem {z : Str} (h : strOk z = true) {c : Nat} (m : c ∈ z.cps.toList) : c < 0x110000 := by
  unfold strOk at h
  rw [Array.all_eq_true] at h
  obtain ⟨i, hi, e⟩ := List.getElem_of_mem m
  have := h i (by simpa using hi)
  simp at this e
  rw [e] at this
  exact this
theorem strOk_of {xs : List Nat} (h : ∀ c ∈ xs, c < 0x110000) : strOk ⟨xs.toArray⟩ = true := by
  unfold strOk
  simp
  exact h
theorem atI_mem {α : Type} {xs : List α} {i : Int} {c : α} (h : atI xs i = some c) : c ∈ xs := by
  unfold atI at h
  cases q : ixN xs.length i with
  | none => rw [q] at h; cases h
  | some j => rw [q] at h; exact List.mem_of_getElem? h
theorem op_ix' : Op2 G (rIx G.K) gIx := fun d e z h x y F H Q s hx hy k => by
  unfold gIx at h
  split at h
  · rename_i xs i
    cases q : atI xs i with
    | none => rw [q] at h; cases h
    | some d =>
      rw [q] at h
      cases h
      obtain ⟨p, vs, rfl, hp, r⟩ := hx.lst s
      cases hy.int
      obtain ⟨v, e1, e2⟩ := atI_of r q
      exact .inl ⟨p, vs, i, v, rfl, rfl, sqL_of hp, e1, k.val s e2⟩
  · rename_i xs i
    cases q : atI xs i with
    | none => rw [q] at h; cases h
    | some d =>
      rw [q] at h
      cases h
      obtain ⟨p, vs, rfl, hp0, hp, r⟩ := hx.tup s
      cases hy.int
      obtain ⟨v, e1, e2⟩ := atI_of r q
      exact .inr (.inl ⟨p, vs, i, v, rfl, rfl, hp, e1, k.val s e2⟩)
  · rename_i w i
    split at h
    · rename_i c
      cases q : atI w.cps.toList i with
      | none => rw [q] at h; cases h
      | some d =>
        rw [q] at h
        cases h
        obtain ⟨rfl, o⟩ := hx.str
        cases hy.int
        exact .inr (.inr ⟨w, i, d, rfl, rfl, c, q, k.val s (.str _ (strOk_of (xs := [d]) fun c m => by simp at m; subst m; exact strOk_mem o (atI_mem q)))⟩)
    · cases h
  · cases h
/-! ### slices -/
def cutD (xs : List D) (lo hi : Option Int) : List D := (xs.drop (HT.sIx xs.length 0 lo)).take (HT.sIx xs.length xs.length hi - HT.sIx xs.length 0 lo)
theorem DpAll.drop {F : Hp} : ∀ {vs : List V} {ds : List D} (n : Nat), DpAll G F vs ds → DpAll G F (vs.drop n) (ds.drop n)
  | _, _, 0, h => h
  | _, _, _ + 1, .nil => .nil
  | _, _, n + 1, .cons _ t => DpAll.drop n t
theorem DpAll.take {F : Hp} : ∀ {vs : List V} {ds : List D} (n : Nat), DpAll G F vs ds → DpAll G F (vs.take n) (ds.take n)
  | _, _, 0, _ => .nil
  | _, _, _ + 1, .nil => .nil
  | _, _, n + 1, .cons h t => .cons h (DpAll.take n t)
theorem DpAll.cut {F : Hp} {vs : List V} {ds : List D} {lo hi : Option Int} (h : DpAll G F vs ds) : DpAll G F (cutV vs lo hi) (cutD ds lo hi) := by
  unfold cutV cutD
  rw [h.length]
  exact (h.drop _).take _
def gSl : D → Option Int → Option Int → Option Rv
  | .lst xs, lo, hi => some (.own (cutD xs lo hi))
  | .tup xs, lo, hi => some (.val (.tup (cutD xs lo hi)))
  | .str z, lo, hi => if z.length ≤ sizeLine then some (.val (.str (cutS z lo hi))) else none
  | .scr ns, lo, hi => some (.own (cutD (ns.map D.int) lo hi))
  | _, _, _ => none
def rSlAny (K : PySem.W.Frag) : V → Option Int → Option Int → Hp → VK → Prop := fun x lo hi H Q => rSlL K x lo hi H Q ∨ rSlA K x lo hi H Q ∨ rSlS x lo hi H Q
theorem sl_any {X : Cx} : SlR X (rSlAny X.K) := sl_list.or (sl_tupA.or sl_str)
theorem strOk_cut {z : Str} (h : strOk z = true) (lo hi : Option Int) : strOk (cutS z lo hi) = true := by
  unfold cutS
  exact strOk_of fun c m => strOk_mem h (List.mem_of_mem_drop (List.mem_of_mem_take m))
theorem dpInts {F : Hp} : ∀ ns : List Int, DpAll G F (ns.map V.int) (ns.map D.int)
  | [] => .nil
  | n :: ns => .cons (.int n) (dpInts ns)
theorem sl_ok {d : D} {lo hi : Option Int} {z : Rv} (h : gSl d lo hi = some z) {x : V} {F H : Hp} {Q : VK} (s : Same F H) (hx : Dq G F H x d) (k : Outs G F H z Q) : rSlAny G.K x lo hi H Q := by
  unfold gSl at h
  split at h
  · cases h
    obtain ⟨p, vs, rfl, hp, r⟩ := hx.lst s
    exact .inl ⟨p, vs, rfl, sqL_of hp, fun a ha => k.lst s r.cut a ha⟩
  · cases h
    obtain ⟨p, vs, rfl, hp0, hp, r⟩ := hx.tup s
    refine .inr (.inl ⟨p, vs, rfl, hp, fun ⟨e1, e2⟩ => ?_, fun _ a ha => k.tup s r.cut a ha⟩)
    refine k.val s (.tup hp0 ?_)
    have q := r.cut (lo := lo) (hi := hi)
    have e : cutV vs lo hi = vs := by
      unfold cutV
      rw [e1, e2]
      simp
    rw [e] at q
    exact q
  · split at h
    · rename_i c
      cases h
      obtain ⟨rfl, o⟩ := hx.str
      exact .inr (.inr ⟨_, rfl, c, k.val s (.str _ (strOk_cut o _ _))⟩)
    · cases h
  · cases h
    cases hx with
    | fz hx =>
      cases hx with
      | scr q => exact .inl ⟨_, _, rfl, sqL_same s q, fun a ha => k.lst s (dpInts _).cut a ha⟩
  · cases h
end
end PM
set_option Elab.async false
set_option linter.all false
set_option maxRecDepth 100000
set_option maxHeartbeats 4000000
namespace PM
open PySem L2
open PySem.PyData (strOk)
section
variable {G : Gd}
/-! ### built-in functions -/
def gLen : List D → Option Rv
  | [.str z] => if z.length ≤ sizeLine then some (.val (.int z.length)) else none
  | [.lst xs] => some (.val (.int xs.length))
  | [.tup xs] => some (.val (.int xs.length))
  | _ => none
theorem cr_len' : OpN G (fun xs H Q => ∃ x n, xs = [x] ∧ LenV G.K x H n ∧ Q (.int n) H) gLen := fun ds z h vs F H Q s hx k => by
  unfold gLen at h
  split at h
  · split at h
    · rename_i c
      cases h
      cases hx with
      | cons hx t =>
        cases t
        obtain ⟨rfl, _⟩ := hx.str
        exact ⟨_, _, rfl, ⟨c, rfl⟩, k.val s (.int _)⟩
    · cases h
  · cases h
    cases hx with
    | cons hx t =>
      cases t
      obtain ⟨p, vs, rfl, hp, r⟩ := hx.lst s
      exact ⟨_, vs.length, rfl, .inl ⟨vs, sqL_of hp, rfl⟩, by rw [r.length]; exact k.val s (.int _)⟩
  · cases h
    cases hx with
    | cons hx t =>
      cases t
      obtain ⟨p, vs, rfl, _, hp, r⟩ := hx.tup s
      exact ⟨_, vs.length, rfl, .inr ⟨vs, hp, rfl⟩, by rw [r.length]; exact k.val s (.int _)⟩
  · cases h
def gInt : List D → Option Rv
  | [.int i] => some (.val (.int i))
  | [.bl b] => some (.val (.int (if b then 1 else 0)))
  | _ => none
theorem cr_int' : OpN G (fun xs H Q => (∃ i, xs = [.int i] ∧ Q (.int i) H) ∨ ∃ k, xs = [.bl k] ∧ Q (.int (if k then 1 else 0)) H) gInt := fun ds z h vs F H Q s hx k => by
  unfold gInt at h
  split at h
  · cases h
    cases hx with
    | cons hx t =>
      cases t
      cases hx.int
      exact .inl ⟨_, rfl, k.val s (.int _)⟩
  · cases h
    cases hx with
    | cons hx t =>
      cases t
      cases hx.bl
      exact .inr ⟨_, rfl, k.val s (.int _)⟩
  · cases h
def gAbs : List D → Option Rv
  | [.int i] => some (.val (.int (if i < 0 then -i else i)))
  | _ => none
theorem cr_abs' : OpN G (fun xs H Q => ∃ i, xs = [.int i] ∧ Q (.int (if i < 0 then -i else i)) H) gAbs := fun ds z h vs F H Q s hx k => by
  unfold gAbs at h
  split at h
  · cases h
    cases hx with
    | cons hx t =>
      cases t
      cases hx.int
      exact ⟨_, rfl, k.val s (.int _)⟩
  · cases h
def gList : List D → Option Rv
  | [.lst xs] => some (.own xs)
  | [.tup xs] => some (.own xs)
  | _ => none
theorem cr_list' : OpN G (fun xs H Q => ∃ p ys, xs = [.ref p] ∧ (SqL G.K H p ys ∨ SqT G.K H p ys) ∧ ∀ l, H l = none → Q (.ref l) (upd H l (.lst ys))) gList := fun ds z h vs F H Q s hx k => by
  unfold gList at h
  split at h
  · cases h
    cases hx with
    | cons hx t =>
      cases t
      obtain ⟨p, vs, rfl, hp, r⟩ := hx.lst s
      exact ⟨p, vs, rfl, .inl (sqL_of hp), fun a ha => k.lst s r a ha⟩
  · cases h
    cases hx with
    | cons hx t =>
      cases t
      obtain ⟨p, vs, rfl, _, hp, r⟩ := hx.tup s
      exact ⟨p, vs, rfl, .inr hp, fun a ha => k.lst s r a ha⟩
  · cases h
def gTuple : List D → Option Rv
  | [.lst xs] => some (.val (.tup xs))
  | [.tup xs] => some (.val (.tup xs))
  | _ => none
theorem cr_tuple' : OpN G (fun xs H Q => ∃ p ys, xs = [.ref p] ∧ ((SqL G.K H p ys ∧ ∀ l, H l = none → Q (.ref l) (upd H l (.tup ys))) ∨ (SqT G.K H p ys ∧ Q (.ref p) H))) gTuple := fun ds z h vs F H Q s hx k => by
  unfold gTuple at h
  split at h
  · cases h
    cases hx with
    | cons hx t =>
      cases t
      obtain ⟨p, vs, rfl, hp, r⟩ := hx.lst s
      exact ⟨p, vs, rfl, .inl ⟨sqL_of hp, fun a ha => k.tup s r a ha⟩⟩
  · cases h
    cases hx with
    | cons hx t =>
      cases t
      obtain ⟨p, vs, rfl, hp0, hp, r⟩ := hx.tup s
      exact ⟨p, vs, rfl, .inr ⟨hp, k.val s (.tup hp0 r)⟩⟩
  · cases h
/-! ### isinstance against a built-in type -/
def tyD : D → Option String
  | .non => some "NoneType"
  | .bl _ => some "bool"
  | .int _ => some "int"
  | .str _ => some "str"
  | .lst _ => some "list"
  | .tup _ => some "tuple"
  | _ => none
theorem tyX_of {F H : Hp} {v : V} {d : D} {t : String} (s : Same F H) (h : Dq G F H v d) (e : tyD d = some t) : TyX G.K H v (.type t) := by
  cases h with
  | ol h r => cases e; exact .base (.lst h)
  | fz h =>
    cases h with
    | non => cases e; exact .base .non
    | bl b => cases e; exact .base (.bl b)
    | int b => cases e; exact .base (.int b)
    | str b _ => cases e; exact .base (.str b)
    | lst h r => cases e; exact .base (.lst (s _ _ h))
    | tup h r =>
      cases e
      rcases h with (h | ⟨o, h⟩) | ⟨o, its, n, hk, hc, _⟩
      · exact .base (.tup (s _ _ h))
      · exact .fTuple (s _ _ h)
      · exact .kTuple hk hc
    | obj _ _ _ => cases e
    | scr _ => cases e
def gIsi (T : String) (d : D) : Option Rv := match tyD d with
  | some t => match kitB t T with
    | some b => some (.val (.bl b))
    | none => none
  | none => none
theorem op_isi' {T : String} : Op1 G (fun x H Q => rIsi G.K [x, .ty T] H Q) (gIsi T) := fun d z h x F H Q s hx k => by
  unfold gIsi at h
  split at h
  · rename_i t e
    split at h
    · rename_i b e2
      cases h
      exact ⟨x, .ty T, .type t, .type T, b, rfl, .ty T, tyX_of s hx e, kit_ty e2, k.val s (.bl _)⟩
    · cases h
  · cases h
/-! ### texts -/
def strsD : List D → Option (List Str)
  | [] => some []
  | .str x :: r => match strsD r with
    | some xs => some (x :: xs)
    | none => none
  | _ => none
theorem strsD_ok {F : Hp} : ∀ {ds : List D} {vs : List V} {xs : List Str}, DpAll G F vs ds → strsD ds = some xs → vs = xs.map V.str ∧ ∀ x ∈ xs, strOk x = true
  | [], _, _, .nil, e => by cases e; exact ⟨rfl, fun x m => nomatch m⟩
  | .str x :: r, _, _, .cons h t, e => by
    unfold strsD at e
    cases q : strsD r with
    | none => rw [q] at e; cases e
    | some ys =>
      rw [q] at e
      cases e
      obtain ⟨a, b⟩ := strsD_ok t q
      cases h with
      | str _ ok =>
        refine ⟨by rw [a]; rfl, fun y m => ?_⟩
        cases m with
        | head => exact ok
        | tail _ m => exact b y m
  | .non :: _, _, _, _, e => by simp [strsD] at e
  | .bl _ :: _, _, _, _, e => by simp [strsD] at e
  | .int _ :: _, _, _, _, e => by simp [strsD] at e
  | .lst _ :: _, _, _, _, e => by simp [strsD] at e
  | .tup _ :: _, _, _, _, e => by simp [strsD] at e
  | .obj .. :: _, _, _, _, e => by simp [strsD] at e
  | .scr _ :: _, _, _, _, e => by simp [strsD] at e
theorem dpStrs {F : Hp} : ∀ {xs : List Str}, (∀ x ∈ xs, strOk x = true) → DpAll G F (xs.map V.str) (xs.map D.str)
  | [], _ => .nil
  | x :: xs, h => .cons (.str x (h x (.head _))) (dpStrs fun y m => h y (.tail _ m))
end
/-! ### calls by name -/
section
variable {X : Cx} {ca : Ca} {W : WX}
theorem de_callB {id : String} {r : List V → Hp → VK → Prop} {g : List D → Option Rv} {x : Str} {p pos : Pos} {e : Expr} {es : List Expr} {m : M (List Rv)} (hc : CallR X (.builtin id) r) (hg : OpN ⟨X.K, ca⟩ r g) (hgl : Gl X x) (hm : X.mg x = none) (hv : bootBuiltins x = some (.builtin id))
    (ha : DA X ca W (e :: es) m) (hn : x ≠ "__name__") (hdb : (x == ("__debug__" : Str)) = false) (he : starEach (e :: es) X.env = (false, eval e X.env) :: starEach es X.env) (hpl : (backTo pos (starEach es X.env)).any (·.1) = false) : DE X ca W (.Call (.Name x p) (e :: es) [] pos) (mOpN g m) :=
  pe_imp (pe_callB hc hgl hm hv ha hn hdb he hpl) fun _ _ _ h => t_opN hg h
theorem de_callTy {T : String} {r : List V → Hp → VK → Prop} {g : List D → Option Rv} {x : Str} {p pos : Pos} {e : Expr} {es : List Expr} {m : M (List Rv)} (hc : CallR X (.type T) r) (hg : OpN ⟨X.K, ca⟩ r g) (hgl : Gl X x) (hm : X.mg x = none) (hv : bootBuiltins x = some (.type T))
    (ha : DA X ca W (e :: es) m) (hn : x ≠ "__name__") (hdb : (x == ("__debug__" : Str)) = false) (he : starEach (e :: es) X.env = (false, eval e X.env) :: starEach es X.env) (hpl : (backTo pos (starEach es X.env)).any (·.1) = false) : DE X ca W (.Call (.Name x p) (e :: es) [] pos) (mOpN g m) :=
  pe_imp (pe_callTy hc hgl hm hv ha hn hdb he hpl) fun _ _ _ h => t_opN hg h
/-- isinstance(e, T), T a built-in type -/
theorem de_isi {T : String} {tn : Str} {p p2 pos : Pos} {e : Expr} {m : M Rv} (hgl : Gl X "isinstance") (hm : X.mg "isinstance" = none) (hb : bootBuiltins "isinstance" = some (.builtin "isinstance")) (hgt : Gl X tn) (hmt : X.mg tn = none) (hvt : bootBuiltins tn = some (.type T)) (ha : DE X ca W e m) (hnt : tn ≠ "__name__") (hdt : (tn == ("__debug__" : Str)) = false)
    (he : starEach [e, .Name tn p2] X.env = [(false, eval e X.env), (false, eval (.Name tn p2) X.env)]) (he2 : starEach [.Name tn p2] X.env = [(false, eval (.Name tn p2) X.env)]) : DE X ca W (.Call (.Name "isinstance" p) [e, .Name tn p2] [] pos) (mOp1 (gIsi T) m) :=
  pe_imp (pe_callB call_isi hgl hm hb (pa_cons ha (pa_cons (pe_bltn (v := .ty T) hgt hmt hvt rfl hnt hdt) pa_nil (by rw [he2]; rfl)) (by rw [he, he2])) (by decide) (by decide) (by rw [he, he2]) (by rw [he2]; rfl)) fun σ H Q h => t_op1 op_isi' h
/-! ### slices -/
def mOptInt : Option (M Rv) → M (Option Int)
  | none => fun ρ => .ok none ρ
  | some m => fun ρ => match m ρ with
    | .ok r ρ1 => match deref ρ1 r with
      | some (.int i) => .ok (some i) ρ1
      | _ => .bad
    | .err x ρ1 => .err x ρ1
    | .bad => .bad
def mSl (m : M Rv) (lo hi : Option (M Rv)) : M Rv := fun ρ => match m ρ with
  | .ok r ρ1 => match mOptInt lo ρ1 with
    | .ok l ρ2 => match mOptInt hi ρ2 with
      | .ok u ρ3 => match deref ρ3 r with
        | some d => match gSl d l u with
          | some z => .ok z ρ3
          | none => .bad
        | none => .bad
      | .err x ρ3 => .err x ρ3
      | .bad => .bad
    | .err x ρ2 => .err x ρ2
    | .bad => .bad
  | .err x ρ1 => .err x ρ1
  | .bad => .bad
def RO : En → Hp → En → L2.St → Hp → Hp → Option Int → Option Int → Prop := fun _ _ _ _ _ _ b a => b = a
abbrev tOI (G : Gd) (W : WX) (m : M (Option Int)) : TO := fun σ H Q => ∃ F ρ, RelS G ρ σ F H ∧ Post G W RO ρ σ F H Q (m ρ)
def DO (X : Cx) (ca : Ca) (W : WX) (e : Option Expr) (m : Option (M Rv)) : Prop := PO X e (tOI ⟨X.K, ca⟩ W (mOptInt m))
theorem po_imp {e : Option Expr} {t t' : TO} (h : PO X e t) (k : ∀ σ H Q, t' σ H Q → t σ H Q) : PO X e t' := ⟨fun pins s σ H Q I q => h.run pins s σ H Q I (k _ _ _ q)⟩
theorem do_none : DO X ca W none none := po_imp po_none fun σ H Q ⟨F, ρ, R, p⟩ => p none F H R Fm.refl rfl
theorem do_some {e : Expr} {m : M Rv} (h : DE X ca W e m) : DO X ca W (some e) (some m) := po_imp (po_some h) fun σ H Q ⟨F, ρ, R, p⟩ => by
  refine ⟨F, ρ, R, ?_⟩
  simp only [mOptInt] at p
  cases e1 : m ρ with
  | bad => rw [e1] at p; exact p
  | err x ρ1 => rw [e1] at p; exact p
  | ok r ρ1 =>
    rw [e1] at p
    intro v F1 H1 R1 f1 k1
    dsimp only at p
    split at p
    · rename_i i q
      have z := (deref_dq R1 k1 q).int
      subst z
      exact ⟨i, rfl, p _ F1 H1 R1 f1 rfl⟩
    · exact p.elim
theorem de_slice {e : Expr} {lo hi : Option Expr} {m : M Rv} {l u : Option (M Rv)} {p2 pos : Pos} (he : DE X ca W e m) (hl : DO X ca W lo l) (hh : DO X ca W hi u) : DE X ca W (.Subscript e (.Slice lo hi none p2) pos) (mSl m l u) :=
  pe_imp (pe_slice sl_any he hl hh) fun σ H Q ⟨F, ρ, R, p⟩ => by
    refine ⟨F, ρ, R, ?_⟩
    unfold mSl at p
    cases e1 : m ρ with
    | bad => rw [e1] at p; exact p
    | err x ρ1 => rw [e1] at p; exact p
    | ok r ρ1 =>
      rw [e1] at p
      intro v F1 H1 R1 f1 k1
      refine ⟨F1, ρ1, R1, ?_⟩
      dsimp only at p
      cases e2 : mOptInt l ρ1 with
      | bad => rw [e2] at p; exact p
      | err x ρ2 => rw [e2] at p; exact fun c d F2 H2 R2 f2 x2 => p c d F2 H2 R2 (f1.trans f2) x2
      | ok lv ρ2 =>
        rw [e2] at p
        intro lo' F2 H2 R2 f2 k2
        refine ⟨F2, ρ2, R2, ?_⟩
        dsimp only at p
        cases e3 : mOptInt u ρ2 with
        | bad => rw [e3] at p; exact p
        | err x ρ3 => rw [e3] at p; exact fun c d F3 H3 R3 f3 x3 => p c d F3 H3 R3 ((f1.trans f2).trans f3) x3
        | ok uv ρ3 =>
          rw [e3] at p
          intro hi' F3 H3 R3 f3 k3
          cases k2
          cases k3
          dsimp only at p
          have k1' := (k1.step f2).step f3
          have f := (f1.trans f2).trans f3
          cases q1 : deref ρ3 r with
          | none => rw [q1] at p; exact p.elim
          | some d =>
            rw [q1] at p
            dsimp only at p
            cases q3 : gSl d lv uv with
            | none => rw [q3] at p; exact p.elim
            | some z =>
              rw [q3] at p
              dsimp only at p
              exact sl_ok q3 R3.ex (deref_dq R3 k1' q1) (outs_from R3 f p)
end
end PM
set_option Elab.async false
set_option linter.all false
set_option maxRecDepth 100000
set_option maxHeartbeats 4000000
namespace PM
open PySem L2
open PySem.PyData (strOk)
/-! ### a slot's list changed -/
def putSl (s : Sl) (ds : List D) : Sl := match s with
  | .own _ => .own ds
  | .bor _ => .bor ds
  | s => s
theorem lst_put {s : Sl} {ds es : List D} (h : Lst s ds) : Lst (putSl s es) es := by
  rcases h with rfl | rfl
  · exact .inl rfl
  · exact .inr rfl
/-- what is pinned is no list -/
theorem RelS.pins {G : Gd} {ρ : En} {σ : L2.St} {F H : Hp} {p : Addr} {us vs : List V} (R : RelS G ρ σ F H) (hp : H p = some (.lst us)) : Same G.ca.pin (upd H p (.lst vs)) := fun a o q => by
  have ne : a ≠ p := fun z => by
    have e := R.pin a o q
    rw [z, hp] at e
    cases e
    exact G.ca.nol a _ q us rfl
  rw [upd_ne ne]
  exact R.pin a o q
theorem putSl_exn {s : Sl} {ds es : List D} (l : Lst s ds) : putSl s es ≠ .exn := by
  rcases l with rfl | rfl <;> intro h <;> cases h
theorem RelS.put {G : Gd} {ρ : En} {σ : L2.St} {F H : Hp} {i : Nat} {s : Sl} {p : Addr} {ds es : List D} {vs : List V} (R : RelS G ρ σ F H) (hs : ρ[i]? = some s) (l : Lst s ds) (hp : σ[i]? = some (some (.ref p))) (ha : DpAll G F vs es) :
    RelS G (ρ.set i (putSl s es)) σ F (upd H p (.lst vs)) ∧ Fm ρ σ F H (ρ.set i (putSl s es)) σ F (upd H p (.lst vs)) := by
  obtain ⟨p', us, e, hf, hpH, _⟩ := R.lst i s ds hs l
  rw [hp] at e
  cases e
  have ow : Owned ρ σ p := ⟨i, s, ds, hs, l, hp⟩
  refine ⟨⟨fun a o q => ?_, by rw [List.length_set]; exact R.len, fun j d h => ?_, fun j t fs h k => ?_, fun j k t u fs gs q h1 l1 h2 l2 => ?_, R.pins hpH, R.frz, fun j h => ?e⟩, ⟨Same.refl _, fun a o h n => ?_, fun a o q n => (by rw [n] at q; cases q), fun a h => ?_, fun j fs h => ⟨rfl, ?_⟩, rfl⟩⟩
  case e =>
    rcases get_set h with ⟨rfl, z, _⟩ | ⟨_, h⟩
    · exact (putSl_exn l z.symm).elim
    · exact R.exn j h
  · rw [upd_ne (fun z => by rw [z, hf] at q; cases q)]
    exact R.ex _ _ q
  · rcases get_set h with ⟨rfl, z, _⟩ | ⟨_, h⟩
    · rcases l with rfl | rfl <;> cases z
    · exact R.val j d h
  · rcases get_set h with ⟨rfl, z, _⟩ | ⟨ne, h⟩
    · subst z
      have : fs = es := by rcases l with rfl | rfl <;> rcases k with k | k <;> cases k <;> rfl
      subst this
      exact ⟨p, vs, hp, hf, upd_same, ha⟩
    · obtain ⟨q, ws, e, qf, qp, qa⟩ := R.lst j t fs h k
      have nq : q ≠ p := fun z => by
        subst z
        exact ne (R.inj i j s t ds fs q hs l h k hp e)
      exact ⟨q, ws, e, qf, by rw [upd_ne nq]; exact qp, qa⟩
  · have c1 : ∃ s1 d1, ρ[j]? = some s1 ∧ Lst s1 d1 := by
      rcases get_set h1 with ⟨rfl, z, _⟩ | ⟨_, h1⟩
      · exact ⟨s, ds, hs, l⟩
      · exact ⟨t, fs, h1, l1⟩
    have c2 : ∃ s1 d1, ρ[k]? = some s1 ∧ Lst s1 d1 := by
      rcases get_set h2 with ⟨rfl, z, _⟩ | ⟨_, h2⟩
      · exact ⟨s, ds, hs, l⟩
      · exact ⟨u, gs, h2, l2⟩
    obtain ⟨s1, d1, a1, b1⟩ := c1
    obtain ⟨s2, d2, a2, b2⟩ := c2
    exact R.inj j k s1 s2 d1 d2 q a1 b1 a2 b2
  · rw [upd_ne (show a ≠ p from fun z => n (by rw [z]; exact ow))]
    exact h
  · obtain ⟨j, t, fs, h1, k, h2⟩ := h
    rcases get_set h1 with ⟨rfl, z, _⟩ | ⟨_, h1⟩
    · rw [hp] at h2
      cases h2
      exact .inl ow
    · exact .inl ⟨j, t, fs, h1, k, h2⟩
  · by_cases z : i = j
    · subst z
      rw [hs] at h
      cases h
      exact ⟨es, set_get hs⟩
    · exact ⟨fs, by rw [List.getElem?_set_ne z]; exact h⟩
/-! ### methods of texts -/
section
variable {X : Cx} {ca : Ca} {W : WX}
def OpS (G : Gd) (r : V → List V → Hp → VK → Prop) (g : Str → List D → Option Rv) : Prop := ∀ z ds w, g z ds = some w → ∀ vs F H Q, Same F H → strOk z = true → DqAll G F H vs ds → Outs G F H w Q → r (.str z) vs H Q
def mMeS (g : Str → List D → Option Rv) (m : M Rv) (n : M (List Rv)) : M Rv := fun ρ => match m ρ with
  | .ok (.val (.str z)) ρ1 => match n ρ1 with
    | .ok rs ρ2 => match derefs ρ2 rs with
      | some ds => match g z ds with
        | some w => .ok w ρ2
        | none => .bad
      | none => .bad
    | .err x ρ2 => .err x ρ2
    | .bad => .bad
  | .ok _ _ => .bad
  | .err x ρ1 => .err x ρ1
  | .bad => .bad
theorem de_meS {id : String} {name : Str} {r : V → List V → Hp → VK → Prop} {g : Str → List D → Option Rv} {o e : Expr} {es : List Expr} {m : M Rv} {n : M (List Rv)} {apos cpos : Pos} (slot : Slot "str" name id) (hty : typeOf (.builtin id) = pure (.type "method_descriptor")) (hm : MtR X id r) (hg : OpS ⟨X.K, ca⟩ r g) (ho : DE X ca W o m) (ha : DA X ca W (e :: es) n)
    (hbase : attributeBase o name X.env (eval o X.env) = eval o X.env)
    (hfew : ((backTo cpos (starEach (e :: es) X.env)).all (fun x => !x.1) && (backToKw cpos (keywordEach [] X.env)).all (fun x => x.1.isSome)
      && decide ((e :: es).length + ([] : List Keyword).length + (if ([] : List Keyword).isEmpty then 0 else 1) < 30)) = true)
    (hline : (apos.endLine == cpos.line) = true) (hs : starEach (e :: es) X.env = (false, eval e X.env) :: starEach es X.env) (hplain : (backTo cpos (starEach es X.env)).any (·.1) = false) :
    DE X ca W (.Call (.Attribute o name apos) (e :: es) [] cpos) (mMeS g m n) :=
  pe_imp (pe_bm PySem.F.plainAttrs_str slot hty hm ho ha hbase hfew hline hs hplain) fun σ H Q ⟨F, ρ, R, p⟩ => by
    refine ⟨F, ρ, R, ?_⟩
    unfold mMeS at p
    cases e1 : m ρ with
    | bad => rw [e1] at p; exact p
    | err x ρ1 => rw [e1] at p; exact p
    | ok r1 ρ1 =>
      rw [e1] at p
      intro v1 F1 H1 R1 f1 k1
      split at p
      · rename_i z ρ1' ez
        cases ez
        cases k1 with
        | str _ ok =>
          refine ⟨rfl, F1, ρ1, R1, ?_⟩
          cases e2 : n ρ1 with
          | bad => rw [e2] at p; exact p
          | err x ρ2 => rw [e2] at p; exact fun c d F2 H2 R2 f2 x2 => p c d F2 H2 R2 (f1.trans f2) x2
          | ok rs ρ2 =>
            rw [e2] at p
            intro vs F2 H2 R2 f2 k2
            dsimp only at p
            cases q1 : derefs ρ2 rs with
            | none => rw [q1] at p; exact p.elim
            | some ds =>
              rw [q1] at p
              dsimp only at p
              cases q3 : g z ds with
              | none => rw [q3] at p; exact p.elim
              | some w =>
                rw [q3] at p
                exact hg z ds w q3 vs F2 H2 Q R2.ex ok (derefs_dq R2 k2 q1) (outs_from R2 (f1.trans f2) p)
      · exact p.elim
      · rename_i ez
        cases ez
      · rename_i ez
        cases ez
/-! ### methods that change a list -/
def Mu (G : Gd) (r : V → List V → Hp → VK → Prop) (g : List D → List D → Option (D × List D)) : Prop := ∀ xs ds ret ys, g xs ds = some (ret, ys) → ∀ p vs us F H Q, Same F H → H p = some (.lst vs) → DpAll G F vs xs → DpAll G F us ds →
  (∀ v ws, Dp G F v ret → DpAll G F ws ys → Q v (upd H p (.lst ws))) → r (.ref p) us H Q
def mMut (g : List D → List D → Option (D × List D)) (i : Nat) (n : M (List Rv)) : M Rv := fun ρ => match mVar i ρ with
  | .ok (.loc j) ρ1 => match n ρ1 with
    | .ok rs ρ2 => match escs ρ2 rs with
      | some (ds, ρ3) => match ρ3[j]? with
        | some (.own xs) => match g xs ds with
          | some (ret, ys) => .ok (.val ret) (ρ3.set j (.own ys))
          | none => .bad
        | some (.bor xs) => match g xs ds with
          | some (ret, ys) => .ok (.val ret) (ρ3.set j (.bor ys))
          | none => .bad
        | _ => .bad
      | none => .bad
    | .err x ρ2 => .err x ρ2
    | .bad => .bad
  | _ => .bad
theorem mVar_loc {i j : Nat} {ρ ρ1 : En} (h : mVar i ρ = .ok (.loc j) ρ1) : j = i ∧ ρ1 = ρ := by
  unfold mVar at h
  split at h <;> first | (cases h; done) | (cases h; exact ⟨rfl, rfl⟩)
theorem mut_post {G : Gd} {r : V → List V → Hp → VK → Prop} {g : List D → List D → Option (D × List D)} (hg : Mu G r g) {ρ0 ρ2 ρ3 : En} {σ : L2.St} {F0 H0 F2 H2 : Hp} {Q : VK} {j : Nat} {a : Addr} {vs : List V} {rs : List Rv} {ds xs ys : List D} {s : Sl} {ret : D}
    (R2 : RelS G ρ2 σ F2 H2) (f2 : Fm ρ0 σ F0 H0 ρ2 σ F2 H2) (k2 : RvA G ρ0 H0 ρ2 σ F2 H2 vs rs) (hj : σ[j]? = some (some (.ref a))) (q1 : escs ρ2 rs = some (ds, ρ3)) (q2 : ρ3[j]? = some s) (l : Lst s xs) (q3 : g xs ds = some (ret, ys))
    (p : Post G W (RvR G) ρ0 σ F0 H0 Q (.ok (.val ret) (ρ3.set j (putSl s ys)))) : r (.ref a) vs H2 Q := by
  obtain ⟨F3, R3, f3, k3, s3⟩ := escs_ok R2 f2 k2 q1
  obtain ⟨a', us, e, hf, hp, ha⟩ := R3.lst j s xs q2 l
  rw [hj] at e
  cases e
  refine hg xs ds ret ys q3 a us vs F3 H2 Q R3.ex hp ha k3 fun v ws hv hw => ?_
  obtain ⟨R4, f4⟩ := R3.put q2 l hj hw
  exact p v F3 _ R4 (f3.trans f4) hv
theorem t_mut {r : V → List V → Hp → VK → Prop} {g : List D → List D → Option (D × List D)} (hg : Mu ⟨X.K, ca⟩ r g) {i : Nat} {n : M (List Rv)} {σ : L2.St} {H : Hp} {Q : VK} (h : tE ⟨X.K, ca⟩ W (mMut g i n) σ H Q) :
    tBM X.K "list" r (tE ⟨X.K, ca⟩ W (mVar i)) (tAr ⟨X.K, ca⟩ W n) σ H Q := by
  obtain ⟨F, ρ, R, p⟩ := h
  refine ⟨F, ρ, R, ?_⟩
  unfold mMut at p
  split at p
  · rename_i j ρ1 e1
    rw [e1]
    obtain ⟨rfl, rfl⟩ := mVar_loc e1
    intro v1 F1 H1 R1 f1 k1
    have k1 : σ[j]? = some (some v1) := k1
    unfold mVar at e1
    cases q : ρ1[j]? with
    | none => rw [q] at e1; cases e1
    | some s =>
      rw [q] at e1
      have l : ∃ ds, Lst s ds := by
        cases s with
        | un => cases e1
        | exn => cases e1
        | val d => cases e1
        | own ds => exact ⟨ds, .inl rfl⟩
        | bor ds => exact ⟨ds, .inr rfl⟩
      obtain ⟨ds0, l⟩ := l
      obtain ⟨a, us, e, _, hp, _⟩ := R1.lst j s ds0 q l
      rw [k1] at e
      cases e
      refine ⟨.inl ⟨rfl, us, sqL_of hp⟩, F1, ρ1, R1, ?_⟩
      cases e2 : n ρ1 with
      | bad => rw [e2] at p; exact p
      | err x ρ2 => rw [e2] at p; exact fun c d F2 H2 R2 f2 x2 => p c d F2 H2 R2 (f1.trans f2) x2
      | ok rs ρ2 =>
        rw [e2] at p
        intro vs F2 H2 R2 f2 k2
        dsimp only at p
        cases q1 : escs ρ2 rs with
        | none => rw [q1] at p; exact p.elim
        | some y =>
          obtain ⟨ds, ρ3⟩ := y
          rw [q1] at p
          dsimp only at p
          split at p
          · rename_i xs q2
            split at p
            · rename_i ret ys q3
              exact mut_post (s := .own xs) hg R2 (f1.trans f2) (k2.from f1) k1 q1 q2 (.inl rfl) q3 p
            · exact p.elim
          · rename_i xs q2
            split at p
            · rename_i ret ys q3
              exact mut_post (s := .bor xs) hg R2 (f1.trans f2) (k2.from f1) k1 q1 q2 (.inr rfl) q3 p
            · exact p.elim
          · exact p.elim
  · exact p.elim
theorem de_mut {id : String} {name : Str} {r : V → List V → Hp → VK → Prop} {g : List D → List D → Option (D × List D)} {o e : Expr} {es : List Expr} {i : Nat} {n : M (List Rv)} {apos cpos : Pos} (slot : Slot "list" name id) (hty : typeOf (.builtin id) = pure (.type "method_descriptor")) (hm : MtR X id r) (hg : Mu ⟨X.K, ca⟩ r g) (ho : DE X ca W o (mVar i)) (ha : DA X ca W (e :: es) n)
    (hbase : attributeBase o name X.env (eval o X.env) = eval o X.env)
    (hfew : ((backTo cpos (starEach (e :: es) X.env)).all (fun x => !x.1) && (backToKw cpos (keywordEach [] X.env)).all (fun x => x.1.isSome)
      && decide ((e :: es).length + ([] : List Keyword).length + (if ([] : List Keyword).isEmpty then 0 else 1) < 30)) = true)
    (hline : (apos.endLine == cpos.line) = true) (hs : starEach (e :: es) X.env = (false, eval e X.env) :: starEach es X.env) (hplain : (backTo cpos (starEach es X.env)).any (·.1) = false) :
    DE X ca W (.Call (.Attribute o name apos) (e :: es) [] cpos) (mMut g i n) :=
  pe_imp (pe_bm PySem.F.plainAttrs_list slot hty hm ho ha hbase hfew hline hs hplain) fun σ H Q h => t_mut hg h
theorem de_mut0 {id : String} {name : Str} {r : V → List V → Hp → VK → Prop} {g : List D → List D → Option (D × List D)} {o : Expr} {i : Nat} {apos cpos : Pos} (slot : Slot "list" name id) (hty : typeOf (.builtin id) = pure (.type "method_descriptor")) (hm : MtR X id r) (hg : Mu ⟨X.K, ca⟩ r g) (ho : DE X ca W o (mVar i))
    (hbase : attributeBase o name X.env (eval o X.env) = eval o X.env) (hline : (apos.endLine == cpos.line) = true) :
    DE X ca W (.Call (.Attribute o name apos) [] [] cpos) (mMut g i mNil) :=
  pe_imp (pe_bm0 PySem.F.plainAttrs_list slot hty hm ho hbase hline) fun σ H Q h => by
    obtain ⟨F, ρ, R, p⟩ := t_mut hg h
    refine ⟨F, ρ, R, ?_⟩
    refine p.imp fun x H1 ⟨ty, F1, ρ1, R1, q⟩ => ⟨ty, ?_⟩
    exact q [] F1 H1 R1 Fm.refl .nil
end
section
variable {G : Gd}
def gAppend (xs : List D) : List D → Option (D × List D)
  | [d] => if xs.length < sizeLine then some (.non, xs ++ [d]) else none
  | _ => none
theorem mu_append : Mu G rAppend gAppend := fun xs ds ret ys h p vs us F H Q _ hp hv hu k => by
  unfold gAppend at h
  split at h
  · split at h
    · rename_i c
      cases h
      cases hu with
      | cons a t =>
        cases t
        exact ⟨p, vs, _, rfl, rfl, hp, by rw [hv.length]; exact c, k _ _ .non (hv.append (.cons a .nil))⟩
    · cases h
  · cases h
theorem DpAll.erase {F : Hp} : ∀ {vs : List V} {ds : List D} (n : Nat), DpAll G F vs ds → DpAll G F (vs.eraseIdx n) (ds.eraseIdx n)
  | _, _, _, .nil => by simp; exact .nil
  | _, _, 0, .cons _ t => by simpa using t
  | _, _, n + 1, .cons h t => by simpa using DpAll.cons h (DpAll.erase n t)
def gPopAt (xs : List D) : List D → Option (D × List D)
  | [.int i] => if -(2 ^ 63) ≤ i ∧ i < 2 ^ 63 then match seqIndex? i xs.length with
    | some k => match xs[k]? with
      | some y => some (y, xs.eraseIdx k)
      | none => none
    | none => none
    else none
  | _ => none
theorem mu_popAt : Mu G rPopAt gPopAt := fun xs ds ret ys h p vs us F H Q _ hp hv hu k => by
  unfold gPopAt at h
  split at h
  · rename_i i
    split at h
    · rename_i c
      split at h
      · rename_i j e1
        split at h
        · rename_i y e2
          cases h
          obtain ⟨v, e3, e4⟩ := hv.get e2
          cases hu with
          | cons a t =>
            cases t
            cases a
            exact ⟨p, vs, i, j, v, rfl, rfl, hp, c.1, c.2, by rw [hv.length]; exact e1, e3, k _ _ e4 (hv.erase j)⟩
        · cases h
      · cases h
    · cases h
  · cases h
def gInsert (xs : List D) : List D → Option (D × List D)
  | [.int i, d] => if xs.length < sizeLine ∧ 0 ≤ i ∧ i < 2 ^ 63 then some (.non, xs.take i.toNat ++ [d] ++ xs.drop i.toNat) else none
  | _ => none
def rInsert : V → List V → Hp → VK → Prop := fun x vs H Q => ∃ (l : Addr) (xs : List V) (i : Int) (y : V), x = .ref l ∧ vs = [.int i, y] ∧ H l = some (.lst xs) ∧ xs.length < sizeLine ∧ 0 ≤ i ∧ i < 2 ^ 63 ∧
    Q .non (upd H l (.lst (xs.take i.toNat ++ [y] ++ xs.drop i.toNat)))
theorem mt_insert' {X : Cx} : MtR X "list.insert" rInsert := mt_insert
theorem mu_insert : Mu G rInsert gInsert := fun xs ds ret ys h p vs us F H Q _ hp hv hu k => by
  unfold gInsert at h
  split at h
  · rename_i i d
    split at h
    · rename_i c
      cases h
      cases hu with
      | cons a t =>
        cases t with
        | cons b t =>
          cases t
          cases a
          exact ⟨p, vs, i, _, rfl, rfl, hp, by rw [hv.length]; exact c.1, c.2.1, c.2.2, k _ _ .non (((hv.take _).append (.cons b .nil)).append (hv.drop _))⟩
    · cases h
  · cases h
def gPop (xs : List D) : List D → Option (D × List D)
  | [] => match xs[xs.length - 1]? with
    | some y => some (y, xs.dropLast)
    | none => none
  | _ => none
theorem DpAll.dropLast {F : Hp} : ∀ {vs : List V} {ds : List D}, DpAll G F vs ds → DpAll G F vs.dropLast ds.dropLast
  | _, _, .nil => .nil
  | _, _, .cons h .nil => .nil
  | _, _, .cons h (.cons a t) => .cons h (DpAll.dropLast (.cons a t))
theorem mu_pop : Mu G rPop gPop := fun xs ds ret ys h p vs us F H Q _ hp hv hu k => by
  unfold gPop at h
  split at h
  · split at h
    · rename_i y e2
      cases h
      obtain ⟨v, e3, e4⟩ := hv.get e2
      cases hu
      exact ⟨p, vs, v, rfl, rfl, hp, by rw [hv.length]; exact e3, k _ _ e4 hv.dropLast⟩
    · cases h
  · cases h
theorem DpAll.reverse {F : Hp} : ∀ {vs : List V} {ds : List D}, DpAll G F vs ds → DpAll G F vs.reverse ds.reverse
  | _, _, .nil => .nil
  | _, _, .cons h t => by
    rw [List.reverse_cons, List.reverse_cons]
    exact (DpAll.reverse t).append (.cons h .nil)
def gReverse (xs : List D) : List D → Option (D × List D)
  | [] => some (.non, xs.reverse)
  | _ => none
theorem mu_reverse : Mu G rReverse gReverse := fun xs ds ret ys h p vs us F H Q _ hp hv hu k => by
  unfold gReverse at h
  split at h
  · cases h
    cases hu
    exact ⟨p, vs, rfl, rfl, hp, k _ _ .non hv.reverse⟩
  · cases h
end
end PM
set_option Elab.async false
set_option linter.all false
set_option maxRecDepth 100000
set_option maxHeartbeats 4000000
namespace PM
open PySem L2
open PySem.PyData (strOk)
/-! ### truth -/
def tru : D → Option Bool
  | .non => some false
  | .bl b => some b
  | .int i => some (i != 0)
  | .str x => if x.length ≤ sizeLine then some ((x.length : Int) != 0) else none
  | .lst xs => some (!xs.isEmpty)
  | .tup xs => some (!xs.isEmpty)
  | _ => none
theorem DpAll.isEmpty {G : Gd} {F : Hp} {vs : List V} {ds : List D} (h : DpAll G F vs ds) : vs.isEmpty = ds.isEmpty := by cases h <;> rfl
theorem tru_of {G : Gd} {F H : Hp} {v : V} {d : D} {b : Bool} (s : Same F H) (h : Dq G F H v d) (e : tru d = some b) : TruV G.K v H b := by
  unfold tru at e
  split at e
  · cases e; cases h.non; exact rfl
  · cases e; cases h.bl; exact rfl
  · cases e; cases h.int; exact rfl
  · split at e
    · rename_i c
      cases e; obtain ⟨rfl, _⟩ := h.str; exact ⟨c, rfl⟩
    · cases e
  · cases e
    obtain ⟨p, vs, rfl, hp, r⟩ := h.lst s
    exact .inl ⟨vs, sqL_of hp, by rw [r.isEmpty]⟩
  · cases e
    obtain ⟨p, vs, rfl, _, hp, r⟩ := h.tup s
    exact .inr (.inl ⟨vs, hp, by rw [r.isEmpty]⟩)
  · cases e
def mB (m : M Rv) : M Bool := fun ρ => match m ρ with
  | .ok r ρ1 => match deref ρ1 r with
    | some d => match tru d with
      | some b => .ok b ρ1
      | none => .bad
    | none => .bad
  | .err x ρ1 => .err x ρ1
  | .bad => .bad
section
variable {X : Cx} {ca : Ca} {W : WX}
theorem t_truth {m : M Rv} {σ : L2.St} {H : Hp} {Q : Bool → Hp → Prop} (h : tT ⟨X.K, ca⟩ W (mB m) σ H Q) : tE ⟨X.K, ca⟩ W m σ H fun x H' => ∃ k, TruV X.K x H' k ∧ Q k H' := by
  obtain ⟨F, ρ, R, p⟩ := h
  refine ⟨F, ρ, R, ?_⟩
  unfold mB at p
  cases e1 : m ρ with
  | bad => rw [e1] at p; exact p
  | err x ρ1 => rw [e1] at p; exact p
  | ok r ρ1 =>
    rw [e1] at p
    intro v F1 H1 R1 f1 k1
    dsimp only at p
    cases q1 : deref ρ1 r with
    | none => rw [q1] at p; exact p.elim
    | some d =>
      rw [q1] at p
      dsimp only at p
      cases q2 : tru d with
      | none => rw [q2] at p; exact p.elim
      | some b =>
        rw [q2] at p
        exact ⟨b, tru_of R1.ex (deref_dq R1 k1 q1) q2, p b F1 H1 R1 f1 rfl⟩
theorem dt_truth {e : Expr} {m : M Rv} (h : DE X ca W e m) (he : ∀ whole, isTrue e X.env whole = (do let v ← whole; standAt e.pos; holding [v] (truthy v))) : DT X ca W e (mB m) := pt_imp (pt_truth h he) fun _ _ _ h => t_truth h
/-- a comparison as a test -/
theorem dt_cmp2 {op : CmpOp} {r : R2} {g : D → D → Option Rv} {a b : Expr} {m n : M Rv} {pos : Pos} (ho : OpR X (compareOp op) r) (hg : Op2 ⟨X.K, ca⟩ r g) (hz : ∀ d e z, g d e = some z → ∃ k, z = .val (.bl k)) (ha : DE X ca W a m) (hb : DE X ca W b n) (hm : behindInMarks op b = false) : DT X ca W (.Compare a [op] [b] pos) (mB (mOp2 g m n)) :=
  pt_imp (pt_cmpR ho ha hb hm) fun σ H Q ⟨F, ρ, R, p⟩ => by
    refine t_op2 (Q := fun x H' => ∃ k, x = .bl k ∧ Q k H') hg ⟨F, ρ, R, ?_⟩
    unfold mB at p
    cases e1 : mOp2 g m n ρ with
    | bad => rw [e1] at p; exact p
    | err x ρ1 => rw [e1] at p; exact p
    | ok z ρ1 =>
      rw [e1] at p
      intro v F1 H1 R1 f1 k1
      have hzz : ∃ k, z = .val (.bl k) := by
        unfold mOp2 at e1
        split at e1
        · split at e1
          · split at e1
            · split at e1
              · cases e1
                exact hz _ _ _ (by assumption)
              · cases e1
            · cases e1
          · cases e1
          · cases e1
        · cases e1
        · cases e1
      obtain ⟨k, rfl⟩ := hzz
      cases k1 with
      | bl _ => exact ⟨k, rfl, p k F1 H1 R1 f1 rfl⟩
theorem gI0_bl {p : Int → Int → Bool} : ∀ d e z, gI0 (fun i j => .bl (p i j)) d e = some z → ∃ k, z = .val (.bl k) := fun d e z h => by
  unfold gI0 at h
  split at h
  · cases h; exact ⟨_, rfl⟩
  · cases h
theorem gEq_bl : ∀ d e z, gEq d e = some z → ∃ k, z = .val (.bl k) := fun d e z h => by
  unfold gEq at h
  split at h
  · cases h; exact ⟨_, rfl⟩
  · cases h
theorem gNe_bl : ∀ d e z, gNe d e = some z → ∃ k, z = .val (.bl k) := fun d e z h => by
  unfold gNe at h
  split at h
  · cases h; exact ⟨_, rfl⟩
  · cases h
theorem gIn_bl {neg : Bool} : ∀ d e z, gIn neg d e = some z → ∃ k, z = .val (.bl k) := fun d e z h => by
  unfold gIn at h
  split at h
  · split at h
    · cases h; exact ⟨_, rfl⟩
    · cases h
  · split at h
    · cases h; exact ⟨_, rfl⟩
    · cases h
  · split at h
    · cases h; exact ⟨_, rfl⟩
    · cases h
  · cases h
theorem gIsN_bl {neg : Bool} : ∀ d e z, gIsN neg d e = some z → ∃ k, z = .val (.bl k) := fun d e z h => by
  unfold gIsN at h
  split at h
  · cases h; exact ⟨_, rfl⟩
  · cases h
/-! ### and, or, not -/
def mNotT (m : M Bool) : M Bool := fun ρ => match m ρ with
  | .ok b ρ1 => .ok (!b) ρ1
  | .err x ρ1 => .err x ρ1
  | .bad => .bad
theorem dt_not {a : Expr} {m : M Bool} {pos : Pos} (h : DT X ca W a m) : DT X ca W (.UnaryOp .Not a pos) (mNotT m) := pt_imp (pt_not h) fun σ H Q ⟨F, ρ, R, p⟩ => by
  refine ⟨F, ρ, R, ?_⟩
  unfold mNotT at p
  cases e1 : m ρ with
  | bad => rw [e1] at p; exact p
  | err x ρ1 => rw [e1] at p; exact p
  | ok b ρ1 => rw [e1] at p; exact fun c F1 H1 R1 f1 k1 => p _ F1 H1 R1 f1 (by cases k1; rfl)
def mAndT (m n : M Bool) : M Bool := fun ρ => match m ρ with
  | .ok b ρ1 => if b then n ρ1 else .ok false ρ1
  | .err x ρ1 => .err x ρ1
  | .bad => .bad
def mOrT (m n : M Bool) : M Bool := fun ρ => match m ρ with
  | .ok b ρ1 => if b then .ok true ρ1 else n ρ1
  | .err x ρ1 => .err x ρ1
  | .bad => .bad
theorem dw_and1 {a : Expr} {m : M Bool} {pos : Pos} (h : DT X ca W a m) : DW X ca W (.BoolOp .And [a] pos) m := pw_and1 h
theorem dw_or1 {a : Expr} {m : M Bool} {pos : Pos} (h : DT X ca W a m) : DW X ca W (.BoolOp .Or [a] pos) m := pw_or1 h
theorem dw_and {a b : Expr} {rest : List Expr} {m n : M Bool} {pos : Pos} (h : DT X ca W a m) (k : DW X ca W (.BoolOp .And (b :: rest) pos) n) : DW X ca W (.BoolOp .And (a :: b :: rest) pos) (mAndT m n) := pw_imp (pw_and h k) fun σ H Q ⟨F, ρ, R, p⟩ => by
  refine ⟨F, ρ, R, ?_⟩
  unfold mAndT at p
  cases e1 : m ρ with
  | bad => rw [e1] at p; exact p
  | err x ρ1 => rw [e1] at p; exact p
  | ok b ρ1 =>
    rw [e1] at p
    intro c F1 H1 R1 f1 k1
    cases k1
    cases b with
    | true => exact ⟨F1, ρ1, R1, Post.from p f1 fun _ _ _ _ _ x => x⟩
    | false => exact p _ F1 H1 R1 f1 rfl
theorem dw_or {a b : Expr} {rest : List Expr} {m n : M Bool} {pos : Pos} (h : DT X ca W a m) (k : DW X ca W (.BoolOp .Or (b :: rest) pos) n) : DW X ca W (.BoolOp .Or (a :: b :: rest) pos) (mOrT m n) := pw_imp (pw_or h k) fun σ H Q ⟨F, ρ, R, p⟩ => by
  refine ⟨F, ρ, R, ?_⟩
  unfold mOrT at p
  cases e1 : m ρ with
  | bad => rw [e1] at p; exact p
  | err x ρ1 => rw [e1] at p; exact p
  | ok b ρ1 =>
    rw [e1] at p
    intro c F1 H1 R1 f1 k1
    cases k1
    cases b with
    | false => exact ⟨F1, ρ1, R1, Post.from p f1 fun _ _ _ _ _ x => x⟩
    | true => exact p _ F1 H1 R1 f1 rfl
theorem dt_w {e : Expr} {m : M Bool} (h : DW X ca W e m) : DT X ca W e m := PW.pt h
/-- as values -/
def mAndV (m n : M Rv) : M Rv := fun ρ => match m ρ with
  | .ok r ρ1 => match deref ρ1 r with
    | some d => match tru d with
      | some b => if b then n ρ1 else .ok r ρ1
      | none => .bad
    | none => .bad
  | .err x ρ1 => .err x ρ1
  | .bad => .bad
def mOrV (m n : M Rv) : M Rv := fun ρ => match m ρ with
  | .ok r ρ1 => match deref ρ1 r with
    | some d => match tru d with
      | some b => if b then .ok r ρ1 else n ρ1
      | none => .bad
    | none => .bad
  | .err x ρ1 => .err x ρ1
  | .bad => .bad
def mNotV (m : M Rv) : M Rv := fun ρ => match m ρ with
  | .ok r ρ1 => match deref ρ1 r with
    | some d => match tru d with
      | some b => .ok (.val (.bl (!b))) ρ1
      | none => .bad
    | none => .bad
  | .err x ρ1 => .err x ρ1
  | .bad => .bad
theorem de_one {op} {a : Expr} {m : M Rv} {pos : Pos} (h : DE X ca W a m) : DE X ca W (.BoolOp op [a] pos) m := pe_one h
theorem de_and {a b : Expr} {rest : List Expr} {m n : M Rv} {pos : Pos} (h : DE X ca W a m) (k : DE X ca W (.BoolOp .And (b :: rest) pos) n) : DE X ca W (.BoolOp .And (a :: b :: rest) pos) (mAndV m n) := pe_imp (pe_andT h k) fun σ H Q ⟨F, ρ, R, p⟩ => by
  refine ⟨F, ρ, R, ?_⟩
  unfold mAndV at p
  cases e1 : m ρ with
  | bad => rw [e1] at p; exact p
  | err x ρ1 => rw [e1] at p; exact p
  | ok r ρ1 =>
    rw [e1] at p
    intro v F1 H1 R1 f1 k1
    dsimp only at p
    cases q1 : deref ρ1 r with
    | none => rw [q1] at p; exact p.elim
    | some d =>
      rw [q1] at p
      dsimp only at p
      cases q2 : tru d with
      | none => rw [q2] at p; exact p.elim
      | some b =>
        rw [q2] at p
        refine ⟨b, tru_of R1.ex (deref_dq R1 k1 q1) q2, ?_⟩
        cases b with
        | true => exact ⟨F1, ρ1, R1, Post.from p f1 fun ρ' F' H' b a x => RvR.from x f1⟩
        | false => exact p v F1 H1 R1 f1 k1
theorem de_or {a b : Expr} {rest : List Expr} {m n : M Rv} {pos : Pos} (h : DE X ca W a m) (k : DE X ca W (.BoolOp .Or (b :: rest) pos) n) : DE X ca W (.BoolOp .Or (a :: b :: rest) pos) (mOrV m n) := pe_imp (pe_orT h k) fun σ H Q ⟨F, ρ, R, p⟩ => by
  refine ⟨F, ρ, R, ?_⟩
  unfold mOrV at p
  cases e1 : m ρ with
  | bad => rw [e1] at p; exact p
  | err x ρ1 => rw [e1] at p; exact p
  | ok r ρ1 =>
    rw [e1] at p
    intro v F1 H1 R1 f1 k1
    dsimp only at p
    cases q1 : deref ρ1 r with
    | none => rw [q1] at p; exact p.elim
    | some d =>
      rw [q1] at p
      dsimp only at p
      cases q2 : tru d with
      | none => rw [q2] at p; exact p.elim
      | some b =>
        rw [q2] at p
        refine ⟨b, tru_of R1.ex (deref_dq R1 k1 q1) q2, ?_⟩
        cases b with
        | false => exact ⟨F1, ρ1, R1, Post.from p f1 fun ρ' F' H' b a x => RvR.from x f1⟩
        | true => exact p v F1 H1 R1 f1 k1
theorem de_not {a : Expr} {m : M Rv} {pos : Pos} (h : DE X ca W a m) : DE X ca W (.UnaryOp .Not a pos) (mNotV m) := pe_imp (pe_notT h) fun σ H Q ⟨F, ρ, R, p⟩ => by
  refine ⟨F, ρ, R, ?_⟩
  unfold mNotV at p
  cases e1 : m ρ with
  | bad => rw [e1] at p; exact p
  | err x ρ1 => rw [e1] at p; exact p
  | ok r ρ1 =>
    rw [e1] at p
    intro v F1 H1 R1 f1 k1
    dsimp only at p
    cases q1 : deref ρ1 r with
    | none => rw [q1] at p; exact p.elim
    | some d =>
      rw [q1] at p
      dsimp only at p
      cases q2 : tru d with
      | none => rw [q2] at p; exact p.elim
      | some b =>
        rw [q2] at p
        exact ⟨b, tru_of R1.ex (deref_dq R1 k1 q1) q2, p _ F1 H1 R1 f1 (.bl _)⟩
def mIf (c : M Bool) (m n : M Rv) : M Rv := fun ρ => match c ρ with
  | .ok b ρ1 => if b then m ρ1 else n ρ1
  | .err x ρ1 => .err x ρ1
  | .bad => .bad
theorem de_ifExp {c a b : Expr} {k : M Bool} {m n : M Rv} {pos : Pos} (hc : DT X ca W c k) (ha : DE X ca W a m) (hb : DE X ca W b n) : DE X ca W (.IfExp c a b pos) (mIf k m n) := pe_imp (pe_ifExp hc ha hb) fun σ H Q ⟨F, ρ, R, p⟩ => by
  refine ⟨F, ρ, R, ?_⟩
  unfold mIf at p
  cases e1 : k ρ with
  | bad => rw [e1] at p; exact p
  | err x ρ1 => rw [e1] at p; exact p
  | ok b ρ1 =>
    rw [e1] at p
    intro v F1 H1 R1 f1 k1
    cases k1
    cases b with
    | true => exact ⟨F1, ρ1, R1, Post.from p f1 fun ρ' F' H' b a x => RvR.from x f1⟩
    | false => exact ⟨F1, ρ1, R1, Post.from p f1 fun ρ' F' H' b a x => RvR.from x f1⟩
end
end PM
set_option Elab.async false
set_option linter.all false
set_option maxRecDepth 100000
set_option maxHeartbeats 4000000
namespace PM
open PySem L2
open PySem.PyData (strOk)
/-! ### statements -/
inductive Fl where
  | nx | rt (r : Rv) | bk | ct
def RetR (G : Gd) (ρ0 : En) (σ0 : L2.St) (H0 : Hp) (ρ : En) (σ : L2.St) (F H : Hp) (v : V) : Rv → Prop
  | .val d => Dp G F v d
  | .own ds => ∃ p vs, v = .ref p ∧ F p = none ∧ H p = some (.lst vs) ∧ DpAll G F vs ds ∧ ¬ Owned ρ σ p ∧ (Owned ρ0 σ0 p ∨ H0 p = none)
  | .loc _ => False
def PostS (G : Gd) (W : WX) (ρ : En) (σ : L2.St) (F H : Hp) (D : Ends) : Res Fl → Prop
  | .ok .nx ρ' => ∀ σ' F' H', RelS G ρ' σ' F' H' → Fm ρ σ F H ρ' σ' F' H' → D.nx σ' H'
  | .ok .bk ρ' => ∀ σ' F' H', RelS G ρ' σ' F' H' → Fm ρ σ F H ρ' σ' F' H' → D.bk σ' H'
  | .ok .ct ρ' => ∀ σ' F' H', RelS G ρ' σ' F' H' → Fm ρ σ F H ρ' σ' F' H' → D.ct σ' H'
  | .ok (.rt r) ρ' => ∀ v σ' F' H', RelS G ρ' σ' F' H' → Fm ρ σ F H ρ' σ' F' H' → RetR G ρ σ H ρ' σ' F' H' v r → D.rt v H'
  | .err x ρ' => ∀ cls d σ' F' H', RelS G ρ' σ' F' H' → Fm ρ σ F H ρ' σ' F' H' → XR G F' H' x cls d → W cls d σ' H'
  | .bad => False
abbrev tS (G : Gd) (W : WX) (m : M Fl) : TS := fun D σ H => ∃ F ρ, RelS G ρ σ F H ∧ PostS G W ρ σ F H D (m ρ)
def DS (X : Cx) (ca : Ca) (W : WX) (st : Stmt) (m : M Fl) : Prop := PS X st (tS ⟨X.K, ca⟩ W m)
def DB (X : Cx) (ca : Ca) (W : WX) (st : List Stmt) (m : M Fl) : Prop := PSs X st (tS ⟨X.K, ca⟩ W m)
theorem PostS.from {G : Gd} {W : WX} {ρ ρ1 : En} {σ σ1 : L2.St} {F H F1 H1 : Hp} {D : Ends} {r : Res Fl} (h : PostS G W ρ σ F H D r) (f : Fm ρ σ F H ρ1 σ1 F1 H1) : PostS G W ρ1 σ1 F1 H1 D r := by
  cases r with
  | bad => exact h
  | err x ρ' => exact fun c d σ' F' H' R g x => h c d σ' F' H' R (f.trans g) x
  | ok a ρ' =>
    cases a with
    | nx => exact fun σ' F' H' R g => h σ' F' H' R (f.trans g)
    | bk => exact fun σ' F' H' R g => h σ' F' H' R (f.trans g)
    | ct => exact fun σ' F' H' R g => h σ' F' H' R (f.trans g)
    | rt r =>
      intro v σ' F' H' R g k
      refine h v σ' F' H' R (f.trans g) ?_
      cases r with
      | val d => exact k
      | loc i => exact k
      | own ds =>
        obtain ⟨p, vs, rfl, hf, hp, ha, no, nw⟩ := k
        exact ⟨p, vs, rfl, hf, hp, ha, no, f.back nw⟩
theorem PostS.imp {G : Gd} {W : WX} {ρ : En} {σ : L2.St} {F H : Hp} {D D' : Ends} {r : Res Fl} (h : PostS G W ρ σ F H D r) (h1 : ∀ σ H, D.nx σ H → D'.nx σ H) (h2 : ∀ v H, D.rt v H → D'.rt v H) (h3 : ∀ σ H, D.bk σ H → D'.bk σ H) (h4 : ∀ σ H, D.ct σ H → D'.ct σ H) : PostS G W ρ σ F H D' r := by
  cases r with
  | bad => exact h
  | err x ρ' => exact h
  | ok a ρ' =>
    cases a with
    | nx => exact fun σ' F' H' R g => h1 _ _ (h σ' F' H' R g)
    | bk => exact fun σ' F' H' R g => h3 _ _ (h σ' F' H' R g)
    | ct => exact fun σ' F' H' R g => h4 _ _ (h σ' F' H' R g)
    | rt r => exact fun v σ' F' H' R g k => h2 _ _ (h v σ' F' H' R g k)
def mNx : M Fl := fun ρ => .ok .nx ρ
def mSq (m n : M Fl) : M Fl := fun ρ => match m ρ with
  | .ok .nx ρ1 => n ρ1
  | .ok a ρ1 => .ok a ρ1
  | .err x ρ1 => .err x ρ1
  | .bad => .bad
section
variable {X : Cx} {ca : Ca} {W : WX}
theorem db_nil : DB X ca W [] mNx := pss_imp pss_nil fun D σ H ⟨F, ρ, R, p⟩ => p σ F H R Fm.refl
theorem db_cons {st : Stmt} {sts : List Stmt} {m n : M Fl} (h : DS X ca W st m) (k : DB X ca W sts n) : DB X ca W (st :: sts) (mSq m n) := pss_imp (pss_cons h k) fun D σ H ⟨F, ρ, R, p⟩ => by
  refine ⟨F, ρ, R, ?_⟩
  unfold mSq at p
  cases e1 : m ρ with
  | bad => rw [e1] at p; exact p
  | err x ρ1 => rw [e1] at p; exact p
  | ok a ρ1 =>
    rw [e1] at p
    cases a with
    | nx => exact fun σ' F' H' R' f => ⟨F', ρ1, R', PostS.from p f⟩
    | bk => exact p
    | ct => exact p
    | rt r => exact p
theorem db_one {st : Stmt} {m : M Fl} (h : DS X ca W st m) : DB X ca W [st] m := pss_imp (pss_one h) fun D σ H q => q
theorem ds_pass {pos : Pos} : DS X ca W (.Pass pos) mNx := ps_imp ps_pass fun D σ H ⟨F, ρ, R, p⟩ => p σ F H R Fm.refl
def mBk : M Fl := fun ρ => .ok .bk ρ
def mCt : M Fl := fun ρ => .ok .ct ρ
theorem ds_break {pos : Pos} : DS X ca W (.Break pos) mBk := ps_imp ps_break fun D σ H ⟨F, ρ, R, p⟩ => p σ F H R Fm.refl
theorem ds_continue {pos : Pos} : DS X ca W (.Continue pos) mCt := ps_imp ps_continue fun D σ H ⟨F, ρ, R, p⟩ => p σ F H R Fm.refl
/-- an expression as a statement -/
def mDo (m : M Rv) : M Fl := fun ρ => match m ρ with
  | .ok _ ρ1 => .ok .nx ρ1
  | .err x ρ1 => .err x ρ1
  | .bad => .bad
theorem ds_expr {e : Expr} {m : M Rv} {pos : Pos} (h : DE X ca W e m) (hs : swapsWith e none pos.line X.env = pure false) : DS X ca W (.Expr e pos) (mDo m) := ps_imp (ps_expr h hs) fun D σ H ⟨F, ρ, R, p⟩ => by
  refine ⟨F, ρ, R, ?_⟩
  unfold mDo at p
  cases e1 : m ρ with
  | bad => rw [e1] at p; exact p
  | err x ρ1 => rw [e1] at p; exact fun c d F1 H1 R1 f1 x1 => p c d σ F1 H1 R1 f1 x1
  | ok r ρ1 => rw [e1] at p; exact fun v F1 H1 R1 f1 k1 => p σ F1 H1 R1 f1
/-- return -/
def mRet (m : M Rv) : M Fl := fun ρ => match m ρ with
  | .ok (.val d) ρ1 => .ok (.rt (.val d)) ρ1
  | .ok (.own ds) ρ1 => .ok (.rt (.own ds)) ρ1
  | .ok (.loc i) ρ1 => match ρ1[i]? with
    | some (.val d) => .ok (.rt (.val d)) ρ1
    | some (.own ds) => .ok (.rt (.own ds)) (ρ1.set i .un)
    | _ => .bad
  | .err x ρ1 => .err x ρ1
  | .bad => .bad
theorem ds_ret {e : Expr} {m : M Rv} {pos : Pos} (h : DE X ca W e m) : DS X ca W (.Return (some e) pos) (mRet m) := ps_imp (ps_ret h) fun D σ H ⟨F, ρ, R, p⟩ => by
  refine ⟨F, ρ, R, ?_⟩
  unfold mRet at p
  cases e1 : m ρ with
  | bad => rw [e1] at p; exact p
  | err x ρ1 => rw [e1] at p; exact fun c d F1 H1 R1 f1 x1 => p c d σ F1 H1 R1 f1 x1
  | ok r ρ1 =>
    rw [e1] at p
    intro v F1 H1 R1 f1 k1
    cases r with
    | val d => exact p v σ F1 H1 R1 f1 k1
    | own ds => exact p v σ F1 H1 R1 f1 k1
    | loc i =>
      dsimp only at p
      have k1 : σ[i]? = some (some v) := k1
      cases q : ρ1[i]? with
      | none => rw [q] at p; exact p.elim
      | some s =>
        rw [q] at p
        cases s with
        | un => exact p.elim
        | exn => exact p.elim
        | bor ds => exact p.elim
        | val d =>
          obtain ⟨u, hu, k⟩ := R1.val i _ q
          rw [k1] at hu
          cases hu
          exact p v σ F1 H1 R1 f1 k
        | own ds =>
          obtain ⟨a, vs, hu, hf, hp, ha⟩ := R1.lst i _ ds q (.inl rfl)
          rw [k1] at hu
          cases hu
          have ow : Owned ρ1 σ a := ⟨i, _, ds, q, .inl rfl, k1⟩
          refine p _ σ F1 H1 R1.setUn ⟨f1.ex, f1.keep, f1.new, fun b z => f1.own b (owned_set not_lst_un z), fun j es z => ?_, f1.len⟩ ⟨a, vs, rfl, hf, hp, ha, ?_, f1.own a ow⟩
          · obtain ⟨z1, es', z2⟩ := f1.bor j es z
            refine ⟨z1, es', ?_⟩
            by_cases y : i = j
            · subst y
              rw [q] at z2
              cases z2
            · rw [List.getElem?_set_ne y]
              exact z2
          · intro ⟨j, t, es, h1, l, h2⟩
            rcases get_set h1 with ⟨rfl, z, _⟩ | ⟨ne, h1⟩
            · subst z
              exact not_lst_un _ l
            · exact ne (R1.inj i j _ t ds es a q (.inl rfl) h1 l k1 h2)
def mRetN : M Fl := fun ρ => .ok (.rt (.val .non)) ρ
theorem ds_retN {pos : Pos} : DS X ca W (.Return none pos) mRetN := ps_imp ps_retN fun D σ H ⟨F, ρ, R, p⟩ => p .non σ F H R Fm.refl .non
/-- if -/
def mIfS (c : M Bool) (m n : M Fl) : M Fl := fun ρ => match c ρ with
  | .ok b ρ1 => if b then m ρ1 else n ρ1
  | .err x ρ1 => .err x ρ1
  | .bad => .bad
theorem ds_if {c : Expr} {a b : List Stmt} {k : M Bool} {m n : M Fl} {pos : Pos} (hc : DT X ca W c k) (ha : DB X ca W a m) (hb : DB X ca W b n) : DS X ca W (.If c a b pos) (mIfS k m n) := ps_imp (ps_if hc ha hb) fun D σ H ⟨F, ρ, R, p⟩ => by
  refine ⟨F, ρ, R, ?_⟩
  unfold mIfS at p
  cases e1 : k ρ with
  | bad => rw [e1] at p; exact p
  | err x ρ1 => rw [e1] at p; exact fun c d F1 H1 R1 f1 x1 => p c d σ F1 H1 R1 f1 x1
  | ok b ρ1 =>
    rw [e1] at p
    intro v F1 H1 R1 f1 k1
    cases k1
    cases b with
    | true => exact ⟨F1, ρ1, R1, PostS.from p f1⟩
    | false => exact ⟨F1, ρ1, R1, PostS.from p f1⟩
/-! ### a name set -/
def isBor : Option Sl → Bool
  | some (.bor _) => true
  | _ => false
/-- a slot takes a frozen thing -/
theorem RelS.store {G : Gd} {ρ0 ρ : En} {σ0 σ : L2.St} {F0 H0 F H : Hp} {i : Nat} {v : V} {d : D} (R : RelS G ρ σ F H) (f : Fm ρ0 σ0 F0 H0 ρ σ F H) (nb : isBor ρ[i]? = false) (k : Dp G F v d) :
    RelS G (ρ.set i (.val d)) (σ.set i (some v)) F H ∧ Fm ρ0 σ0 F0 H0 (ρ.set i (.val d)) (σ.set i (some v)) F H := by
  have own : ∀ a, Owned (ρ.set i (.val d)) (σ.set i (some v)) a → Owned ρ σ a := fun a ⟨j, s, ds, h1, l, h2⟩ => by
    rcases get_set h1 with ⟨rfl, z, _⟩ | ⟨ne, h1⟩
    · subst z
      exact (not_lst_val _ l).elim
    · rw [List.getElem?_set_ne ne] at h2
      exact ⟨j, s, ds, h1, l, h2⟩
  refine ⟨⟨R.ex, by rw [List.length_set, List.length_set]; exact R.len, fun j e h => ?_, fun j s es h l => ?_, fun j k s t ds es p h1 l1 h2 l2 a1 a2 => ?_, R.pin, R.frz, fun j h => (by
    rcases get_set h with ⟨rfl, z, _⟩ | ⟨ne, h⟩
    · cases z
    · rw [List.getElem?_set_ne ne]; exact R.exn j h)⟩, ⟨f.ex, f.keep, f.new, fun a z => f.own a (own a z), fun j es z => ?_, by rw [List.length_set]; exact f.len⟩⟩
  · rcases get_set h with ⟨rfl, z, lt⟩ | ⟨ne, h⟩
    · cases z
      refine ⟨v, ?_, k⟩
      rw [List.getElem?_set]
      rw [R.len] at lt
      simp [lt]
    · obtain ⟨u, a, b⟩ := R.val j e h
      exact ⟨u, by rw [List.getElem?_set_ne ne]; exact a, b⟩
  · rcases get_set h with ⟨rfl, z, lt⟩ | ⟨ne, h⟩
    · subst z
      exact (not_lst_val _ l).elim
    · obtain ⟨p, vs, a, b⟩ := R.lst j s es h l
      exact ⟨p, vs, by rw [List.getElem?_set_ne ne]; exact a, b⟩
  · rcases get_set h1 with ⟨rfl, z, lt⟩ | ⟨n1, h1⟩
    · subst z
      exact (not_lst_val _ l1).elim
    rcases get_set h2 with ⟨rfl, z, lt⟩ | ⟨n2, h2⟩
    · subst z
      exact (not_lst_val _ l2).elim
    rw [List.getElem?_set_ne n1] at a1
    rw [List.getElem?_set_ne n2] at a2
    exact R.inj j k s t ds es p h1 l1 h2 l2 a1 a2
  · obtain ⟨z1, es', z2⟩ := f.bor j es z
    have ne : i ≠ j := fun y => by
      subst y
      rw [z2] at nb
      cases nb
    exact ⟨by rw [List.getElem?_set_ne ne]; exact z1, es', by rw [List.getElem?_set_ne ne]; exact z2⟩
/-- a slot takes a list of its own -/
theorem RelS.storeOwn {G : Gd} {ρ0 ρ : En} {σ0 σ : L2.St} {F0 H0 F H : Hp} {i : Nat} {p : Addr} {vs : List V} {ds : List D} (R : RelS G ρ σ F H) (f : Fm ρ0 σ0 F0 H0 ρ σ F H) (nb : isBor ρ[i]? = false) (hf : F p = none) (hp : H p = some (.lst vs)) (ha : DpAll G F vs ds) (no : ¬ Owned ρ σ p) (nw : Owned ρ0 σ0 p ∨ H0 p = none) :
    RelS G (ρ.set i (.own ds)) (σ.set i (some (.ref p))) F H ∧ Fm ρ0 σ0 F0 H0 (ρ.set i (.own ds)) (σ.set i (some (.ref p))) F H := by
  have gi : ∀ {s : Sl}, i < ρ.length → (σ.set i (some (V.ref p)))[i]? = some (some (V.ref p)) := fun {s} lt => by
    rw [List.getElem?_set]
    rw [R.len] at lt
    simp [lt]
  refine ⟨⟨R.ex, by rw [List.length_set, List.length_set]; exact R.len, fun j e h => ?_, fun j s es h l => ?_, fun j k s t as bs q h1 l1 h2 l2 a1 a2 => ?_, R.pin, R.frz, fun j h => (by
    rcases get_set h with ⟨rfl, z, _⟩ | ⟨ne, h⟩
    · cases z
    · rw [List.getElem?_set_ne ne]; exact R.exn j h)⟩, ⟨f.ex, f.keep, f.new, fun a z => ?_, fun j es z => ?_, by rw [List.length_set]; exact f.len⟩⟩
  · rcases get_set h with ⟨rfl, z, lt⟩ | ⟨ne, h⟩
    · cases z
    · obtain ⟨u, a, b⟩ := R.val j e h
      exact ⟨u, by rw [List.getElem?_set_ne ne]; exact a, b⟩
  · rcases get_set h with ⟨rfl, z, lt⟩ | ⟨ne, h⟩
    · subst z
      have : es = ds := by rcases l with l | l <;> cases l; rfl
      subst this
      exact ⟨p, vs, gi (s := .un) lt, hf, hp, ha⟩
    · obtain ⟨q, us, a, b⟩ := R.lst j s es h l
      exact ⟨q, us, by rw [List.getElem?_set_ne ne]; exact a, b⟩
  · rcases get_set h1 with ⟨rfl, z, lt⟩ | ⟨n1, h1⟩
    · rw [gi (s := .un) lt] at a1
      cases a1
      rcases get_set h2 with ⟨rfl, z2, lt2⟩ | ⟨n2, h2⟩
      · rfl
      · rw [List.getElem?_set_ne n2] at a2
        exact (no ⟨k, t, bs, h2, l2, a2⟩).elim
    · rw [List.getElem?_set_ne n1] at a1
      rcases get_set h2 with ⟨rfl, z2, lt2⟩ | ⟨n2, h2⟩
      · rw [gi (s := .un) lt2] at a2
        cases a2
        exact (no ⟨j, s, as, h1, l1, a1⟩).elim
      · rw [List.getElem?_set_ne n2] at a2
        exact R.inj j k s t as bs q h1 l1 h2 l2 a1 a2
  · obtain ⟨j, s, es, h1, l, h2⟩ := z
    rcases get_set h1 with ⟨rfl, z, lt⟩ | ⟨ne, h1⟩
    · rw [gi (s := .un) lt] at h2
      cases h2
      exact nw
    · rw [List.getElem?_set_ne ne] at h2
      exact f.own a ⟨j, s, es, h1, l, h2⟩
  · obtain ⟨z1, es', z2⟩ := f.bor j es z
    have ne : i ≠ j := fun y => by
      subst y
      rw [z2] at nb
      cases nb
    exact ⟨by rw [List.getElem?_set_ne ne]; exact z1, es', by rw [List.getElem?_set_ne ne]; exact z2⟩
def mSet (i : Nat) (m : M Rv) : M Fl := fun ρ => match m ρ with
  | .ok (.own ds) ρ1 => if isBor ρ1[i]? then .bad else .ok .nx (ρ1.set i (.own ds))
  | .ok r ρ1 => match esc ρ1 r with
    | some (d, ρ2) => if isBor ρ2[i]? then .bad else .ok .nx (ρ2.set i (.val d))
    | none => .bad
  | .err x ρ1 => .err x ρ1
  | .bad => .bad
theorem t_set {i : Nat} {m : M Rv} {D : Ends} {σ : L2.St} {H : Hp} (h : tS ⟨X.K, ca⟩ W (mSet i m) D σ H) : tAsg (tE ⟨X.K, ca⟩ W m) (gName i) D σ H := by
  obtain ⟨F, ρ, R, p⟩ := h
  refine ⟨F, ρ, R, ?_⟩
  unfold mSet at p
  cases e1 : m ρ with
  | bad => rw [e1] at p; exact p
  | err x ρ1 => rw [e1] at p; exact fun c d F1 H1 R1 f1 x1 => p c d σ F1 H1 R1 f1 x1
  | ok r ρ1 =>
    rw [e1] at p
    intro v F1 H1 R1 f1 k1
    have other : ∀ (p : PostS ⟨X.K, ca⟩ W ρ σ F H D (match esc ρ1 r with | some (d, ρ2) => if isBor ρ2[i]? then Res.bad else Res.ok Fl.nx (ρ2.set i (.val d)) | none => Res.bad)), D.nx (σ.set i (some v)) H1 := fun p => by
      cases q : esc ρ1 r with
      | none => rw [q] at p; exact p.elim
      | some y =>
        obtain ⟨d, ρ2⟩ := y
        rw [q] at p
        dsimp only at p
        split at p
        · exact p.elim
        · rename_i nb
          obtain ⟨F2, E2⟩ := esc_ok R1 f1 k1 q
          obtain ⟨R3, f3⟩ := E2.rel.store E2.fm (by simpa using nb) E2.dp
          exact p _ F2 H1 R3 f3
    cases r with
    | own ds =>
      dsimp only at p
      split at p
      · exact p.elim
      · rename_i nb
        obtain ⟨a, vs, rfl, hf, hp, ha, no, nw⟩ := k1
        obtain ⟨R3, f3⟩ := R1.storeOwn f1 (by simpa using nb) hf hp ha no nw
        exact p _ F1 H1 R3 f3
    | val d => exact other p
    | loc j => exact other p
theorem ds_set {i : Nat} {x : Str} {e : Expr} {m : M Rv} {pos pos' : Pos} (hN : X.N.Nodup) (hi : X.N[i]? = some x) (hx : Loc X.env.scope x) (he : DE X ca W e m) (hs : swapsWith e (some (.Name x pos')) pos.line X.env = pure false) (hf : X.fn x = true ∨ X.env.scope.names.lookup x = some .local) : DS X ca W (.Assign [.Name x pos'] e pos) (mSet i m) :=
  ps_imp (ps_set hN hi hx he hs hf) fun _ _ _ h => t_set h
end
end PM
set_option Elab.async false
set_option linter.all false
set_option maxRecDepth 100000
set_option maxHeartbeats 4000000
namespace PM
open PySem L2
open PySem.PyData (strOk)
/-! ### what a for walks -/
structure ItOk (G : Gd) (F0 : Hp) (J : It) (ds : List D) : Prop where
  stop : ∀ F H, Same F0 F → Same F H → J.stop ds.length H
  go : ∀ (i : Nat) (d : D) (F H : Hp), Same F0 F → Same F H → ds[i]? = some d → J.go i H ∧ ∀ x H', J.yld i H x H' → ∃ F', Grow F H F' H' ∧ Dp G F' x d
def RI (G : Gd) : En → Hp → En → L2.St → Hp → Hp → It → List D → Prop := fun _ _ _ _ F _ J ds => ItOk G F J ds
abbrev tI (G : Gd) (W : WX) (m : M (List D)) : TI := fun σ H R => ∃ F ρ, RelS G ρ σ F H ∧ Post G W (RI G) ρ σ F H R (m ρ)
def DI (X : Cx) (ca : Ca) (W : WX) (tg iter : Expr) (m : M (List D)) : Prop := PI X tg iter (tI ⟨X.K, ca⟩ W m)
/-- a target -/
def DG (X : Cx) (ca : Ca) (tg : Expr) (h : D → En → Option En) : Prop := ∃ t : TG, PG X tg t ∧ ∀ (d : D) (ρ ρ' : En) (v : V) (σ : L2.St) (F H : Hp) (Q : L2.St → Hp → Prop), RelS ⟨X.K, ca⟩ ρ σ F H → Dp ⟨X.K, ca⟩ F v d → h d ρ = some ρ' →
  (∀ σ', RelS ⟨X.K, ca⟩ ρ' σ' F H → Fm ρ σ F H ρ' σ' F H → Q σ' H) → t v σ H Q
def gNm (i : Nat) (d : D) (ρ : En) : Option En := if isBor ρ[i]? then none else some (ρ.set i (.val d))
section
variable {X : Cx} {ca : Ca} {W : WX}
theorem dg_name {i : Nat} {x : Str} {pos : Pos} (hN : X.N.Nodup) (hi : X.N[i]? = some x) (hx : Loc X.env.scope x) (hf : X.fn x = true ∨ X.env.scope.names.lookup x = some .local) : DG X ca (.Name x pos) (gNm i) :=
  ⟨gName i, pg_name hN hi hx hf, fun d ρ ρ' v σ F H Q R k e q => by
    unfold gNm at e
    split at e
    · cases e
    · rename_i nb
      cases e
      obtain ⟨R', f'⟩ := R.store Fm.refl (by simpa using nb) k
      exact q _ R' f'⟩
def gTp : List (D → En → Option En) → List D → En → Option En
  | [], [], ρ => some ρ
  | h :: hs, d :: ds, ρ => match h d ρ with
    | some ρ1 => gTp hs ds ρ1
    | none => none
  | _, _, _ => none
def gTu (hs : List (D → En → Option En)) : D → En → Option En
  | .tup ds, ρ => gTp hs ds ρ
  | _, _ => none
def DGs (X : Cx) (ca : Ca) (tgs : List Expr) (hs : List (D → En → Option En)) : Prop := ∃ t : TGs, PGs X tgs t ∧ hs.length = tgs.length ∧ ∀ (ds : List D) (ρ ρ' : En) (vs : List V) (σ : L2.St) (F H : Hp) (Q : L2.St → Hp → Prop), RelS ⟨X.K, ca⟩ ρ σ F H → DpAll ⟨X.K, ca⟩ F vs ds → gTp hs ds ρ = some ρ' →
  (∀ σ', RelS ⟨X.K, ca⟩ ρ' σ' F H → Fm ρ σ F H ρ' σ' F H → Q σ' H) → t vs σ H Q
theorem dgs_nil : DGs X ca [] [] := ⟨gNil, pgs_nil, rfl, fun ds ρ ρ' vs σ F H Q R k e q => by
  cases k with
  | nil => cases e; exact ⟨rfl, q σ R Fm.refl⟩
  | cons _ _ => cases e⟩
theorem dgs_cons {e : Expr} {es : List Expr} {h : D → En → Option En} {hs : List (D → En → Option En)} (a : DG X ca e h) (b : DGs X ca es hs) (hx : ∀ (t : TG) (u : TGs), PG X e t → PGs X es u → PGs X (e :: es) (gCons t u)) : DGs X ca (e :: es) (h :: hs) := by
  obtain ⟨t, pt, ht⟩ := a
  obtain ⟨u, pu, hl, hu⟩ := b
  refine ⟨gCons t u, hx t u pt pu, by simp [hl], fun ds ρ ρ' vs σ F H Q R k e q => ?_⟩
  cases k with
  | nil => cases e
  | cons k1 k2 =>
    unfold gTp at e
    split at e
    · rename_i ρ1 e1
      refine ⟨_, _, rfl, ht _ ρ ρ1 _ σ F H _ R k1 e1 fun σ1 R1 f1 => ?_⟩
      exact hu _ ρ1 ρ' _ σ1 F H _ R1 k2 e fun σ2 R2 f2 => q σ2 R2 (f1.trans f2)
    · cases e
theorem gTp_length : ∀ {hs : List (D → En → Option En)} {ds : List D} {ρ ρ' : En}, gTp hs ds ρ = some ρ' → ds.length = hs.length
  | [], [], _, _, _ => rfl
  | h :: hs, d :: ds, ρ, ρ', e => by
    unfold gTp at e
    split at e
    · simp [gTp_length e]
    · cases e
  | [], _ :: _, _, _, e => by cases e
  | _ :: _, [], _, _, e => by cases e
theorem dg_tup {es : List Expr} {k : Nat} {pos : Pos} {hs : List (D → En → Option En)} (a : DGs X ca es hs) (hx : ∀ (t : TGs), PGs X es t → PG X (.Tuple es k pos) (gTup X.K es.length t)) : DG X ca (.Tuple es k pos) (gTu hs) := by
  obtain ⟨t, pt, hl, ht⟩ := a
  refine ⟨gTup X.K es.length t, hx t pt, fun d ρ ρ' v σ F H Q R k e q => ?_⟩
  unfold gTu at e
  split at e
  · rename_i ds
    cases k with
    | tup hq r => exact ⟨_, _, rfl, sqT_same R.ex hq, by rw [r.length, gTp_length e, hl], ht ds ρ ρ' _ σ F H Q R r e q⟩
  · cases e
/-! ### for -/
def mLoop (h : D → En → Option En) (b : M Fl) : List D → M Fl
  | [], ρ => .ok .nx ρ
  | d :: ds, ρ => match h d ρ with
    | none => .bad
    | some ρ1 => match b ρ1 with
      | .ok .nx ρ2 => mLoop h b ds ρ2
      | .ok .ct ρ2 => mLoop h b ds ρ2
      | .ok .bk ρ2 => .ok .nx ρ2
      | .ok (.rt r) ρ2 => .ok (.rt r) ρ2
      | .err x ρ2 => .err x ρ2
      | .bad => .bad
def mFor (mi : M (List D)) (h : D → En → Option En) (b : M Fl) : M Fl := fun ρ => match mi ρ with
  | .ok ds ρ1 => mLoop h b ds ρ1
  | .err x ρ1 => .err x ρ1
  | .bad => .bad
theorem ds_for {tg iter : Expr} {body : List Stmt} {pos : Pos} {mi : M (List D)} {h : D → En → Option En} {b : M Fl} (hp : PassesOwn (model X.prog X.w) X.A X.env X.xe) (hc : X.calm = true) (hi : DI X ca W tg iter mi) (hg : DG X ca tg h) (hb : DB X ca W body b)
    (hx : ∀ (g : TG), PG X tg g → PS X (.For tg iter body [] pos) (tFor (tI ⟨X.K, ca⟩ W mi) g (tS ⟨X.K, ca⟩ W b))) : DS X ca W (.For tg iter body [] pos) (mFor mi h b) := by
  obtain ⟨t, pt, ht⟩ := hg
  refine ps_imp (hx t pt) fun D σ H ⟨F, ρ, R, p⟩ => ?_
  refine ⟨F, ρ, R, ?_⟩
  unfold mFor at p
  cases e1 : mi ρ with
  | bad => rw [e1] at p; exact p
  | err x ρ1 => rw [e1] at p; exact fun c d F1 H1 R1 f1 x1 => p c d σ F1 H1 R1 f1 x1
  | ok ds ρ1 =>
    rw [e1] at p
    intro J F1 H1 R1 f1 it
    dsimp only at p
    let N : Nat → L2.St → Hp → Prop := fun i σ' H' => ∃ F' ρ', RelS ⟨X.K, ca⟩ ρ' σ' F' H' ∧ Fm ρ σ F H ρ' σ' F' H' ∧ Same F1 F' ∧ PostS ⟨X.K, ca⟩ W ρ σ F H D (mLoop h b (ds.drop i) ρ')
    refine ⟨fun i m σ' H' => m + i = ds.length ∧ N i σ' H', ⟨ds.length, rfl, F1, ρ1, R1, f1, Same.refl _, p⟩, ?_⟩
    rintro i m σ' H' ⟨hm, F', ρ', R', f', s', p'⟩
    cases e2 : ds.drop i with
    | nil =>
      rw [e2] at p'
      have hi : i = ds.length := by
        have := List.drop_eq_nil_iff.mp e2
        omega
      subst hi
      exact .inl ⟨it.stop F' H' s' R'.ex, p' σ' F' H' R' f'⟩
    | cons d r =>
      rw [e2] at p'
      have hd : ds[i]? = some d := by
        have := congrArg List.head? e2
        rw [List.head?_drop] at this
        exact this
      have hr : ds.drop (i + 1) = r := by
        have := congrArg List.tail e2
        rw [List.tail_drop] at this
        exact this
      have lt : i < ds.length := (List.getElem?_eq_some_iff.mp hd).1
      obtain ⟨g1, g2⟩ := it.go i d F' H' s' R'.ex hd
      refine .inr ⟨g1, N (i + 1), fun σ2 H2 n => ⟨m - 1, by omega, by omega, n⟩, fun x H2 y => ?_⟩
      obtain ⟨F2, gr, kx⟩ := g2 x H2 y
      unfold mLoop at p'
      cases e3 : h d ρ' with
      | none => rw [e3] at p'; exact p'.elim
      | some ρ2 =>
        rw [e3] at p'
        dsimp only at p'
        refine ht d ρ' ρ2 x σ' F2 H2 _ (R'.grow gr) kx e3 fun σ3 R3 f3 => ?_
        have f4 := (f'.trans (Fm.grow gr)).trans f3
        refine ⟨F2, ρ2, R3, ?_⟩
        cases e4 : b ρ2 with
        | bad => rw [e4] at p'; exact p'
        | err x ρ3 => rw [e4] at p'; exact PostS.from (r := .err x ρ3) p' f4
        | ok a ρ3 =>
          rw [e4] at p'
          cases a with
          | nx =>
            intro σ5 F5 H5 R5 f5
            exact ⟨F5, ρ3, R5, f4.trans f5, (s'.trans gr.ff).trans f5.ex, by rw [hr]; exact p'⟩
          | ct =>
            intro σ5 F5 H5 R5 f5
            exact ⟨F5, ρ3, R5, f4.trans f5, (s'.trans gr.ff).trans f5.ex, by rw [hr]; exact p'⟩
          | bk => exact fun σ5 F5 H5 R5 f5 => p' σ5 F5 H5 R5 (f4.trans f5)
          | rt r => exact PostS.from (r := .ok (.rt r) ρ3) (D := D) p' f4
/-! ### while -/
def mWh (c : M Bool) (b : M Fl) : Nat → M Fl
  | 0, _ => .bad
  | n + 1, ρ => match c ρ with
    | .ok true ρ1 => match b ρ1 with
      | .ok .nx ρ2 => mWh c b n ρ2
      | .ok .ct ρ2 => mWh c b n ρ2
      | .ok .bk ρ2 => .ok .nx ρ2
      | .ok (.rt r) ρ2 => .ok (.rt r) ρ2
      | .err x ρ2 => .err x ρ2
      | .bad => .bad
    | .ok false ρ1 => .ok .nx ρ1
    | .err x ρ1 => .err x ρ1
    | .bad => .bad
theorem ds_while {c : Expr} {body : List Stmt} {pos : Pos} {mc : M Bool} {b : M Fl} (n : Nat) (hp : PassesOwn (model X.prog X.w) X.A X.env X.xe) (hc : DT X ca W c mc) (hb : DB X ca W body b) : DS X ca W (.While c body [] pos) (mWh mc b n) :=
  ps_imp (ps_while hp hc hb) fun D σ H ⟨F, ρ, R, p⟩ => by
    refine ⟨fun m σ' H' => ∃ F' ρ', RelS ⟨X.K, ca⟩ ρ' σ' F' H' ∧ Fm ρ σ F H ρ' σ' F' H' ∧ PostS ⟨X.K, ca⟩ W ρ σ F H D (mWh mc b m ρ'), ⟨n, F, ρ, R, Fm.refl, p⟩, ?_⟩
    rintro m σ' H' ⟨F', ρ', R', f', p'⟩
    refine ⟨F', ρ', R', ?_⟩
    cases m with
    | zero => exact p'.elim
    | succ m =>
      unfold mWh at p'
      cases e1 : mc ρ' with
      | bad => rw [e1] at p'; exact p'
      | err x ρ1 => rw [e1] at p'; exact fun c d F1 H1 R1 f1 x1 => p' c d σ' F1 H1 R1 (f'.trans f1) x1
      | ok a ρ1 =>
        rw [e1] at p'
        intro v F1 H1 R1 f1 k1
        cases k1
        have f2 := f'.trans f1
        cases a with
        | false => exact p' σ' F1 H1 R1 f2
        | true =>
          dsimp only at p'
          refine ⟨fun σ2 H2 => ∃ F2 ρ2, RelS ⟨X.K, ca⟩ ρ2 σ2 F2 H2 ∧ Fm ρ σ F H ρ2 σ2 F2 H2 ∧ PostS ⟨X.K, ca⟩ W ρ σ F H D (mWh mc b m ρ2), fun σ2 H2 n => ⟨m, Nat.lt_succ_self m, n⟩, F1, ρ1, R1, ?_⟩
          cases e4 : b ρ1 with
          | bad => rw [e4] at p'; exact p'
          | err x ρ3 => rw [e4] at p'; exact PostS.from (r := .err x ρ3) p' f2
          | ok a ρ3 =>
            rw [e4] at p'
            cases a with
            | nx => exact fun σ5 F5 H5 R5 f5 => ⟨F5, ρ3, R5, f2.trans f5, p'⟩
            | ct => exact fun σ5 F5 H5 R5 f5 => ⟨F5, ρ3, R5, f2.trans f5, p'⟩
            | bk => exact fun σ5 F5 H5 R5 f5 => p' σ5 F5 H5 R5 (f2.trans f5)
            | rt r => exact PostS.from (r := .ok (.rt r) ρ3) (D := D) p' f2
end
end PM
set_option Elab.async false
set_option linter.all false
set_option maxRecDepth 100000
set_option maxHeartbeats 4000000
namespace PM
open PySem L2
open PySem.PyData (strOk)
section
variable {X : Cx} {ca : Ca} {W : WX}
theorem pi_or {tg e : Expr} {w1 w2 : TI} (a : PI X tg e w1) (b : PI X tg e w2) : PI X tg e (fun σ H R => w1 σ H R ∨ w2 σ H R) := ⟨fun pins s σ H R I h => by
  rcases h with h | h
  · exact a.run pins s σ H R I h
  · exact b.run pins s σ H R I h⟩
theorem pi_imp {tg e : Expr} {w1 w2 : TI} (a : PI X tg e w1) (k : ∀ σ H R, w2 σ H R → w1 σ H R) : PI X tg e w2 := ⟨fun pins s σ H R I h => a.run pins s σ H R I (k _ _ _ h)⟩
def itemsD : D → Option (List D)
  | .lst xs => some xs
  | .tup xs => some xs
  | .str z => some (z.cps.toList.map fun c => .str ⟨#[c]⟩)
  | _ => none
def mSeq (m : M Rv) : M (List D) := fun ρ => match m ρ with
  | .ok r ρ1 => match esc ρ1 r with
    | some (d, ρ2) => match itemsD d with
      | some ds => .ok ds ρ2
      | none => .bad
    | none => .bad
  | .err x ρ1 => .err x ρ1
  | .bad => .bad
theorem it_list {G : Gd} {F : Hp} {a : Addr} {vs : List V} {ds : List D} (h : F a = some (.lst vs)) (r : DpAll G F vs ds) : ItOk G F (Itl G.K a) ds where
  stop := fun F1 H s t => ⟨vs, sqL_of (t _ _ (s _ _ h)), by rw [r.length]; exact Nat.le_refl _⟩
  go := fun i d F1 H s t e => by
    obtain ⟨v, ev, k⟩ := r.get e
    have q : SqL G.K H a vs := sqL_of (t _ _ (s _ _ h))
    refine ⟨⟨vs, v, q, ev⟩, fun x H' y => ?_⟩
    obtain ⟨rfl, y⟩ := y
    have z := y vs q
    rw [ev] at z
    cases z
    exact ⟨F1, Grow.refl t, dp_same s k⟩
theorem it_tup {G : Gd} {F : Hp} {a : Addr} {vs : List V} {ds : List D} (h : SqT G.K F a vs) (r : DpAll G F vs ds) : ItOk G F (Itt G.K a) ds where
  stop := fun F1 H s t => ⟨vs, sqT_same t (sqT_same s h), by rw [r.length]; exact Nat.le_refl _⟩
  go := fun i d F1 H s t e => by
    obtain ⟨v, ev, k⟩ := r.get e
    have q : SqT G.K H a vs := sqT_same t (sqT_same s h)
    refine ⟨⟨vs, v, q, ev⟩, fun x H' y => ?_⟩
    obtain ⟨rfl, y⟩ := y
    have z := y vs q
    rw [ev] at z
    cases z
    exact ⟨F1, Grow.refl t, dp_same s k⟩
theorem it_str {G : Gd} {F : Hp} {z : Str} (ok : strOk z = true) : ItOk G F (Its z) (z.cps.toList.map fun c => .str ⟨#[c]⟩) where
  stop := fun F1 H s t => by show z.cps.size ≤ _; simp
  go := fun i d F1 H s t e => by
    rw [List.getElem?_map] at e
    cases q : z.cps.toList[i]? with
    | none => rw [q] at e; cases e
    | some c =>
      rw [q] at e
      cases e
      have q' : z.cps[i]? = some c := by simpa using q
      refine ⟨?_, fun x H' y => ?_⟩
      · show i < z.cps.size
        exact (Array.getElem?_eq_some_iff.mp q').1
      · obtain ⟨rfl, c', e', rfl⟩ := y
        rw [q'] at e'
        cases e'
        exact ⟨F1, Grow.refl t, .str _ (strOk_of (xs := [c]) fun b m => by simp at m; subst m; exact strOk_mem ok (List.mem_of_getElem? q))⟩
theorem di_seq {tg e : Expr} {m : M Rv} (h : DE X ca W e m) : DI X ca W tg e (mSeq m) := pi_imp (pi_or (pi_list h) (pi_or (pi_tup h) (pi_str h))) fun σ H R0 ⟨F, ρ, R, p⟩ => by
  unfold mSeq at p
  cases e1 : m ρ with
  | bad => rw [e1] at p; exact p.elim
  | err x ρ1 =>
    rw [e1] at p
    exact .inl ⟨F, ρ, R, by rw [e1]; exact p⟩
  | ok r ρ1 =>
    rw [e1] at p
    dsimp only at p
    cases q : esc ρ1 r with
    | none => rw [q] at p; exact p.elim
    | some y =>
      obtain ⟨d, ρ2⟩ := y
      rw [q] at p
      dsimp only at p
      cases d with
      | lst xs =>
        refine .inl ⟨F, ρ, R, ?_⟩
        rw [e1]
        intro v F1 H1 R1 f1 k1
        obtain ⟨F2, E2⟩ := esc_ok R1 f1 k1 q
        have k := E2.dp
        cases k with
        | lst hl hr => exact ⟨_, rfl, ⟨_, sqL_of (E2.rel.ex _ _ hl)⟩, p _ F2 H1 E2.rel E2.fm (it_list hl hr)⟩
      | tup xs =>
        refine .inr (.inl ⟨F, ρ, R, ?_⟩)
        rw [e1]
        intro v F1 H1 R1 f1 k1
        obtain ⟨F2, E2⟩ := esc_ok R1 f1 k1 q
        have k := E2.dp
        cases k with
        | tup hl hr => exact ⟨_, rfl, ⟨_, sqT_same E2.rel.ex hl⟩, p _ F2 H1 E2.rel E2.fm (it_tup hl hr)⟩
      | str z =>
        refine .inr (.inr ⟨F, ρ, R, ?_⟩)
        rw [e1]
        intro v F1 H1 R1 f1 k1
        obtain ⟨F2, E2⟩ := esc_ok R1 f1 k1 q
        have k := E2.dp
        cases k with
        | str _ ok => exact ⟨z, rfl, p _ F2 H1 E2.rel E2.fm (it_str ok)⟩
      | non => exact p.elim
      | bl _ => exact p.elim
      | int _ => exact p.elim
      | obj _ _ _ => exact p.elim
      | scr _ => exact p.elim
/-! ### ranges -/
def rngD (lo : Int) (n : Nat) : List D := (List.range n).map fun (i : Nat) => D.int (lo + (i : Int))
theorem it_rng {G : Gd} {F : Hp} {lo : Int} {n : Nat} : ItOk G F (Itr lo n) (rngD lo n) where
  stop := fun F1 H s t => by show n ≤ _; simp [rngD]
  go := fun i d F1 H s t e => by
    unfold rngD at e
    rw [List.getElem?_map] at e
    cases q : (List.range n)[i]? with
    | none => rw [q] at e; cases e
    | some c =>
      rw [q] at e
      cases e
      have q' := List.getElem?_eq_some_iff.mp q
      obtain ⟨lt, ev⟩ := q'
      simp at lt ev
      subst ev
      exact ⟨lt, fun x H' y => by obtain ⟨rfl, rfl⟩ := y; exact ⟨F1, Grow.refl t, .int _⟩⟩
def mRng1 (m : M (List Rv)) : M (List D) := fun ρ => match m ρ with
  | .ok rs ρ1 => match derefs ρ1 rs with
    | some [.int j] => if -(2 ^ 62) ≤ j ∧ j < 2 ^ 62 then .ok (rngD 0 j.toNat) ρ1 else .bad
    | _ => .bad
  | .err x ρ1 => .err x ρ1
  | .bad => .bad
def mRng2 (m : M (List Rv)) : M (List D) := fun ρ => match m ρ with
  | .ok rs ρ1 => match derefs ρ1 rs with
    | some [.int i, .int j] => if (-(2 ^ 62) ≤ i ∧ i < 2 ^ 62 ∧ -(2 ^ 62) ≤ j ∧ j < 2 ^ 62) then .ok (rngD i (j - i).toNat) ρ1 else .bad
    | _ => .bad
  | .err x ρ1 => .err x ρ1
  | .bad => .bad
theorem di_range1 {tg a : Expr} {m : M (List Rv)} {p pos : Pos} (hg : Gl X "range") (hm : X.mg "range" = none) (ha : DA X ca W [a] m) (hs : starEach [a] X.env = [(false, eval a X.env)]) : DI X ca W tg (.Call (.Name "range" p) [a] [] pos) (mRng1 m) := pi_imp (pi_range1 hg hm ha hs) fun σ H R0 ⟨F, ρ, R, p⟩ => by
  refine ⟨F, ρ, R, ?_⟩
  unfold mRng1 at p
  cases e1 : m ρ with
  | bad => rw [e1] at p; exact p
  | err x ρ1 => rw [e1] at p; exact p
  | ok rs ρ1 =>
    rw [e1] at p
    intro vs F1 H1 R1 f1 k1
    dsimp only at p
    split at p
    · rename_i j q
      split at p
      · rename_i c
        have z := derefs_dq R1 k1 q
        cases z with
        | cons z t =>
          cases t
          cases z.int
          exact ⟨j, rfl, c.1, c.2, p _ F1 H1 R1 f1 it_rng⟩
      · exact p.elim
    · exact p.elim
theorem di_range2 {tg a b : Expr} {m : M (List Rv)} {p pos : Pos} (hg : Gl X "range") (hm : X.mg "range" = none) (ha : DA X ca W [a, b] m) (hs : starEach [a, b] X.env = [(false, eval a X.env), (false, eval b X.env)]) (hs2 : starEach [b] X.env = [(false, eval b X.env)]) : DI X ca W tg (.Call (.Name "range" p) [a, b] [] pos) (mRng2 m) := pi_imp (pi_range2 hg hm ha hs hs2) fun σ H R0 ⟨F, ρ, R, p⟩ => by
  refine ⟨F, ρ, R, ?_⟩
  unfold mRng2 at p
  cases e1 : m ρ with
  | bad => rw [e1] at p; exact p
  | err x ρ1 => rw [e1] at p; exact p
  | ok rs ρ1 =>
    rw [e1] at p
    intro vs F1 H1 R1 f1 k1
    dsimp only at p
    split at p
    · rename_i i j q
      split at p
      · rename_i c
        have z := derefs_dq R1 k1 q
        cases z with
        | cons z t =>
          cases t with
          | cons z2 t =>
            cases t
            cases z.int
            cases z2.int
            exact ⟨i, j, rfl, c, p _ F1 H1 R1 f1 it_rng⟩
      · exact p.elim
    · exact p.elim
/-! ### enumerate -/
def enumD (ds : List D) : List D := ds.zipIdx.map fun x => .tup [.int (x.2 : Nat), x.1]
theorem it_enum {G : Gd} {F : Hp} {a : Addr} {vs : List V} {ds : List D} (h : F a = some (.lst vs)) (r : DpAll G F vs ds) : ItOk G F (Ite G.K a) (enumD ds) where
  stop := fun F1 H s t => ⟨vs, sqL_of (t _ _ (s _ _ h)), by rw [r.length]; simp [enumD]⟩
  go := fun i d F1 H s t e => by
    unfold enumD at e
    rw [List.getElem?_map, List.getElem?_zipIdx] at e
    cases q : ds[i]? with
    | none => rw [q] at e; cases e
    | some d0 =>
      rw [q] at e
      simp at e
      subst e
      obtain ⟨v, ev, k⟩ := r.get q
      have q : SqL G.K H a vs := sqL_of (t _ _ (s _ _ h))
      refine ⟨⟨vs, v, q, ev⟩, fun x H' y => ?_⟩
      obtain ⟨T, x0, rfl, hT, rfl, y⟩ := y
      have z := y vs q
      rw [ev] at z
      cases z
      exact ⟨upd F1 T (.tup [.int (i : Nat), v]), Grow.lay t hT, .tup (.inl (.inl upd_same)) (.cons (.int _) (.cons (dp_same (s.trans (same_new (t.free hT))) k) .nil))⟩
def mEnum (m : M (List Rv)) : M (List D) := fun ρ => match m ρ with
  | .ok rs ρ1 => match escs ρ1 rs with
    | some ([.lst xs], ρ2) => .ok (enumD xs) ρ2
    | _ => .bad
  | .err x ρ1 => .err x ρ1
  | .bad => .bad
theorem di_enum {e : Expr} {m : M (List Rv)} {p pos tpos : Pos} {elts : List Expr} {kk : Nat} (hg : Gl X "enumerate") (hm : X.mg "enumerate" = none) (ha : DA X ca W [e] m) (hs : starEach [e] X.env = [(false, eval e X.env)]) : DI X ca W (.Tuple elts kk tpos) (.Call (.Name "enumerate" p) [e] [] pos) (mEnum m) := pi_imp (pi_enum hg hm ha hs) fun σ H R0 ⟨F, ρ, R, p⟩ => by
  refine ⟨F, ρ, R, ?_⟩
  unfold mEnum at p
  cases e1 : m ρ with
  | bad => rw [e1] at p; exact p
  | err x ρ1 => rw [e1] at p; exact p
  | ok rs ρ1 =>
    rw [e1] at p
    intro vs F1 H1 R1 f1 k1
    dsimp only at p
    split at p
    · rename_i xs ρ2 q
      obtain ⟨F2, R2, f2, k2, s2⟩ := escs_ok R1 f1 k1 q
      cases k2 with
      | cons k t =>
        cases t
        cases k with
        | lst hl hr => exact ⟨_, _, rfl, sqL_of (R2.ex _ _ hl), p _ F2 H1 R2 f2 (it_enum hl hr)⟩
    · exact p.elim
end
end PM
set_option Elab.async false
set_option linter.all false
set_option maxRecDepth 100000
set_option maxHeartbeats 4000000
namespace PM
open PySem L2
open PySem.PyData (strOk)
/-! ### defs -/
def ArgsOk (as : En) : Prop := ∀ s ∈ as, (∃ d, s = .val d) ∨ ∃ ds, s = .bor ds
abbrev WF (E : XK) : WX := fun cls d _ H => E cls d H
def spF (G : Gd) (f : M Rv) : Sp := fun vs H Q E => ∃ F as, RelS G as (vs.map some) F H ∧ ArgsOk as ∧ Post G (WF E) (RvR G) as (vs.map some) F H Q (f as)
def outs : En → En → En
  | [], _ => []
  | .bor _ :: as, r :: rs => r :: outs as rs
  | a :: as, _ :: rs => a :: outs as rs
  | as, [] => as
def fnOf (np nt : Nat) (b : M Fl) : M Rv := fun as => if as.length = np then match b (as ++ List.replicate (nt - np) .un) with
  | .ok (.rt (.val d)) ρ => .ok (.val d) (outs as ρ)
  | .ok (.rt (.own ds)) ρ => .ok (.own ds) (outs as ρ)
  | .ok .nx ρ => .ok (.val .non) (outs as ρ)
  | .err x ρ => .err x (outs as ρ)
  | _ => .bad
  else .bad
theorem outs_length : ∀ (as ρ : En), (outs as ρ).length = as.length
  | [], _ => by simp [outs]
  | .bor _ :: as, r :: rs => by simp [outs, outs_length as rs]
  | .val _ :: as, _ :: rs => by simp [outs, outs_length as rs]
  | .own _ :: as, _ :: rs => by simp [outs, outs_length as rs]
  | .un :: as, _ :: rs => by simp [outs, outs_length as rs]
  | .exn :: as, _ :: rs => by simp [outs, outs_length as rs]
  | a :: as, [] => by cases a <;> simp [outs]
theorem outs_get : ∀ (as ρ : En) (i : Nat), as.length ≤ ρ.length → (outs as ρ)[i]? = match as[i]? with | some (.bor _) => ρ[i]? | x => x
  | [], _, i, _ => by simp [outs]
  | a :: as, [], i, h => by simp at h
  | a :: as, r :: rs, 0, h => by cases a <;> simp [outs]
  | a :: as, r :: rs, i + 1, h => by
    have q := outs_get as rs i (by simpa using h)
    cases a <;> simpa [outs] using q
section
variable {G : Gd}
theorem not_owned_un {ρ : En} {σ : L2.St} {a : Addr} {n : Nat} {rest : L2.St} (hl : ρ.length = σ.length) (h : Owned (ρ ++ List.replicate n .un) (σ ++ rest) a) : Owned ρ σ a := by
  obtain ⟨i, s, ds, e1, l, e2⟩ := h
  by_cases c : i < ρ.length
  · rw [List.getElem?_append_left c] at e1
    rw [List.getElem?_append_left (by omega)] at e2
    exact ⟨i, s, ds, e1, l, e2⟩
  · rw [List.getElem?_append_right (by omega)] at e1
    have := List.mem_of_getElem? e1
    rw [List.mem_replicate] at this
    rw [this.2] at l
    exact (not_lst_un _ l).elim
theorem owned_app {ρ τ : En} {σ rest : L2.St} {a : Addr} (h : Owned ρ σ a) : Owned (ρ ++ τ) (σ ++ rest) a := by
  obtain ⟨i, s, ds, e1, l, e2⟩ := h
  exact ⟨i, s, ds, by rw [List.getElem?_append_left (List.getElem?_eq_some_iff.mp e1).1]; exact e1, l, by rw [List.getElem?_append_left (List.getElem?_eq_some_iff.mp e2).1]; exact e2⟩
theorem rel_start {as : En} {vs : List V} {F H : Hp} {n : Nat} (R : RelS G as (vs.map some) F H) : RelS G (as ++ List.replicate n .un) (vs.map some ++ List.replicate n none) F H where
  ex := R.ex
  len := by simp; have := R.len; simpa using this
  val := fun i d h => by
    by_cases c : i < as.length
    · rw [List.getElem?_append_left c] at h
      obtain ⟨v, e, k⟩ := R.val i d h
      exact ⟨v, by rw [List.getElem?_append_left (List.getElem?_eq_some_iff.mp e).1]; exact e, k⟩
    · rw [List.getElem?_append_right (by omega)] at h
      have := List.mem_of_getElem? h
      rw [List.mem_replicate] at this
      cases this.2
  lst := fun i s ds h l => by
    by_cases c : i < as.length
    · rw [List.getElem?_append_left c] at h
      obtain ⟨p, us, e, k⟩ := R.lst i s ds h l
      exact ⟨p, us, by rw [List.getElem?_append_left (List.getElem?_eq_some_iff.mp e).1]; exact e, k⟩
    · rw [List.getElem?_append_right (by omega)] at h
      have := List.mem_of_getElem? h
      rw [List.mem_replicate] at this
      rw [this.2] at l
      exact (not_lst_un _ l).elim
  inj := fun i j s t ds es p h1 l1 h2 l2 a1 a2 => by
    have low : ∀ (k : Nat) (s : Sl) (ds : List D), (as ++ List.replicate n Sl.un)[k]? = some s → Lst s ds → k < as.length := fun k s ds h l => by
      by_cases c : k < as.length
      · exact c
      · rw [List.getElem?_append_right (by omega)] at h
        have := List.mem_of_getElem? h
        rw [List.mem_replicate] at this
        rw [this.2] at l
        exact (not_lst_un _ l).elim
    have c1 := low i s ds h1 l1
    have c2 := low j t es h2 l2
    have hl : as.length = (vs.map some).length := R.len
    rw [List.getElem?_append_left c1] at h1
    rw [List.getElem?_append_left c2] at h2
    rw [List.getElem?_append_left (by omega)] at a1
    rw [List.getElem?_append_left (by omega)] at a2
    exact R.inj i j s t ds es p h1 l1 h2 l2 a1 a2
  pin := R.pin
  frz := R.frz
  exn := fun i h => by
    by_cases c : i < as.length
    · rw [List.getElem?_append_left c] at h
      have e := R.exn i h
      rw [List.getElem?_append_left (List.getElem?_eq_some_iff.mp e).1]
      exact e
    · rw [List.getElem?_append_right (by omega)] at h
      have := List.mem_of_getElem? h
      rw [List.mem_replicate] at this
      cases this.2
/-- what the def's end is to its caller -/
theorem end_outs {as ρ' : En} {vs : List V} {σ' : L2.St} {F H F' H' : Hp} {n : Nat} (ok : ArgsOk as) (R : RelS G as (vs.map some) F H) (R' : RelS G ρ' σ' F' H') (f : Fm (as ++ List.replicate n .un) (vs.map some ++ List.replicate n none) F H ρ' σ' F' H') :
    RelS G (outs as ρ') (vs.map some) F' H' ∧ Fm as (vs.map some) F H (outs as ρ') (vs.map some) F' H' ∧ ∀ a, Owned (outs as ρ') (vs.map some) a → Owned ρ' σ' a := by
  have hlen : as.length = (vs.map some).length := R.len
  have hl : as.length ≤ ρ'.length := by
    have a1 := R'.len
    have a2 := f.len
    simp at a2 hlen
    omega
  have key : ∀ (i : Nat) (s : Sl) (ds : List D), (outs as ρ')[i]? = some s → Lst s ds → (∃ es, as[i]? = some (.bor es)) ∧ ρ'[i]? = some s ∧ σ'[i]? = (vs.map some)[i]? := fun i s ds h l => by
    rw [outs_get as ρ' i hl] at h
    cases q : as[i]? with
    | none => rw [q] at h; cases h
    | some t =>
      rcases ok t (List.mem_of_getElem? q) with ⟨d, rfl⟩ | ⟨es, rfl⟩
      · rw [q] at h
        cases h
        exact (not_lst_val _ l).elim
      · rw [q] at h
        have lt := (List.getElem?_eq_some_iff.mp q).1
        obtain ⟨z, _⟩ := f.bor i es (by rw [List.getElem?_append_left lt]; exact q)
        rw [List.getElem?_append_left (by omega)] at z
        exact ⟨⟨es, rfl⟩, h, z⟩
  have ow : ∀ a, Owned (outs as ρ') (vs.map some) a → Owned ρ' σ' a ∧ Owned as (vs.map some) a := fun a ⟨i, s, ds, h, l, e⟩ => by
    obtain ⟨⟨es, q⟩, h1, h2⟩ := key i s ds h l
    exact ⟨⟨i, s, ds, h1, l, by rw [h2]; exact e⟩, ⟨i, _, es, q, .inr rfl, e⟩⟩
  refine ⟨⟨R'.ex, by rw [outs_length]; exact hlen, fun i d h => ?_, fun i s ds h l => ?_, fun i j s t ds es p h1 l1 h2 l2 a1 a2 => ?_, R'.pin, R.frz.trans f.ex, fun i h => ?e⟩, ⟨f.ex, fun a o h n => f.keep a o h fun z => n (not_owned_un hlen z), fun a o h n => ?_, fun a h => .inl (ow a h).2, fun i ds h => ⟨rfl, ?_⟩, rfl⟩, fun a h => (ow a h).1⟩
  case e =>
    rw [outs_get as ρ' i hl] at h
    cases q : as[i]? with
    | none => rw [q] at h; cases h
    | some t =>
      rcases ok t (List.mem_of_getElem? q) with ⟨d', rfl⟩ | ⟨es, rfl⟩
      · rw [q] at h
        cases h
      · have lt := (List.getElem?_eq_some_iff.mp q).1
        obtain ⟨_, ds', z⟩ := f.bor i es (by rw [List.getElem?_append_left lt]; exact q)
        rw [q] at h
        dsimp only at h
        rw [z] at h
        cases h
  · rw [outs_get as ρ' i hl] at h
    cases q : as[i]? with
    | none => rw [q] at h; cases h
    | some t =>
      rcases ok t (List.mem_of_getElem? q) with ⟨d', rfl⟩ | ⟨es, rfl⟩
      · rw [q] at h
        cases h
        obtain ⟨v, e, k⟩ := R.val i _ q
        exact ⟨v, e, dp_same f.ex k⟩
      · have lt := (List.getElem?_eq_some_iff.mp q).1
        obtain ⟨_, ds', z⟩ := f.bor i es (by rw [List.getElem?_append_left lt]; exact q)
        rw [q] at h
        dsimp only at h
        rw [z] at h
        cases h
  · obtain ⟨_, h1, h2⟩ := key i s ds h l
    obtain ⟨p, us, e, k⟩ := R'.lst i s ds h1 l
    exact ⟨p, us, by rw [← h2]; exact e, k⟩
  · obtain ⟨_, b1, b2⟩ := key i s ds h1 l1
    obtain ⟨_, b3, b4⟩ := key j t es h2 l2
    exact R'.inj i j s t ds es p b1 l1 b3 l2 (by rw [b2]; exact a1) (by rw [b4]; exact a2)
  · rcases f.new a o h n with z | z
    · exact .inl (not_owned_un hlen z)
    · exact .inr z
  · have lt := (List.getElem?_eq_some_iff.mp h).1
    obtain ⟨_, ds', z⟩ := f.bor i ds (by rw [List.getElem?_append_left lt]; exact h)
    refine ⟨ds', ?_⟩
    rw [outs_get as ρ' i hl, h]
    exact z
end
section
variable {P : Program} {w : World} {K : PySem.W.Frag} {mg : Str → Option Value} {base : Heap}
theorem body_post {G : Gd} {E : XK} {N : List Str} {np : Nat} {b : M Fl} {vs : List V} {H : Hp} {Q : VK} (h : spF G (fnOf np N.length b) vs H Q E) : vs.length = np ∧ tS G (WF E) b { nx := fun _ H' => Q .non H', rt := Q } (L2.start N vs) H := by
  obtain ⟨F, as, R, ok, p⟩ := h
  unfold fnOf at p
  split at p
  · rename_i hl
    have hv : vs.length = np := by
      have := R.len
      simp at this
      omega
    refine ⟨hv, F, as ++ List.replicate (N.length - np) .un, ?_, ?_⟩
    · unfold L2.start
      rw [hv]
      exact rel_start R
    · have hs : L2.start N vs = vs.map some ++ List.replicate (N.length - np) none := by unfold L2.start; rw [hv]
      rw [hs]
      cases e : b (as ++ List.replicate (N.length - np) .un) with
      | bad => rw [e] at p; exact p
      | err x ρ' =>
        rw [e] at p
        intro cls d σ' F' H' R' f x'
        obtain ⟨a1, a2, a3⟩ := end_outs ok R R' f
        exact p cls d F' H' a1 a2 x'
      | ok a ρ' =>
        rw [e] at p
        cases a with
        | bk => exact p.elim
        | ct => exact p.elim
        | nx =>
          intro σ' F' H' R' f
          obtain ⟨a1, a2, a3⟩ := end_outs ok R R' f
          exact p .non F' H' a1 a2 .non
        | rt r =>
          cases r with
          | loc i => exact p.elim
          | val d =>
            intro v σ' F' H' R' f k
            obtain ⟨a1, a2, a3⟩ := end_outs ok R R' f
            exact p v F' H' a1 a2 k
          | own ds =>
            intro v σ' F' H' R' f k
            obtain ⟨a1, a2, a3⟩ := end_outs ok R R' f
            obtain ⟨q, us, rfl, hf, hp, ha, no, nw⟩ := k
            refine p _ F' H' a1 a2 ⟨q, us, rfl, hf, hp, ha, fun z => no (a3 q z), ?_⟩
            rcases nw with z | z
            · exact .inl (not_owned_un R.len z)
            · exact .inr z
  · exact p.elim
end
/-! ### calls -/
section
variable {X : Cx} {ca : Ca} {W : WX}
def vals : List D → En := List.map Sl.val
theorem rel_vals {G : Gd} {F H : Hp} {vs : List V} {ds : List D} (s : Same F H) (pn : Same G.ca.pin H) (pf : Same G.ca.frz F) (h : DpAll G F vs ds) : RelS G (vals ds) (vs.map some) F H where
  ex := s
  len := by simp [vals, h.length]
  val := fun i d e => by
    unfold vals at e
    rw [List.getElem?_map] at e
    cases q : ds[i]? with
    | none => rw [q] at e; cases e
    | some d' =>
      rw [q] at e
      cases e
      obtain ⟨v, a, b⟩ := h.get q
      exact ⟨v, by rw [List.getElem?_map, a]; rfl, b⟩
  lst := fun i s ds' e l => by
    unfold vals at e
    rw [List.getElem?_map] at e
    cases q : ds[i]? with
    | none => rw [q] at e; cases e
    | some d' =>
      rw [q] at e
      cases e
      exact (not_lst_val _ l).elim
  inj := fun i j s t ds' es p e l => by
    unfold vals at e
    rw [List.getElem?_map] at e
    cases q : ds[i]? with
    | none => rw [q] at e; cases e
    | some d' =>
      rw [q] at e
      cases e
      exact (not_lst_val _ l).elim
  pin := pn
  frz := pf
  exn := fun i e => by
    unfold vals at e
    rw [List.getElem?_map] at e
    cases q : ds[i]? with
    | none => rw [q] at e; cases e
    | some d' => rw [q] at e; cases e
theorem vals_not_owned {ds : List D} {σ : L2.St} {a : Addr} (h : Owned (vals ds) σ a) : False := by
  obtain ⟨i, s, es, e, l, _⟩ := h
  unfold vals at e
  rw [List.getElem?_map] at e
  cases q : ds[i]? with
  | none => rw [q] at e; cases e
  | some d' =>
    rw [q] at e
    cases e
    exact not_lst_val _ l
theorem vals_ok (ds : List D) : ArgsOk (vals ds) := fun s m => by
  unfold vals at m
  obtain ⟨d, _, rfl⟩ := List.mem_map.mp m
  exact .inl ⟨d, rfl⟩
/-- a call whose arguments are all handed over -/
def mCallV (f : M Rv) (m : M (List Rv)) : M Rv := fun ρ => match m ρ with
  | .ok rs ρ1 => match escs ρ1 rs with
    | some (ds, ρ2) => match f (vals ds) with
      | .ok (.val d) _ => .ok (.val d) ρ2
      | .ok (.own es) _ => .ok (.own es) ρ2
      | .err x _ => .err x ρ2
      | _ => .bad
    | none => .bad
  | .err x ρ1 => .err x ρ1
  | .bad => .bad
/-- a callee that was lent nothing leaves a growth -/
theorem grow_of_call {G : Gd} {ds : List D} {as' : En} {vs : List V} {F H F' H' : Hp} (R' : RelS G as' (vs.map some) F' H') (f : Fm (vals ds) (vs.map some) F H as' (vs.map some) F' H') : Grow F H F' H' where
  ff := f.ex
  fh := R'.ex
  hh := fun a o h => f.keep a o h vals_not_owned
  new := fun a o h n => by
    rcases f.new a o h n with z | z
    · exact (vals_not_owned z).elim
    · exact z
theorem t_callV {f : M Rv} {m : M (List Rv)} {σ : L2.St} {H : Hp} {Q : VK} (h : tE ⟨X.K, ca⟩ W (mCallV f m) σ H Q) : tCallS (spF ⟨X.K, ca⟩ f) (WE W) (tAr ⟨X.K, ca⟩ W m) σ H Q := by
  obtain ⟨F, ρ, R, p⟩ := h
  refine ⟨F, ρ, R, ?_⟩
  unfold mCallV at p
  cases e1 : m ρ with
  | bad => rw [e1] at p; exact p
  | err x ρ1 => rw [e1] at p; exact p
  | ok rs ρ1 =>
    rw [e1] at p
    intro vs F1 H1 R1 f1 k1
    dsimp only at p
    cases q : escs ρ1 rs with
    | none => rw [q] at p; exact p.elim
    | some y =>
      obtain ⟨ds, ρ2⟩ := y
      rw [q] at p
      dsimp only at p
      obtain ⟨F2, R2, f2, k2, s2⟩ := escs_ok R1 f1 k1 q
      refine ⟨F2, vals ds, rel_vals R2.ex R2.pin R2.frz k2, vals_ok ds, ?_⟩
      cases e2 : f (vals ds) with
      | bad => rw [e2] at p; exact p
      | err x as' =>
        rw [e2] at p
        intro c d F3 H3 R3 f3 x3
        have g := grow_of_call R3 f3
        exact p c d F3 H3 (R2.grow g) (f2.trans (Fm.grow g)) x3
      | ok r as' =>
        rw [e2] at p
        intro v F3 H3 R3 f3 k3
        have g := grow_of_call R3 f3
        cases r with
        | loc i => exact p.elim
        | val d => exact p v F3 H3 (R2.grow g) (f2.trans (Fm.grow g)) k3
        | own es =>
          obtain ⟨a, us, rfl, hf, hp, ha, no, nw⟩ := k3
          have hn : H1 a = none := by
            rcases nw with z | z
            · exact (vals_not_owned z).elim
            · exact z
          refine p _ F3 H3 (R2.grow g) (f2.trans (Fm.grow g)) ⟨a, us, rfl, hf, hp, ha, fun ⟨i, s, fs, h1, l, h2⟩ => ?_, f2.dead hn⟩
          obtain ⟨a', us', e', _, hp', _⟩ := R2.lst i s fs h1 l
          rw [h2] at e'
          cases e'
          rw [hn] at hp'
          cases hp'
theorem de_callV {k : Nat} {fa : Addr} {fd : FuncData} {ps : List Str} {f : M Rv} {x : Str} {p pos : Pos} {e : Expr} {es : List Expr} {m : M (List Rv)} (tk : Takes X W) (Fo : FnOk X.prog X.w X.K X.mg X.base (L2.CX X.prog X.w) k fa fd ps (spF ⟨X.K, ca⟩ f)) (hr : Room k X.A) (hg : Gl X x) (hm : X.mg x = some (.ref fa)) (hk : PySem.W.keepIn X.K (.ref fa) = true) (hb : Binds X.K fd ps [])
    (ha : DA X ca W (e :: es) m) (hdb : (x == ("__debug__" : Str)) = false) (he : starEach (e :: es) X.env = (false, eval e X.env) :: starEach es X.env) (hpl : (backTo pos (starEach es X.env)).any (·.1) = false) : DE X ca W (.Call (.Name x p) (e :: es) [] pos) (mCallV f m) :=
  pe_imp (pe_callS Fo hr hg hm hk hb (fun σ => passAt tk σ) ha hdb he hpl) fun _ _ _ h => t_callV h
end
end PM
set_option Elab.async false
set_option linter.all false
set_option maxRecDepth 100000
set_option maxHeartbeats 4000000
namespace PM
open PySem L2
open PySem.PyData (strOk)
theorem putSl_ne_val {s : Sl} {ds es : List D} (l : Lst s ds) {d : D} : putSl s es ≠ .val d := by
  rcases l with rfl | rfl <;> intro h <;> cases h
theorem putSl_lst {s : Sl} {ds es fs : List D} (l : Lst s ds) (k : Lst (putSl s es) fs) : fs = es := by
  rcases l with rfl | rfl <;> rcases k with k | k <;> cases k <;> rfl
/-- a list was lent, and came back changed -/
theorem RelS.lend {G : Gd} {ρ : En} {σ : L2.St} {F H F' H' : Hp} {j : Nat} {s : Sl} {a : Addr} {xs ys : List D} {us : List V} (R : RelS G ρ σ F H) (hs : ρ[j]? = some s) (l : Lst s xs) (hp : σ[j]? = some (some (.ref a))) (ff : Same F F') (fh : Same F' H') (keep : ∀ b o, H b = some o → b ≠ a → H' b = some o)
    (new : ∀ b o, F' b = some o → F b = none → b = a ∨ H b = none) (hf : F' a = none) (hH : H' a = some (.lst us)) (ha : DpAll G F' us ys) (pn : Same G.ca.pin H') : RelS G (ρ.set j (putSl s ys)) σ F' H' ∧ Fm ρ σ F H (ρ.set j (putSl s ys)) σ F' H' := by
  have ow : Owned ρ σ a := ⟨j, s, xs, hs, l, hp⟩
  refine ⟨⟨fh, by rw [List.length_set]; exact R.len, fun i d h => ?_, fun i t fs h k => ?_, fun i k t u fs gs q h1 l1 h2 l2 => ?_, pn, R.frz.trans ff, fun i h => ?e⟩, ⟨ff, fun b o h n => keep b o h fun z => n (by rw [z]; exact ow), fun b o h n => ?_, fun b h => ?_, fun i fs h => ⟨rfl, ?_⟩, rfl⟩⟩
  case e =>
    rcases get_set h with ⟨rfl, z, _⟩ | ⟨_, h⟩
    · exact (putSl_exn l z.symm).elim
    · exact R.exn i h
  · rcases get_set h with ⟨rfl, z, _⟩ | ⟨_, h⟩
    · exact (putSl_ne_val l z.symm).elim
    · obtain ⟨v, e, k⟩ := R.val i d h
      exact ⟨v, e, dp_same ff k⟩
  · rcases get_set h with ⟨rfl, z, _⟩ | ⟨ne, h⟩
    · subst z
      have := putSl_lst l k
      subst this
      exact ⟨a, us, hp, hf, hH, ha⟩
    · obtain ⟨q, ws, e, qf, qp, qa⟩ := R.lst i t fs h k
      have nq : q ≠ a := fun z => by
        subst z
        exact ne (R.inj j i s t xs fs q hs l h k hp e)
      refine ⟨q, ws, e, ?_, keep q _ qp nq, dpAll_same ff qa⟩
      cases y : F' q with
      | none => rfl
      | some o =>
        rcases new q o y qf with z | z
        · exact (nq z).elim
        · rw [qp] at z
          cases z
  · have c1 : ∃ s1 d1, ρ[i]? = some s1 ∧ Lst s1 d1 := by
      rcases get_set h1 with ⟨rfl, z, _⟩ | ⟨_, h1⟩
      · exact ⟨s, xs, hs, l⟩
      · exact ⟨t, fs, h1, l1⟩
    have c2 : ∃ s1 d1, ρ[k]? = some s1 ∧ Lst s1 d1 := by
      rcases get_set h2 with ⟨rfl, z, _⟩ | ⟨_, h2⟩
      · exact ⟨s, xs, hs, l⟩
      · exact ⟨u, gs, h2, l2⟩
    obtain ⟨s1, d1, a1, b1⟩ := c1
    obtain ⟨s2, d2, a2, b2⟩ := c2
    exact R.inj i k s1 s2 d1 d2 q a1 b1 a2 b2
  · rcases new b o h n with z | z
    · exact .inl (by rw [z]; exact ow)
    · exact .inr z
  · obtain ⟨i, t, fs, h1, k, h2⟩ := h
    rcases get_set h1 with ⟨rfl, z, _⟩ | ⟨_, h1⟩
    · rw [hp] at h2
      cases h2
      exact .inl ow
    · exact .inl ⟨i, t, fs, h1, k, h2⟩
  · by_cases z : j = i
    · subst z
      rw [hs] at h
      cases h
      exact ⟨ys, set_get hs⟩
    · exact ⟨fs, by rw [List.getElem?_set_ne z]; exact h⟩
theorem rel_bor {G : Gd} {F H : Hp} {a : Addr} {us vs : List V} {xs ds : List D} (s : Same F H) (pn : Same G.ca.pin H) (pf : Same G.ca.frz F) (hf : F a = none) (hH : H a = some (.lst us)) (ha : DpAll G F us xs) (h : DpAll G F vs ds) : RelS G (.bor xs :: vals ds) ((V.ref a :: vs).map some) F H where
  ex := s
  len := by simp [vals, h.length]
  val := fun i d e => by
    cases i with
    | zero => cases e
    | succ i => exact (rel_vals s pn pf h).val i d e
  lst := fun i t es e l => by
    cases i with
    | zero =>
      cases e
      rcases l with l | l <;> cases l
      exact ⟨a, us, rfl, hf, hH, ha⟩
    | succ i => exact (rel_vals s pn pf h).lst i t es e l
  inj := fun i j t u es fs p e1 l1 e2 l2 a1 a2 => by
    have no : ∀ (k : Nat) (t : Sl) (es : List D), (Sl.bor xs :: vals ds)[k]? = some t → Lst t es → k = 0 := fun k t es e l => by
      cases k with
      | zero => rfl
      | succ k =>
        obtain ⟨_, _, _, q, _⟩ := (rel_vals s pn pf h).lst k t es e l
        exfalso
        have : Owned (vals ds) (vs.map some) a → False := vals_not_owned
        have e' : (vals ds)[k]? = some t := e
        unfold vals at e'
        rw [List.getElem?_map] at e'
        cases q : ds[k]? with
        | none => rw [q] at e'; cases e'
        | some d' => rw [q] at e'; cases e'; exact not_lst_val _ l
    rw [no i t es e1 l1, no j u fs e2 l2]
  pin := pn
  frz := pf
  exn := fun i e => by
    cases i with
    | zero => cases e
    | succ i => exact (rel_vals s pn pf h).exn i e
theorem bor_owned {xs ds : List D} {a b : Addr} {vs : List V} (h : Owned (.bor xs :: vals ds) ((V.ref a :: vs).map some) b) : b = a := by
  obtain ⟨i, s, es, e, l, e2⟩ := h
  cases i with
  | zero => cases e2; rfl
  | succ i => exact (vals_not_owned (σ := vs.map some) ⟨i, s, es, e, l, e2⟩).elim
theorem bor_ok (xs ds : List D) : ArgsOk (.bor xs :: vals ds) := fun s m => by
  cases m with
  | head => exact .inr ⟨xs, rfl⟩
  | tail _ m => exact vals_ok ds s m
def backR (ρ : En) (j : Nat) (s : Sl) : Res Rv → Res Rv
  | .ok (.val d) (.bor ys :: _) => .ok (.val d) (ρ.set j (putSl s ys))
  | .ok (.own es) (.bor ys :: _) => .ok (.own es) (ρ.set j (putSl s ys))
  | .err x (.bor ys :: _) => .err x (ρ.set j (putSl s ys))
  | _ => .bad
/-- a call whose first argument, a list at a name, is lent -/
def mCallR (f : M Rv) (i : Nat) (n : M (List Rv)) : M Rv := fun ρ => match mVar i ρ with
  | .ok (.loc j) ρ1 => match n ρ1 with
    | .ok rs ρ2 => match escs ρ2 rs with
      | some (ds, ρ3) => match ρ3[j]? with
        | some (.own xs) => backR ρ3 j (.own xs) (f (.bor xs :: vals ds))
        | some (.bor xs) => backR ρ3 j (.bor xs) (f (.bor xs :: vals ds))
        | _ => .bad
      | none => .bad
    | .err x ρ2 => .err x ρ2
    | .bad => .bad
  | _ => .bad
section
variable {X : Cx} {ca : Ca} {W : WX}
theorem lent_post {G : Gd} {f : M Rv} {ρ0 ρ2 ρ3 : En} {σ : L2.St} {F0 H0 F2 H2 : Hp} {Q : VK} {j : Nat} {a : Addr} {vs : List V} {rs : List Rv} {ds xs : List D} {s : Sl}
    (R2 : RelS G ρ2 σ F2 H2) (f2 : Fm ρ0 σ F0 H0 ρ2 σ F2 H2) (k2 : RvA G ρ0 H0 ρ2 σ F2 H2 vs rs) (hj : σ[j]? = some (some (.ref a))) (q1 : escs ρ2 rs = some (ds, ρ3)) (q2 : ρ3[j]? = some s) (l : Lst s xs)
    (p : Post G W (RvR G) ρ0 σ F0 H0 Q (backR ρ3 j s (f (.bor xs :: vals ds)))) : spF G f (.ref a :: vs) H2 Q (WE W σ) := by
  obtain ⟨F3, R3, f3, k3, s3⟩ := escs_ok R2 f2 k2 q1
  obtain ⟨a', us, e, hf, hp, ha⟩ := R3.lst j s xs q2 l
  rw [hj] at e
  cases e
  refine ⟨F3, .bor xs :: vals ds, rel_bor R3.ex R3.pin R3.frz hf hp ha k3, bor_ok xs ds, ?_⟩
  have back : ∀ (ys : List D) (as : En) (F4 H4 : Hp), RelS G (.bor ys :: as) ((V.ref a :: vs).map some) F4 H4 → Fm (.bor xs :: vals ds) ((V.ref a :: vs).map some) F3 H2 (.bor ys :: as) ((V.ref a :: vs).map some) F4 H4 → RelS G (ρ3.set j (putSl s ys)) σ F4 H4 ∧ Fm ρ3 σ F3 H2 (ρ3.set j (putSl s ys)) σ F4 H4 := fun ys as F4 H4 R4 f4 => by
    obtain ⟨a2, us2, e2, hf2, hp2, ha2⟩ := R4.lst 0 (.bor ys) ys rfl (.inr rfl)
    cases e2
    refine R3.lend q2 l hj f4.ex R4.ex (fun b o h n => f4.keep b o h fun z => n (bor_owned z)) (fun b o h n => ?_) hf2 hp2 ha2 R4.pin
    rcases f4.new b o h n with z | z
    · exact .inl (bor_owned z)
    · exact .inr z
  cases e4 : f (.bor xs :: vals ds) with
  | bad => rw [e4] at p; exact p
  | err x as' =>
    rw [e4] at p
    intro c d F4 H4 R4 f4 x4
    cases as' with
    | nil => exact p.elim
    | cons t as =>
      cases t with
      | un => exact p.elim
      | exn => exact p.elim
      | val _ => exact p.elim
      | own _ => exact p.elim
      | bor ys =>
        obtain ⟨R5, f5⟩ := back ys as F4 H4 R4 f4
        exact p c d F4 H4 R5 (f3.trans f5) x4
  | ok r as' =>
    rw [e4] at p
    intro v F4 H4 R4 f4 k4
    cases as' with
    | nil => cases r <;> exact p.elim
    | cons t as =>
      cases t with
      | un => cases r <;> exact p.elim
      | exn => cases r <;> exact p.elim
      | val _ => cases r <;> exact p.elim
      | own _ => cases r <;> exact p.elim
      | bor ys =>
        obtain ⟨R5, f5⟩ := back ys as F4 H4 R4 f4
        cases r with
        | loc i => exact p.elim
        | val d => exact p v F4 H4 R5 (f3.trans f5) k4
        | own es =>
          obtain ⟨b, us', rfl, hf', hp', ha', no, nw⟩ := k4
          have nba : b ≠ a := fun z => no (by rw [z]; exact ⟨0, .bor ys, ys, rfl, .inr rfl, rfl⟩)
          have hn : H2 b = none := by
            rcases nw with z | z
            · exact (nba (bor_owned z)).elim
            · exact z
          refine p _ F4 H4 R5 (f3.trans f5) ⟨b, us', rfl, hf', hp', ha', fun z => ?_, f3.dead hn⟩
          rcases f5.own b z with ⟨i, t, fs, h1, lt, h2⟩ | _
          · obtain ⟨b', us2, e', _, hp2, _⟩ := R3.lst i t fs h1 lt
            rw [h2] at e'
            cases e'
            rw [hn] at hp2
            cases hp2
          · obtain ⟨i, t, fs, h1, lt, h2⟩ := z
            have : ∃ t' fs', ρ3[i]? = some t' ∧ Lst t' fs' := by
              rcases get_set h1 with ⟨rfl, _, _⟩ | ⟨_, h1⟩
              · exact ⟨s, xs, q2, l⟩
              · exact ⟨t, fs, h1, lt⟩
            obtain ⟨t', fs', h1', lt'⟩ := this
            obtain ⟨b', us2, e', _, hp2, _⟩ := R3.lst i t' fs' h1' lt'
            rw [h2] at e'
            cases e'
            rw [hn] at hp2
            cases hp2
theorem t_callR {f : M Rv} {i : Nat} {n : M (List Rv)} {σ : L2.St} {H : Hp} {Q : VK} (h : tE ⟨X.K, ca⟩ W (mCallR f i n) σ H Q) : tCallS (spF ⟨X.K, ca⟩ f) (WE W) (tAr ⟨X.K, ca⟩ W (mCons (mVar i) n)) σ H Q := by
  obtain ⟨F, ρ, R, p⟩ := h
  refine ⟨F, ρ, R, ?_⟩
  unfold mCallR at p
  unfold mCons
  split at p
  · rename_i j ρ1 e1
    rw [e1]
    obtain ⟨rfl, rfl⟩ := mVar_loc e1
    dsimp only
    cases e2 : n ρ1 with
    | bad => rw [e2] at p; exact p
    | err x ρ2 => rw [e2] at p; exact p
    | ok rs ρ2 =>
      rw [e2] at p
      intro vs0 F2 H2 R2 f2 k2
      dsimp only at p
      cases k2 with
      | cons kv k2 nd =>
        rename_i v vs
        have kv : σ[j]? = some (some v) := kv
        cases q1 : escs ρ2 rs with
        | none => rw [q1] at p; exact p.elim
        | some y =>
          obtain ⟨ds, ρ3⟩ := y
          rw [q1] at p
          dsimp only at p
          obtain ⟨F3, R3, f3, k3, s3⟩ := escs_ok R2 f2 k2 q1
          split at p
          · rename_i xs q2
            obtain ⟨a, _, e, _⟩ := R3.lst j _ xs q2 (.inl rfl)
            rw [kv] at e
            cases e
            exact lent_post (s := .own xs) R2 f2 k2 kv q1 q2 (.inl rfl) p
          · rename_i xs q2
            obtain ⟨a, _, e, _⟩ := R3.lst j _ xs q2 (.inr rfl)
            rw [kv] at e
            cases e
            exact lent_post (s := .bor xs) R2 f2 k2 kv q1 q2 (.inr rfl) p
          · exact p.elim
  · exact p.elim
theorem de_callR {k : Nat} {fa : Addr} {fd : FuncData} {ps : List Str} {f : M Rv} {x : Str} {p pos : Pos} {e : Expr} {es : List Expr} {i : Nat} {n : M (List Rv)} (tk : Takes X W) (Fo : FnOk X.prog X.w X.K X.mg X.base (L2.CX X.prog X.w) k fa fd ps (spF ⟨X.K, ca⟩ f)) (hr : Room k X.A) (hg : Gl X x) (hm : X.mg x = some (.ref fa)) (hk : PySem.W.keepIn X.K (.ref fa) = true) (hb : Binds X.K fd ps [])
    (ha : DA X ca W (e :: es) (mCons (mVar i) n)) (hdb : (x == ("__debug__" : Str)) = false) (he : starEach (e :: es) X.env = (false, eval e X.env) :: starEach es X.env) (hpl : (backTo pos (starEach es X.env)).any (·.1) = false) : DE X ca W (.Call (.Name x p) (e :: es) [] pos) (mCallR f i n) :=
  pe_imp (pe_callS Fo hr hg hm hk hb (fun σ => passAt tk σ) ha hdb he hpl) fun _ _ _ h => t_callR h
end
/-! ### a def keeps what its body says -/
section
variable {P : Program} {w : World} {K : PySem.W.Frag} {mg : Str → Option Value} {base : Heap}
theorem fn_ok {x qual : Str} {st : Stmt} {f : Addr} {fd : FuncData} {N ps : List Str} {k np : Nat} {ca : Ca} {b : M Fl} (F : Fun K x qual st f fd) (S : FnScope N ps (defScope st)) (hnp : np = ps.length)
    (h : ∀ (cdv : Value) (A : Around) (outer : List Env) (s : Shared) (H : Hp) (E : XK), Room k (cxOf (L2.CX P w) P w K mg base N qual (defScope st) f cdv A outer s H E).A → Takes (cxOf (L2.CX P w) P w K mg base N qual (defScope st) f cdv A outer s H E) (WF E) → PassesOwn (model P w) (cxOf (L2.CX P w) P w K mg base N qual (defScope st) f cdv A outer s H E).A (cxOf (L2.CX P w) P w K mg base N qual (defScope st) f cdv A outer s H E).env (cxOf (L2.CX P w) P w K mg base N qual (defScope st) f cdv A outer s H E).xe →
      DB (cxOf (L2.CX P w) P w K mg base N qual (defScope st) f cdv A outer s H E) ca (WF E) (defBody st) b) : FnOk P w K mg base (L2.CX P w) (k + 1) f fd ps (spF ⟨K, ca⟩ (fnOf np N.length b)) :=
  F.okX S (fun vs H Q E q => by rw [← hnp]; exact (body_post q).1) fun cdv A outer s H vs Q E hr q =>
    ⟨_, h cdv A outer s H E hr (takes_of rfl rfl rfl rfl) (passes_of rfl), (body_post q).2⟩
end
end PM
set_option Elab.async false
set_option linter.all false
set_option maxRecDepth 100000
set_option maxHeartbeats 4000000
namespace PM
open PySem L2
open PySem.PyData (strOk)
/-! ### an own error's __init__ that begins with super().__init__(a text) -/
/-- what the written part says of such a class: its own __init__ stands at fI; cc: the cell of __class__ -/
structure XCls (P : Program) (K : PySem.W.Frag) (mg : Str → Option Value) (C : Addr) : Prop where
  ox : OexC K C
  sup : ∃ cd, PySem.W.clsIn K C = some cd ∧ PySem.W.alongIn K "__init__" ((cd.mro.dropWhile (· != .ref C)).drop 1) = some (some (.builtin "ValueError.__init__"))
  subV : PySem.W.subIn K (.ref C) (.type "ValueError") = some true
  self : PySem.W.mroIn K C (.ref C) = some true
  opq : PySem.W.nsIn K cStatics "thirdparty.any" = some none
  top : (P.main.scope.names.lookup ("super" : Str)).isSome = false
  nos : mg "super" = none
abbrev superInit (x : Str) (p0 p1 p2 p3 p4 p5 : Pos) (j : Nat) : Stmt := .Expr (.Call (.Attribute (.Call (.Name "super" p0) [] [] p1) "__init__" p2) [.Constant (.str x) j p3] [] p4) p5
section
variable {P : Program} {w : World} {K : PySem.W.Frag} {mg : Str → Option Value} {base : Heap} {C f cc cda : Addr} {fc : NdefX.NF}
open PySem.W in
theorem call_mw {X : Cx} {A : Around} {E : Value → Shared → Prop} {pins : List (Addr × Obj)} {σ : L2.St} {H : Hp} {s : Shared} {u a : Addr} {us : List Value} {Q : Value → Shared → Prop} (T : OexC X.K C) (I : Inv X pins σ H s) (e : H a = some (exo a C none)) (hu : s.heap.get? u = some (kxs_mw "ValueError.__init__" a)) (hl : us.length ≤ sizeLine) (h : ∀ s', Inv X pins σ H s' → Q .none s') :
    wpAny (model X.prog X.w) A (call (.ref u) us) Q E s := by
  obtain ⟨nm, q, N, bs, bm, sn, sub, ab, col, dd, k0, k1, k2, k3, k5, hC, hbm⟩ := T.cls
  obtain ⟨t1, ho⟩ := exo_at I.hok e
  obtain ⟨hh, g, d, tk, os⟩ := s
  refine wpAny_call (codeAny_of_tree ?_)
  show wpAny _ A.in1 (callAny (.ref u) ⟨us, []⟩) _ _ _
  simp only [callAny]
  refine wpAny_bind (wpAny_load hu ?_)
  simp only [kxs_mw, show (Value.type "method-wrapper" == Value.type "method" || Value.type "method-wrapper" == Value.type "builtin_function_or_method" || Value.type "method-wrapper" == Value.type "method-wrapper") = true by decide, if_true]
  refine KFB.if_so (by decide) ?_
  refine wpAny_bind (check_bound_init F.excBase_ValueError.toExcCallFacts (I.kIn _ _ hC) ho rfl ?_)
  refine wpAny_bind (wpAny_pure (wpAny_pure ?_))
  refine ⟨plainId_quiet F.excBase_ValueError.init.plain _, codeAny_builtin F.excBase_ValueError.initEntry ?_⟩
  refine exc_init_tree (cls := .ref C) (t0 := t1) (dv := none) (c2 := .none) (c3 := .none) (b4 := .bool false) ho hl fun h' k he _ => ?_
  have J := I.write (t' := tk) (x := a) (e := a) (o := exo a C none) (by rw [e]; exact True.intro) (.inl rfl) k ⟨_, he⟩ (exo_ok he)
  have eu : upd H a (exo a C none) = H := by
    funext b
    by_cases hb : b = a
    · rw [hb, upd_same, e]
    · rw [upd_ne hb]
  rw [eu] at J
  exact h _ J
open PySem.W in
/-- the statement super().__init__(text), at the def's own activation -/
theorem super_at {X : Cx} {body : List Stmt} {pins : List (Addr × Obj)} {σ : L2.St} {H : Hp} {s : Shared} {a : Addr} {x : Str} {p0 p1 p2 p3 p4 p5 : Pos} {j : Nat} {fd : FuncData} {ar : Arg} {oc ccl cl : Value} {od cdd cld : Option Addr} {osl ccs csl : Array (Option Value)} {vs : Array Value} {file : Str} {tf : Tok} {Q : Flow → Shared → Prop}
    (T : XCls X.prog X.K X.mg C) (I : Inv X pins σ H s) (hf : X.K.lookup f = some ⟨oc, od, .func fd, osl⟩) (hfn : X.env.func = some f) (hp : (fd.params.posonlyargs ++ fd.params.args).head? = some ar) (hcd : X.env.code = .ref cda) (hcode : X.K.lookup cda = some ⟨ccl, cdd, .fields vs, ccs⟩) (hvs : vs[2]? = some (.str file tf)) (hfile : ((X.prog.main.file : Str) == file) = true)
    (hcl : X.env.cells.lookup ("__class__" : Str) = some cc) (hcell : X.K.lookup cc = some ⟨cl, cld, .cell (some (.ref C)), csl⟩) (hks : X.env.kindOf "super" = some .globalImplicit) (hkc : X.env.kindOf "__class__" = some .free) (hka : X.env.kindOf ar.arg = some .local) (hN : X.N[0]? = some ar.arg) (hs : σ[0]? = some (some (.ref a))) (ea : H a = some (exo a C none))
    (hswap : swapsWith (.Call (.Attribute (.Call (.Name "super" p0) [] [] p1) "__init__" p2) [.Constant (.str x) j p3] [] p4) none p5.line X.env = pure false) (hint : interactive X.env = false)
    (hev : ∃ pl : Sem Bool, eval (.Call (.Attribute (.Call (.Name "super" p0) [] [] p1) "__init__" p2) [.Constant (.str x) j p3] [] p4) X.env = (do
      let ov ← attributeBase (.Call (.Name "super" p0) [] [] p1) "__init__" X.env (eval (.Call (.Name "super" p0) [] [] p1) X.env)
      standAt p2.atName
      let (f, first) ← holding [ov] (getMethod ov "__init__" pl)
      callWith p4 f first (backTo p4 (starEach [.Constant (.str x) j p3] X.env)) []))
    (h : ∀ s', Inv X pins σ H s' → Q .next s') : wpAt (model X.prog X.w) X.A (.func body X.env) (exec (superInit x p0 p1 p2 p3 p4 p5 j) X.env) Q X.xe s := by
  obtain ⟨pl, hev⟩ := hev
  refine ks_wpAt_Expr_any ?_ hint hswap
  refine ks_wpAt_MethodCall (pl := pl) ?_ hev
  have KX := I.kIn
  obtain ⟨cd, hcd1, hal⟩ := T.sup
  obtain ⟨oD, hD1, hD2⟩ : ∃ oD, s.heap.get? C = some oD ∧ oD.data = .cls cd := by
    have hD := hcd1
    unfold clsIn at hD
    split at hD
    · rename_i c d cd' sl ho
      cases hD
      exact ⟨_, KX _ _ ho, rfl⟩
    · cases hD
  obtain ⟨t1, ho⟩ := exo_at I.hok ea
  have hne : a ≠ C := fun z => by
    rw [z, hD1] at ho
    cases ho
    cases hD2
  refine ks_wpAt_super_base hks hkc (by decide) hfn (KX _ _ hf) rfl hp hcd (KX _ _ hcode) rfl hvs hfile T.top ?_
  obtain ⟨mb, h1, h2⟩ := I.mod.blt
  refine ks_loadName_global I.ok.kind hks (Calls.loadGlobal_builtin (by rw [I.ok.glob]; exact I.mod.glob.keeps I.bk) T.nos (by rw [I.ok.blt]; exact h1.keeps I.bk) ((h2 "super" (by decide)).trans PyProof.Rows.Boot.«super») ⟨rfl, ?_⟩)
  refine wpAny_loadName_free I.ok.kind hkc hcl ⟨_, KX _ _ hcell, rfl⟩ ?_
  obtain ⟨m, hns, hl⟩ := I.loc
  obtain ⟨u, ru, lk⟩ := hl 0 ar.arg (.ref a) hN hs (.inl hka)
  cases ru
  have hm : m ar.arg = some (.ref a) := by
    rcases lk with ⟨_, z⟩ | ⟨z, _⟩
    · exact z
    · rcases z with z | z <;> rw [hka] at z <;> cases z
  refine wpAny_loadName_local I.ok.kind hka hns hm ?_
  obtain ⟨hh, g, d, t, os⟩ := s
  refine ks_wpAny_isType_cls hD1 hD2 ⟨rfl, ?_⟩
  refine ks_wpAny_call_super hD1 hD2 ho rfl (fun c e => by cases e) (looks_mroIn KX T.self) (fun h' e k => ?_)
  have I2 : Inv X pins σ H ⟨h', g, d, t, os⟩ := I.kept (t' := t) k
  have KX2 := I2.kIn
  obtain ⟨t2, ho2⟩ := exo_at I2.hok ea
  have hinst : Looks (model X.prog X.w) h' (isInstance (.ref a) (.type "ValueError")) true := (InstAt.type (M := model X.prog X.w) (C := C) (od := none) ⟨ho2, rfl, rfl, trivial⟩).andThen (looks_subIn KX2 T.subV)
  refine kxs_getMethod kxs_ValueError e (looks_opaque KX2 T.opq) (l₀ := cd.mro) (fun A Q E s k q => wpAny_bind ((looks_clsIn KX2 hcd1) A _ E s k (wpAny_pure q))) rfl KX2 hal hinst hne (by decide) ?_
  have I3 : Inv X pins σ H ⟨h'.push (kxs_mw "ValueError.__init__" a), g, d, t + 1, os⟩ := I2.kept (t' := t + 1) fun b o q => Heap.get?_push_of_some _ q
  have hmw : (h'.push (kxs_mw "ValueError.__init__" a)).get? h'.objs.size = some (kxs_mw "ValueError.__init__" a) := Heap.get?_push_at rfl rfl
  refine kxs_callWith (i := "ValueError.__init__") (x := a) rfl ?_
  refine Calls.evalArgs_plain ?_
  have pa : PA X [.Constant (.str x) j p3] (tCons (tC (.str x)) tNil) := pa_cons pe_str pa_nil
  have hn : H h'.objs.size = none := I2.hok.fresh (Nat.le_refl _)
  have I3' := I3.pinned (fp := [h'.objs.size]) (fun b hb => by
    rw [List.mem_singleton.mp hb]
    exact I2.fpOk (Nat.le_refl _) hn) fun b hb => by
    rw [List.mem_singleton.mp hb]
    exact ⟨_, hmw, fun v z => by cases z⟩
  refine thn (pa.run p4 _ _ σ H (fun vs' H' => vs' = [V.str x] ∧ H' = H) I3' ⟨rfl, rfl⟩) fun us s4 ⟨vs', H4, I4, r4, e4, e5⟩ => ?_
  subst e4 e5
  have hu : s4.heap.get? h'.objs.size = some (kxs_mw "ValueError.__init__" a) := (I4.pin (h'.objs.size, _) (List.mem_append_right _ (List.mem_append_right _ (mem_pinsAt (List.mem_singleton.mpr rfl) hmw)))).1
  refine ⟨hu, ?_⟩
  show wpAny _ _ (call (.ref h'.objs.size) ([] ++ us)) _ _ _
  rw [List.nil_append]
  refine call_mw T.ox I4.unpinned ea hu (by rw [← r4.length]; show 1 ≤ sizeLine; decide) fun s' J => h s' J
end
end PM
set_option Elab.async false
set_option linter.all false
set_option maxRecDepth 100000
set_option maxHeartbeats 4000000
namespace PM
open PySem L2
open PySem.PyData (strOk)
/-- how the fields stand behind __init__: the later ones first -/
def fldsV (ks : List Str) (ws : List V) : List (Str × V) := (ks.zip ws).reverse
def spX (C : Addr) (ks : List Str) : Sp := fun vs H Q _ => ∃ (a : Addr) (ws : List V), vs = .ref a :: ws ∧ ws.length = ks.length ∧ H a = some (exo a C none) ∧
  ∀ (d : Addr) (H2 : Hp), H d = none → d ≠ a → H2 a = some (exo a C (some d)) → H2 d = some (exd d (fldsV ks ws)) → (∀ b, b ≠ a → b ≠ d → H2 b = H b) → Q .non H2
/-- what the top tells of the class's __init__ -/
structure XInit (P : Program) (K : PySem.W.Frag) (mg : Str → Option Value) (C f : Addr) (fd : FuncData) (N ps ks : List Str) (qual : Str) (rest : List Stmt) : Prop where
  cl : XCls P K mg C
  fi : PySem.W.findIn K (.ref C) "__init__" = some (some (.ref f))
  ti : PySem.W.typeIn K (.ref f) = some (.type "function")
  nof : ∀ k ∈ ks, PySem.W.findIn K (.ref C) k = some none
  ex : ∃ (params : Arguments) (scope : Scope) (x : Str) (p0 p1 p2 p3 p4 p5 : Pos) (j : Nat) (cc cda : Addr) (kV doc pm ct : Value) (an : Option Addr) (oc ccl cl : Value) (od cdd cld : Option Addr) (osl ccs csl : Array (Option Value)) (vs : Array Value) (file : Str) (tf : Tok) (ar : Arg),
    fd = PySem.W.fnX "__init__" qual params (superInit x p0 p1 p2 p3 p4 p5 j :: rest) scope [("__class__", cc)] .none kV doc pm an (.ref cda) ct ∧ K.lookup f = some ⟨oc, od, .func fd, osl⟩ ∧ PySem.W.codeIn K (.ref cda) qual = true ∧
    K.lookup cda = some ⟨ccl, cdd, .fields vs, ccs⟩ ∧ vs[2]? = some (.str file tf) ∧ ((P.main.file : Str) == file) = true ∧ K.lookup cc = some ⟨cl, cld, .cell (some (.ref C)), csl⟩ ∧ NdefX.NScope N ps ["__class__"] scope ∧ (params.posonlyargs ++ params.args).head? = some ar ∧ N[0]? = some ar.arg ∧
    scope.names.lookup ar.arg = some .local ∧ scope.names.lookup ("super" : Str) = some .globalImplicit ∧ scope.names.lookup ("__class__" : Str) = some .free ∧
    (∀ env : Env, env.scope = scope → interactive env = false ∧ swapsWith (.Call (.Attribute (.Call (.Name "super" p0) [] [] p1) "__init__" p2) [.Constant (.str x) j p3] [] p4) none p5.line env = pure false ∧ (∃ pl : Sem Bool, eval (.Call (.Attribute (.Call (.Name "super" p0) [] [] p1) "__init__" p2) [.Constant (.str x) j p3] [] p4) env = (do
      let ov ← attributeBase (.Call (.Name "super" p0) [] [] p1) "__init__" env (eval (.Call (.Name "super" p0) [] [] p1) env)
      standAt p2.atName
      let (f, first) ← holding [ov] (getMethod ov "__init__" pl)
      callWith p4 f first (backTo p4 (starEach [.Constant (.str x) j p3] env)) [])))
section
variable {P : Program} {w : World} {K : PySem.W.Frag} {mg : Str → Option Value} {base : Heap} {C f : Addr} {fd : FuncData} {N ps ks : List Str} {qual : Str} {rest : List Stmt}
theorem xinit_ok (T : XInit P K mg C f fd N ps ks qual rest) (hps : ps.length = ks.length + 1)
    (hrest : ∀ (CX : CXT) (F : NdefX.NF) (A : Around) (outer : List Env) (s : Shared) (H : Hp) (E : XK) (D : Ends) (a : Addr) (ws : List V), (∃ sc, F.scope = sc ∧ NdefX.NScope N ps ["__class__"] sc) → ws.length = ks.length → H a = some (exo a C none) →
      (∀ (d : Addr) (H2 : Hp) (σ : L2.St), H d = none → d ≠ a → H2 a = some (exo a C (some d)) → H2 d = some (exd d (fldsV ks ws)) → (∀ b, b ≠ a → b ≠ d → H2 b = H b) → D.nx σ H2) →
      ∃ t, PSs (NdefX.ncx CX P w K mg base N F f A outer s H E) rest t ∧ t D (NdefX.startF N (.ref a :: ws) [some (.ref C)]) H) :
    FnOk P w K mg base (L2.CX P w) 1 f fd ps (spX C ks) := by
  obtain ⟨params, scope, x, p0, p1, p2, p3, p4, p5, j, cc, cda, kV, doc, pm, ct, an, oc, ccl, cl, od, cdd, cld, osl, ccs, csl, vs0, file, tf, ar, rfl, lk, hcd, hcode, hvs, hfile, hcell, S, hp, hN, hka, hks, hkc, hsyn⟩ := T.ex
  refine ⟨fun vs H Q E q => ?_, fun A outer s H args us vs Q E hr e0 hb r hsp => ?_⟩
  · obtain ⟨a, ws, rfl, hl, _⟩ := q
    simp [hl, hps]
  obtain ⟨a, ws, rfl, hl, ea, hQ⟩ := hsp
  have KX : K.In s.heap := e0.mod.kin.keeps fun b o e => (e0.bs b o e).1
  have lim : s.heap.NoLimit := e0.mod.nolimit.keeps fun b o e => (e0.bs b o e).1
  have hul : us.length = ps.length := by rw [← r.length]; simp [hl, hps]
  refine ks_codeAny_call_defAt hr.depth (KX _ _ lk) rfl lim (PySem.W.codeRec_of KX hcd) rfl hb S.nocell (fun ⟨n, _⟩ hy => S.par n (List.of_mem_zip hy).1) (fun h₁ hns kp => ?_) S.co S.gen S.kind
  let F : NdefX.NF := ⟨"__init__", qual, params, superInit x p0 p1 p2 p3 p4 p5 j :: rest, scope, [("__class__", cc)], cda⟩
  have CA : NdefX.CellsAt F.cl ["__class__"] [some (.ref C)] s.heap H := by
    have hlook : ∀ y c, F.cl.lookup y = some c → y = "__class__" ∧ c = cc := fun y c e => by
      have e' : ([(("__class__" : Str), cc)] : List (Str × Addr)).lookup y = some c := e
      rw [List.lookup_cons] at e'
      split at e'
      · rename_i q
        cases e'
        exact ⟨by simpa using q, rfl⟩
      · cases e'
    have hcc : base.get? cc = some ⟨cl, cld, .cell (some (.ref C)), csl⟩ := e0.mod.kin _ _ hcell
    refine ⟨rfl, fun y c e => ?_, fun y z c e1 e2 => ?_, fun i y e => ?_⟩
    · obtain ⟨_, rfl⟩ := hlook y c e
      exact ⟨(e0.bs _ _ hcc).2, _, _, KX _ _ hcell, rfl⟩
    · rw [(hlook y c e1).1, (hlook z c e2).1]
    · cases i with
      | zero =>
        cases e
        refine ⟨cc, by show ([(("__class__" : Str), cc)] : List (Str × Addr)).lookup ("__class__" : Str) = some cc; simp, fun v ev => ?_⟩
        cases ev
        exact ⟨_, rfl, _, KX _ _ hcell, rfl⟩
      | succ i => cases e
  have I : Inv (NdefX.ncx (L2.CX P w) P w K mg base N F f A outer s H E) [] (NdefX.startF N (.ref a :: ws) [some (.ref C)]) H { s with heap := h₁, toks := s.toks + (ps.zip us).length } := NdefX.inv_startN S hr.hd e0 (by simp [hl, hps]) r CA hns kp
  obtain ⟨hint, hswap, hev⟩ := hsyn (NdefX.envF F f s.heap.objs.size) rfl
  refine ks_wpAt_execs_cons ?_
  refine super_at (X := NdefX.ncx (L2.CX P w) P w K mg base N F f A outer s H E) (f := f) (cc := cc) (cda := cda) T.cl I lk rfl hp rfl hcode hvs hfile (by show ([(("__class__" : Str), cc)] : List (Str × Addr)).lookup ("__class__" : Str) = some cc; simp) hcell hks hkc hka hN rfl ea hswap hint hev fun s2 I2 => ?_
  refine wpAt_of_wpAny ?_
  obtain ⟨t, ht, hq⟩ := hrest (L2.CX P w) F A outer s H E { nx := fun _ H' => Q .non H', rt := Q } a ws ⟨scope, rfl, S⟩ hl ea fun d H2 σ => hQ d H2
  refine wpAny_mono (ht.run [] _ _ H _ I2 hq) (fun fl s' hs => ?_) fun e s' hs => hs
  have fin : ∀ {σ' : L2.St} {H' : Hp} {v : V} {u : Value}, Inv (NdefX.ncx (L2.CX P w) P w K mg base N F f A outer s H E) [] σ' H' s' → L2.RelV v u → Q v H' → CE outer P w H s Q u s' :=
    fun {σ' H' v u} J rv q => ⟨v, H', J.os, J.bare, J.base, J.hok, rv, q⟩
  cases fl with
  | ret u =>
    obtain ⟨v, σ', H', J, rv, q⟩ := hs
    exact fin J rv q
  | next =>
    obtain ⟨σ', H', J, q⟩ := hs
    exact fin (v := V.non) (u := Value.none) J rfl q
  | brk =>
    obtain ⟨_, _, _, q⟩ := hs
    exact False.elim q
  | cont =>
    obtain ⟨_, _, _, q⟩ := hs
    exact False.elim q
theorem ncx_var {CX : CXT} {F : NdefX.NF} {A : Around} {outer : List Env} {s : Shared} {H : Hp} {E : XK} {i : Nat} {x : Str} {pos : Pos} (S : NdefX.NScope N ps ["__class__"] F.scope) (hi : ps[i]? = some x) (hd : (x == ("__debug__" : Str)) = false) (hcd : (x == ("__classdict__" : Str)) = false) : PE (NdefX.ncx CX P w K mg base N F f A outer s H E) (.Name x pos) (tVar i) := by
  have hN : N[i]? = some x := by
    have lt := (List.getElem?_eq_some_iff.mp hi).1
    have q : (N.take (ps.length + [("__class__" : Str)].length))[i]? = (ps ++ [("__class__" : Str)])[i]? := by rw [S.pre]
    rw [List.getElem?_take_of_lt (by omega), List.getElem?_append_left lt] at q
    rw [q, hi]
  exact pe_var hN (.inl (S.par x (List.mem_of_getElem? hi))) hd hcd
theorem start_get {a : Addr} {ws : List V} {i : Nat} {v : V} {C : Addr} (h : (V.ref a :: ws)[i]? = some v) : (NdefX.startF N (.ref a :: ws) [some (.ref C)])[i]? = some (some v) := by
  unfold NdefX.startF
  have lt := (List.getElem?_eq_some_iff.mp h).1
  rw [List.getElem?_append_left (by simpa using lt), List.getElem?_map, h]
  rfl
/-- one field -/
theorem xinit1 {k s0 p1 : Str} {q0 q1 q2 q3 : Pos} (T : XInit P K mg C f fd N [s0, p1] [k] qual [.Assign [.Attribute (.Name s0 q0) k q1] (.Name p1 q2) q3]) (h0 : (s0 == ("__debug__" : Str)) = false ∧ (s0 == ("__classdict__" : Str)) = false) (h1 : (p1 == ("__debug__" : Str)) = false ∧ (p1 == ("__classdict__" : Str)) = false) : FnOk P w K mg base (L2.CX P w) 1 f fd [s0, p1] (spX C [k]) := by
  refine xinit_ok T rfl fun CX F A outer s H E D a ws ⟨sc, hsc, S⟩ hl ea hn => ?_
  subst hsc
  obtain ⟨v, rfl⟩ : ∃ v, ws = [v] := by
    cases ws with
    | nil => cases hl
    | cons v r => cases r with
      | nil => exact ⟨v, rfl⟩
      | cons _ _ => cases hl
  refine ⟨_, pss_one (ps_ost (ncx_var S (i := 0) rfl h0.1 h0.2) (ncx_var S (i := 1) rfl h1.1 h1.2)), ?_⟩
  refine ⟨v, start_get rfl, .ref a, start_get rfl, a, C, rfl, T.cl.ox, T.nof k (.head _), .inl ⟨ea, fun dx hd ne => ?_⟩⟩
  exact hn dx _ _ hd ne upd_same (by rw [upd_ne ne, upd_same]; rfl) fun b n1 n2 => by rw [upd_ne n1, upd_ne n2]
/-- two fields -/
theorem xinit2 {k l s0 p1 p2 : Str} {q0 q1 q2 q3 r0 r1 r2 r3 : Pos} (T : XInit P K mg C f fd N [s0, p1, p2] [k, l] qual [.Assign [.Attribute (.Name s0 q0) k q1] (.Name p1 q2) q3, .Assign [.Attribute (.Name s0 r0) l r1] (.Name p2 r2) r3]) (h0 : (s0 == ("__debug__" : Str)) = false ∧ (s0 == ("__classdict__" : Str)) = false) (h1 : (p1 == ("__debug__" : Str)) = false ∧ (p1 == ("__classdict__" : Str)) = false) (h2 : (p2 == ("__debug__" : Str)) = false ∧ (p2 == ("__classdict__" : Str)) = false) :
    FnOk P w K mg base (L2.CX P w) 1 f fd [s0, p1, p2] (spX C [k, l]) := by
  refine xinit_ok T rfl fun CX F A outer s H E D a ws ⟨sc, hsc, S⟩ hl ea hn => ?_
  subst hsc
  obtain ⟨v, u, rfl⟩ : ∃ v u, ws = [v, u] := by
    cases ws with
    | nil => cases hl
    | cons v r => cases r with
      | nil => cases hl
      | cons u r => cases r with
        | nil => exact ⟨v, u, rfl⟩
        | cons _ _ => cases hl
  refine ⟨_, pss_cons (ps_ost (ncx_var S (i := 0) rfl h0.1 h0.2) (ncx_var S (i := 1) rfl h1.1 h1.2)) (pss_one (ps_ost (ncx_var S (i := 0) rfl h0.1 h0.2) (ncx_var S (i := 2) rfl h2.1 h2.2))), ?_⟩
  refine ⟨v, start_get rfl, .ref a, start_get rfl, a, C, rfl, T.cl.ox, T.nof k (.head _), .inl ⟨ea, fun dx hd ne => ?_⟩⟩
  refine ⟨u, start_get rfl, .ref a, start_get rfl, a, C, rfl, T.cl.ox, T.nof l (.tail _ (.head _)), .inr ⟨dx, _, upd_same, by rw [upd_ne ne, upd_same], by show 1 ≤ 900; decide, ?_⟩⟩
  exact hn dx _ _ hd ne (by rw [upd_ne (Ne.symm ne), upd_same]) (by rw [upd_same]; rfl) fun b n1 n2 => by rw [upd_ne n2, upd_ne n1, upd_ne n2]
end
/-! ### raise -/
def fldsD (ks : List Str) (ds : List D) : List (Str × D) := (ks.zip ds).reverse
def mRaise (c : Nat) (ks : List Str) (m : M (List Rv)) : M Fl := fun ρ => match m ρ with
  | .ok rs ρ1 => match escs ρ1 rs with
    | some (ds, ρ2) => if ds.length = ks.length ∧ 0 < ks.length ∧ ds.length ≤ 1000 then .err ⟨c, fldsD ks ds⟩ ρ2 else .bad
    | none => .bad
  | .err x ρ1 => .err x ρ1
  | .bad => .bad
theorem dpAll_zip {G : Gd} {F : Hp} : ∀ {ks : List Str} {vs : List V} {ds : List D}, DpAll G F vs ds → (ks.zip vs).map (·.1) = (ks.zip ds).map (·.1) ∧ DpAll G F ((ks.zip vs).map (·.2)) ((ks.zip ds).map (·.2))
  | [], _, _, _ => ⟨rfl, .nil⟩
  | _ :: _, _, _, .nil => ⟨rfl, .nil⟩
  | k :: ks, _, _, .cons h t => by
    obtain ⟨a, b⟩ := dpAll_zip (ks := ks) t
    exact ⟨by simp [a], .cons h b⟩
theorem ds_raise {X : Cx} {ca : Ca} {W : WX} {c : Nat} {x : Str} {C fI : Addr} {fd : FuncData} {ps ks : List Str} {p pos pos' : Pos} {e : Expr} {es : List Expr} {m : M (List Rv)} (hC : ca.at_ c = C) (tk : Takes X W) (hc : X.calm = true) (T : OexC X.K C) (iC : PySem.W.findIn X.K (.ref C) "__init__" = some (some (.ref fI))) (tI : PySem.W.typeIn X.K (.ref fI) = some (.type "function"))
    (F1 : FnOk X.prog X.w X.K X.mg X.base (L2.CX X.prog X.w) 1 fI fd ps (spX C ks)) (hr : Room 2 X.A) (hb : Binds X.K fd ps []) (hg : Gl X x) (hm : X.mg x = some (.ref C)) (ha : DA X ca W (e :: es) m)
    (hdb : (x == ("__debug__" : Str)) = false) (he : starEach (e :: es) X.env = (false, eval e X.env) :: starEach es X.env) (hpl : (backTo pos (starEach es X.env)).any (·.1) = false) : DS X ca W (.Raise (some (.Call (.Name x p) (e :: es) [] pos)) none pos') (mRaise c ks m) := by
  refine ps_imp (ps_raise hc tk (pmk_oex T iC tI F1 hr hb .nil passL hg hm ha hdb he hpl)) fun D σ H ⟨F, ρ, R, p⟩ => ?_
  refine ⟨F, ρ, R, ?_⟩
  unfold mRaise at p
  cases e1 : m ρ with
  | bad => rw [e1] at p; exact p
  | err y ρ1 => rw [e1] at p; exact fun c d F1 H1 R1 f1 x1 => p c d σ F1 H1 R1 f1 x1
  | ok rs ρ1 =>
    rw [e1] at p
    intro vs F1 H1 R1 f1 k1
    dsimp only at p
    cases q : escs ρ1 rs with
    | none => rw [q] at p; exact p.elim
    | some y =>
      obtain ⟨ds, ρ2⟩ := y
      rw [q] at p
      dsimp only at p
      split at p
      · rename_i cnd
        obtain ⟨F2, R2, f2, k2, s2⟩ := escs_ok R1 f1 k1 q
        refine ⟨by rw [k2.length]; exact cnd.2.2, fun a ha0 => ⟨a, vs, by rw [List.append_nil], by rw [k2.length]; exact cnd.1, upd_same, fun d H2 hd ne h2a h2d h2o => ⟨rfl, d, _, h2a, h2d, ?_, ?_⟩⟩⟩
        · rw [upd_ne ne] at hd
          exact hd
        · have hd1 : H1 d = none := by rw [upd_ne ne] at hd; exact hd
          have hH : upd (del H2 a) d (.xd (fldsV ks vs)) = upd H1 d (.xd (fldsV ks vs)) := by
            funext b
            by_cases hb : b = d
            · rw [hb, upd_same, upd_same]
            · rw [upd_ne hb, upd_ne hb]
              by_cases hba : b = a
              · rw [hba, del_same, ha0]
              · rw [del_ne hba, h2o b hba hb, upd_ne hba]
          show W (.ref C) (some d) σ _
          rw [hH]
          have g : Grow F2 H1 F2 (upd H1 d (.xd (fldsV ks vs))) := Grow.own R2.ex hd1
          refine p (.ref C) (some d) σ F2 _ (R2.grow g) (f2.trans (Fm.grow g)) ⟨by show _ = Value.ref (ca.at_ c); rw [hC], .inr ⟨d, fldsV ks vs, rfl, upd_same, ?_, ?_⟩⟩
          · unfold fldsV fldsD
            rw [List.map_reverse, List.map_reverse, (dpAll_zip k2).1]
          · show DpAll _ _ ((fldsV ks vs).map (·.2)) ((fldsD ks ds).map (·.2))
            unfold fldsV fldsD
            rw [List.map_reverse, List.map_reverse]
            exact (dpAll_zip k2).2.reverse
      · exact p.elim
end PM
set_option Elab.async false
set_option linter.all false
set_option maxRecDepth 100000
set_option maxHeartbeats 4000000
namespace PM
open PySem L2 PySem.Spec PyProof.Rows
open PySem.PyData (strOk)
/-! ### except clauses, some with a name, some without -/
/-- a clause: the class, the name's slot if there is one, what the suite does with the error at a -/
structure Cl where
  c : Value
  i : Option Nat
  ts : Addr → Value → Option Addr → TS
def offEnds (i : Option Nat) (D : Ends) : Ends := match i with
  | none => D
  | some i => { nx := fun σ H => D.nx (σ.set i none) H, rt := D.rt, bk := fun σ H => D.bk (σ.set i none) H, ct := fun σ H => D.ct (σ.set i none) H }
def inSt (i : Option Nat) (a : Addr) (σ : L2.St) : L2.St := match i with
  | none => σ
  | some i => σ.set i (some (.ref a))
def wCls (K : PySem.W.Frag) (Wout : WX) (D : Ends) : List Cl → WX
  | [] => Wout
  | k :: r => fun cls d σ H => ∃ b, PySem.W.exmOne K cls k.c = some b ∧ (b = true → ∀ a, H a = none → k.ts a cls d (offEnds k.i D) (inSt k.i a σ) H) ∧ (b = false → wCls K Wout D r cls d σ H)
/-- the clauses of the text and their readings -/
inductive ClsOk (X : Cx) : List ExceptHandler → List Cl → Prop
  | nil : ClsOk X [] []
  | bare {x : Str} {c : Value} {ts : Addr → Value → Option Addr → TS} {st : Stmt} {suite : List Stmt} {np hp : Pos} {hs : List ExceptHandler} {l : List Cl} (hn : Names X x c)
      (hr : ∀ (a : Addr) (oe : Obj) (cls : Value) (d : Option Addr) (pn : List (Addr × Obj)), Zc cls d oe → (∃ vs, oe.data = .fields vs) → PSs (X.suite a ((a, oe) :: pn)) (st :: suite) (ts a cls d)) (r : ClsOk X hs l) :
      ClsOk X (.ExceptHandler (some (.Name x np)) none (st :: suite) hp :: hs) (⟨c, none, ts⟩ :: l)
  | named {x n : Str} {c : Value} {i : Nat} {ts : Addr → Value → Option Addr → TS} {st : Stmt} {suite : List Stmt} {np hp : Pos} {hs : List ExceptHandler} {l : List Cl} (hn : Names X x c) (hN : X.N.Nodup) (hi : X.N[i]? = some n) (hl : X.env.kindOf n = some .local)
      (hr : ∀ (a : Addr) (oe : Obj) (cls : Value) (d : Option Addr) (pn : List (Addr × Obj)), Zc cls d oe → (∃ vs, oe.data = .fields vs) → PSs (X.suite a ((a, oe) :: pn)) (st :: suite) (ts a cls d)) (r : ClsOk X hs l) :
      ClsOk X (.ExceptHandler (some (.Name x np)) (some n) (st :: suite) hp :: hs) (⟨c, some i, ts⟩ :: l)
section
variable {X : Cx}
/-- an error that has come down into the frame meets the clauses -/
theorem meets_clauses {pins : List (Addr × Obj)} {D : Ends} {Wout : WX} {a : Addr} {B h3 : Heap} {sI s' : Shared} {σ' : L2.St} {H' : Hp} {cls : Value} {d : Option Addr} (hs : X.stack = X.env :: X.outer) (hf : X.env.frame = some X.env.locals) (tk : Takes X Wout) (ok : X.Ok)
    (J : Inv X pins σ' H' sI) (nb : ∀ b o, sI.heap.get? b = some o → b ∉ frs X.stack → B.get? b = some o) (up : sI.heap.UpToSlots h3) (fl3 : HandSPX.FlyingZ B (X.env :: X.outer) a (Zc cls d) h3) (na : H' a = none) (os : s'.os = sI.os) (ag : AllBare s'.gens) :
    ∀ {hds : List ExceptHandler} {l : List Cl}, ClsOk X hds l → wCls X.K Wout D l cls d σ' H' → wpAny (model X.prog X.w) X.A (handleBy (.ref a) X.env hds) (SP X pins D) X.xe { s' with heap := h3 } := by
  have J3 : Inv X pins σ' H' { s' with heap := h3 } := J.landed nb fl3.1 up os ag
  obtain ⟨oe3, vs3, he3, hz3, hd3⟩ := fl3.there
  have far : a ∉ frs (X.env :: X.outer) := fun hm => by
    obtain ⟨_, o', e', hnf⟩ := fl3.2.2.1.mem hm
    rw [he3] at e'
    cases e'
    exact hnf _ hd3
  have aL : a ≠ X.env.locals := fun z => far (List.mem_filterMap.mpr ⟨X.env, .head _, by rw [hf, z]⟩)
  have aF : a ∉ X.fs := fun hm => by
    obtain ⟨e, he, q⟩ := List.mem_filterMap.mp hm
    exact far (List.mem_filterMap.mpr ⟨e, .tail _ he, q⟩)
  have S3 := J3.suite he3 hd3 na aL aF
  have LT : PySem.W.Looks (model X.prog X.w) h3 (typeOf (.ref a)) cls := fun A Q E s k q => wpAny_typeOf_ref (k _ _ he3) (by rw [hz3.1]; exact q)
  have asks : ∀ {x : Str} {c : Value} {np : Pos} {Q : Value → Shared → Prop} {E : Value → Shared → Prop}, Names X x c → Q c { s' with heap := h3 } → wpAny (model X.prog X.w) (X.A.mark (some (.ref a))) (eval (.Name x np) X.env) Q E { s' with heap := h3 } := fun {x c np Q E} hn q => by
    obtain ⟨hg, hdb, z⟩ := hn
    rcases z with hm | ⟨hm, hv, hnn⟩
    · exact ld_glob (X := X.suite a ((a, oe3) :: (X.pn ++ pins))) S3 hg hm q hdb
    · exact ld_blt (X := X.suite a ((a, oe3) :: (X.pn ++ pins))) S3 hg hm hv q hnn hdb
  intro hds l hk
  induction hk with
  | nil =>
    intro w
    refine wpAny_handleBy_nil ?_
    obtain ⟨k1, k2, k3, oe, vs, T, oT, ts', he, hz, hd, h1, hr⟩ := id fl3
    unfold PySem.passOn
    refine wpAny_bind (wpAny_field he hd h1 ?_)
    rw [if_neg (show ¬ ((Value.ref T == Value.none) = true) by simp)]
    have on : wpAny (model X.prog X.w) X.A (setFlight (.ref a) X.env.frame) (fun _ s4 => wpAny (model X.prog X.w) X.A (throw (.ref a) : Sem Flow) (SP X pins D) X.xe s4) X.xe { s' with heap := h3 } := by
      rw [hf]
      exact HandSPX.setFlight_upZ fl3 fun h4 hh4 up4 => wpAny_throw (tk _ _ ⟨a, B, sI, pins, σ', H', cls, d, rfl, J, nb, up.trans up4, .inr (.inr (by rw [hs]; exact hh4)), na, os, ag, w⟩)
    first
      | exact wpAny_bind (wpAny_pure (wpAny_bind on))
      | exact wpAny_bind on
  | bare hn hr r ih =>
    intro w
    obtain ⟨b, hb1, yes, no⟩ := w
    refine wpAny_handleBy_cons (codeAny_handlers_test ?_) (by intro q; cases q)
    refine asks hn ((PySem.W.exm_one (M := model X.prog X.w) J3.kIn LT hb1).here ?_)
    cases b with
    | false => exact ih (no rfl)
    | true =>
      refine codeAny_handlers_suite (HandSPX.lands_againZ fl3 fun h4 fl4 up4 => ?_)
      have J4 : Inv X pins σ' H' { s' with heap := h4 } := J.landed nb fl4.1 (up.trans up4) os ag
      obtain ⟨oe4, vs4, he4, hz4, hd4⟩ := fl4.there
      refine wpAny_mono ((hr a oe4 cls d (X.pn ++ pins) hz4 ⟨_, hd4⟩).run [] _ _ H' _ (J4.suite he4 hd4 na aL aF) (yes rfl a na)) (fun f s6 z => ?_) (fun _ _ z => False.elim z)
      cases f with
      | next => obtain ⟨σ6, H6, S6, q⟩ := z; exact ⟨_, _, S6.unsuite ok, q⟩
      | brk => obtain ⟨σ6, H6, S6, q⟩ := z; exact ⟨_, _, S6.unsuite ok, q⟩
      | cont => obtain ⟨σ6, H6, S6, q⟩ := z; exact ⟨_, _, S6.unsuite ok, q⟩
      | ret u => obtain ⟨v, σ6, H6, S6, r6, q⟩ := z; exact ⟨_, _, _, S6.unsuite ok, r6, q⟩
  | named hn hN hi hl hr r ih =>
    intro w
    obtain ⟨b, hb1, yes, no⟩ := w
    refine wpAny_handleBy_cons (codeAny_handlers_test ?_) (by intro q; cases q)
    refine asks hn ((PySem.W.exm_one (M := model X.prog X.w) J3.kIn LT hb1).here ?_)
    cases b with
    | false => exact ih (no rfl)
    | true =>
      refine codeAny_handlers_suite_as (HandSPX.lands_againZ fl3 fun h4 fl4 up4 => ?_)
      have J4 : Inv X pins σ' H' { s' with heap := h4 } := J.landed nb fl4.1 (up.trans up4) os ag
      obtain ⟨oe4, vs4, he4, hz4, hd4⟩ := fl4.there
      refine store_ok (X := X.suite a ((a, oe4) :: (X.pn ++ pins))) (v := .ref a) (J4.suite he4 hd4 na aL aF) hN hi (.inl hl) rfl (fun s5 S5 => ?_) (.inr hl)
      refine wpAny_mono ((hr a oe4 cls d (X.pn ++ pins) hz4 ⟨_, hd4⟩).run [] s5 _ H' _ S5 (yes rfl a na)) (fun f s6 z => ?_) (fun _ _ z => False.elim z)
      cases f with
      | next => obtain ⟨σ6, H6, S6, q⟩ := z; exact gone_ok (S6.unsuite ok) hN hi hl fun s7 J7 => ⟨_, _, J7, q⟩
      | brk => obtain ⟨σ6, H6, S6, q⟩ := z; exact gone_ok (S6.unsuite ok) hN hi hl fun s7 J7 => ⟨_, _, J7, q⟩
      | cont => obtain ⟨σ6, H6, S6, q⟩ := z; exact gone_ok (S6.unsuite ok) hN hi hl fun s7 J7 => ⟨_, _, J7, q⟩
      | ret u => obtain ⟨v, σ6, H6, S6, r6, q⟩ := z; exact gone_ok (S6.unsuite ok) hN hi hl fun s7 J7 => ⟨_, _, _, J7, r6, q⟩
theorem ps_try_mix {body : List Stmt} {h₀ : ExceptHandler} {hds : List ExceptHandler} {l : List Cl} {pos : Pos} {tb : WX → TS} {Wout : WX} (hs : X.stack = X.env :: X.outer) (hf : X.env.frame = some X.env.locals) (tk : Takes X Wout)
    (hb : ∀ (W : WX) (pn : List (Addr × Obj)) (xe : Value → Shared → Prop), Takes (X.tr pn xe) W → PassesOwn (model X.prog X.w) X.A X.env xe → PSs (X.tr pn xe) body (tb W)) (hh : ClsOk X (h₀ :: hds) l) : PS X (.Try body (h₀ :: hds) [] [] pos) (fun D σ H => tb (wCls X.K Wout D l) D σ H) := by
  refine ⟨fun pins s σ H D I h => wpAny_Try_except ?_⟩
  have ok := I.ok
  refine wpAny_mono ((hb (wCls X.K Wout D l) (X.pn ++ pins) _ (fun u s' xx => ?_) PassesOwn.looking).run [] s σ H D (I.toTry _) h) (fun f s1 z => ?_) (fun e s1 he => he)
  · obtain ⟨a, B, sI, pins', σ', H', cls, d, rfl, J', nb, up, sky, na, os, ag, w⟩ := xx
    refine Sky.land Zc.steady (by rw [ok.frames, hs]) hf (by rw [← hs]; exact sky) fun h3 fl3 up3 => ?_
    exact meets_clauses hs hf tk ok (J'.ofTry ok) nb (up.trans up3) fl3 na os ag hh w
  · cases f with
    | next => obtain ⟨σ', H', J', q⟩ := z; exact wpAny_execs_nil ⟨σ', H', J'.ofTry ok, q⟩
    | brk => obtain ⟨σ', H', J', q⟩ := z; exact ⟨σ', H', J'.ofTry ok, q⟩
    | cont => obtain ⟨σ', H', J', q⟩ := z; exact ⟨σ', H', J'.ofTry ok, q⟩
    | ret u => obtain ⟨v, σ', H', J', r, q⟩ := z; exact ⟨v, σ', H', J'.ofTry ok, r, q⟩
end
end PM
set_option Elab.async false
set_option linter.all false
set_option maxRecDepth 100000
set_option maxHeartbeats 4000000
namespace PM
open PySem L2
open PySem.PyData (strOk)
/-! ### another table of what stays -/
mutual
theorem dp_re {G G' : Gd} {H : Hp} (hK : G.K = G'.K) (hc : G.ca.at_ = G'.ca.at_) : ∀ {v : V} {d : D}, Dp G H v d → Dp G' H v d
  | _, _, .non => .non
  | _, _, .bl b => .bl b
  | _, _, .int i => .int i
  | _, _, .str x h => .str x h
  | _, _, .lst h r => .lst h (dpAll_re hK hc r)
  | _, _, .tup h r => .tup (by rw [← hK]; exact h) (dpAll_re hK hc r)
  | _, _, .obj h k r => .obj (by unfold ObA at h ⊢; rw [← hc]; exact h) k (dpAll_re hK hc r)
  | _, _, .scr h => .scr (by rw [← hK]; exact h)
theorem dpAll_re {G G' : Gd} {H : Hp} (hK : G.K = G'.K) (hc : G.ca.at_ = G'.ca.at_) : ∀ {vs : List V} {ds : List D}, DpAll G H vs ds → DpAll G' H vs ds
  | _, _, .nil => .nil
  | _, _, .cons h r => .cons (dp_re hK hc h) (dpAll_re hK hc r)
end
theorem RelS.re {G G' : Gd} {ρ : En} {σ : L2.St} {F H : Hp} (R : RelS G ρ σ F H) (hK : G.K = G'.K) (hc : G.ca.at_ = G'.ca.at_) (pn : Same G'.ca.pin H) (pf : Same G'.ca.frz F) (px : ∀ (i : Nat), ρ[i]? = some .exn → σ[i]? = some (some (.ref G'.ca.ea))) : RelS G' ρ σ F H where
  ex := R.ex
  len := R.len
  val := fun i d h => by
    obtain ⟨v, a, b⟩ := R.val i d h
    exact ⟨v, a, dp_re hK hc b⟩
  lst := fun i s ds h l => by
    obtain ⟨p, vs, a, b, c, d⟩ := R.lst i s ds h l
    exact ⟨p, vs, a, b, c, dpAll_re hK hc d⟩
  inj := R.inj
  pin := pn
  frz := pf
  exn := px
/-! ### try -/
structure Hd where
  c : Nat
  i : Option Nat
  su : Xc → M Fl
def noExn (ρ : En) : Bool := ρ.all fun s => match s with | .exn => false | _ => true
def offX (i : Option Nat) : Res Fl → Res Fl
  | .ok a ρ => match i with
    | none => if noExn ρ then .ok a ρ else .bad
    | some i => if isBor ρ[i]? then .bad else if noExn (ρ.set i .un) then .ok a (ρ.set i .un) else .bad
  | _ => .bad
def mHs (sub : Nat → Nat → Bool) : List Hd → Xc → M Fl
  | [], x, ρ => .err x ρ
  | k :: r, x, ρ => if sub x.cls k.c then if noExn ρ then match k.i with
      | none => offX none (k.su x ρ)
      | some i => if isBor ρ[i]? then .bad else offX (some i) (k.su x (ρ.set i .exn))
      else .bad
    else mHs sub r x ρ
def mTry (sub : Nat → Nat → Bool) (m : M Fl) (hs : List Hd) : M Fl := fun ρ => match m ρ with
  | .err x ρ1 => mHs sub hs x ρ1
  | r => r
/-- what is known in a suite: the error's class and fields -/
structure InX (K : PySem.W.Frag) (ca ca' : Ca) (a : Addr) (x : Xc) (cls : Value) (d : Option Addr) : Prop where
  at_ : ca'.at_ = ca.at_
  ea : ca'.ea = a
  cls : cls = .ref (ca.at_ x.cls)
  fs : x.fs = [] ∧ d = none ∨ ∃ (dx : Addr) (vs : List (Str × V)), d = some dx ∧ ca'.pin dx = some (.xd vs) ∧ vs.map (·.1) = x.fs.map (·.1) ∧ DpAll ⟨K, ca'⟩ ca'.frz (vs.map (·.2)) (x.fs.map (·.2))
def W0 : WX := fun _ _ _ _ => False
/-- the clauses of the text -/
inductive HOk (X : Cx) (ca : Ca) : List ExceptHandler → List Hd → Prop
  | nil : HOk X ca [] []
  | bare {x : Str} {c : Nat} {su : Xc → M Fl} {st : Stmt} {suite : List Stmt} {np hp : Pos} {hs : List ExceptHandler} {l : List Hd} (hn : Names X x (.ref (ca.at_ c)))
      (hr : ∀ (a : Addr) (oe : Obj) (cls : Value) (d : Option Addr) (pn : List (Addr × Obj)) (xx : Xc) (ca' : Ca), Zc cls d oe → (∃ vs, oe.data = .fields vs) → InX X.K ca ca' a xx cls d → DB (X.suite a ((a, oe) :: pn)) ca' W0 (st :: suite) (su xx)) (r : HOk X ca hs l) :
      HOk X ca (.ExceptHandler (some (.Name x np)) none (st :: suite) hp :: hs) (⟨c, none, su⟩ :: l)
  | named {x n : Str} {c i : Nat} {su : Xc → M Fl} {st : Stmt} {suite : List Stmt} {np hp : Pos} {hs : List ExceptHandler} {l : List Hd} (hn : Names X x (.ref (ca.at_ c))) (hN : X.N.Nodup) (hi : X.N[i]? = some n) (hl : X.env.kindOf n = some .local)
      (hr : ∀ (a : Addr) (oe : Obj) (cls : Value) (d : Option Addr) (pn : List (Addr × Obj)) (xx : Xc) (ca' : Ca), Zc cls d oe → (∃ vs, oe.data = .fields vs) → InX X.K ca ca' a xx cls d → DB (X.suite a ((a, oe) :: pn)) ca' W0 (st :: suite) (su xx)) (r : HOk X ca hs l) :
      HOk X ca (.ExceptHandler (some (.Name x np)) (some n) (st :: suite) hp :: hs) (⟨c, some i, su⟩ :: l)
/-- the readings of the clauses -/
def clOf (K : PySem.W.Frag) (ca : Ca) (k : Hd) : Cl := ⟨.ref (ca.at_ k.c), k.i, fun a cls d D σ H => ∃ (xx : Xc) (ca' : Ca), InX K ca ca' a xx cls d ∧ tS ⟨K, ca'⟩ W0 (k.su xx) D σ H⟩
theorem dpAll_len {G : Gd} {H : Hp} {vs : List V} {ds : List D} (h : DpAll G H vs ds) : vs.length = ds.length := h.length
section
variable {X : Cx} {ca : Ca} {W : WX}
theorem clauses_ok {hs : List ExceptHandler} {l : List Hd} (h : HOk X ca hs l) : ClsOk X hs (l.map (clOf X.K ca)) := by
  have key : ∀ {su : Xc → M Fl} {sts : List Stmt} {Y : Cx} {a : Addr} {cls : Value} {d : Option Addr}, Y.K = X.K → (∀ (xx : Xc) (ca' : Ca), InX X.K ca ca' a xx cls d → DB Y ca' W0 sts (su xx)) → PSs Y sts (fun D σ H => ∃ (xx : Xc) (ca' : Ca), InX X.K ca ca' a xx cls d ∧ tS ⟨X.K, ca'⟩ W0 (su xx) D σ H) := fun {su sts Y a cls d} hY hr => ⟨fun pins s σ H D I q => by
    obtain ⟨xx, ca', ix, q⟩ := q
    have z := (hr xx ca' ix).run pins s σ H D I
    rw [hY] at z
    exact z q⟩
  induction h with
  | nil => exact .nil
  | bare hn hr r ih => exact .bare hn (fun a oe cls d pn hz hf => key rfl fun xx ca' ix => hr a oe cls d pn xx ca' hz hf ix) ih
  | named hn hN hi hl hr r ih => exact .named hn hN hi hl (fun a oe cls d pn hz hf => key rfl fun xx ca' ix => hr a oe cls d pn xx ca' hz hf ix) ih
theorem noExn_not {ρ : En} (h : noExn ρ = true) (i : Nat) : ρ[i]? ≠ some .exn := fun e => by
  unfold noExn at h
  have := List.all_eq_true.mp h _ (List.mem_of_getElem? e)
  cases this
theorem set_un_rel {G : Gd} {ρ0 ρ : En} {σ0 σ : L2.St} {F0 H0 F H : Hp} {i : Nat} {v : Option V} {s : Sl} (hs : s = .un ∨ (s = .exn ∧ v = some (.ref G.ca.ea))) (R : RelS G ρ σ F H) (f : Fm ρ0 σ0 F0 H0 ρ σ F H) (nb : isBor ρ[i]? = false) : RelS G (ρ.set i s) (σ.set i v) F H ∧ Fm ρ0 σ0 F0 H0 (ρ.set i s) (σ.set i v) F H := by
  have nl : ∀ ds, ¬ Lst s ds := fun ds l => by
    rcases hs with rfl | ⟨rfl, _⟩ <;> rcases l with l | l <;> cases l
  have nv : ∀ d, s ≠ .val d := fun d z => by
    rcases hs with rfl | ⟨rfl, _⟩ <;> cases z
  refine ⟨⟨R.ex, by rw [List.length_set, List.length_set]; exact R.len, fun j e h => ?_, fun j t es h l => ?_, fun j k t u ds es p h1 l1 h2 l2 a1 a2 => ?_, R.pin, R.frz, fun j h => ?_⟩, ⟨f.ex, f.keep, f.new, fun a z => ?_, fun j es z => ?_, by rw [List.length_set]; exact f.len⟩⟩
  · rcases get_set h with ⟨rfl, z, lt⟩ | ⟨ne, h⟩
    · exact (nv _ z.symm).elim
    · obtain ⟨u, a, b⟩ := R.val j e h
      exact ⟨u, by rw [List.getElem?_set_ne ne]; exact a, b⟩
  · rcases get_set h with ⟨rfl, z, lt⟩ | ⟨ne, h⟩
    · subst z
      exact (nl _ l).elim
    · obtain ⟨p, vs, a, b⟩ := R.lst j t es h l
      exact ⟨p, vs, by rw [List.getElem?_set_ne ne]; exact a, b⟩
  · rcases get_set h1 with ⟨rfl, z, lt⟩ | ⟨n1, h1⟩
    · subst z
      exact (nl _ l1).elim
    rcases get_set h2 with ⟨rfl, z, lt⟩ | ⟨n2, h2⟩
    · subst z
      exact (nl _ l2).elim
    rw [List.getElem?_set_ne n1] at a1
    rw [List.getElem?_set_ne n2] at a2
    exact R.inj j k t u ds es p h1 l1 h2 l2 a1 a2
  · rcases get_set h with ⟨rfl, z, lt⟩ | ⟨ne, h⟩
    · rcases hs with rfl | ⟨rfl, rfl⟩
      · cases z
      · rw [List.getElem?_set]
        rw [R.len] at lt
        simp [lt]
    · rw [List.getElem?_set_ne ne]
      exact R.exn j h
  · obtain ⟨j, t, ds, h1, l, h2⟩ := z
    rcases get_set h1 with ⟨rfl, z, lt⟩ | ⟨ne, h1⟩
    · subst z
      exact (nl _ l).elim
    · rw [List.getElem?_set_ne ne] at h2
      exact f.own a ⟨j, t, ds, h1, l, h2⟩
  · obtain ⟨z1, es', z2⟩ := f.bor j es z
    have ne : i ≠ j := fun y => by
      subst y
      rw [z2] at nb
      cases nb
    exact ⟨by rw [List.getElem?_set_ne ne]; exact z1, es', by rw [List.getElem?_set_ne ne]; exact z2⟩
/-- what is pinned stands behind any code -/
theorem pin_step {G : Gd} {ρ ρ' : En} {σ σ' : L2.St} {F H F' H' : Hp} (R : RelS G ρ σ F H) (f : Fm ρ σ F H ρ' σ' F' H') : Same G.ca.pin H' := fun a o q => f.keep a o (R.pin a o q) fun ⟨j, t, ds, h1, l, h2⟩ => by
  obtain ⟨p, vs, e, _, hp, _⟩ := R.lst j t ds h1 l
  rw [h2] at e
  cases e
  have z := R.pin a o q
  rw [hp] at z
  cases z
  exact G.ca.nol a _ q vs rfl
theorem retR_re {G G' : Gd} {ρ0 ρ : En} {σ0 σ : L2.St} {H0 F H : Hp} {v : V} {r : Rv} (hK : G.K = G'.K) (hc : G.ca.at_ = G'.ca.at_) (h : RetR G ρ0 σ0 H0 ρ σ F H v r) : RetR G' ρ0 σ0 H0 ρ σ F H v r := by
  cases r with
  | val d => exact dp_re hK hc h
  | loc i => exact h
  | own ds =>
    obtain ⟨p, vs, rfl, a, b, c, e⟩ := h
    exact ⟨p, vs, rfl, a, b, dpAll_re hK hc c, e⟩
theorem RetR.from {G : Gd} {ρ0 ρ1 ρ : En} {σ0 σ1 σ : L2.St} {F0 H0 F1 H1 F H : Hp} {v : V} {r : Rv} (h : RetR G ρ1 σ1 H1 ρ σ F H v r) (f : Fm ρ0 σ0 F0 H0 ρ1 σ1 F1 H1) : RetR G ρ0 σ0 H0 ρ σ F H v r := by
  cases r with
  | val d => exact h
  | loc i => exact h
  | own ds =>
    obtain ⟨p, vs, rfl, a, b, c, e, nw⟩ := h
    exact ⟨p, vs, rfl, a, b, c, e, f.back nw⟩
/-- the table that a suite has -/
def caIn (ca : Ca) (F : Hp) (a : Addr) (P : Hp) (h : ∀ a o, P a = some o → ∀ xs, o ≠ .lst xs) : Ca := ⟨ca.at_, P, F, a, h⟩
theorem t_clauses {sub : Nat → Nat → Bool} {D : Ends} {ρ0 ρ1 : En} {σ0 σ : L2.St} {F0 H0 F H : Hp} {x : Xc} {cls : Value} {d : Option Addr} (R : RelS ⟨X.K, ca⟩ ρ1 σ F H) (f : Fm ρ0 σ0 F0 H0 ρ1 σ F H) (xr : XR ⟨X.K, ca⟩ F H x cls d) :
    ∀ {l : List Hd}, (∀ k ∈ l, PySem.W.exmOne X.K (.ref (ca.at_ x.cls)) (.ref (ca.at_ k.c)) = some (sub x.cls k.c)) → PostS ⟨X.K, ca⟩ W ρ0 σ0 F0 H0 D (mHs sub l x ρ1) → wCls X.K W D (l.map (clOf X.K ca)) cls d σ H
  | [], _, p => p cls d σ F H R f xr
  | ⟨kc, ki, ksu⟩ :: r, hsub, p => by
    have hx : cls = .ref (ca.at_ x.cls) := xr.cls
    refine ⟨sub x.cls kc, by rw [hx]; exact hsub ⟨kc, ki, ksu⟩ (.head _), fun hb a ha => ?_, fun hb => ?_⟩
    · unfold mHs at p
      dsimp only at p
      rw [hb, if_pos rfl] at p
      split at p
      · rename_i ne
        obtain ⟨P, hP, hPl, hfs⟩ : ∃ P : Hp, Same P H ∧ (∀ a o, P a = some o → ∀ xs, o ≠ .lst xs) ∧ (x.fs = [] ∧ d = none ∨ ∃ (dx : Addr) (vs : List (Str × V)), d = some dx ∧ P dx = some (.xd vs) ∧ vs.map (·.1) = x.fs.map (·.1) ∧ DpAll ⟨X.K, ca⟩ F (vs.map (·.2)) (x.fs.map (·.2))) := by
          rcases xr.fs with h | ⟨dx, vs, h1, h2, h3, h4⟩
          · exact ⟨fun _ => none, fun _ _ q => (by cases q), fun _ _ q => (by cases q), .inl h⟩
          · refine ⟨fun b => if b = dx then some (.xd vs) else none, fun b o q => ?_, fun b o q xs z => ?_, .inr ⟨dx, vs, h1, if_pos rfl, h3, h4⟩⟩
            · dsimp only at q
              split at q
              · rename_i e
                cases q
                rw [e]
                exact h2
              · cases q
            · dsimp only at q
              split at q
              · cases q
                cases z
              · cases q
        have ix : InX X.K ca (caIn ca F a P hPl) a x cls d := by
          refine ⟨rfl, rfl, hx, ?_⟩
          rcases hfs with h | ⟨dx, vs, h1, h2, h3, h4⟩
          · exact .inl h
          · exact .inr ⟨dx, vs, h1, h2, h3, dpAll_re (G := ⟨X.K, ca⟩) (G' := ⟨X.K, caIn ca F a P hPl⟩) (H := F) rfl rfl h4⟩
        have R' : RelS ⟨X.K, caIn ca F a P hPl⟩ ρ1 σ F H := R.re rfl rfl hP (Same.refl _) fun i e => (noExn_not ne i e).elim
        have back : ∀ {ρ2 : En} {σ2 : L2.St} {F2 H2 : Hp}, noExn ρ2 = true → RelS ⟨X.K, caIn ca F a P hPl⟩ ρ2 σ2 F2 H2 → Fm ρ1 σ F H ρ2 σ2 F2 H2 → RelS ⟨X.K, ca⟩ ρ2 σ2 F2 H2 := fun {ρ2 σ2 F2 H2} n2 R2 f2 => R2.re rfl rfl (pin_step R f2) (R.frz.trans f2.ex) fun i e => (noExn_not n2 i e).elim
        refine ⟨x, caIn ca F a P hPl, ix, ?_⟩
        cases ki with
        | none =>
          dsimp only at p
          refine ⟨F, ρ1, R', ?_⟩
          show PostS ⟨X.K, caIn ca F a P hPl⟩ W0 ρ1 σ F H D (ksu x ρ1)
          cases e : ksu x ρ1 with
          | bad => rw [e] at p; exact p
          | err y ρ2 => rw [e] at p; exact p.elim
          | ok fl ρ2 =>
            rw [e] at p
            unfold offX at p
            dsimp only at p
            split at p
            · rename_i n2
              cases fl with
              | nx => exact fun σ2 F2 H2 R2 f2 => p σ2 F2 H2 (back n2 R2 f2) (f.trans f2)
              | bk => exact fun σ2 F2 H2 R2 f2 => p σ2 F2 H2 (back n2 R2 f2) (f.trans f2)
              | ct => exact fun σ2 F2 H2 R2 f2 => p σ2 F2 H2 (back n2 R2 f2) (f.trans f2)
              | rt r => exact fun v σ2 F2 H2 R2 f2 q => p v σ2 F2 H2 (back n2 R2 f2) (f.trans f2) ((retR_re (G := ⟨X.K, caIn ca F a P hPl⟩) (G' := ⟨X.K, ca⟩) rfl rfl q).from f)
            · exact p.elim
        | some i =>
          dsimp only at p
          split at p
          · exact p.elim
          · rename_i nb
            obtain ⟨R1, f1⟩ := set_un_rel (G := ⟨X.K, caIn ca F a P hPl⟩) (i := i) (v := some (.ref a)) (s := .exn) (.inr ⟨rfl, rfl⟩) R' Fm.refl (by simpa using nb)
            refine ⟨F, ρ1.set i .exn, R1, ?_⟩
            show PostS ⟨X.K, caIn ca F a P hPl⟩ W0 (ρ1.set i .exn) (σ.set i (some (.ref a))) F H (offEnds (some i) D) (ksu x (ρ1.set i .exn))
            cases e : ksu x (ρ1.set i .exn) with
            | bad => rw [e] at p; exact p
            | err y ρ2 => rw [e] at p; exact p.elim
            | ok fl ρ2 =>
              rw [e] at p
              unfold offX at p
              dsimp only at p
              split at p
              · exact p.elim
              · rename_i nb2
                split at p
                · rename_i n2
                  have fin : ∀ {σ2 : L2.St} {F2 H2 : Hp}, RelS ⟨X.K, caIn ca F a P hPl⟩ ρ2 σ2 F2 H2 → Fm (ρ1.set i .exn) (σ.set i (some (.ref a))) F H ρ2 σ2 F2 H2 → RelS ⟨X.K, ca⟩ (ρ2.set i .un) (σ2.set i none) F2 H2 ∧ Fm ρ1 σ F H (ρ2.set i .un) (σ2.set i none) F2 H2 := fun {σ2 F2 H2} R2 f2 => by
                    obtain ⟨R3, f3⟩ := set_un_rel (i := i) (v := none) (s := .un) (.inl rfl) R2 (f1.trans f2) (by simpa using nb2)
                    exact ⟨back n2 R3 f3, f3⟩
                  cases fl with
                  | nx => exact fun σ2 F2 H2 R2 f2 => p _ F2 H2 (fin R2 f2).1 (f.trans (fin R2 f2).2)
                  | bk => exact fun σ2 F2 H2 R2 f2 => p _ F2 H2 (fin R2 f2).1 (f.trans (fin R2 f2).2)
                  | ct => exact fun σ2 F2 H2 R2 f2 => p _ F2 H2 (fin R2 f2).1 (f.trans (fin R2 f2).2)
                  | rt r =>
                    intro v σ2 F2 H2 R2 f2 q
                    obtain ⟨R3, f3⟩ := fin R2 f2
                    refine p v _ F2 H2 R3 (f.trans f3) ?_
                    have q' := ((retR_re (G := ⟨X.K, caIn ca F a P hPl⟩) (G' := ⟨X.K, ca⟩) rfl rfl q).from f1).from f
                    cases r with
                    | val d => exact q'
                    | loc i => exact q'
                    | own ds =>
                      obtain ⟨u, us, rfl, a1, a2, a3, a4, a5⟩ := q'
                      refine ⟨u, us, rfl, a1, a2, a3, fun ⟨j, t, es, h1, l, h2⟩ => a4 ?_, a5⟩
                      rcases get_set h1 with ⟨rfl, z, _⟩ | ⟨ne', h1⟩
                      · subst z
                        exact (not_lst_un _ l).elim
                      · rw [List.getElem?_set_ne ne'] at h2
                        exact ⟨j, t, es, h1, l, h2⟩
                · exact p.elim
      · exact p.elim
    · unfold mHs at p
      dsimp only at p
      rw [hb, if_neg Bool.false_ne_true] at p
      exact t_clauses R f xr (fun k' m => hsub k' (.tail _ m)) p
theorem ds_try {sub : Nat → Nat → Bool} {body : List Stmt} {h₀ : ExceptHandler} {hds : List ExceptHandler} {l : List Hd} {pos : Pos} {m : M Fl} (hs : X.stack = X.env :: X.outer) (hf : X.env.frame = some X.env.locals) (tk : Takes X W)
    (hsub : ∀ c k, k ∈ l → PySem.W.exmOne X.K (.ref (ca.at_ c)) (.ref (ca.at_ k.c)) = some (sub c k.c))
    (hb : ∀ (W' : WX) (pn : List (Addr × Obj)) (xe : Value → Shared → Prop), Takes (X.tr pn xe) W' → PassesOwn (model X.prog X.w) X.A X.env xe → DB (X.tr pn xe) ca W' body m) (hh : HOk X ca (h₀ :: hds) l) : DS X ca W (.Try body (h₀ :: hds) [] [] pos) (mTry sub m l) :=
  ps_imp (ps_try_mix (Wout := W) (tb := fun W' => tS ⟨X.K, ca⟩ W' m) hs hf tk hb (clauses_ok hh)) fun D σ H ⟨F, ρ, R, p⟩ => by
    refine ⟨F, ρ, R, ?_⟩
    unfold mTry at p
    cases e : m ρ with
    | bad => rw [e] at p; exact p
    | ok a ρ1 => rw [e] at p; cases a <;> exact p
    | err x ρ1 =>
      rw [e] at p
      exact fun cls d σ' F' H' R' f' xr => t_clauses R' f' xr (fun k hk => hsub x.cls k hk) p
end
end PM
set_option Elab.async false
set_option linter.all false
set_option maxRecDepth 100000
set_option maxHeartbeats 4000000
namespace PM
open PySem L2
open PySem.PyData (strOk)
theorem look_pair {G : Gd} {F : Hp} {f : Str} {d : D} : ∀ {vs : List (Str × V)} {fs : List (Str × D)}, vs.map (·.1) = fs.map (·.1) → DpAll G F (vs.map (·.2)) (fs.map (·.2)) → fs.lookup f = some d → ∃ v, vs.lookup f = some v ∧ Dp G F v d
  | _, [], _, _, e => by cases e
  | [], (g, d') :: fs, k, _, _ => by cases k
  | (g', v) :: vs, (g, d') :: fs, k, r, e => by
    simp only [List.map_cons, List.cons.injEq] at k
    obtain ⟨rfl, k⟩ := k
    cases r with
    | cons r1 r2 =>
      rw [List.lookup_cons] at e ⊢
      by_cases z : (f == g') = true
      · rw [z] at e ⊢
        cases e
        exact ⟨v, rfl, r1⟩
      · have z : (f == g') = false := by simpa using z
        rw [z] at e ⊢
        exact look_pair k r2 e
def mXf (i : Nat) (f : Str) (x : Xc) : M Rv := fun ρ => match ρ[i]? with
  | some .exn => match x.fs.lookup f with
    | some d => .ok (.val d) ρ
    | none => .bad
  | _ => .bad
section
variable {X : Cx} {ca ca' : Ca} {W : WX} {a : Addr} {oe : Obj} {cls : Value} {d : Option Addr} {pn : List (Addr × Obj)} {x : Xc}
/-- e.f in a suite -/
theorem de_xf {i : Nat} {n f : Str} {p pos : Pos} (ix : InX X.K ca ca' a x cls d) (hz : Zc cls d oe) (hf : ∃ vs, oe.data = .fields vs) (T : ∀ c, XfC X.K (ca.at_ c)) (hno : ∀ c, PySem.W.findIn X.K (.ref (ca.at_ c)) f = some none) (hv : PE (X.suite a ((a, oe) :: pn)) (.Name n p) (tVar i)) (hb : attributeBase (.Name n p) f X.env (eval (.Name n p) X.env) = eval (.Name n p) X.env) :
    DE (X.suite a ((a, oe) :: pn)) ca' W (.Attribute (.Name n p) f pos) (mXf i f x) := pe_imp (pe_xf (T x.cls) (hno x.cls) hz hf hv hb) fun σ H Q ⟨F, ρ, R, q⟩ => by
  unfold mXf at q
  split at q
  · rename_i e
    split at q
    · rename_i dd e2
      refine ⟨.ref a, by rw [← ix.ea]; exact R.exn i e, rfl, ix.cls, ?_⟩
      rcases ix.fs with ⟨h, _⟩ | ⟨dx, vs, h1, h2, h3, h4⟩
      · rw [h] at e2
        cases e2
      · obtain ⟨v, l1, l2⟩ := look_pair h3 h4 e2
        exact ⟨dx, vs, v, h1, R.pin _ _ h2, l1, q v F H R Fm.refl (dp_same R.frz l2)⟩
    · exact q.elim
  · exact q.elim
/-- isinstance(e, C) in a suite -/
def rIsX (K : PySem.W.Frag) (C a : Addr) (d : Option Addr) : List V → Hp → VK → Prop := fun xs H Q => ∃ (c : V) (cv : Value) (b : Bool), xs = [.ref a, c] ∧ (∀ u, RelV c u → u = cv) ∧ PySem.W.kitOne K (.ref C) cv = some b ∧ (d = none ∨ ∃ dx vs, d = some dx ∧ H dx = some (.xd vs)) ∧ Q (.bl b) H
theorem call_isX {C : Addr} (T : ExcC X.K C) (hz : Zc (.ref C) d oe) (hf : ∃ vs, oe.data = .fields vs) : CallR (X.suite a ((a, oe) :: pn)) (.builtin "isinstance") (rIsX X.K C a d) := by
  intro pins s σ H xs us Q I r h
  obtain ⟨c, cv, b, rfl, hcv, e, hd, q⟩ := h
  cases r with
  | cons rx rr =>
    cases rr with
    | cons rt rr =>
      cases rr
      cases rx
      have ec := hcv _ rt
      subst ec
      obtain ⟨hget, _⟩ := I.pin (a, oe) (List.mem_append.mpr (.inl (.head _)))
      obtain ⟨vs, hv⟩ := hf
      have hno : PySem.W.notCls oe = true := by unfold PySem.W.notCls; rw [hv] <;> rfl
      obtain ⟨od, J⟩ : ∃ od, PySem.W.InstAt s.heap a oe C od := by
        rcases hd with rfl | ⟨dx, ws, rfl, hx⟩
        · exact ⟨none, hget, hz.1, hno, by rw [hz.2]; trivial⟩
        · obtain ⟨mA, hns, _⟩ := (show ObjOk X.prog X.w H s.heap dx (.xd ws) from I.hok dx _ hx)
          obtain ⟨od, ho, _⟩ := lookIn_ns hns
          exact ⟨some od, hget, hz.1, hno, by rw [hz.2]; exact ho⟩
      obtain ⟨cd, hcd, _⟩ := PySem.W.any_some T.hd
      exact PySem.W.kia_one (PySem.W.kitx_exc (by rw [hcd]; rfl) T.hg T.hk T.hs T.ha T.hn T.ht T.hm) I.kIn J e (fun z => nomatch z) fun tk => ⟨.bl b, H, I.kept (t' := tk) fun _ _ z => z, rfl, q⟩
def mXi (i : Nat) (sub : Nat → Nat → Bool) (c : Nat) (x : Xc) : M Rv := fun ρ => match ρ[i]? with
  | some .exn => .ok (.val (.bl (sub x.cls c))) ρ
  | _ => .bad
theorem de_xi {sub : Nat → Nat → Bool} {i c : Nat} {n y : Str} {p p1 p2 pos : Pos} (ix : InX X.K ca ca' a x cls d) (hz : Zc cls d oe) (hf : ∃ vs, oe.data = .fields vs) (T : ∀ c, ExcC X.K (ca.at_ c)) (hk : ∀ c', PySem.W.kitOne X.K (.ref (ca.at_ c')) (.ref (ca.at_ c)) = some (sub c' c)) (hv : PE (X.suite a ((a, oe) :: pn)) (.Name n p1) (tVar i))
    (hg : Gl X "isinstance") (hm : X.mg "isinstance" = none) (hgy : Gl X y) (hmy : X.mg y = some (.ref (ca.at_ c))) (hdy : (y == ("__debug__" : Str)) = false) (he : starEach [.Name n p1, .Name y p2] X.env = [(false, eval (.Name n p1) X.env), (false, eval (.Name y p2) X.env)]) (he2 : starEach [.Name y p2] X.env = [(false, eval (.Name y p2) X.env)]) :
    DE (X.suite a ((a, oe) :: pn)) ca' W (.Call (.Name "isinstance" p) [.Name n p1, .Name y p2] [] pos) (mXi i sub c x) := by
  have hz' : Zc (.ref (ca.at_ x.cls)) d oe := by rw [← ix.cls]; exact hz
  refine pe_imp (pe_callB (X := X.suite a ((a, oe) :: pn)) (call_isX (T x.cls) hz' hf) hg hm (by decide +kernel) (pa_cons hv (pa_cons (pe_glob (v := .ref (ca.at_ c)) hgy hmy rfl hdy) pa_nil (by rw [he2]; rfl)) (by rw [he, he2])) (by decide) (by decide) (by rw [he, he2]) (by rw [he2]; rfl)) fun σ H Q ⟨F, ρ, R, q⟩ => ?_
  unfold mXi at q
  split at q
  · rename_i e
    refine ⟨.ref a, by rw [← ix.ea]; exact R.exn i e, _, _, _, rfl, fun u r => r, hk x.cls, ?_, q _ F H R Fm.refl (.bl _)⟩
    rcases ix.fs with ⟨_, h⟩ | ⟨dx, vs, h1, h2, _⟩
    · exact .inl h
    · exact .inr ⟨dx, vs, h1, R.pin _ _ h2⟩
  · exact q.elim
end
end PM
set_option Elab.async false
set_option linter.all false
set_option maxRecDepth 100000
set_option maxHeartbeats 4000000
namespace PM
open PySem L2
open PySem.PyData (strOk)
/-! ### the block's own names -/
def wipeE (ρ : En) : List Nat → En
  | [] => ρ
  | v :: vs => (wipeE ρ vs).set v .un
def restE (ρ0 ρ : En) : List Nat → En
  | [] => ρ
  | v :: vs => match ρ0[v]? with
    | some s => (restE ρ0 ρ vs).set v s
    | none => restE ρ0 ρ vs
/-- these slots hold no list -/
def plainAt (ρ : En) (vs : List Nat) : Bool := vs.all fun v => match ρ[v]? with
  | some .un => true
  | some (.val _) => true
  | _ => false
theorem plainAt_bor {ρ : En} {vs : List Nat} {v : Nat} (h : plainAt ρ vs = true) (m : v ∈ vs) : ρ[v]? = some .un ∨ ∃ d, ρ[v]? = some (.val d) := by
  unfold plainAt at h
  have := List.all_eq_true.mp h v m
  split at this
  · exact .inl (by assumption)
  · exact .inr ⟨_, by assumption⟩
  · cases this
theorem wipeE_length (ρ : En) : ∀ vs : List Nat, (wipeE ρ vs).length = ρ.length
  | [] => rfl
  | v :: vs => by unfold wipeE; rw [List.length_set, wipeE_length ρ vs]
theorem wipeE_get {ρ : En} {j : Nat} : ∀ {vs : List Nat}, (wipeE ρ vs)[j]? = if j ∈ vs then (if j < ρ.length then some .un else none) else ρ[j]?
  | [] => by simp [wipeE]
  | v :: vs => by
    unfold wipeE
    by_cases e : v = j
    · subst e
      rw [List.getElem?_set]
      simp [wipeE_length]
    · rw [List.getElem?_set_ne e, wipeE_get]
      have : (j ∈ v :: vs) ↔ j ∈ vs := by simp [Ne.symm e]
      simp only [this]
theorem wipe_get {σ : L2.St} {j : Nat} : ∀ {vs : List Nat}, (wipe σ vs)[j]? = if j ∈ vs then (if j < σ.length then some none else none) else σ[j]?
  | [] => by simp [wipe]
  | v :: vs => by
    unfold wipe
    by_cases e : v = j
    · subst e
      rw [List.getElem?_set]
      simp [wipe_length]
    · rw [List.getElem?_set_ne e, wipe_get]
      have : (j ∈ v :: vs) ↔ j ∈ vs := by simp [Ne.symm e]
      simp only [this]
theorem restE_length (ρ0 ρ : En) : ∀ vs : List Nat, (restE ρ0 ρ vs).length = ρ.length
  | [] => rfl
  | v :: vs => by
    unfold restE
    split
    · rw [List.length_set, restE_length ρ0 ρ vs]
    · exact restE_length ρ0 ρ vs
theorem restE_get {ρ0 ρ : En} {j : Nat} (hl : ρ.length = ρ0.length) : ∀ {vs : List Nat}, (restE ρ0 ρ vs)[j]? = if j ∈ vs then ρ0[j]? else ρ[j]?
  | [] => by simp [restE]
  | v :: vs => by
    unfold restE
    split
    · rename_i s q
      by_cases e : v = j
      · subst e
        have lt : v < ρ0.length := (List.getElem?_eq_some_iff.mp q).1
        rw [List.getElem?_set]
        simp [restE_length, hl, lt, q]
        exact (List.getElem?_eq_some_iff.mp q).2.symm
      · rw [List.getElem?_set_ne e, restE_get hl]
        have : (j ∈ v :: vs) ↔ j ∈ vs := by simp [Ne.symm e]
        simp only [this]
    · rename_i q
      rw [restE_get hl]
      by_cases e : v = j
      · subst e
        have ge : ρ0.length ≤ v := List.getElem?_eq_none_iff.mp q
        have : ρ[v]? = none := List.getElem?_eq_none_iff.mpr (by omega)
        simp [q, this]
      · have : (j ∈ v :: vs) ↔ j ∈ vs := by simp [Ne.symm e]
        simp only [this]
theorem owned_wipe {ρ : En} {σ : L2.St} {vs : List Nat} {a : Addr} (h : Owned (wipeE ρ vs) (wipe σ vs) a) : Owned ρ σ a := by
  obtain ⟨j, s, ds, h1, l, h2⟩ := h
  rw [wipeE_get] at h1
  rw [wipe_get] at h2
  split at h1
  · split at h1
    · cases h1
      exact (not_lst_un _ l).elim
    · cases h1
  · rename_i n
    rw [if_neg n] at h2
    exact ⟨j, s, ds, h1, l, h2⟩
theorem RelS.wipe {G : Gd} {ρ0 ρ : En} {σ0 σ : L2.St} {F0 H0 F H : Hp} {vs : List Nat} (R : RelS G ρ σ F H) (f : Fm ρ0 σ0 F0 H0 ρ σ F H) (nb : ∀ v ∈ vs, isBor ρ[v]? = false) : RelS G (wipeE ρ vs) (L2.wipe σ vs) F H ∧ Fm ρ0 σ0 F0 H0 (wipeE ρ vs) (L2.wipe σ vs) F H := by
  refine ⟨⟨R.ex, by rw [wipeE_length, wipe_length]; exact R.len, fun i d h => ?_, fun i s ds h l => ?_, fun i j s t ds es p h1 l1 h2 l2 a1 a2 => ?_, R.pin, R.frz, fun i h => ?_⟩, ⟨f.ex, f.keep, f.new, fun a h => f.own a (owned_wipe h), fun i ds h => ?_, by rw [wipe_length]; exact f.len⟩⟩
  · rw [wipeE_get] at h
    split at h
    · split at h <;> cases h
    · rename_i n
      rw [wipe_get, if_neg n]
      exact R.val i d h
  · rw [wipeE_get] at h
    split at h
    · split at h
      · cases h
        exact (not_lst_un _ l).elim
      · cases h
    · rename_i n
      rw [wipe_get, if_neg n]
      exact R.lst i s ds h l
  · rw [wipeE_get] at h1 h2
    rw [wipe_get] at a1 a2
    split at h1
    · split at h1
      · cases h1
        exact (not_lst_un _ l1).elim
      · cases h1
    split at h2
    · split at h2
      · cases h2
        exact (not_lst_un _ l2).elim
      · cases h2
    rename_i n1 n2
    rw [if_neg n1] at a1
    rw [if_neg n2] at a2
    exact R.inj i j s t ds es p h1 l1 h2 l2 a1 a2
  · rw [wipeE_get] at h
    split at h
    · split at h <;> cases h
    · rename_i n
      rw [wipe_get, if_neg n]
      exact R.exn i h
  · obtain ⟨z1, ds', z2⟩ := f.bor i ds h
    have n : i ∉ vs := fun m => by
      have := nb i m
      rw [z2] at this
      cases this
    exact ⟨by rw [wipe_get, if_neg n]; exact z1, ds', by rw [wipeE_get, if_neg n]; exact z2⟩
/-- behind the block -/
theorem RelS.rest {G : Gd} {ρ0 ρ1 ρ : En} {σ0 σ : L2.St} {F0 H0 F1 H1 F H : Hp} {vs : List Nat} (R1 : RelS G ρ1 σ F1 H1) (f1 : Fm ρ0 σ0 F0 H0 ρ1 σ F1 H1) (pl : plainAt ρ1 vs = true) (R : RelS G ρ (L2.wipe σ vs) F H) (f : Fm ρ1 σ F1 H1 ρ (L2.wipe σ vs) F H) :
    RelS G (restE ρ1 ρ vs) σ F H ∧ Fm ρ0 σ0 F0 H0 (restE ρ1 ρ vs) σ F H ∧ ∀ a, Owned (restE ρ1 ρ vs) σ a → Owned ρ (L2.wipe σ vs) a := by
  have hl : ρ.length = ρ1.length := by rw [R.len, R1.len, wipe_length]
  have key : ∀ (i : Nat) (s : Sl) (ds : List D), (restE ρ1 ρ vs)[i]? = some s → Lst s ds → ρ[i]? = some s ∧ i ∉ vs := fun i s ds h l => by
    rw [restE_get hl] at h
    split at h
    · rename_i m
      rcases plainAt_bor pl m with e | ⟨d, e⟩ <;> rw [e] at h <;> cases h
      · exact (not_lst_un _ l).elim
      · exact (not_lst_val _ l).elim
    · exact ⟨h, by assumption⟩
  have ow : ∀ a, Owned (restE ρ1 ρ vs) σ a → Owned ρ (L2.wipe σ vs) a := fun a ⟨i, s, ds, h1, l, h2⟩ => by
    obtain ⟨k1, k2⟩ := key i s ds h1 l
    exact ⟨i, s, ds, k1, l, by rw [wipe_get, if_neg k2]; exact h2⟩
  refine ⟨⟨R.ex, by rw [restE_length, hl]; exact R1.len, fun i d h => ?_, fun i s ds h l => ?_, fun i j s t ds es p h1 l1 h2 l2 a1 a2 => ?_, R.pin, R.frz, fun i h => ?_⟩, ⟨f1.ex.trans f.ex, (f1.trans f).keep, (f1.trans f).new, fun a h => (f1.trans f).own a (ow a h), fun i ds h => ?_, f1.len⟩, ow⟩
  · rw [restE_get hl] at h
    split at h
    · obtain ⟨v, a, b⟩ := R1.val i d h
      exact ⟨v, a, dp_same f.ex b⟩
    · rename_i n
      obtain ⟨v, a, b⟩ := R.val i d h
      rw [wipe_get, if_neg n] at a
      exact ⟨v, a, b⟩
  · obtain ⟨k1, k2⟩ := key i s ds h l
    obtain ⟨p, us, a, b⟩ := R.lst i s ds k1 l
    rw [wipe_get, if_neg k2] at a
    exact ⟨p, us, a, b⟩
  · obtain ⟨k1, k2⟩ := key i s ds h1 l1
    obtain ⟨k3, k4⟩ := key j t es h2 l2
    exact R.inj i j s t ds es p k1 l1 k3 l2 (by rw [wipe_get, if_neg k2]; exact a1) (by rw [wipe_get, if_neg k4]; exact a2)
  · rw [restE_get hl] at h
    split at h
    · exact R1.exn i h
    · rename_i n
      have := R.exn i h
      rw [wipe_get, if_neg n] at this
      exact this
  · obtain ⟨z1, ds1, z2⟩ := f1.bor i ds h
    have n : i ∉ vs := fun m => by
      rcases plainAt_bor pl m with e | ⟨d, e⟩ <;> rw [e] at z2 <;> cases z2
    obtain ⟨z3, ds2, z4⟩ := f.bor i ds1 z2
    exact ⟨z1, ds2, by rw [restE_get hl, if_neg n]; exact z4⟩
/-! ### the comprehension -/
/-- a target that sets the block's own names only -/
def DGo (X : Cx) (ca : Ca) (tg : Expr) (vs : List Nat) (h : D → En → Option En) (t : TG) : Prop := PG X tg t ∧ ∀ (d : D) (ρ ρ' : En) (v : V) (σ : L2.St) (F H : Hp) (Q : L2.St → Hp → Prop), RelS ⟨X.K, ca⟩ ρ σ F H → Dp ⟨X.K, ca⟩ F v d → h d ρ = some ρ' →
  (∀ σ', RelS ⟨X.K, ca⟩ ρ' σ' F H → Fm ρ σ F H ρ' σ' F H → wipe σ' vs = wipe σ vs → Q σ' H) → t v σ H Q
theorem wipe_set {σ : L2.St} {i : Nat} {v : Option V} : ∀ {vs : List Nat}, i ∈ vs → wipe (σ.set i v) vs = wipe σ vs := fun {vs} m => by
  apply List.ext_getElem?
  intro j
  rw [wipe_get, wipe_get, List.length_set]
  split
  · rfl
  · rename_i n
    rw [List.getElem?_set_ne (show i ≠ j from fun z => n (z ▸ m))]
def mLcL (h : D → En → Option En) (c : M Bool) (el : M Rv) (vs : List Nat) : List D → List D → M (List D)
  | [], acc, ρ => .ok acc ρ
  | d :: ds, acc, ρ => match h d ρ with
    | none => .bad
    | some ρ1 => match c ρ1 with
      | .ok true ρ2 => match el ρ2 with
        | .ok r ρ3 => match esc ρ3 r with
          | some (d', ρ4) => if acc.length < sizeLine ∧ vs.all (fun v => !isBor ρ4[v]?) = true then mLcL h c el vs ds (acc ++ [d']) (wipeE ρ4 vs) else .bad
          | none => .bad
        | _ => .bad
      | .ok false ρ2 => if vs.all (fun v => !isBor ρ2[v]?) = true then mLcL h c el vs ds acc (wipeE ρ2 vs) else .bad
      | _ => .bad
def lcEnd (ρ1 : En) (vs : List Nat) : Res (List D) → Res Rv
  | .ok acc ρ2 => .ok (.own acc) (restE ρ1 ρ2 vs)
  | _ => .bad
def mLc (mi : M (List D)) (vs : List Nat) (h : D → En → Option En) (c : M Bool) (el : M Rv) : M Rv := fun ρ => match mi ρ with
  | .ok ds ρ1 => if plainAt ρ1 vs then lcEnd ρ1 vs (mLcL h c el vs ds [] (wipeE ρ1 vs)) else .bad
  | .err x ρ1 => .err x ρ1
  | .bad => .bad
section
variable {X : Cx} {ca : Ca} {W : WX}
theorem t_lc {K : PySem.W.Frag} {mi : M (List D)} {vs : List Nat} {h : D → En → Option En} {c : M Bool} {el : M Rv} {g : TG}
    (ht : ∀ (d : D) (ρ ρ' : En) (v : V) (σ : L2.St) (F H : Hp) (Q : L2.St → Hp → Prop), RelS ⟨K, ca⟩ ρ σ F H → Dp ⟨K, ca⟩ F v d → h d ρ = some ρ' → (∀ σ', RelS ⟨K, ca⟩ ρ' σ' F H → Fm ρ σ F H ρ' σ' F H → wipe σ' vs = wipe σ vs → Q σ' H) → g v σ H Q)
    {σ : L2.St} {H : Hp} {Q : VK} (hh : tE ⟨K, ca⟩ W (mLc mi vs h c el) σ H Q) : tLc (tI ⟨K, ca⟩ W mi) g (tT ⟨K, ca⟩ W0 c) (tE ⟨K, ca⟩ W0 el) vs σ H Q := by
  obtain ⟨F, ρ, R, p⟩ := hh
  refine ⟨F, ρ, R, ?_⟩
  unfold mLc at p
  cases e1 : mi ρ with
  | bad => rw [e1] at p; exact p
  | err x ρ1 => rw [e1] at p; exact p
  | ok ds ρ1 =>
    rw [e1] at p
    intro J F1 H1 R1 f1 it A hA
    dsimp only at p
    split at p
    · rename_i pl
      have nbw : ∀ v ∈ vs, isBor ρ1[v]? = false := fun v m => by
        rcases plainAt_bor pl m with e | ⟨d, e⟩ <;> rw [e] <;> rfl
      obtain ⟨Rw, fw⟩ := R1.wipe (Fm.refl (ρ := ρ1) (σ := σ) (F := F1) (H := H1)) nbw
      have fA : F1 A = none := R1.ex.free hA
      let N : Nat → Hp → Prop := fun i H' => ∃ F' ρ' acc av, RelS ⟨K, ca⟩ ρ' (wipe σ vs) F' H' ∧ Fm ρ1 σ F1 H1 ρ' (wipe σ vs) F' H' ∧ Same F1 F' ∧ H' A = some (.lst av) ∧ DpAll ⟨K, ca⟩ F' av acc ∧ F' A = none ∧ ¬ Owned ρ' (wipe σ vs) A ∧
        Post ⟨K, ca⟩ W (RvR ⟨K, ca⟩) ρ σ F H Q (lcEnd ρ1 vs (mLcL h c el vs (ds.drop i) acc ρ'))
      have grA : Grow F1 H1 F1 (upd H1 A (.lst [])) := Grow.own R1.ex hA
      have now : ∀ {ρ' : En} {σ' : L2.St} {F' H' : Hp}, Fm ρ1 σ F1 H1 ρ' σ' F' H' → RelS ⟨K, ca⟩ ρ1 σ F1 H1 → True := fun _ _ => trivial
      have noA1 : ¬ Owned ρ1 σ A := fun ⟨i, s, es, h1, l, h2⟩ => by
        obtain ⟨q, us, e, _, hq, _⟩ := R1.lst i s es h1 l
        rw [h2] at e
        cases e
        rw [hA] at hq
        cases hq
      refine ⟨fun i m H' => m + i = ds.length ∧ N i H', ⟨ds.length, rfl, F1, wipeE ρ1 vs, [], [], Rw.grow grA, fw.trans (Fm.grow grA), Same.refl _, upd_same, .nil, fA, fun z => noA1 (owned_wipe z), p⟩, ?_⟩
      rintro i m H' ⟨hm, F', ρ', acc, av, R', f', s', hA', ra, fA', nA', p'⟩
      cases e2 : ds.drop i with
      | nil =>
        rw [e2] at p'
        have hi : i = ds.length := by
          have := List.drop_eq_nil_iff.mp e2
          omega
        subst hi
        refine .inl ⟨it.stop F' H' s' R'.ex, ?_⟩
        obtain ⟨Rr, fr, ow⟩ := R1.rest f1 pl R' f'
        exact p' _ F' H' Rr fr ⟨A, av, rfl, fA', hA', ra, fun z => nA' (ow A z), f1.dead hA⟩
      | cons d r =>
        rw [e2] at p'
        have hd : ds[i]? = some d := by
          have := congrArg List.head? e2
          rw [List.head?_drop] at this
          exact this
        have hr : ds.drop (i + 1) = r := by
          have := congrArg List.tail e2
          rw [List.tail_drop] at this
          exact this
        have lt : i < ds.length := (List.getElem?_eq_some_iff.mp hd).1
        obtain ⟨g1, g2⟩ := it.go i d F' H' s' R'.ex hd
        refine .inr ⟨g1, N (i + 1), fun H2 n => ⟨m - 1, by omega, by omega, n⟩, fun x H2 y => ?_⟩
        obtain ⟨F2, gr, kx⟩ := g2 x H2 y
        unfold mLcL at p'
        cases e3 : h d ρ' with
        | none => rw [e3] at p'; exact p'.elim
        | some ρ2 =>
          rw [e3] at p'
          dsimp only at p'
          refine ht d ρ' ρ2 x (wipe σ vs) F2 H2 _ (R'.grow gr) kx e3 fun σ3 R3 f3 wp => ?_
          have ww : wipe (wipe σ vs) vs = wipe σ vs := by
            apply List.ext_getElem?
            intro j
            rw [wipe_get, wipe_length, wipe_get]
            split
            · rfl
            · rfl
          have wp' : wipe σ3 vs = wipe σ vs := wp.trans ww
          refine ⟨wp', F2, ρ2, R3, ?_⟩
          have f4 : Fm ρ1 σ F1 H1 ρ2 σ3 F2 H2 := (f'.trans (Fm.grow gr)).trans f3
          have stepA : ∀ {ρa ρb : En} {σa σb : L2.St} {Fa Ha Fb Hb : Hp} {av : List V}, Fm ρa σa Fa Ha ρb σb Fb Hb → Ha A = some (.lst av) → Fa A = none → ¬ Owned ρa σa A → Hb A = some (.lst av) ∧ Fb A = none ∧ ¬ Owned ρb σb A := fun {ρa ρb σa σb Fa Ha Fb Hb av} ff h1 h2 h3 => by
            refine ⟨ff.keep A _ h1 h3, ?_, fun z => ?_⟩
            · cases q : Fb A with
              | none => rfl
              | some o =>
                rcases ff.new A o q h2 with z | z
                · exact (h3 z).elim
                · rw [h1] at z
                  cases z
            · rcases ff.own A z with z | z
              · exact h3 z
              · rw [h1] at z
                cases z
          obtain ⟨hA2, fA2, nA2⟩ := stepA ((Fm.grow gr).trans f3) hA' fA' nA'
          have ra2 := dpAll_same gr.ff ra
          cases e4 : c ρ2 with
          | bad => rw [e4] at p'; exact p'
          | err y ρ3 => rw [e4] at p'; exact p'.elim
          | ok b ρ3 =>
            rw [e4] at p'
            intro b' F3 H3 R3' f5 kb
            cases kb
            obtain ⟨hA3, fA3, nA3⟩ := stepA f5 hA2 fA2 nA2
            cases b with
            | false =>
              dsimp only at p'
              split at p'
              · rename_i nb
                show N (i + 1) H3
                obtain ⟨R6, f6⟩ := R3'.wipe (vs := vs) (f4.trans f5) fun v mv => by
                  have := List.all_eq_true.mp nb v mv
                  simpa using this
                rw [wp'] at R6 f6
                refine ⟨F3, wipeE ρ3 vs, acc, av, R6, f6, (s'.trans gr.ff).trans f5.ex, hA3, dpAll_same f5.ex ra2, fA3, fun z => nA3 (owned_wipe (vs := vs) (by rw [wp']; exact z)), by rw [hr]; exact p'⟩
              · exact p'.elim
            | true =>
              dsimp only at p'
              show tE ⟨K, ca⟩ W0 el σ3 H3 _
              refine ⟨F3, ρ3, R3', ?_⟩
              cases e5 : el ρ3 with
              | bad => rw [e5] at p'; exact p'
              | err y ρ4 => rw [e5] at p'; exact p'.elim
              | ok rv ρ4 =>
                rw [e5] at p'
                intro v F4 H4 R4 f7 k7
                dsimp only at p'
                obtain ⟨hA4, fA4, nA4⟩ := stepA f7 hA3 fA3 nA3
                cases e6 : esc ρ4 rv with
                | none => rw [e6] at p'; exact p'.elim
                | some y =>
                  obtain ⟨d', ρ5⟩ := y
                  rw [e6] at p'
                  dsimp only at p'
                  split at p'
                  · rename_i cnd
                    obtain ⟨F5, E5⟩ := esc_ok R4 f7 k7 e6
                    have fA5 : F5 A = none := by
                      cases q : F5 A with
                      | none => rfl
                      | some o =>
                        rcases E5.new A o q fA4 with z | z
                        · exact (nA4 z).elim
                        · obtain ⟨nw, _⟩ := k7.new A z
                          rcases nw with z | z
                          · exact (nA3 z).elim
                          · rw [hA3] at z
                            cases z
                    have nA5 : ¬ Owned ρ5 σ3 A := fun z => nA4 (E5.own A z)
                    have fm5 := (f4.trans f5).trans E5.fm
                    refine ⟨av, hA4, by rw [ra.length]; exact cnd.1, ?_⟩
                    have R8 : RelS ⟨K, ca⟩ ρ5 σ3 F5 (upd H4 A (.lst (av ++ [v]))) := by
                      refine ⟨fun b o q => ?_, E5.rel.len, E5.rel.val, fun j s es hj l => ?_, E5.rel.inj, E5.rel.pins hA4, E5.rel.frz, E5.rel.exn⟩
                      · rw [upd_ne fun z => by rw [z, fA5] at q; cases q]
                        exact E5.rel.ex b o q
                      · obtain ⟨q, us, b1, b2, b3, b4⟩ := E5.rel.lst j s es hj l
                        have ne : q ≠ A := fun z => nA5 ⟨j, s, es, hj, l, by rw [← z]; exact b1⟩
                        exact ⟨q, us, b1, b2, by rw [upd_ne ne]; exact b3, b4⟩
                    have f8 : Fm ρ1 σ F1 H1 ρ5 σ3 F5 (upd H4 A (.lst (av ++ [v]))) := ⟨fm5.ex, fun b o q n => by rw [upd_ne (show b ≠ A from fun z => by rw [z, hA] at q; cases q)]; exact fm5.keep b o q n, fm5.new, fm5.own, fm5.bor, fm5.len⟩
                    obtain ⟨R9, f9⟩ := R8.wipe (vs := vs) f8 fun v mv => by
                      have := List.all_eq_true.mp cnd.2 v mv
                      simpa using this
                    rw [wp'] at R9 f9
                    exact ⟨F5, wipeE ρ5 vs, acc ++ [d'], av ++ [v], R9, f9, ((s'.trans gr.ff).trans f5.ex).trans (f7.ex.trans E5.ff), upd_same, (dpAll_same ((f5.ex.trans f7.ex).trans E5.ff) ra2).append (.cons E5.dp .nil), fA5, fun z => nA5 (owned_wipe (vs := vs) (by rw [wp']; exact z)), by rw [hr]; exact p'⟩
                  · exact p'.elim
    · exact p.elim
end
end PM
set_option Elab.async false
set_option linter.all false
set_option maxRecDepth 100000
set_option maxHeartbeats 4000000
namespace PM
open PySem L2
open PySem.PyData (strOk)
/-! ### short words: side conditions by themselves -/
/-- what is known of a body's place: its names, the built-ins, the room -/
structure Bd (X : Cx) (vi li : List Nat) (ug : List Str) : Prop where
  vis : ∀ i ∈ vi, ∀ x, X.N[i]? = some x → Vis X.env.scope x ∧ (x == ("__debug__" : Str)) = false ∧ (x == ("__classdict__" : Str)) = false
  loc : ∀ i ∈ li, ∀ x, X.N[i]? = some x → Loc X.env.scope x ∧ (X.fn x = true ∨ X.env.scope.names.lookup x = some .local)
  gl : ∀ x ∈ ug, Gl X x
  nd : X.N.Nodup
  un : X.A.units + 65 < cLine
/-- .. and of what is raised there -/
structure Bx (X : Cx) (W : WX) (k : Nat) : Prop where
  tk : Takes X W
  po : PassesOwn (model X.prog X.w) X.A X.env X.xe
  calm : X.calm = true
  room : Room k X.A
section
variable {X : Cx} {ca : Ca} {W : WX} {vi li : List Nat} {ug : List Str}
theorem mem_at {α : Type} {l : List α} {i : Nat} {x : α} (h : l[i]? = some x) : x ∈ l := List.mem_of_getElem? h
theorem v_var (B : Bd X vi li ug) (i : Nat) {x : Str} {pos : Pos} (hi : i ∈ vi := by decide) (hN : X.N[i]? = some x := by rfl) : DE X ca W (.Name x pos) (mVar i) :=
  de_var i hN (B.vis i hi x hN).1 (B.vis i hi x hN).2.1 (B.vis i hi x hN).2.2
theorem v_set (B : Bd X vi li ug) (i : Nat) {x : Str} {e : Expr} {m : M Rv} {pos pos' : Pos} (he : DE X ca W e m) (hi : i ∈ li := by decide) (hN : X.N[i]? = some x := by rfl) (hs : swapsWith e (some (.Name x pos')) pos.line X.env = pure false := by rfl) : DS X ca W (.Assign [.Name x pos'] e pos) (mSet i m) :=
  ds_set B.nd hN (B.loc i hi x hN).1 he hs (B.loc i hi x hN).2
theorem v_str {x : Str} {j : Nat} {pos : Pos} (h : strOk x = true := by decide +kernel) : DE X ca W (.Constant (.str x) j pos) (mC (.str x)) := de_str h
theorem v_cons {e : Expr} {es : List Expr} {m : M Rv} {n : M (List Rv)} (ha : DE X ca W e m) (hr : DA X ca W es n) (hs : starEach (e :: es) X.env = (false, eval e X.env) :: starEach es X.env := by rfl) : DA X ca W (e :: es) (mCons m n) := da_cons ha hr hs
theorem v_eq (B : Bd X vi li ug) {a b : Expr} {m n : M Rv} {pos : Pos} (ha : DE X ca W a m) (hb : DE X ca W b n) : DE X ca W (.Compare a [.Eq] [b] pos) (mOp2 gEq m n) := de_cmp2 (op_eqD (Nat.lt_of_succ_lt B.un)) op_eq' ha hb (nomark _)
theorem v_ne (B : Bd X vi li ug) {a b : Expr} {m n : M Rv} {pos : Pos} (ha : DE X ca W a m) (hb : DE X ca W b n) : DE X ca W (.Compare a [.NotEq] [b] pos) (mOp2 gNe m n) := de_cmp2 (op_neD (Nat.lt_of_succ_lt B.un)) op_ne' ha hb (nomark _)
theorem t_eq (B : Bd X vi li ug) {a b : Expr} {m n : M Rv} {pos : Pos} (ha : DE X ca W a m) (hb : DE X ca W b n) : DT X ca W (.Compare a [.Eq] [b] pos) (mB (mOp2 gEq m n)) := dt_cmp2 (op_eqD (Nat.lt_of_succ_lt B.un)) op_eq' gEq_bl ha hb (nomark _)
theorem t_ne (B : Bd X vi li ug) {a b : Expr} {m n : M Rv} {pos : Pos} (ha : DE X ca W a m) (hb : DE X ca W b n) : DT X ca W (.Compare a [.NotEq] [b] pos) (mB (mOp2 gNe m n)) := dt_cmp2 (op_neD (Nat.lt_of_succ_lt B.un)) op_ne' gNe_bl ha hb (nomark _)
theorem v_lt {a b : Expr} {m n : M Rv} {pos : Pos} (ha : DE X ca W a m) (hb : DE X ca W b n) : DE X ca W (.Compare a [.Lt] [b] pos) (mOp2 gLt m n) := de_cmp2 op_lt (op_I0 fun _ _ _ => .bl _) ha hb (nomark _)
theorem v_le {a b : Expr} {m n : M Rv} {pos : Pos} (ha : DE X ca W a m) (hb : DE X ca W b n) : DE X ca W (.Compare a [.LtE] [b] pos) (mOp2 gLe m n) := de_cmp2 op_le (op_I0 fun _ _ _ => .bl _) ha hb (nomark _)
theorem v_gt {a b : Expr} {m n : M Rv} {pos : Pos} (ha : DE X ca W a m) (hb : DE X ca W b n) : DE X ca W (.Compare a [.Gt] [b] pos) (mOp2 gGt m n) := de_cmp2 op_gt (op_I0 fun _ _ _ => .bl _) ha hb (nomark _)
theorem v_ge {a b : Expr} {m n : M Rv} {pos : Pos} (ha : DE X ca W a m) (hb : DE X ca W b n) : DE X ca W (.Compare a [.GtE] [b] pos) (mOp2 gGe m n) := de_cmp2 op_ge (op_I0 fun _ _ _ => .bl _) ha hb (nomark _)
theorem t_lt {a b : Expr} {m n : M Rv} {pos : Pos} (ha : DE X ca W a m) (hb : DE X ca W b n) : DT X ca W (.Compare a [.Lt] [b] pos) (mB (mOp2 gLt m n)) := dt_cmp2 op_lt (op_I0 fun _ _ _ => .bl _) gI0_bl ha hb (nomark _)
theorem t_le {a b : Expr} {m n : M Rv} {pos : Pos} (ha : DE X ca W a m) (hb : DE X ca W b n) : DT X ca W (.Compare a [.LtE] [b] pos) (mB (mOp2 gLe m n)) := dt_cmp2 op_le (op_I0 fun _ _ _ => .bl _) gI0_bl ha hb (nomark _)
theorem t_gt {a b : Expr} {m n : M Rv} {pos : Pos} (ha : DE X ca W a m) (hb : DE X ca W b n) : DT X ca W (.Compare a [.Gt] [b] pos) (mB (mOp2 gGt m n)) := dt_cmp2 op_gt (op_I0 fun _ _ _ => .bl _) gI0_bl ha hb (nomark _)
theorem t_ge {a b : Expr} {m n : M Rv} {pos : Pos} (ha : DE X ca W a m) (hb : DE X ca W b n) : DT X ca W (.Compare a [.GtE] [b] pos) (mB (mOp2 gGe m n)) := dt_cmp2 op_ge (op_I0 fun _ _ _ => .bl _) gI0_bl ha hb (nomark _)
theorem v_in (B : Bd X vi li ug) {a b : Expr} {m n : M Rv} {pos : Pos} (ha : DE X ca W a m) (hb : DE X ca W b n) (hm : behindInMarks .In b = false := by rfl) : DE X ca W (.Compare a [.In] [b] pos) (mOp2 (gIn false) m n) := de_cmp2 (or_in B.un) op_in' ha hb hm
theorem v_notIn (B : Bd X vi li ug) {a b : Expr} {m n : M Rv} {pos : Pos} (ha : DE X ca W a m) (hb : DE X ca W b n) (hm : behindInMarks .NotIn b = false := by rfl) : DE X ca W (.Compare a [.NotIn] [b] pos) (mOp2 (gIn true) m n) := de_cmp2 (or_notIn B.un) op_notIn' ha hb hm
theorem t_in (B : Bd X vi li ug) {a b : Expr} {m n : M Rv} {pos : Pos} (ha : DE X ca W a m) (hb : DE X ca W b n) (hm : behindInMarks .In b = false := by rfl) : DT X ca W (.Compare a [.In] [b] pos) (mB (mOp2 (gIn false) m n)) := dt_cmp2 (or_in B.un) op_in' gIn_bl ha hb hm
theorem t_notIn (B : Bd X vi li ug) {a b : Expr} {m n : M Rv} {pos : Pos} (ha : DE X ca W a m) (hb : DE X ca W b n) (hm : behindInMarks .NotIn b = false := by rfl) : DT X ca W (.Compare a [.NotIn] [b] pos) (mB (mOp2 (gIn true) m n)) := dt_cmp2 (or_notIn B.un) op_notIn' gIn_bl ha hb hm
theorem v_is {a b : Expr} {m n : M Rv} {pos : Pos} (ha : DE X ca W a m) (hb : DE X ca W b n) : DE X ca W (.Compare a [.Is] [b] pos) (mOp2 (gIsN false) m n) := de_cmp2 op_isN op_isN' ha hb (nomark _)
theorem v_isNot {a b : Expr} {m n : M Rv} {pos : Pos} (ha : DE X ca W a m) (hb : DE X ca W b n) : DE X ca W (.Compare a [.IsNot] [b] pos) (mOp2 (gIsN true) m n) := de_cmp2 op_notN op_notN' ha hb (nomark _)
theorem t_is {a b : Expr} {m n : M Rv} {pos : Pos} (ha : DE X ca W a m) (hb : DE X ca W b n) : DT X ca W (.Compare a [.Is] [b] pos) (mB (mOp2 (gIsN false) m n)) := dt_cmp2 op_isN op_isN' gIsN_bl ha hb (nomark _)
theorem t_isNot {a b : Expr} {m n : M Rv} {pos : Pos} (ha : DE X ca W a m) (hb : DE X ca W b n) : DT X ca W (.Compare a [.IsNot] [b] pos) (mB (mOp2 (gIsN true) m n)) := dt_cmp2 op_notN op_notN' gIsN_bl ha hb (nomark _)
theorem t_val {e : Expr} {m : M Rv} (h : DE X ca W e m) (he : ∀ whole, isTrue e X.env whole = (do let v ← whole; standAt e.pos; holding [v] (truthy v)) := by intro _; rfl) : DT X ca W e (mB m) := dt_truth h he
theorem v_add {a b : Expr} {m n : M Rv} {pos : Pos} (ha : DE X ca W a m) (hb : DE X ca W b n) : DE X ca W (.BinOp a .Add b pos) (mOp2 gAdd m n) := de_op2 or_add op_add' ha hb
theorem v_sub {a b : Expr} {m n : M Rv} {pos : Pos} (ha : DE X ca W a m) (hb : DE X ca W b n) : DE X ca W (.BinOp a .Sub b pos) (mOp2 gSub m n) := de_op2 op_sub (op_I0 fun _ _ _ => .int _) ha hb
theorem v_mul {a b : Expr} {m n : M Rv} {pos : Pos} (ha : DE X ca W a m) (hb : DE X ca W b n) : DE X ca W (.BinOp a .Mult b pos) (mOp2 gMul m n) := de_op2 op_mul (op_I fun _ _ _ => .int _) ha hb
theorem v_mod {a b : Expr} {m n : M Rv} {pos : Pos} (ha : DE X ca W a m) (hb : DE X ca W b n) : DE X ca W (.BinOp a .Mod b pos) (mOp2 gMod m n) := de_op2 op_mod (op_I fun _ _ _ => .int _) ha hb
theorem v_fdiv {a b : Expr} {m n : M Rv} {pos : Pos} (ha : DE X ca W a m) (hb : DE X ca W b n) : DE X ca W (.BinOp a .FloorDiv b pos) (mOp2 gFdiv m n) := de_op2 op_fdiv (op_I fun _ _ _ => .int _) ha hb
theorem v_pow {a b : Expr} {m n : M Rv} {pos : Pos} (ha : DE X ca W a m) (hb : DE X ca W b n) : DE X ca W (.BinOp a .Pow b pos) (mOp2 gPow m n) := de_op2 op_pow (op_I fun _ _ _ => .int _) ha hb
def gNeg : D → Option Rv
  | .int i => some (.val (.int (-i)))
  | _ => none
theorem op_neg' {G : Gd} : Op1 G (rU fun i => .int (-i)) gNeg := fun d z h x F H Q s hx k => by
  unfold gNeg at h
  split at h
  · cases h
    cases hx.int
    exact ⟨_, rfl, k.val s (.int _)⟩
  · cases h
theorem v_neg {a : Expr} {m : M Rv} {pos : Pos} (ha : DE X ca W a m) : DE X ca W (.UnaryOp .USub a pos) (mOp1 gNeg m) := de_un1 un_neg op_neg' ha
theorem v_ix {a b : Expr} {m n : M Rv} {pos : Pos} (ha : DE X ca W a m) (hb : DE X ca W b n) (hs : PlainIx b := by exact fun _ _ => rfl) : DE X ca W (.Subscript a b pos) (mOp2 gIx m n) := de_ix2 ix_seq op_ix' ha hb hs
theorem v_len (B : Bd X vi li ug) {p pos : Pos} {e : Expr} {m : M (List Rv)} (hm : X.mg "len" = none) (ha : DA X ca W [e] m) (hg : ("len" : Str) ∈ ug := by decide +kernel) (he : starEach [e] X.env = [(false, eval e X.env)] := by rfl) : DE X ca W (.Call (.Name "len" p) [e] [] pos) (mOpN gLen m) :=
  de_callB call_len cr_len' (B.gl _ hg) hm boot_len ha (by decide) (by decide) he rfl
theorem v_int (B : Bd X vi li ug) {p pos : Pos} {e : Expr} {m : M (List Rv)} (hm : X.mg "int" = none) (ha : DA X ca W [e] m) (hg : ("int" : Str) ∈ ug := by decide +kernel) (he : starEach [e] X.env = [(false, eval e X.env)] := by rfl) : DE X ca W (.Call (.Name "int" p) [e] [] pos) (mOpN gInt m) :=
  de_callTy call_int1 cr_int' (B.gl _ hg) hm (by decide +kernel) ha (by decide) (by decide) he rfl
theorem v_abs (B : Bd X vi li ug) {p pos : Pos} {e : Expr} {m : M (List Rv)} (hm : X.mg "abs" = none) (ha : DA X ca W [e] m) (hg : ("abs" : Str) ∈ ug := by decide +kernel) (he : starEach [e] X.env = [(false, eval e X.env)] := by rfl) : DE X ca W (.Call (.Name "abs" p) [e] [] pos) (mOpN gAbs m) :=
  de_callB call_abs cr_abs' (B.gl _ hg) hm (by decide +kernel) ha (by decide) (by decide) he rfl
theorem v_list (B : Bd X vi li ug) {p pos : Pos} {e : Expr} {m : M (List Rv)} (hm : X.mg "list" = none) (ha : DA X ca W [e] m) (hg : ("list" : Str) ∈ ug := by decide +kernel) (he : starEach [e] X.env = [(false, eval e X.env)] := by rfl) : DE X ca W (.Call (.Name "list" p) [e] [] pos) (mOpN gList m) :=
  de_callTy call_list_of cr_list' (B.gl _ hg) hm (by decide +kernel) ha (by decide) (by decide) he rfl
theorem v_tuple (B : Bd X vi li ug) {p pos : Pos} {e : Expr} {m : M (List Rv)} (hm : X.mg "tuple" = none) (ha : DA X ca W [e] m) (hg : ("tuple" : Str) ∈ ug := by decide +kernel) (he : starEach [e] X.env = [(false, eval e X.env)] := by rfl) : DE X ca W (.Call (.Name "tuple" p) [e] [] pos) (mOpN gTuple m) :=
  de_callTy call_tuple_of cr_tuple' (B.gl _ hg) hm (by decide +kernel) ha (by decide) (by decide) he rfl
theorem v_isi (B : Bd X vi li ug) (T : String) {tn : Str} {p p2 pos : Pos} {e : Expr} {m : M Rv} (hm : X.mg "isinstance" = none) (hmt : X.mg tn = none) (ha : DE X ca W e m) (hvt : bootBuiltins tn = some (.type T) := by decide +kernel) (hg : ("isinstance" : Str) ∈ ug := by decide +kernel) (hgt : tn ∈ ug := by decide +kernel) (hnt : tn ≠ "__name__" := by decide) (hdt : (tn == ("__debug__" : Str)) = false := by decide)
    (he : starEach [e, .Name tn p2] X.env = [(false, eval e X.env), (false, eval (.Name tn p2) X.env)] := by rfl) : DE X ca W (.Call (.Name "isinstance" p) [e, .Name tn p2] [] pos) (mOp1 (gIsi T) m) :=
  de_isi (B.gl _ hg) hm (by decide +kernel) (B.gl _ hgt) hmt hvt ha hnt hdt he rfl
theorem v_append {o e : Expr} {i : Nat} {n : M (List Rv)} {apos cpos : Pos} (ho : DE X ca W o (mVar i)) (ha : DA X ca W [e] n) (hbase : attributeBase o "append" X.env (eval o X.env) = eval o X.env := by rfl)
    (hfew : ((backTo cpos (starEach [e] X.env)).all (fun x => !x.1) && (backToKw cpos (keywordEach [] X.env)).all (fun x => x.1.isSome) && decide ([e].length + ([] : List Keyword).length + (if ([] : List Keyword).isEmpty then 0 else 1) < 30)) = true := by rfl)
    (hline : (apos.endLine == cpos.line) = true := by rfl) (hs : starEach [e] X.env = [(false, eval e X.env)] := by rfl) : DE X ca W (.Call (.Attribute o "append" apos) [e] [] cpos) (mMut gAppend i n) :=
  de_mut PySem.F.slot_list_append PySem.F.type_list_append mt_append mu_append ho ha hbase hfew hline hs rfl
theorem v_popAt {o e : Expr} {i : Nat} {n : M (List Rv)} {apos cpos : Pos} (ho : DE X ca W o (mVar i)) (ha : DA X ca W [e] n) (hbase : attributeBase o "pop" X.env (eval o X.env) = eval o X.env := by rfl)
    (hfew : ((backTo cpos (starEach [e] X.env)).all (fun x => !x.1) && (backToKw cpos (keywordEach [] X.env)).all (fun x => x.1.isSome) && decide ([e].length + ([] : List Keyword).length + (if ([] : List Keyword).isEmpty then 0 else 1) < 30)) = true := by rfl)
    (hline : (apos.endLine == cpos.line) = true := by rfl) (hs : starEach [e] X.env = [(false, eval e X.env)] := by rfl) : DE X ca W (.Call (.Attribute o "pop" apos) [e] [] cpos) (mMut gPopAt i n) :=
  de_mut PySem.F.slot_list_pop PySem.F.type_list_pop mt_popAt mu_popAt ho ha hbase hfew hline hs rfl
theorem v_do {e : Expr} {m : M Rv} {pos : Pos} (h : DE X ca W e m) (hs : swapsWith e none pos.line X.env = pure false := by rfl) : DS X ca W (.Expr e pos) (mDo m) := ds_expr h hs
theorem v_name (B : Bd X vi li ug) (i : Nat) {x : Str} {pos : Pos} (hi : i ∈ li := by decide) (hN : X.N[i]? = some x := by rfl) : DG X ca (.Name x pos) (gNm i) := dg_name B.nd hN (B.loc i hi x hN).1 (B.loc i hi x hN).2
theorem v_for {k : Nat} (Z : Bx X W k) {tg iter : Expr} {body : List Stmt} {pos : Pos} {mi : M (List D)} {h : D → En → Option En} {b : M Fl} (hi : DI X ca W tg iter mi) (hg : DG X ca tg h) (hb : DB X ca W body b) (hs : ∀ x, foldedSetIterable iter X.env x = pure x := by intro _; rfl) : DS X ca W (.For tg iter body [] pos) (mFor mi h b) :=
  ds_for Z.po Z.calm hi hg hb fun g pg => ps_for Z.po Z.calm hi pg hb hs
theorem v_while {k : Nat} (Z : Bx X W k) (n : Nat) {c : Expr} {body : List Stmt} {pos : Pos} {mc : M Bool} {b : M Fl} (hc : DT X ca W c mc) (hb : DB X ca W body b) : DS X ca W (.While c body [] pos) (mWh mc b n) := ds_while n Z.po hc hb
theorem v_tcons {e : Expr} {es : List Expr} {h : D → En → Option En} {hs : List (D → En → Option En)} (a : DG X ca e h) (b : DGs X ca es hs) (hq : (assignEach (e :: es) X.env).map (·.2) = assign e X.env :: (assignEach es X.env).map (·.2) := by rfl) : DGs X ca (e :: es) (h :: hs) := dgs_cons a b fun t u pt pu => pgs_cons pt pu hq
theorem v_ttup {kk : Nat} (Z : Bx X W kk) {es : List Expr} {k : Nat} {pos : Pos} {hs : List (D → En → Option En)} (a : DGs X ca es hs) (hn : (assignEach es X.env).length = es.length := by rfl) (hst : (assignEach es X.env).findIdx? (·.1) = none := by rfl) : DG X ca (.Tuple es k pos) (gTu hs) := dg_tup a fun t pt => pg_tup Z.calm pt hn hst
theorem v_range1 (B : Bd X vi li ug) {tg a : Expr} {m : M (List Rv)} {p pos : Pos} (hm : X.mg "range" = none) (ha : DA X ca W [a] m) (hg : ("range" : Str) ∈ ug := by decide +kernel) (hs : starEach [a] X.env = [(false, eval a X.env)] := by rfl) : DI X ca W tg (.Call (.Name "range" p) [a] [] pos) (mRng1 m) := di_range1 (B.gl _ hg) hm ha hs
theorem v_range2 (B : Bd X vi li ug) {tg a b : Expr} {m : M (List Rv)} {p pos : Pos} (hm : X.mg "range" = none) (ha : DA X ca W [a, b] m) (hg : ("range" : Str) ∈ ug := by decide +kernel) (hs : starEach [a, b] X.env = [(false, eval a X.env), (false, eval b X.env)] := by rfl) (hs2 : starEach [b] X.env = [(false, eval b X.env)] := by rfl) : DI X ca W tg (.Call (.Name "range" p) [a, b] [] pos) (mRng2 m) := di_range2 (B.gl _ hg) hm ha hs hs2
theorem v_enum (B : Bd X vi li ug) {e : Expr} {m : M (List Rv)} {p pos tpos : Pos} {elts : List Expr} {kk : Nat} (hm : X.mg "enumerate" = none) (ha : DA X ca W [e] m) (hg : ("enumerate" : Str) ∈ ug := by decide +kernel) (hs : starEach [e] X.env = [(false, eval e X.env)] := by rfl) : DI X ca W (.Tuple elts kk tpos) (.Call (.Name "enumerate" p) [e] [] pos) (mEnum m) := di_enum (B.gl _ hg) hm ha hs
/-! ### comprehensions -/
abbrev Blk (X : Cx) (scope : Scope) (s : Shared) (H : Hp) (C : Addr) (cl : List (Str × Addr)) (fp : List Addr) : Cx := X.blk s H scope (compEnvC scope cl C X.env) fp
def mYes : M Bool := fun ρ => .ok true ρ
def DTs (X : Cx) (ca : Ca) (W : WX) (ifs : List Expr) (m : M Bool) : Prop := PTs X ifs (tT ⟨X.K, ca⟩ W m)
theorem ifs0 : DTs X ca W [] mYes := ⟨fun pins s σ H Q I ⟨F, ρ, R, p⟩ => pts_nil.run pins s σ H Q I (p true F H R Fm.refl rfl)⟩
theorem ifs1 {c : Expr} {m : M Bool} (h : DT X ca W c m) : DTs X ca W [c] m := pts_one h
theorem go_name (B : Bd X vi li ug) (i : Nat) {vs : List Nat} {x : Str} {pos : Pos} (hv : i ∈ vs := by decide) (hi : i ∈ li := by decide) (hN : X.N[i]? = some x := by rfl) : DGo X ca (.Name x pos) vs (gNm i) (gName i) :=
  ⟨pg_name B.nd hN (B.loc i hi x hN).1 (B.loc i hi x hN).2, fun d ρ ρ' v σ F H Q R k e q => by
    unfold gNm at e
    split at e
    · cases e
    · rename_i nb
      cases e
      obtain ⟨R', f'⟩ := R.store Fm.refl (by simpa using nb) k
      exact q _ R' f' (wipe_set hv)⟩
def DGos (X : Cx) (ca : Ca) (tgs : List Expr) (vs : List Nat) (hs : List (D → En → Option En)) (t : TGs) : Prop := PGs X tgs t ∧ hs.length = tgs.length ∧ ∀ (ds : List D) (ρ ρ' : En) (us : List V) (σ : L2.St) (F H : Hp) (Q : L2.St → Hp → Prop), RelS ⟨X.K, ca⟩ ρ σ F H → DpAll ⟨X.K, ca⟩ F us ds → gTp hs ds ρ = some ρ' →
  (∀ σ', RelS ⟨X.K, ca⟩ ρ' σ' F H → Fm ρ σ F H ρ' σ' F H → wipe σ' vs = wipe σ vs → Q σ' H) → t us σ H Q
theorem gos_nil {vs : List Nat} : DGos X ca [] vs [] gNil := ⟨pgs_nil, rfl, fun ds ρ ρ' us σ F H Q R k e q => by
  cases k with
  | nil => cases e; exact ⟨rfl, q σ R Fm.refl rfl⟩
  | cons _ _ => cases e⟩
theorem gos_cons {vs : List Nat} {e : Expr} {es : List Expr} {h : D → En → Option En} {hs : List (D → En → Option En)} {t : TG} {u : TGs} (a : DGo X ca e vs h t) (b : DGos X ca es vs hs u) (hq : (assignEach (e :: es) X.env).map (·.2) = assign e X.env :: (assignEach es X.env).map (·.2) := by rfl) : DGos X ca (e :: es) vs (h :: hs) (gCons t u) := by
  obtain ⟨pt, ht⟩ := a
  obtain ⟨pu, hl, hu⟩ := b
  refine ⟨pgs_cons pt pu hq, by simp [hl], fun ds ρ ρ' us σ F H Q R k e q => ?_⟩
  cases k with
  | nil => cases e
  | cons k1 k2 =>
    unfold gTp at e
    split at e
    · rename_i ρ1 e1
      refine ⟨_, _, rfl, ht _ ρ ρ1 _ σ F H _ R k1 e1 fun σ1 R1 f1 w1 => ?_⟩
      exact hu _ ρ1 ρ' _ σ1 F H _ R1 k2 e fun σ2 R2 f2 w2 => q σ2 R2 (f1.trans f2) (w2.trans w1)
    · cases e
theorem go_tup {vs : List Nat} {es : List Expr} {k : Nat} {pos : Pos} {hs : List (D → En → Option En)} {t : TGs} (hc : X.calm = true) (a : DGos X ca es vs hs t) (hn : (assignEach es X.env).length = es.length := by rfl) (hst : (assignEach es X.env).findIdx? (·.1) = none := by rfl) : DGo X ca (.Tuple es k pos) vs (gTu hs) (gTup X.K es.length t) := by
  obtain ⟨pt, hl, ht⟩ := a
  refine ⟨pg_tup hc pt hn hst, fun d ρ ρ' v σ F H Q R k e q => ?_⟩
  unfold gTu at e
  split at e
  · rename_i ds
    cases k with
    | tup hq r => exact ⟨_, _, rfl, sqT_same R.ex hq, by rw [r.length, gTp_length e, hl], ht ds ρ ρ' _ σ F H Q R r e q⟩
  · cases e
theorem v_lc {kk : Nat} (Z : Bx X W kk) (B : Bd X vi li ug) {elt tg iter : Expr} {ifs : List Expr} {scope : Scope} {own : List (Str × Nat)} {pos : Pos} {mi : M (List D)} {h : D → En → Option En} {t : TG} {c : M Bool} {el : M Rv} (ok : BlkOk X.N X.env.scope scope own) (hi : DI X ca W tg iter mi)
    (hg : ∀ s H C cl fp, DGo (Blk X scope s H C cl fp) ca tg (own.map (·.2)) h t) (ht : ∀ s H C cl fp, DTs (Blk X scope s H C cl fp) ca W0 ifs c) (he : ∀ s H C cl fp, DE (Blk X scope s H C cl fp) ca W0 elt el) (hs : ∀ x, foldedSetIterable iter X.env x = pure x := by intro _; rfl) :
    DE X ca W (.ListComp elt [⟨tg, iter, ifs, 0⟩] scope pos) (mLc mi (own.map (·.2)) h c el) :=
  pe_imp (pe_lc (wi := tI ⟨X.K, ca⟩ W mi) (g := t) (tt := tT ⟨X.K, ca⟩ W0 c) (te := tE ⟨X.K, ca⟩ W0 el) Z.calm B.nd hi ok (fun s H C cl fp => (hg s H C cl fp).1) (fun s H C cl fp => ht s H C cl fp) (fun s H C cl fp => he s H C cl fp) hs) fun σ H Q q => t_lc (K := X.K) (hg X.s_0 H 0 [] []).2 q
end
/-! ### facts of names, by a look -/
def visB (N : List Str) (sc : Scope) (vi : List Nat) : Bool := vi.all fun i => match N[i]? with
  | some x => (sc.names.lookup x == some .local || sc.names.lookup x == some .cell || sc.names.lookup x == some .free) && !(x == ("__debug__" : Str)) && !(x == ("__classdict__" : Str))
  | none => true
def locB (N : List Str) (sc : Scope) (li : List Nat) : Bool := li.all fun i => match N[i]? with
  | some x => sc.names.lookup x == some .local || sc.names.lookup x == some .cell
  | none => true
def glB (sc : Scope) (ug : List Str) : Bool := ug.all fun x => sc.names.lookup x == some .globalImplicit
theorem visB_ok {N : List Str} {sc : Scope} {vi : List Nat} (h : visB N sc vi = true) : ∀ i ∈ vi, ∀ x, N[i]? = some x → Vis sc x ∧ (x == ("__debug__" : Str)) = false ∧ (x == ("__classdict__" : Str)) = false := fun i m x e => by
  have q := List.all_eq_true.mp h i m
  rw [e] at q
  simp only [Bool.and_eq_true, Bool.or_eq_true, Bool.not_eq_true', beq_iff_eq] at q
  refine ⟨?_, by simpa using q.1.2, by simpa using q.2⟩
  rcases q.1.1 with (z | z) | z
  · exact .inl z
  · exact .inr (.inl z)
  · exact .inr (.inr z)
theorem locB_ok {N : List Str} {sc : Scope} {li : List Nat} (h : locB N sc li = true) : ∀ i ∈ li, ∀ x, N[i]? = some x → Loc sc x := fun i m x e => by
  have q := List.all_eq_true.mp h i m
  rw [e] at q
  simp only [Bool.or_eq_true, beq_iff_eq] at q
  exact q
theorem glB_ok {sc : Scope} {ug : List Str} (h : glB sc ug = true) : ∀ x ∈ ug, sc.names.lookup x = some .globalImplicit := fun x m => by
  have q := List.all_eq_true.mp h x m
  simpa using q
/-- the place of a def's body -/
theorem bd_mk {P : Program} {w : World} {K : PySem.W.Frag} {mg : Str → Option Value} {base : Heap} {N ug : List Str} {vi li : List Nat} {qual : Str} {sc : Scope} {f : Addr} {cdv : Value} {A : Around} {outer : List Env} {s : Shared} {H : Hp} {E : XK} {k : Nat}
    (hv : visB N sc vi = true) (hl : locB N sc li = true) (hg : glB sc ug = true) (nd : N.Nodup) (hr : Room k (cxOf (L2.CX P w) P w K mg base N qual sc f cdv A outer s H E).A) : Bd (cxOf (L2.CX P w) P w K mg base N qual sc f cdv A outer s H E) vi li ug where
  vis := visB_ok hv
  loc := fun i m x e => ⟨locB_ok hl i m x e, .inl rfl⟩
  gl := glB_ok hg
  nd := nd
  un := by have := hr.un; omega
theorem look_relabel {b : Str → Bool} {x : Str} {k : NameKind} : ∀ {names : List (Str × NameKind)}, names.lookup x = some k → (names.map fun (n, k) => if (k == NameKind.free && b n) = true then (n, NameKind.cell) else (n, k)).lookup x = some (if (k == NameKind.free && b x) = true then .cell else k)
  | [], h => by cases h
  | (n, k') :: r, h => by
    rw [List.lookup_cons] at h
    rw [List.map_cons]
    by_cases e : (x == n) = true
    · rw [e] at h
      cases h
      have e' : x = n := by simpa using e
      subst e'
      dsimp only
      by_cases c : (k == NameKind.free && b x) = true
      · rw [if_pos c]
        simp [c]
      · rw [if_neg c]
        simp [c]
    · have e2 : (x == n) = false := by simpa using e
      rw [e2] at h
      have ih := look_relabel (b := b) h
      dsimp only
      by_cases c : (k' == NameKind.free && b n) = true
      · rw [if_pos c, List.lookup_cons, e2]
        exact ih
      · rw [if_neg c, List.lookup_cons, e2]
        exact ih
theorem blk_look {X : Cx} {scope : Scope} {s : Shared} {H : Hp} {C : Addr} {cl : List (Str × Addr)} {fp : List Addr} {x : Str} {k : NameKind} (h : scope.names.lookup x = some k) : (Blk X scope s H C cl fp).env.scope.names.lookup x = some k ∨ ((Blk X scope s H C cl fp).env.scope.names.lookup x = some .cell ∧ k = .free) := by
  have q := look_relabel (b := fun n => X.env.scope.kind == .function && X.env.kindOf n == some .cell) h
  have e : (Blk X scope s H C cl fp).env.scope.names.lookup x = (scope.names.map fun (n, k) => if (k == NameKind.free && (X.env.scope.kind == .function && X.env.kindOf n == some .cell)) = true then (n, NameKind.cell) else (n, k)).lookup x := by
    first
      | rfl
      | (show (relabel scope X.env).names.lookup x = _; unfold relabel; simp only [Bool.and_assoc])
  rw [e, q]
  by_cases c : (k == NameKind.free && (X.env.scope.kind == .function && X.env.kindOf x == some .cell)) = true
  · rw [if_pos c]
    simp only [Bool.and_eq_true, beq_iff_eq] at c
    exact .inr ⟨rfl, c.1⟩
  · rw [if_neg c]
    exact .inl rfl
/-- the place of a comprehension's block -/
theorem bd_blk {X : Cx} {vi li vi' li' : List Nat} {ug ug' : List Str} {scope : Scope} (B : Bd X vi li ug) (hv : visB X.N scope vi' = true) (hl : locB X.N scope li' = true) (hg : glB scope ug' = true) (s : Shared) (H : Hp) (C : Addr) (cl : List (Str × Addr)) (fp : List Addr) : Bd (Blk X scope s H C cl fp) vi' li' ug' where
  vis := fun i m x e => by
    obtain ⟨h1, h2⟩ := visB_ok hv i m x e
    refine ⟨?_, h2⟩
    rcases h1 with z | z | z
    · rcases blk_look (X := X) (s := s) (H := H) (C := C) (cl := cl) (fp := fp) z with q | ⟨q, _⟩
      · exact .inl q
      · exact .inr (.inl q)
    · rcases blk_look (X := X) (s := s) (H := H) (C := C) (cl := cl) (fp := fp) z with q | ⟨q, _⟩
      · exact .inr (.inl q)
      · exact .inr (.inl q)
    · rcases blk_look (X := X) (s := s) (H := H) (C := C) (cl := cl) (fp := fp) z with q | ⟨q, _⟩
      · exact .inr (.inr q)
      · exact .inr (.inl q)
  loc := fun i m x e => by
    rcases locB_ok hl i m x e with z | z
    · rcases blk_look (X := X) (s := s) (H := H) (C := C) (cl := cl) (fp := fp) z with q | ⟨_, q⟩
      · exact ⟨.inl q, .inr q⟩
      · cases q
    · rcases blk_look (X := X) (s := s) (H := H) (C := C) (cl := cl) (fp := fp) z with q | ⟨_, q⟩
      · refine ⟨.inr q, .inl ?_⟩
        show (scope.names.lookup x == some .cell) = true
        rw [z]
        rfl
      · cases q
  gl := fun x m => by
    rcases blk_look (X := X) (s := s) (H := H) (C := C) (cl := cl) (fp := fp) (glB_ok hg x m) with q | ⟨_, q⟩
    · exact q
    · cases q
  nd := B.nd
  un := B.un
theorem Bd.tr {X : Cx} {vi li : List Nat} {ug : List Str} (B : Bd X vi li ug) (pn : List (Addr × Obj)) (xe : Value → Shared → Prop) : Bd (X.tr pn xe) vi li ug := ⟨B.vis, B.loc, B.gl, B.nd, B.un⟩
theorem Bd.suite {X : Cx} {vi li : List Nat} {ug : List Str} (B : Bd X vi li ug) (a : Addr) (pn : List (Addr × Obj)) : Bd (X.suite a pn) vi li ug := ⟨B.vis, B.loc, B.gl, B.nd, B.un⟩
end PM
set_option Elab.async false
set_option linter.all false
set_option maxRecDepth 100000
set_option maxHeartbeats 4000000
namespace PM
open PySem L2
open PySem.PyData (strOk)
section
variable {X : Cx} {ca : Ca} {W : WX} {vi li : List Nat} {ug : List Str}
/-- name = [..] on one line, the name a local -/
theorem v_setLc {kk : Nat} (Z : Bx X W kk) (B : Bd X vi li ug) (i : Nat) {y : Str} {py spos : Pos} {elt tg iter : Expr} {ifs : List Expr} {scope : Scope} {own : List (Str × Nat)} {pos : Pos} {mi : M (List D)} {h : D → En → Option En} {t : TG} {c : M Bool} {el : M Rv} (hsw : swapsWith (.ListComp elt [⟨tg, iter, ifs, 0⟩] scope pos) (some (.Name y py)) spos.line X.env = pure true) (hyl : X.env.scope.names.lookup y = some .local) (ok : BlkOk X.N X.env.scope scope own) (hi : DI X ca W tg iter mi)
    (hg : ∀ s H C cl fp, DGo (Blk X scope s H C cl fp) ca tg (own.map (·.2)) h t) (ht : ∀ s H C cl fp, DTs (Blk X scope s H C cl fp) ca W0 ifs c) (he : ∀ s H C cl fp, DE (Blk X scope s H C cl fp) ca W0 elt el) (hN : X.N[i]? = some y := by rfl) (hs : ∀ x, foldedSetIterable iter X.env x = pure x := by intro _; rfl) :
    DS X ca W (.Assign [.Name y py] (.ListComp elt [⟨tg, iter, ifs, 0⟩] scope pos) spos) (mSet i (mLc mi (own.map (·.2)) h c el)) :=
  ps_imp (ps_setLc (wi := tI ⟨X.K, ca⟩ W mi) (g := t) (tt := tT ⟨X.K, ca⟩ W0 c) (te := tE ⟨X.K, ca⟩ W0 el) Z.calm B.nd hN hyl hsw hi ok (fun s H C cl fp => (hg s H C cl fp).1) (fun s H C cl fp => ht s H C cl fp) (fun s H C cl fp => he s H C cl fp) hs) fun D σ H q => t_lc (K := X.K) (hg X.s_0 H 0 [] []).2 (t_set q)
/-- a target of several names -/
def mAsg (h : D → En → Option En) (m : M Rv) : M Fl := fun ρ => match m ρ with
  | .ok r ρ1 => match esc ρ1 r with
    | some (d, ρ2) => match h d ρ2 with
      | some ρ3 => .ok .nx ρ3
      | none => .bad
    | none => .bad
  | .err x ρ1 => .err x ρ1
  | .bad => .bad
theorem v_asg {tg e : Expr} {h : D → En → Option En} {m : M Rv} {pos : Pos} (he : DE X ca W e m) (hg : DG X ca tg h) (hs : swapsWithSole [tg] e pos.line X.env = pure false := by rfl) (hw : swappedStores [tg] e X.env = pure none := by rfl) (h1 : (assignEach [tg] X.env).map (·.2) = [assign tg X.env] := by rfl) : DS X ca W (.Assign [tg] e pos) (mAsg h m) := by
  obtain ⟨t, pt, ht⟩ := hg
  refine ps_imp (ps_asg he pt hs hw h1) fun D σ H ⟨F, ρ, R, p⟩ => ?_
  refine ⟨F, ρ, R, ?_⟩
  unfold mAsg at p
  cases e1 : m ρ with
  | bad => rw [e1] at p; exact p
  | err x ρ1 => rw [e1] at p; exact fun c d F1 H1 R1 f1 x1 => p c d σ F1 H1 R1 f1 x1
  | ok r ρ1 =>
    rw [e1] at p
    intro v F1 H1 R1 f1 k1
    dsimp only at p
    cases q : esc ρ1 r with
    | none => rw [q] at p; exact p.elim
    | some y =>
      obtain ⟨d, ρ2⟩ := y
      rw [q] at p
      dsimp only at p
      cases q2 : h d ρ2 with
      | none => rw [q2] at p; exact p.elim
      | some ρ3 =>
        rw [q2] at p
        obtain ⟨F2, E2⟩ := esc_ok R1 f1 k1 q
        exact ht d ρ2 ρ3 v σ F2 H1 D.nx E2.rel E2.dp q2 fun σ' R' f' => p σ' F2 H1 R' (E2.fm.trans f')
/-- xs[i] = e, xs a list of one's own at a name -/
def mSetIx (j : Nat) (mi m : M Rv) : M Fl := fun ρ => match m ρ with
  | .ok r ρ1 => match mVar j ρ1 with
    | .ok (.loc j') ρ2 => match mi ρ2 with
      | .ok ri ρ3 => match deref ρ3 ri, esc ρ3 r with
        | some (.int k), some (d, ρ4) => match ρ4[j']? with
          | some (.own xs) => match ixN xs.length k with
            | some n => .ok .nx (ρ4.set j' (.own (xs.set n d)))
            | none => .bad
          | _ => .bad
        | _, _ => .bad
      | .err x ρ3 => .err x ρ3
      | .bad => .bad
    | _ => .bad
  | .err x ρ1 => .err x ρ1
  | .bad => .bad
theorem DpAll.set {G : Gd} {F : Hp} {v : V} {d : D} (h : Dp G F v d) : ∀ {vs : List V} {ds : List D} (n : Nat), DpAll G F vs ds → DpAll G F (vs.set n v) (ds.set n d)
  | _, _, _, .nil => .nil
  | _, _, 0, .cons _ t => .cons h t
  | _, _, n + 1, .cons a t => .cons a (DpAll.set h n t)
theorem v_setIx {o i e : Expr} {j : Nat} {mi m : M Rv} {pos pos' : Pos} (ho : DE X ca W o (mVar j)) (hi : DE X ca W i mi) (he : DE X ca W e m) (ha : ∀ v, assign (.Subscript o i pos') X.env v = (do
      let ov ← holding [v] (eval o X.env)
      let iv ← holding [v, ov] (eval i X.env)
      standAt pos'
      holding [v, ov, iv] (setItem ov iv v)
      release [v, ov, iv] []) := by intro _; rfl) (hs : swapsWithSole [.Subscript o i pos'] e pos.line X.env = pure false := by rfl) (hw : swappedStores [.Subscript o i pos'] e X.env = pure none := by rfl) (h1 : (assignEach [.Subscript o i pos'] X.env).map (·.2) = [assign (.Subscript o i pos') X.env] := by rfl) : DS X ca W (.Assign [.Subscript o i pos'] e pos) (mSetIx j mi m) := by
  refine ps_imp (ps_asg he (pg_sub ho hi set_list ha) hs hw h1) fun D σ H ⟨F, ρ, R, p⟩ => ?_
  refine ⟨F, ρ, R, ?_⟩
  unfold mSetIx at p
  cases e1 : m ρ with
  | bad => rw [e1] at p; exact p
  | err x ρ1 => rw [e1] at p; exact fun c d F1 H1 R1 f1 x1 => p c d σ F1 H1 R1 f1 x1
  | ok r ρ1 =>
    rw [e1] at p
    intro v F1 H1 R1 f1 k1
    dsimp only at p
    refine ⟨F1, ρ1, R1, ?_⟩
    split at p
    · rename_i j' ρ2 e2
      rw [e2]
      obtain ⟨rfl, rfl⟩ := mVar_loc e2
      intro ov F2 H2 R2 f2 k2
      have k2 : σ[j']? = some (some ov) := k2
      refine ⟨F2, ρ2, R2, ?_⟩
      cases e3 : mi ρ2 with
      | bad => rw [e3] at p; exact p
      | err x ρ3 => rw [e3] at p; exact fun c d F3 H3 R3 f3 x3 => p c d σ F3 H3 R3 ((f1.trans f2).trans f3) x3
      | ok ri ρ3 =>
        rw [e3] at p
        intro iv F3 H3 R3 f3 k3
        dsimp only at p
        have f := (f1.trans f2).trans f3
        split at p
        · rename_i k d ρ4 q1 q2
          have zi := (deref_dq R3 k3 q1).int
          subst zi
          obtain ⟨F4, E4⟩ := esc_ok R3 f ((k1.step f2).step f3) q2
          split at p
          · rename_i xs q3
            split at p
            · rename_i n q4
              obtain ⟨a, us, e, hf, hp, hr⟩ := E4.rel.lst j' _ xs q3 (.inl rfl)
              rw [k2] at e
              cases e
              refine ⟨a, us, k, n, rfl, rfl, hp, by rw [hr.length]; exact q4, ?_⟩
              obtain ⟨R5, f5⟩ := E4.rel.put q3 (.inl rfl) k2 (hr.set E4.dp n)
              exact p σ F4 _ R5 (E4.fm.trans f5)
            · exact p.elim
          · exact p.elim
        · exact p.elim
    · exact p.elim
/-- x += e, ints -/
def mAugI (g : Int → Int → Int) (i : Nat) (m : M Rv) : M Fl := fun ρ => match ρ[i]? with
  | some (.val (.int a)) => match m ρ with
    | .ok r ρ1 => match deref ρ1 r with
      | some (.int b) => if isBor ρ1[i]? then .bad else .ok .nx (ρ1.set i (.val (.int (g a b))))
      | _ => .bad
    | .err x ρ1 => .err x ρ1
    | .bad => .bad
  | _ => .bad
theorem v_aug {op : Operator} {g : Int → Int → Int} (B : Bd X vi li ug) (i : Nat) {x : Str} {e : Expr} {m : M Rv} {pos pos' : Pos} (ho : PIp X op (ipI g)) (he : DE X ca W e m) (hi : i ∈ li := by decide) (hN : X.N[i]? = some x := by rfl) : DS X ca W (.AugAssign (.Name x pos') op e pos) (mAugI g i m) :=
  ps_imp (ps_aug B.nd hN (B.loc i hi x hN).1 he ho (B.loc i hi x hN).2) fun D σ H ⟨F, ρ, R, p⟩ => by
    unfold mAugI at p
    split at p
    · rename_i a q
      obtain ⟨u, hu, k⟩ := R.val i _ q
      cases k
      refine ⟨_, hu, F, ρ, R, ?_⟩
      cases e1 : m ρ with
      | bad => rw [e1] at p; exact p
      | err x ρ1 => rw [e1] at p; exact fun c d F1 H1 R1 f1 x1 => p c d σ F1 H1 R1 f1 x1
      | ok r ρ1 =>
        rw [e1] at p
        intro v F1 H1 R1 f1 k1
        dsimp only at p
        split at p
        · rename_i b q2
          have z := (deref_dq R1 k1 q2).int
          subst z
          split at p
          · exact p.elim
          · rename_i nb
            obtain ⟨R2, f2⟩ := R1.store f1 (i := i) (v := .int (g a b)) (by simpa using nb) (.int (g a b))
            exact ⟨a, b, rfl, rfl, p _ F1 H1 R2 f2⟩
        · exact p.elim
    · exact p.elim
theorem v_addTo (B : Bd X vi li ug) (i : Nat) {x : Str} {e : Expr} {m : M Rv} {pos pos' : Pos} (he : DE X ca W e m) (hi : i ∈ li := by decide) (hN : X.N[i]? = some x := by rfl) : DS X ca W (.AugAssign (.Name x pos') .Add e pos) (mAugI (· + ·) i m) := v_aug B i ip_add he hi hN
/-! ### a module's name -/
theorem v_glob (B : Bd X vi li ug) {x : Str} {v : V} {u : Value} {d : D} {pos : Pos} (hm : X.mg x = some u) (r : RelV v u) (k : ∀ F : Hp, Dp ⟨X.K, ca⟩ F v d) (hg : x ∈ ug := by decide +kernel) (hd : (x == ("__debug__" : Str)) = false := by decide) : DE X ca W (.Name x pos) (mC d) := de_c (pe_glob (B.gl _ hg) hm r hd) k
end
/-! ### methods of texts -/
section
variable {G : Gd}
def gSplit (z : Str) : List D → Option Rv
  | [.str b] => if (b.length == 0) = false ∧ z.length + 2 ≤ sizeLine ∧ (Txt.split z b).all (fun x => strOk x) = true then some (.own ((Txt.split z b).map D.str)) else none
  | _ => none
def rSplit : V → List V → Hp → VK → Prop := fun x xs H Q => ∃ a b, x = .str a ∧ xs = [.str b] ∧ (b.length == 0) = false ∧ a.length + 2 ≤ sizeLine ∧ rNewStrs (Txt.split a b) H Q
theorem os_split : OpS G rSplit gSplit := fun z ds w h vs F H Q s ok hv k => by
  unfold gSplit at h
  split at h
  · split at h
    · rename_i c
      cases h
      cases hv with
      | cons hx t =>
        cases t
        obtain ⟨rfl, _⟩ := hx.str
        refine ⟨_, _, rfl, rfl, c.1, c.2.1, fun p hp => k.lst s (dpStrs fun x m => ?_) p hp⟩
        have := List.all_eq_true.mp c.2.2 x m
        simpa using this
    · cases h
  · cases h
def gJoin (z : Str) : List D → Option Rv
  | [.lst ds] => match strsD ds with
    | some ys => if (ys.map (·.length)).sum + ys.length * z.length ≤ 16777216 ∧ strOk (Txt.join z ys) = true then some (.val (.str (Txt.join z ys))) else none
    | none => none
  | [.tup ds] => match strsD ds with
    | some ys => if (ys.map (·.length)).sum + ys.length * z.length ≤ 16777216 ∧ strOk (Txt.join z ys) = true then some (.val (.str (Txt.join z ys))) else none
    | none => none
  | _ => none
def rJoin (K : PySem.W.Frag) : V → List V → Hp → VK → Prop := fun x xs H Q => ∃ a p, ∃ ys : List Str, x = .str a ∧ xs = [.ref p] ∧ (SqL K H p (ys.map V.str) ∨ SqT K H p (ys.map V.str)) ∧
    (ys.map (·.length)).sum + ys.length * a.length ≤ 16777216 ∧ Q (.str (Txt.join a ys)) H
theorem os_join : OpS G (rJoin G.K) gJoin := fun z ds w h vs F H Q s ok hv k => by
  unfold gJoin at h
  split at h
  · split at h
    · rename_i ys e
      split at h
      · rename_i c
        cases h
        cases hv with
        | cons hx t =>
          cases t
          obtain ⟨p, us, rfl, hp, r⟩ := hx.lst s
          obtain ⟨e1, _⟩ := strsD_ok r e
          subst e1
          exact ⟨_, p, ys, rfl, rfl, .inl (sqL_of hp), c.1, k.val s (.str _ c.2)⟩
      · cases h
    · cases h
  · split at h
    · rename_i ys e
      split at h
      · rename_i c
        cases h
        cases hv with
        | cons hx t =>
          cases t
          obtain ⟨p, us, rfl, _, hp, r⟩ := hx.tup s
          obtain ⟨e1, _⟩ := strsD_ok r e
          subst e1
          exact ⟨_, p, ys, rfl, rfl, .inr hp, c.1, k.val s (.str _ c.2)⟩
      · cases h
    · cases h
  · cases h
end
section
variable {X : Cx} {ca : Ca} {W : WX}
theorem v_meS1 {id : String} {name : Str} {r : V → List V → Hp → VK → Prop} {g : Str → List D → Option Rv} {o e : Expr} {m : M Rv} {n : M (List Rv)} {apos cpos : Pos} (slot : Slot "str" name id) (hty : typeOf (.builtin id) = pure (.type "method_descriptor")) (hm : MtR X id r) (hg : OpS ⟨X.K, ca⟩ r g) (ho : DE X ca W o m) (ha : DA X ca W [e] n) (hbase : attributeBase o name X.env (eval o X.env) = eval o X.env := by rfl)
    (hfew : ((backTo cpos (starEach [e] X.env)).all (fun x => !x.1) && (backToKw cpos (keywordEach [] X.env)).all (fun x => x.1.isSome) && decide ([e].length + ([] : List Keyword).length + (if ([] : List Keyword).isEmpty then 0 else 1) < 30)) = true := by rfl)
    (hline : (apos.endLine == cpos.line) = true := by rfl) (hs : starEach [e] X.env = [(false, eval e X.env)] := by rfl) : DE X ca W (.Call (.Attribute o name apos) [e] [] cpos) (mMeS g m n) := de_meS slot hty hm hg ho ha hbase hfew hline hs rfl
theorem v_split {o e : Expr} {m : M Rv} {n : M (List Rv)} {apos cpos : Pos} (ho : DE X ca W o m) (ha : DA X ca W [e] n) (hbase : attributeBase o "split" X.env (eval o X.env) = eval o X.env := by rfl)
    (hfew : ((backTo cpos (starEach [e] X.env)).all (fun x => !x.1) && (backToKw cpos (keywordEach [] X.env)).all (fun x => x.1.isSome) && decide ([e].length + ([] : List Keyword).length + (if ([] : List Keyword).isEmpty then 0 else 1) < 30)) = true := by rfl)
    (hline : (apos.endLine == cpos.line) = true := by rfl) (hs : starEach [e] X.env = [(false, eval e X.env)] := by rfl) : DE X ca W (.Call (.Attribute o "split" apos) [e] [] cpos) (mMeS gSplit m n) := v_meS1 PySem.F.slot_str_split PySem.F.type_str_split mt_split os_split ho ha hbase hfew hline hs
theorem v_join {o e : Expr} {m : M Rv} {n : M (List Rv)} {apos cpos : Pos} (ho : DE X ca W o m) (ha : DA X ca W [e] n) (hbase : attributeBase o "join" X.env (eval o X.env) = eval o X.env := by rfl)
    (hfew : ((backTo cpos (starEach [e] X.env)).all (fun x => !x.1) && (backToKw cpos (keywordEach [] X.env)).all (fun x => x.1.isSome) && decide ([e].length + ([] : List Keyword).length + (if ([] : List Keyword).isEmpty then 0 else 1) < 30)) = true := by rfl)
    (hline : (apos.endLine == cpos.line) = true := by rfl) (hs : starEach [e] X.env = [(false, eval e X.env)] := by rfl) : DE X ca W (.Call (.Attribute o "join" apos) [e] [] cpos) (mMeS gJoin m n) := v_meS1 PySem.F.slot_str_join PySem.F.type_str_join mt_join os_join ho ha hbase hfew hline hs
theorem v_insert {o e e2 : Expr} {i : Nat} {n : M (List Rv)} {apos cpos : Pos} (ho : DE X ca W o (mVar i)) (ha : DA X ca W [e, e2] n) (hbase : attributeBase o "insert" X.env (eval o X.env) = eval o X.env := by rfl)
    (hfew : ((backTo cpos (starEach [e, e2] X.env)).all (fun x => !x.1) && (backToKw cpos (keywordEach [] X.env)).all (fun x => x.1.isSome) && decide ([e, e2].length + ([] : List Keyword).length + (if ([] : List Keyword).isEmpty then 0 else 1) < 30)) = true := by rfl)
    (hline : (apos.endLine == cpos.line) = true := by rfl) (hs : starEach [e, e2] X.env = (false, eval e X.env) :: starEach [e2] X.env := by rfl) (hpl : (backTo cpos (starEach [e2] X.env)).any (·.1) = false := by rfl) : DE X ca W (.Call (.Attribute o "insert" apos) [e, e2] [] cpos) (mMut gInsert i n) :=
  de_mut PySem.F.slot_list_insert PySem.F.type_list_insert mt_insert' mu_insert ho ha hbase hfew hline hs hpl
end
end PM
set_option Elab.async false
set_option linter.all false
set_option maxRecDepth 100000
set_option maxHeartbeats 4000000
namespace PM
open PySem L2
open PySem.PyData (strOk)
section
variable {X : Cx} {ca : Ca} {W : WX} {vi li : List Nat} {ug : List Str}
/-- a def of the module -/
structure Df (P : Program) (w : World) (K : PySem.W.Frag) (mg : Str → Option Value) (base : Heap) (ca : Ca) (x : Str) (k : Nat) (f : M Rv) : Prop where
  ex : ∃ (fa : Addr) (fd : FuncData) (ps : List Str), FnOk P w K mg base (L2.CX P w) k fa fd ps (spF ⟨K, ca⟩ f) ∧ mg x = some (.ref fa) ∧ PySem.W.keepIn K (.ref fa) = true ∧ Binds K fd ps []
theorem Room.down {j k : Nat} {A : Around} (h : Room k A) (hj : j ≤ k) : Room j A := h.mono hj
theorem v_callV {k kz : Nat} {x : Str} {f : M Rv} {p pos : Pos} {e : Expr} {es : List Expr} {m : M (List Rv)} (Z : Bx X W kz) (B : Bd X vi li ug) (F : Df X.prog X.w X.K X.mg X.base ca x k f) (ha : DA X ca W (e :: es) m) (hk : k ≤ kz := by decide) (hg : x ∈ ug := by decide +kernel) (hdb : (x == ("__debug__" : Str)) = false := by decide) (he : starEach (e :: es) X.env = (false, eval e X.env) :: starEach es X.env := by rfl) (hpl : (backTo pos (starEach es X.env)).any (·.1) = false := by rfl) : DE X ca W (.Call (.Name x p) (e :: es) [] pos) (mCallV f m) := by
  obtain ⟨fa, fd, ps, h1, h2, h3, h4⟩ := F.ex
  exact de_callV Z.tk h1 (Room.down Z.room hk) (B.gl _ hg) h2 h3 h4 ha hdb he hpl
theorem v_callR {k kz : Nat} {x : Str} {f : M Rv} {p pos : Pos} {e : Expr} {es : List Expr} {i : Nat} {n : M (List Rv)} (Z : Bx X W kz) (B : Bd X vi li ug) (F : Df X.prog X.w X.K X.mg X.base ca x k f) (ha : DA X ca W (e :: es) (mCons (mVar i) n)) (hk : k ≤ kz := by decide) (hg : x ∈ ug := by decide +kernel) (hdb : (x == ("__debug__" : Str)) = false := by decide) (he : starEach (e :: es) X.env = (false, eval e X.env) :: starEach es X.env := by rfl) (hpl : (backTo pos (starEach es X.env)).any (·.1) = false := by rfl) : DE X ca W (.Call (.Name x p) (e :: es) [] pos) (mCallR f i n) := by
  obtain ⟨fa, fd, ps, h1, h2, h3, h4⟩ := F.ex
  exact de_callR Z.tk h1 (Room.down Z.room hk) (B.gl _ hg) h2 h3 h4 ha hdb he hpl
/-- a class of the module that may be raised: C(..) sets the fields ks -/
structure Rz (P : Program) (w : World) (K : PySem.W.Frag) (mg : Str → Option Value) (base : Heap) (C : Addr) (ks : List Str) : Prop where
  ex : ∃ (fI : Addr) (fd : FuncData) (ps : List Str), OexC K C ∧ PySem.W.findIn K (.ref C) "__init__" = some (some (.ref fI)) ∧ PySem.W.typeIn K (.ref fI) = some (.type "function") ∧ FnOk P w K mg base (L2.CX P w) 1 fI fd ps (spX C ks) ∧ Binds K fd ps []
theorem v_raise {kz c : Nat} {x : Str} {ks : List Str} {p pos pos' : Pos} {e : Expr} {es : List Expr} {m : M (List Rv)} (Z : Bx X W kz) (B : Bd X vi li ug) (R : Rz X.prog X.w X.K X.mg X.base (ca.at_ c) ks) (hm : X.mg x = some (.ref (ca.at_ c))) (ha : DA X ca W (e :: es) m) (hk : 2 ≤ kz := by decide) (hg : x ∈ ug := by decide +kernel) (hdb : (x == ("__debug__" : Str)) = false := by decide) (he : starEach (e :: es) X.env = (false, eval e X.env) :: starEach es X.env := by rfl) (hpl : (backTo pos (starEach es X.env)).any (·.1) = false := by rfl) : DS X ca W (.Raise (some (.Call (.Name x p) (e :: es) [] pos)) none pos') (mRaise c ks m) := by
  obtain ⟨fI, fd, ps, h1, h2, h3, h4, h5⟩ := R.ex
  exact ds_raise rfl Z.tk Z.calm h1 h2 h3 h4 (Room.down Z.room hk) h5 (B.gl _ hg) hm ha hdb he hpl
theorem v_names (B : Bd X vi li ug) {x : Str} {c : Nat} (hm : X.mg x = some (.ref (ca.at_ c))) (hg : x ∈ ug := by decide +kernel) (hdb : (x == ("__debug__" : Str)) = false := by decide) : Names X x (.ref (ca.at_ c)) := ⟨B.gl _ hg, hdb, .inl hm⟩
theorem v_ev (B : Bd X vi li ug) (i : Nat) {x : Str} {pos : Pos} (hi : i ∈ vi := by decide) (hN : X.N[i]? = some x := by rfl) : PE X (.Name x pos) (tVar i) := pe_var hN (B.vis i hi x hN).1 (B.vis i hi x hN).2.1 (B.vis i hi x hN).2.2
theorem Bx.tr {k : Nat} {W' : WX} {pn : List (Addr × Obj)} {xe : Value → Shared → Prop} (Z : Bx X W k) (tk : Takes (X.tr pn xe) W') (po : PassesOwn (model X.prog X.w) X.A X.env xe) : Bx (X.tr pn xe) W' k := ⟨tk, po, Z.calm, Z.room⟩
end
end PM
set_option Elab.async false
set_option linter.all false
set_option maxRecDepth 100000
set_option maxHeartbeats 4000000
namespace PM
open PySem PySem.Spec PyProof.Rows L2
open PySem.AutoSeq1 (idx_int wpAny_loadPart')
theorem list_extend_tup (l : Addr) (items : Array Value) (n : Nat) (b : Addr) (items2 : Array Value) (n2 : Nat) (dd : Option Addr) (sl : Array (Option Value)) (hs0 : ¬(!items.isEmpty && Builtin.List.listTooLong (items.size + items2.size)) = true) (hs1 : items.size ≤ sizeLine) (hs2 : items.size + items2.size ≤ sizeLine + 1) :
    Meets (Builtin.«list.extend» ⟨[.ref l, .ref b], []⟩) (fun _ R s => s.heap.get? l = some { cls := .type "list", dict := none, data := .seq items n, slots := #[] } ∧ s.heap.get? b = some { cls := .type "tuple", dict := dd, data := .seq items2 n2, slots := sl } ∧ R (.ok (.ret Value.none)) { s with heap := s.heap.update l (Obj.mapSeq fun x => x ++ items2), toks := s.toks }) :=
  .of_wp fun prog w A R s h => by
    obtain ⟨hp, g, d, tk, os⟩ := s; obtain ⟨hl, hb, h⟩ := h; have f1 := idx_int; have f2 := PySem.AutoSeq1.sub_tuple_tuple; have f3 := PySem.AutoSeq1.sub_list_list; have f4 := PySem.AutoSeq1.sub_tuple_list; have f5 := PySem.AutoSeq1.sub_list_tuple;
    have hz' : (items ++ items2).size ≤ sizeLine + 1 := by rw [Array.size_append]; exact hs2
    wp_walk using (wpAny_updateSeq hl rfl (hz := hs1) (_hz' := hz')), wpAny_loadPart' hl, wpAny_loadPart' hb; exact ⟨_, rfl, h⟩
def rExt (K : PySem.W.Frag) : V → List V → Hp → VK → Prop := fun x vs H Q => ∃ l b xs zs, x = .ref l ∧ vs = [.ref b] ∧ H l = some (.lst xs) ∧ (H b = some (.lst zs) ∨ SqT K H b zs) ∧ xs.length + zs.length ≤ sizeLine ∧ Q .non (upd H l (.lst (xs ++ zs)))
theorem mt_ext {X : Cx} : MtR X "list.extend" (rExt X.K) := by
  intro pins s σ H x vs v us Q I rx rv h
  obtain ⟨l, b, xs, zs, rfl, rfl, hH, hB | hB, hz, q⟩ := h
  · exact mt_extend pins s σ H _ _ v us Q I rx rv ⟨l, b, xs, zs, rfl, rfl, hH, hB, hz, q⟩
  cases rx
  obtain ⟨u, rfl, ru⟩ := rv.one
  cases ru
  obtain ⟨z, its, n, r, hl, e⟩ := I.lstM hH
  obtain ⟨its2, r2, ⟨⟨oc, od, odt, osl⟩, e2, hc, n2, hd⟩, hl2⟩ := I.tuple hB
  dsimp only at hc hd
  subst hc hd
  have hl2 := r2.length
  have hsz : its.toArray.size + its2.toArray.size ≤ sizeLine := by rw [List.size_toArray, List.size_toArray]; omega
  have hlong : ¬ (!its.toArray.isEmpty && Builtin.List.listTooLong (its.toArray.size + its2.toArray.size)) = true := by
    rw [notLongL hsz, Bool.and_false]
    exact Bool.false_ne_true
  refine call_meets F.slot_list_extend ⟨_, e, rfl⟩ F.entry_list_extend (F.args_list_extend_2 _ _)
    (list_extend_tup l its.toArray n b its2.toArray n2 _ _ hlong (by rw [List.size_toArray]; omega) (by omega)) ⟨e, e2, ?_⟩
  refine ⟨.non, _, I.lset (its' := its ++ its2) hH e (by simp) (r.append r2) ?_, rfl, q⟩
  rw [List.length_append]
  omega
def gExtend (xs : List D) : List D → Option (D × List D)
  | [.tup ds] => if xs.length + ds.length ≤ sizeLine then some (.non, xs ++ ds) else none
  | _ => none
theorem mu_extend {G : Gd} : Mu G (rExt G.K) gExtend := fun xs ds ret ys h p vs us F H Q sa hp hv hu k => by
  unfold gExtend at h
  split at h
  · split at h
    · rename_i c
      cases h
      cases hu with
      | cons a t =>
        cases t
        cases a with
        | tup hq r => exact ⟨p, _, vs, _, rfl, rfl, hp, .inr (sqT_same sa hq), by rw [hv.length, r.length]; exact c, k _ _ .non (hv.append r)⟩
    · cases h
  · cases h
section
variable {X : Cx} {ca : Ca} {W : WX}
theorem v_extend {o e : Expr} {i : Nat} {n : M (List Rv)} {apos cpos : Pos} (ho : DE X ca W o (mVar i)) (ha : DA X ca W [e] n) (hbase : attributeBase o "extend" X.env (eval o X.env) = eval o X.env := by rfl)
    (hfew : ((backTo cpos (starEach [e] X.env)).all (fun x => !x.1) && (backToKw cpos (keywordEach [] X.env)).all (fun x => x.1.isSome) && decide ([e].length + ([] : List Keyword).length + (if ([] : List Keyword).isEmpty then 0 else 1) < 30)) = true := by rfl)
    (hline : (apos.endLine == cpos.line) = true := by rfl) (hs : starEach [e] X.env = [(false, eval e X.env)] := by rfl) : DE X ca W (.Call (.Attribute o "extend" apos) [e] [] cpos) (mMut gExtend i n) :=
  de_mut PySem.F.slot_list_extend PySem.F.type_list_extend mt_ext mu_extend ho ha hbase hfew hline hs rfl
end
end PM
set_option Elab.async false
set_option linter.all false
set_option maxRecDepth 100000
set_option maxHeartbeats 4000000
namespace PM
open PySem PySem.Spec PyProof.Rows L2
theorem meets_enum1 {v : Value} {o : Obj} {H : Heap → Prop} (B : Begins v o H) :
    Meets (Builtin.«enumerate.__new__» ⟨[.type "enumerate", v], []⟩) (fun _ R s => H s.heap ∧
      R (.ok (.ret (.ref (s.heap.push o).objs.size))) { s with heap := (s.heap.push o).push { cls := .type "enumerate", data := .fields #[.none, .bool false, .ref s.heap.objs.size, rawInt 0, .none, .none] } }) :=
  .of_wp fun prog w A R s h => by
    obtain ⟨hp, g, d, tk, os⟩ := s; obtain ⟨h1, h⟩ := h
    have hsub := PySem.sub_enumerate
    have q1 : ∀ {A' : Around} {E : Value → Shared → Prop} {Q : Value → Shared → Prop}, Q (.ref hp.objs.size) ⟨hp.push o, g, d, tk, os⟩ → wpAny (model prog w) A' (pyIter v) Q E ⟨hp, g, d, tk, os⟩ :=
      fun q => B.iter prog w _ _ ⟨hp, g, d, tk, os⟩ _ h1 q
    wp_walk using q1
    refine wpAny_stack_any fun st => wpAny_pure ?_
    split
    · rename_i c _ _ _ _ _
      cases (c == Value.type "enumerate")
      · wp_walk using q1
        exact ⟨_, rfl, h⟩
      · wp_walk using q1
        exact ⟨_, rfl, h⟩
    · wp_walk using q1
      exact ⟨_, rfl, h⟩
theorem call_enum1 {prog : Program} {w : World} {A : Around} {E : Value → Shared → Prop} {s : Shared} {v : Value} {o : Obj} {H : Heap → Prop} {Q : Value → Shared → Prop} (B : Begins v o H) (h1 : H s.heap)
    (h : ∀ h', IsEnum h' (s.heap.objs.size + 1) s.heap.objs.size 0 .none → h'.get? s.heap.objs.size = some o → h'.objs.size = s.heap.objs.size + 2 →
      (∀ b o, s.heap.get? b = some o → h'.get? b = some o) → Q (.ref (s.heap.objs.size + 1)) { s with heap := h' }) :
    wpAny (model prog w) A (call (.type "enumerate") [v]) Q E s := by
  refine callType_new F.called_enumerate (by decide) (F.typeCall_enumerate_1 _) (F.newCall_enumerate_1 _) (fun obj => F.args_object_init_2 obj _) F.entry_enumerate_new
    (meets_enum1 B) ⟨h1, ?_⟩
  have hz : (s.heap.push o).objs.size = s.heap.objs.size + 1 := Heap.size_push ..
  show _ ∧ _
  rw [hz]
  have he : IsEnum ((s.heap.push o).push { cls := .type "enumerate", data := .fields #[.none, .bool false, .ref s.heap.objs.size, rawInt 0, .none, .none] }) (s.heap.objs.size + 1) s.heap.objs.size 0 .none := by
    have := Heap.get?_push_size (s.heap.push o) (o := { cls := .type "enumerate", data := .fields #[.none, .bool false, .ref s.heap.objs.size, rawInt 0, .none, .none] }) rfl
    rw [hz] at this; exact this
  refine ⟨⟨_, he, rfl⟩, h _ he (Heap.get?_push_of_some _ (Heap.get?_push_size _ B.free)) (by rw [Heap.size_push, hz]) fun b o x => Heap.get?_push_of_some _ (Heap.get?_push_of_some _ x)⟩
/-- the tuple at a, each item in a new pair -/
def Iet (K : PySem.W.Frag) (a : Addr) : It :=
  ⟨fun i H => ∃ (xs : List V) (x : V), SqT K H a xs ∧ xs[i]? = some x, fun i H v H' => ∃ T x, v = .ref T ∧ H T = none ∧ H' = upd H T (.tup [.int (i : Nat), x]) ∧ ∀ xs, SqT K H a xs → xs[i]? = some x, fun i H => ∃ xs : List V, SqT K H a xs ∧ xs.length = i⟩
theorem turn_enumT {P : Program} {w : World} {K : PySem.W.Frag} {elts : List Expr} {kk : Nat} {tpos : Pos} (a e it : Addr) (hei : e ≠ it) (hai : a ≠ it) (hea : e ≠ a) :
    Turn P w K (.Tuple elts kk tpos) (Iet K a) [e, it] e (fun i h => (∃ old, IsEnum h e it ((i : Nat) : Int) old) ∧ h.IsTupleIter it a i) where
  mem := by simp
  obj := fun i h st b hb => by
    obtain ⟨⟨old, he⟩, ⟨o, ho, hc, hd⟩⟩ := st
    have e' : b = e ∨ b = it := by simpa using hb
    rcases e' with z | z
    · rw [z]; exact ⟨_, he, fun v q => nomatch q⟩
    · rw [z]; exact ⟨o, ho, fun v q => by rw [hd] at q; cases q⟩
  keep := fun i h h' st k => let ⟨⟨old, he⟩, hi⟩ := st; ⟨⟨old, k e (by simp) _ he⟩, hi.at fun o q => k it (by simp) o q⟩
  item := by
    intro X hP hw hK hc i pins s σ H E I hf st hg
    subst hP hw hK
    obtain ⟨⟨old, he⟩, hit⟩ := st
    obtain ⟨xs, x, hq, hx⟩ := hg
    obtain ⟨its, rv, p, hz⟩ := I.tuple hq
    obtain ⟨u, hu, ru⟩ := rv.get hx
    have hel : e < s.heap.objs.size := Heap.lt_size he
    have hil : it < s.heap.objs.size := by obtain ⟨_, q, _⟩ := hit; exact Heap.lt_size q
    have hlt : i < its.toArray.size := by
      have := (List.getElem?_eq_some_iff.mp hu).1
      simpa using this
    refine wpAny_pyNext_enum_itemD (Draws.tuple (A := X.A.in1) (I.ok.hd hc) it a hai its.toArray) he ⟨hit, p⟩ hlt hei (by simp [hei, hea]) fun u' h' tk hu' ho hst hT hsz hk => ?_
    have : u' = u := by
      have q : its.toArray[i]? = some u := by simpa using hu
      rw [q] at hu'
      exact (Option.some.inj hu').symm
    subst this
    refine ⟨_, rfl, wpAny_letOwnedTupleGo_enum (s := { s with heap := h', toks := tk + 1 }) ho fun h'' he' sb => ?_⟩
    have hT2 : h''.get? s.heap.objs.size = some { cls := .type "tuple", data := .seq #[.int i tk, u'] } := (sb.2 _ (Nat.ne_of_gt hel)).trans hT
    have new : ObjOk X.prog X.w (upd H s.heap.objs.size (.tup [.int (i : Nat), x])) h'' s.heap.objs.size (.tup [.int (i : Nat), x]) :=
      ⟨by show 2 ≤ sizeLine; decide, [.int i tk, u'], .cons ⟨_, rfl⟩ (.cons ru .nil), ⟨_, hT2, rfl, _, rfl⟩⟩
    have I1 : Inv X pins σ (upd H s.heap.objs.size (.tup [.int (i : Nat), x])) { s with heap := h'', toks := tk + 1 } :=
      I.turnedNew (ch := [e, it]) (fun b ob hb q => (sb.2 b (fun z => hb (by simp [z]))).trans (hk b ob (fun z => hb (by simp [z])) (fun z => hb (by simp [z])) q)) hf (Nat.le_refl _) new
    refine ⟨.ref s.heap.objs.size, _, I1, rfl, ⟨_, x, rfl, I.hok.fresh (Nat.le_refl _), rfl, fun ys hy => by rw [I.tuple_inj hy hq]; exact hx⟩, ⟨⟨u', ?_⟩, hst.1.at fun o q => (sb.2 it (Ne.symm hei)).trans q⟩, fun b hb => ?_⟩
    · have e1 : ((i + 1 : Nat) : Int) = (i : Int) + 1 := by omega
      rw [e1]; exact he'
    · have hb' : b < s.heap.objs.size := by
        have e' : b = e ∨ b = it := by simpa using hb
        rcases e' with z | z
        · rw [z]; exact hel
        · rw [z]; exact hil
      rw [upd_ne (Nat.ne_of_lt hb')]
      exact (hf b hb).1
  done := by
    intro X hP hw hK hc i pins s σ H E I hf st hg
    subst hP hw hK
    obtain ⟨⟨old, he⟩, hit⟩ := st
    obtain ⟨xs, hq, hx⟩ := hg
    obtain ⟨its, rv, p, hz⟩ := I.tuple hq
    obtain ⟨f0, f1, f2, f3, f4, f5⟩ := hf it (by simp)
    have hl := rv.length
    have hn : its.toArray.size = i := by simp; omega
    subst hn
    exact wpAny_pyNext_enum_endD (Draws.tuple (A := X.A.in1) (I.ok.hd hc) it a hai its.toArray) he ⟨hit, p⟩ fun h' eb => ⟨rfl, I.turned (t' := s.toks) (fun b o hb q => eb b o hb q) f0 f1 f3 f4 f5⟩
  self := fun A i s Q E st h => let ⟨⟨_, he⟩, _⟩ := st; wpAny_pyIter_enum he h
def iEnm (K : PySem.W.Frag) (ta : TA) : TI := fun σ H R => ta σ H fun vs H1 => ∃ a, vs = [.ref a] ∧ ((∃ xs, SqL K H1 a xs ∧ R (Ite K a) H1) ∨ (∃ xs, SqT K H1 a xs ∧ R (Iet K a) H1))
theorem pi_enm {X : Cx} {e : Expr} {ta : TA} {p pos tpos : Pos} {elts : List Expr} {kk : Nat} (hg : Gl X "enumerate") (hm : X.mg "enumerate" = none) (ha : PA X [e] ta) (hs : starEach [e] X.env = [(false, eval e X.env)] := by rfl) :
    PI X (.Tuple elts kk tpos) (.Call (.Name "enumerate" p) [e] [] pos) (iEnm X.K ta) := by
  refine ⟨fun pins s σ H R I h => ?_⟩
  refine Call_ (ld_blt I hg hm boot_enumerate (PyProof.Rows.callWith_type1 (thn (ha.run pos pins s σ H _ I h) fun us s1 ⟨vs, H1, I1, r1, q1⟩ => ?_) hs rfl))
  obtain ⟨a, ex, q1⟩ := q1
  subst ex
  cases r1 with
  | cons r rr =>
    cases rr
    cases r
    have fp : ∀ b ∈ [s1.heap.objs.size + 1, s1.heap.objs.size], s1.heap.objs.size ≤ b := fun b hb => by
      have e' : b = s1.heap.objs.size + 1 ∨ b = s1.heap.objs.size := by simpa using hb
      rcases e' with z | z
      · rw [z]; exact Nat.le_add_right _ _
      · rw [z]; exact Nat.le_refl _
    rcases q1 with ⟨xs, hq, q⟩ | ⟨xs, hq, q⟩
    · obtain ⟨its, rv, p', hz⟩ := I1.list hq
      refine call_enumerate_list p'.isList fun h' he hit hsz hk => wpAny_pyIter_enum he ?_
      have I2 : Inv X pins σ H1 { s1 with heap := h' } := I1.kept (t' := s1.toks) hk
      refine ⟨s1.heap.objs.size + 1, [s1.heap.objs.size + 1, s1.heap.objs.size], _, _, H1, rfl, I2, turn_enum a (s1.heap.objs.size + 1) s1.heap.objs.size, ⟨⟨.none, he⟩, hit, Nat.succ_ne_self _⟩, fun b hb => ?_, q⟩
      exact I1.fpOk (fp b hb) (I1.hok.fresh (fp b hb))
    · obtain ⟨its, rv, p', hz⟩ := I1.tuple hq
      have hal : a < s1.heap.objs.size := by obtain ⟨_, q, _⟩ := p'; exact Heap.lt_size q
      refine call_enum1 (begins_tuple a its.toArray) p' fun h' he hit hsz hk => wpAny_pyIter_enum he ?_
      have I2 : Inv X pins σ H1 { s1 with heap := h' } := I1.kept (t' := s1.toks) hk
      refine ⟨s1.heap.objs.size + 1, [s1.heap.objs.size + 1, s1.heap.objs.size], _, _, H1, rfl, I2, turn_enumT a (s1.heap.objs.size + 1) s1.heap.objs.size (Nat.succ_ne_self _) (Nat.ne_of_lt hal) (Ne.symm (Nat.ne_of_lt (Nat.lt_succ_of_lt hal))), ⟨⟨.none, he⟩, ⟨_, hit, rfl, rfl⟩⟩, fun b hb => ?_, q⟩
      exact I1.fpOk (fp b hb) (I1.hok.fresh (fp b hb))
theorem it_enumT {G : Gd} {F : Hp} {a : Addr} {vs : List V} {ds : List D} (h : SqT G.K F a vs) (r : DpAll G F vs ds) : ItOk G F (Iet G.K a) (enumD ds) where
  stop := fun F1 H s t => ⟨vs, sqT_same t (sqT_same s h), by rw [r.length]; simp [enumD]⟩
  go := fun i d F1 H s t e => by
    unfold enumD at e
    rw [List.getElem?_map, List.getElem?_zipIdx] at e
    cases q : ds[i]? with
    | none => rw [q] at e; cases e
    | some d0 =>
      rw [q] at e
      simp at e
      subst e
      obtain ⟨v, ev, k⟩ := r.get q
      have q : SqT G.K H a vs := sqT_same t (sqT_same s h)
      refine ⟨⟨vs, v, q, ev⟩, fun x H' y => ?_⟩
      obtain ⟨T, x0, rfl, hT, rfl, y⟩ := y
      have z := y vs q
      rw [ev] at z
      cases z
      exact ⟨upd F1 T (.tup [.int (i : Nat), v]), Grow.lay t hT, .tup (.inl (.inl upd_same)) (.cons (.int _) (.cons (dp_same (s.trans (same_new (t.free hT))) k) .nil))⟩
def mEnm (m : M (List Rv)) : M (List D) := fun ρ => match m ρ with
  | .ok rs ρ1 => match escs ρ1 rs with
    | some ([.lst xs], ρ2) => .ok (enumD xs) ρ2
    | some ([.tup xs], ρ2) => .ok (enumD xs) ρ2
    | _ => .bad
  | .err x ρ1 => .err x ρ1
  | .bad => .bad
section
variable {X : Cx} {ca : Ca} {W : WX} {vi li : List Nat} {ug : List Str}
theorem di_enm {e : Expr} {m : M (List Rv)} {p pos tpos : Pos} {elts : List Expr} {kk : Nat} (hg : Gl X "enumerate") (hm : X.mg "enumerate" = none) (ha : DA X ca W [e] m) (hs : starEach [e] X.env = [(false, eval e X.env)]) : DI X ca W (.Tuple elts kk tpos) (.Call (.Name "enumerate" p) [e] [] pos) (mEnm m) := pi_imp (pi_enm hg hm ha hs) fun σ H R0 ⟨F, ρ, R, p⟩ => by
  refine ⟨F, ρ, R, ?_⟩
  unfold mEnm at p
  cases e1 : m ρ with
  | bad => rw [e1] at p; exact p
  | err x ρ1 => rw [e1] at p; exact p
  | ok rs ρ1 =>
    rw [e1] at p
    intro vs F1 H1 R1 f1 k1
    dsimp only at p
    split at p
    · rename_i xs ρ2 q
      obtain ⟨F2, R2, f2, k2, s2⟩ := escs_ok R1 f1 k1 q
      cases k2 with
      | cons k t =>
        cases t
        cases k with
        | lst hl hr => exact ⟨_, rfl, .inl ⟨_, sqL_of (R2.ex _ _ hl), p _ F2 H1 R2 f2 (it_enum hl hr)⟩⟩
    · rename_i xs ρ2 q
      obtain ⟨F2, R2, f2, k2, s2⟩ := escs_ok R1 f1 k1 q
      cases k2 with
      | cons k t =>
        cases t
        cases k with
        | tup hl hr => exact ⟨_, rfl, .inr ⟨_, sqT_same R2.ex hl, p _ F2 H1 R2 f2 (it_enumT hl hr)⟩⟩
    · exact p.elim
theorem v_enum2 (B : Bd X vi li ug) {e : Expr} {m : M (List Rv)} {p pos tpos : Pos} {elts : List Expr} {kk : Nat} (hm : X.mg "enumerate" = none) (ha : DA X ca W [e] m) (hg : ("enumerate" : Str) ∈ ug := by decide +kernel) (hs : starEach [e] X.env = [(false, eval e X.env)] := by rfl) : DI X ca W (.Tuple elts kk tpos) (.Call (.Name "enumerate" p) [e] [] pos) (mEnm m) := di_enm (B.gl _ hg) hm ha hs
end
end PM
set_option Elab.async false
set_option linter.all false
set_option maxRecDepth 100000
set_option maxHeartbeats 4000000
namespace PM
open PySem L2
open PySem.PyData (strOk)
/-! ### a written dict, text keys, numbers -/
def entB (e : DictEntry) : Option (Str × Int) := match e.key, e.val with
  | .str x _, .int i _ => some (x, i)
  | _, _ => none
def kdB (K : PySem.W.Frag) (a : Addr) (kvs : List (Str × Int)) : Bool := match K.lookup a with
  | some ⟨_, _, .dict es _, _⟩ => decide (es.toList.map entB = kvs.map some)
  | _ => false
structure KTab (K : PySem.W.Frag) (w : World) (d : Addr) (kvs : List (Str × Int)) : Prop where
  ex : ∃ es n, KDict K w d es n ∧ es.toList.map entB = kvs.map some
theorem kdB_ok {K : PySem.W.Frag} {w : World} {d : Addr} {kvs : List (Str × Int)} (h : kdB K d kvs = true) (k : ∃ es n, KDict K w d es n) : KTab K w d kvs := by
  obtain ⟨es, n, k⟩ := k
  unfold kdB at h
  rw [k.at_] at h
  exact ⟨es, n, k, of_decide_eq_true h⟩
theorem isStr_str (x y : Str) (t : Tok) : (Value.str y t).isStr x = (x == y) := by
  first | rfl | (show (y == x) = (x == y); exact BEq.comm)
theorem find_ent {z : Str} : ∀ {l : List DictEntry} {kvs : List (Str × Int)}, l.map entB = kvs.map some → (∃ e i t, l.find? (fun d => d.key.isStr z) = some e ∧ e.val = .int i t ∧ kvs.lookup z = some i) ∨ (l.find? (fun d => d.key.isStr z) = none ∧ kvs.lookup z = none)
  | [], [], _ => .inr ⟨rfl, rfl⟩
  | [], _ :: _, h => by cases h
  | _ :: _, [], h => by cases h
  | e :: l, (k, i) :: kvs, h => by
    rw [List.map_cons, List.map_cons] at h
    injection h with h1 h2
    unfold entB at h1
    split at h1
    · rename_i x t j u q1 q2
      cases h1
      rw [List.find?_cons, List.lookup_cons, q1, isStr_str]
      cases c : z == k
      · exact find_ent h2
      · exact .inl ⟨e, i, u, rfl, q2, rfl⟩
    · cases h1
theorem refKey_ent : ∀ {l : List DictEntry} {kvs : List (Str × Int)}, l.map entB = kvs.map some → l.any (·.refKey) = false
  | [], _, _ => rfl
  | e :: l, [], h => by cases h
  | e :: l, (k, i) :: kvs, h => by
    rw [List.map_cons, List.map_cons] at h
    injection h with h1 h2
    unfold entB at h1
    split at h1
    · rename_i x t j u q1 q2
      rw [List.any_cons, refKey_ent h2, Bool.or_false]
      unfold DictEntry.refKey
      rw [q1]
      all_goals rfl
    · cases h1
theorem KTab.ns {K : PySem.W.Frag} {w : World} {d : Addr} {kvs : List (Str × Int)} (T : KTab K w d kvs) (z : Str) : (∃ i t, PySem.W.nsIn K d z = some (some (.int i t)) ∧ kvs.lookup z = some i) ∨ (PySem.W.nsIn K d z = some none ∧ kvs.lookup z = none) := by
  obtain ⟨es, n, k, e⟩ := T.ex
  unfold PySem.W.nsIn
  rw [k.at_]
  dsimp only
  rcases find_ent (z := z) e with ⟨e0, i, t, h1, h2, h3⟩ | ⟨h1, h2⟩
  · exact .inl ⟨i, t, by rw [h1]; show some (some e0.val) = _; rw [h2], h3⟩
  · exact .inr ⟨by rw [h1, refKey_ent e]; rfl, h2⟩
def gInK (kvs : List (Str × Int)) : D → Option Rv
  | .str z => some (.val (.bl (kvs.lookup z).isSome))
  | _ => none
def gIxK (kvs : List (Str × Int)) : D → Option Rv
  | .str z => (match kvs.lookup z with
    | some i => some (.val (.int i))
    | none => none)
  | _ => none
section
variable {X : Cx} {ca : Ca} {W : WX} {vi li : List Nat} {ug : List Str}
theorem v_inK (B : Bd X vi li ug) {kvs : List (Str × Int)} {d : Addr} (T : KTab X.K X.w d kvs) {x : Str} (hm : X.mg x = some (.ref d)) {a : Expr} {m : M Rv} {pos pos' : Pos} (ha : DE X ca W a m) (hg : x ∈ ug := by decide +kernel) (hd : (x == ("__debug__" : Str)) = false := by decide) (hmk : behindInMarks .In (.Name x pos') = false := by rfl) :
    DE X ca W (.Compare a [.In] [.Name x pos'] pos) (mOp1 (gInK kvs) m) := by
  obtain ⟨es, n, k, _⟩ := T.ex
  refine pe_imp (pe_cmpR (op_in_kd k) ha (pe_glob (v := .ref d) (B.gl _ hg) hm rfl hd) hmk) fun σ H Q h => ?_
  refine t_op1 (r := fun x H1 Q => ∃ (z : Str) (r : Option Value), x = .str z ∧ V.ref d = .ref d ∧ PySem.W.nsIn X.K d z = some r ∧ Q (.bl r.isSome) H1) ?_ h
  intro dd z h v F H Q s hv k
  unfold gInK at h
  split at h
  · rename_i y
    cases h
    obtain ⟨rfl, _⟩ := hv.str
    rcases T.ns y with ⟨i, t, h1, h2⟩ | ⟨h1, h2⟩
    · rw [h2] at k
      exact ⟨_, _, rfl, rfl, h1, k.val s (.bl _)⟩
    · rw [h2] at k
      exact ⟨_, _, rfl, rfl, h1, k.val s (.bl _)⟩
  · cases h
theorem v_ixK (B : Bd X vi li ug) {kvs : List (Str × Int)} {d : Addr} (T : KTab X.K X.w d kvs) {x : Str} (hm : X.mg x = some (.ref d)) {b : Expr} {m : M Rv} {pos pos' : Pos} (hb : DE X ca W b m) (hg : x ∈ ug := by decide +kernel) (hd : (x == ("__debug__" : Str)) = false := by decide) (hs : PlainIx b := by exact fun _ _ => rfl) :
    DE X ca W (.Subscript (.Name x pos') b pos) (mOp1 (gIxK kvs) m) := by
  obtain ⟨es, n, k, _⟩ := T.ex
  refine pe_imp (pe_ix ix_kdict (pe_glob (v := .ref d) (B.gl _ hg) hm rfl hd) hb hs) fun σ H Q h => ?_
  refine t_op1 (r := fun x H1 Q => rIxD X.K X.w (.ref d) x H1 Q) ?_ h
  intro dd z h v F H Q s hv kk
  unfold gIxK at h
  split at h
  · rename_i y
    obtain ⟨rfl, _⟩ := hv.str
    rcases T.ns y with ⟨i, t, h1, h2⟩ | ⟨h1, h2⟩
    · rw [h2] at h
      cases h
      exact ⟨d, _, .int i, rfl, rfl, ⟨es, n, _, k.at_, k.lit, h1, ⟨t, rfl⟩⟩, kk.val s (.int _)⟩
    · rw [h2] at h
      cases h
  · cases h
end
end PM
set_option Elab.async false
set_option linter.all false
set_option maxRecDepth 100000
set_option maxHeartbeats 4000000
namespace PM
open PySem PySem.Spec PyProof.Rows L2
open PySem.PyData (strOk)
open PpSet (newSet_ok eval_SetComp compLoopS_any codeAny_compStart_set)
section
variable {X : Cx}
abbrev sk0 (P : Program) (w : World) (Z : Addr) : HO := SetK P w Z (fun _ => false) 0
abbrev newSetO (w : World) : Obj := { cls := .type "set", dict := none, data := .set #[] 0 (.fresh 0 0 (!w.params.followText "set-order")) }
/-- a set comprehension of keys, read as a value: Z is the new set -/
def tScK (P : Program) (w : World) (wi : TI) (g : TG) (tt : TT) (te : TE) (vs : List Nat) : TE := fun σ H Q => wi σ H fun J H1 => ∀ Z, H1 Z = none → ∃ Iv : Nat → Nat → Hp → Prop, (∃ m, Iv 0 m (upd H1 Z (sk0 P w Z))) ∧
  ∀ i m H, Iv i m H → (J.stop i H ∧ Q (.ref Z) H) ∨ (J.go i H ∧ ∃ Go : Hp → Prop, (∀ H', Go H' → ∃ m', m' < m ∧ Iv (i + 1) m' H') ∧ ∀ x H', J.yld i H x H' →
    g x (wipe σ vs) H' fun σ2 H2 => wipe σ2 vs = wipe σ vs ∧ tt σ2 H2 fun b H3 => if b = true then te σ2 H3 fun y H4 => ∃ (c : Key) (S : Key → Bool) (n : Nat), y = kV c ∧ H4 Z = some (SetK P w Z S n) ∧ n + 1 < scanBound ∧
      Go (upd H4 Z (SetK P w Z (fun j => S j || decide (j = c)) (if S c = true then n else n + 1))) else Go H3)
theorem scK_core {pins : List (Addr × Obj)} {s : Shared} {σ : L2.St} {H : Hp} {Q : VK} {elt tg iter : Expr} {ifs : List Expr} {scope : Scope} {own : List (PySem.Str × Nat)} {pos pos' : Pos} {wi : TI} {g : TG} {tt : TT} {te : TE} {use : Option (Value → Sem Unit)} {Qf : Value → Shared → Prop}
    (hc : X.calm = true) (nd : X.N.Nodup) (I : Inv X pins σ H s) (hi : PI X tg iter wi) (ok : BlkOk X.N X.env.scope scope own) (hg : ∀ s H C cl fp, PG (Blk X scope s H C cl fp) tg g) (ht : ∀ s H C cl fp, PTs (Blk X scope s H C cl fp) ifs tt) (he : ∀ s H C cl fp, PE (Blk X scope s H C cl fp) elt te)
    (hs : ∀ x, foldedSetIterable iter X.env x = pure x) (h : tScK X.prog X.w wi g tt te (own.map (·.2)) σ H Q) (fin : ∀ Z C s' m H', Inv X pins σ H' s' → Q (.ref Z) H' → s'.heap.Ns C m → FpOk X pins H' C → compPost (model X.prog X.w) X.A X.xe use Qf (.ref Z) C (.ok .next) s') :
    wpAny (model X.prog X.w) X.A (comprehension (.SetComp elt [⟨tg, iter, ifs, 0⟩] scope pos) scope X.env pos' (newSet (.type "set")) false (eval iter X.env) use) Qf X.xe s := by
  have fr : ∀ y ∈ scope.names, y.2 = .free → ∃ c, X.env.cells.lookup y.1 = some c := fun y m e => (ok.free y m e).elim (fun k => I.ok.has _ (.inl k)) fun k => I.ok.has _ (.inr k)
  refine wpAny_comprehension_free (use := use) rfl hs (closure_ok fr) ok.kind (fun y m e => by rw [ok.uniq y m, e]) (thn (hi.run pins s σ H _ I h) fun _ s1 k1 => thn k1 fun _ s2 k2 => ?_)
  obtain ⟨it, fp, tn, J, Ha, rfl, Ia, T, sa, fa, q⟩ := k2
  refine newSet_ok (newEnv_comp ?_)
  generalize hZ : s2.heap.objs.size = Z
  obtain ⟨Iv, ⟨m0, w0⟩, turn⟩ := q Z (Ia.hok.fresh (Nat.le_of_eq hZ))
  have cp : ∀ b ∈ fp, b < s2.heap.objs.size := fun b m => let ⟨_, e, _⟩ := T.obj _ _ sa b m; Heap.lt_size e
  generalize e3 : ({ s2 with heap := s2.heap.push (newSetO X.w) } : Shared) = s3
  have hp3 : s3.heap = s2.heap.push (newSetO X.w) := by rw [← e3]
  have fresh : (s2.heap.push (newSetO X.w)).SetOf (mixKind X.prog X.w) s2.heap.objs.size (fun _ => false) 0 := ⟨_, #[], 0, _, Heap.get?_push_size _ rfl, ⟨rfl, rfl, rfl⟩, rfl, (fun e m => by simp at m), (fun k => by simp), (by decide), (by rfl), rfl⟩
  have Ib : Inv X pins σ (upd Ha Z (sk0 X.prog X.w Z)) s3 := by
    rw [← e3, ← hZ]
    exact Ia.laid (t' := s2.toks) (fun b o e => Heap.get?_push_of_some _ e) (Nat.le_refl _) (setK_new fresh)
  have fb : ∀ b ∈ fp, FpOk X pins (upd Ha Z (sk0 X.prog X.w Z)) b ∧ b < s3.heap.objs.size := fun b m =>
    ⟨⟨by rw [upd_ne (by rw [← hZ]; exact Nat.ne_of_lt (cp b m))]; exact (fa b m).1, (fa b m).2⟩, by rw [hp3, Heap.size_push]; exact Nat.lt_succ_of_lt (cp b m)⟩
  have sb : tn 0 s3.heap := T.keep _ _ _ sa fun b _ o e => by rw [hp3]; exact Heap.get?_push_of_some _ e
  have Ic := block_start Ib ok nd fb
  have pg : PG (X.blk s3 (upd Ha Z (sk0 X.prog X.w Z)) scope (compEnvC scope (cellsFrom (s3.heap.objs.size + 1) scope.names (cloFrom X.env.cells scope.names [])) s3.heap.objs.size X.env) fp) tg g := hg s3 (upd Ha Z (sk0 X.prog X.w Z)) s3.heap.objs.size (cellsFrom (s3.heap.objs.size + 1) scope.names (cloFrom X.env.cells scope.names [])) fp
  have pt : PTs (X.blk s3 (upd Ha Z (sk0 X.prog X.w Z)) scope (compEnvC scope (cellsFrom (s3.heap.objs.size + 1) scope.names (cloFrom X.env.cells scope.names [])) s3.heap.objs.size X.env) fp) ifs tt := ht s3 (upd Ha Z (sk0 X.prog X.w Z)) s3.heap.objs.size (cellsFrom (s3.heap.objs.size + 1) scope.names (cloFrom X.env.cells scope.names [])) fp
  have pe : PE (X.blk s3 (upd Ha Z (sk0 X.prog X.w Z)) scope (compEnvC scope (cellsFrom (s3.heap.objs.size + 1) scope.names (cloFrom X.env.cells scope.names [])) s3.heap.objs.size X.env) fp) elt te := he s3 (upd Ha Z (sk0 X.prog X.w Z)) s3.heap.objs.size (cellsFrom (s3.heap.objs.size + 1) scope.names (cloFrom X.env.cells scope.names [])) fp
  show codeAny _ _ (.compStart (.SetComp elt [⟨tg, iter, ifs, 0⟩] scope pos) 0 (.ref it) (.ref Z) (compEnvC scope (cellsFrom (s3.heap.objs.size + 1) scope.names (cloFrom X.env.cells scope.names [])) s3.heap.objs.size X.env)) (compPost (model X.prog X.w) X.A X.xe use Qf (.ref Z) s3.heap.objs.size) { s3 with heap := pushCells (s3.heap.push { cls := .type "dict", data := .dict #[] }) scope.names }
  have nb : ∀ b ∈ fp, (upd Ha Z (sk0 X.prog X.w Z)) b = none := fun b m => (fb b m).1.1
  generalize ee : compEnvC scope (cellsFrom (s3.heap.objs.size + 1) scope.names (cloFrom X.env.cells scope.names [])) s3.heap.objs.size X.env = ev at Ic pg pt pe ⊢
  have lo : ev.locals = s3.heap.objs.size := by rw [← ee] <;> rfl
  generalize eH : upd Ha Z (sk0 X.prog X.w Z) = Hb at Ib Ic pg pt pe w0 nb fb
  generalize e4 : ({ s3 with heap := pushCells (s3.heap.push { cls := .type "dict", data := .dict #[] }) scope.names } : Shared) = s4 at Ic ⊢
  have sc : tn 0 s4.heap := T.keep _ _ _ sb fun b _ o e => by rw [← e4]; exact pushCells_keeps _ _ _ _ (Heap.get?_push_of_some _ e)
  have fpo : ∀ {σ' : L2.St} {H' : Hp} {s' : Shared}, Inv (X.blk s3 Hb scope ev fp) [] σ' H' s' → (∀ b ∈ fp, H' b = none) → ∀ b ∈ fp, FpOk (X.blk s3 Hb scope ev fp) [] H' b := fun {_ _ _} J' n b m =>
    ⟨n b m, (J'.ok.exf b m).1, J'.ok.exfs b m, .inl m, fun x c e => (J'.ok.exf b m).2 x c e, fun p z => absurd (show p ∈ ([] : List (Addr × Obj)) ++ [] from z) (by simp)⟩
  have loop : codeAny (model X.prog X.w) X.A (.compLoop (.SetComp elt [⟨tg, iter, ifs, 0⟩] scope pos) 0 (.ref it) (.ref Z) ev) (compPost (model X.prog X.w) X.A X.xe use Qf (.ref Z) s3.heap.objs.size) s4 := by
    refine compLoopS_any (fun n s' => ∃ i H', Inv (X.blk s3 Hb scope ev fp) [] (wipe σ (own.map (·.2))) H' s' ∧ tn i s'.heap ∧ (∀ b ∈ fp, H' b = none) ∧ Iv i n H') ?_ m0 ⟨0, Hb, Ic, sc, nb, w0⟩
    rintro n s5 ⟨i, H5, I5, t5, n5, w5⟩
    rcases turn i n H5 w5 with ⟨stop, qq⟩ | ⟨go, Go, hGo, step⟩
    · refine thnF (T.done (X.blk s3 Hb scope ev fp) rfl rfl rfl hc i [] s5 _ H5 (fun _ _ => False) I5 (fpo I5 n5) t5 stop) fun r s6 ⟨er, I6⟩ => ?_
      subst er
      obtain ⟨mm, hn, _⟩ := I6.loc
      have hn : s6.heap.Ns ev.locals mm := hn
      have nC : H5 ev.locals = none := I6.free
      rw [lo] at hn nC
      exact fin Z s3.heap.objs.size s6 mm H5 (Ib.call' (ch := fp) I6.os I6.base I6.hok I6.bare fun b m => ⟨(fb b m).1.2.2.2.1, (fb b m).1.2.1, (fb b m).1.2.2.2.2.1, (fb b m).1.2.2.2.2.2⟩) qq hn (Ib.fpOk (Nat.le_refl _) nC)
    · refine thnF (T.item (X.blk s3 Hb scope ev fp) rfl rfl rfl hc i [] s5 _ H5 (fun _ _ => False) I5 (fpo I5 n5) t5 go) fun r s6 ⟨u, er, h6⟩ => ?_
      subst er
      refine thnF h6 fun _ s7 ⟨x, H7, I7, r7, y7, t7, n7⟩ => thnF (pg.run _ s7 _ H7 x u _ (I7.pinned (fpo I7 n7) (T.obj _ _ t7)) r7 (step x H7 y7)) fun _ s8 ⟨σ8, H8, I8, hw8, q8⟩ => thnF (pt.run _ s8 σ8 H8 _ I8 q8) fun b s9 ⟨H9, I9, q9⟩ => ?_
      have back : ∀ {s' : Shared} {H' : Hp}, Inv (X.blk s3 Hb scope ev fp) ([] ++ pinsAt fp s7.heap) σ8 H' s' → Go H' → ∃ m, m < n ∧ ∃ i H', Inv (X.blk s3 Hb scope ev fp) [] (wipe σ (own.map (·.2))) H' s' ∧ tn i s'.heap ∧ (∀ b ∈ fp, H' b = none) ∧ Iv i m H' := fun {s' H'} I' nx => by
        obtain ⟨m', hm, w'⟩ := hGo H' nx
        have pi : ∀ b ∈ fp, ∀ o, s7.heap.get? b = some o → s'.heap.get? b = some o ∧ H' b = none := fun b m o e => let z := I'.pin (b, o) (List.mem_append_right _ (List.mem_append_right _ (mem_pinsAt m e))); ⟨z.1, z.2.1⟩
        exact ⟨m', hm, i + 1, H', (I'.unpinned (pins := [])).weak (by rw [← hw8, wipe_length]) (fun j v e => by rw [← hw8] at e; exact (wipe_some e).1), T.keep _ _ _ t7 fun b m o e => (pi b m o e).1, fun b m => let ⟨o, e, _⟩ := T.obj _ _ t7 b m; (pi b m o e).2, w'⟩
      cases b with
      | false => simp only [Bool.false_eq_true, if_false] at q9 ⊢; exact back I9 q9
      | true =>
        simp only [if_true] at q9 ⊢
        refine thnF (pe.run _ s9 σ8 H9 _ I9 q9) fun z s10 ⟨yv, H10, I10, r10, c, S, n0, ey, hZ10, room, nx⟩ => ?_
        subst ey
        exact thnF (mt_saddK (X := X.blk s3 Hb scope ev fp) _ s10 σ8 H10 (.ref Z) [kV c] (.ref Z) [z] _ I10 rfl (.cons r10 .nil) ⟨Z, c, S, n0, rfl, rfl, hZ10, room, nx⟩) fun _ s11 ⟨_, H11, I11, _, nx⟩ => back I11 nx
  exact codeAny_compStart_set loop (T.self X.A 0 _ _ _ sc loop)
theorem pe_scK {elt tg iter : Expr} {ifs : List Expr} {scope : Scope} {own : List (PySem.Str × Nat)} {pos : Pos} {wi : TI} {g : TG} {tt : TT} {te : TE} (hc : X.calm = true) (nd : X.N.Nodup) (hi : PI X tg iter wi) (ok : BlkOk X.N X.env.scope scope own) (hg : ∀ s H C cl fp, PG (Blk X scope s H C cl fp) tg g) (ht : ∀ s H C cl fp, PTs (Blk X scope s H C cl fp) ifs tt)
    (he : ∀ s H C cl fp, PE (Blk X scope s H C cl fp) elt te) (hs : ∀ x, foldedSetIterable iter X.env x = pure x) : PE X (.SetComp elt [⟨tg, iter, ifs, 0⟩] scope pos) (tScK X.prog X.w wi g tt te (own.map (·.2))) := ⟨fun pins s σ H Q I h => by
  rw [eval_SetComp]
  exact scK_core hc nd I hi ok hg ht he hs h fun Z C s' m H' I' q hn ⟨f0, f1, f2, f3, f4, f5⟩ => ⟨m, hn, fun h'' sb => ⟨.ref Z, H', I'.turned (t' := s'.toks) (fun b o hb e => (sb.2 b hb).trans e) f0 f1 f3 f4 f5, rfl, q⟩⟩⟩
end
/-! ### len({x for x in e}), texts -/
def distL : List Str → List Str → List Str
  | acc, [] => acc
  | acc, x :: xs => if x ∈ acc then distL acc xs else distL (x :: acc) xs
def txtsD : List D → Option (List Str)
  | [] => some []
  | .str x :: r => (match txtsD r with
    | some xs => some (x :: xs)
    | none => none)
  | _ :: _ => none
theorem txtsD_get : ∀ {ds : List D} {xs : List Str}, txtsD ds = some xs → ds = xs.map D.str
  | [], _, h => by cases h; rfl
  | .str x :: r, xs, h => by
    unfold txtsD at h
    split at h
    · rename_i ys e
      cases h
      rw [txtsD_get e]
      rfl
    · cases h
  | .non :: _, _, h => by cases h
  | .bl _ :: _, _, h => by cases h
  | .int _ :: _, _, h => by cases h
  | .lst _ :: _, _, h => by cases h
  | .tup _ :: _, _, h => by cases h
  | .obj _ _ _ :: _, _, h => by cases h
  | .scr _ :: _, _, h => by cases h
def mLenSc (mi : M (List D)) (i : Nat) : M Rv := fun ρ => match mi ρ with
  | .ok ds ρ1 => (match txtsD ds with
    | some xs => if i < ρ1.length ∧ xs.length + 1 < scanBound then .ok (.val (.int (distL [] xs).length)) ρ1 else .bad
    | none => .bad)
  | .err x ρ1 => .err x ρ1
  | .bad => .bad
def rLenK (P : Program) (w : World) : List V → Hp → VK → Prop := fun xs H Q => ∃ (a : Addr) (S : Key → Bool) (n : Nat), xs = [.ref a] ∧ H a = some (SetK P w a S n) ∧ n < scanBound ∧ Q (.int n) H
section
variable {X : Cx} {ca : Ca} {W : WX} {vi li : List Nat} {ug : List Str}
theorem call_lenK : CallR X (.builtin "len") (rLenK X.prog X.w) := by
  intro pins s σ H xs us Q I r h
  obtain ⟨a, S, n, rfl, ha, hn, q⟩ := h
  cases r with
  | cons r t =>
    cases t
    cases r
    obtain ⟨o, es, ep, t, ho, hex, hd, _, _, _, hf, he⟩ := setK_get I ha
    have hb : scanBound = 4096 := rfl
    exact call_len_set ho hex hd hf (by rw [he] <;> omega) ⟨.int n, H, I.tok _, ⟨_, by rw [he]⟩, q⟩
theorem t_lenSc {mi : M (List D)} {i : Nat} {σ : L2.St} {H : Hp} {Q : VK} (hh : tE ⟨X.K, ca⟩ W (mLenSc mi i) σ H Q) : tScK X.prog X.w (tI ⟨X.K, ca⟩ W mi) (gName i) tYes (tVar i) [i] σ H fun x H' => rLenK X.prog X.w [x] H' Q := by
  obtain ⟨F, ρ, R, p⟩ := hh
  refine ⟨F, ρ, R, ?_⟩
  unfold mLenSc at p
  cases e1 : mi ρ with
  | bad => rw [e1] at p; exact p
  | err x ρ1 => rw [e1] at p; exact p
  | ok ds ρ1 =>
    rw [e1] at p
    intro J F1 H1 R1 f1 it Z hZ
    dsimp only at p
    split at p
    · rename_i xs ex
      split at p
      · rename_i c
        have ed := txtsD_get ex
        have fZ : F1 Z = none := R1.ex.free hZ
        have hb : scanBound = 4096 := rfl
        let N : Nat → Hp → Prop := fun k H' => ∃ F' S acc, Grow F1 H1 F' H' ∧ F' Z = none ∧ H' Z = some (SetK X.prog X.w Z S acc.length) ∧ (∀ x, S (.inr x) = decide (x ∈ acc)) ∧ distL acc (xs.drop k) = distL [] xs ∧ acc.length ≤ k
        refine ⟨fun k m H' => m + k = xs.length ∧ N k H', ⟨xs.length, rfl, F1, fun _ => false, [], Grow.own R1.ex hZ, fZ, upd_same, fun x => by simp, rfl, Nat.le_refl _⟩, ?_⟩
        rintro k m H' ⟨hm, F', S, acc, gr, fz, hz, hS, hd, hl⟩
        cases e2 : xs.drop k with
        | nil =>
          have hk : k = xs.length := by
            have := List.drop_eq_nil_iff.mp e2
            omega
          rw [e2] at hd
          have hd : acc = distL [] xs := hd
          have st := it.stop F' H' gr.ff gr.fh
          rw [ed, List.length_map, ← hk] at st
          refine .inl ⟨st, Z, S, acc.length, rfl, hz, by omega, ?_⟩
          rw [← hd] at p
          exact p _ F' H' (R1.grow gr) (f1.trans (Fm.grow gr)) (.int _)
        | cons x r =>
          have hx : xs[k]? = some x := by
            have := congrArg List.head? e2
            rw [List.head?_drop] at this
            exact this
          have hr : xs.drop (k + 1) = r := by
            have := congrArg List.tail e2
            rw [List.tail_drop] at this
            exact this
          have lt : k < xs.length := (List.getElem?_eq_some_iff.mp hx).1
          obtain ⟨g1, g2⟩ := it.go k (.str x) F' H' gr.ff gr.fh (by rw [ed, List.getElem?_map, hx]; rfl)
          refine .inr ⟨g1, N (k + 1), fun H2 n => ⟨m - 1, by omega, by omega, n⟩, fun v H2 y => ?_⟩
          obtain ⟨F2, gr2, kx⟩ := g2 v H2 y
          cases kx
          have z2 : H2 Z = some (SetK X.prog X.w Z S acc.length) := gr2.hh _ _ hz
          have f2 : F2 Z = none := gr2.out fz hz
          refine ⟨wipe_set (by simp) |>.trans (by
            apply List.ext_getElem?
            intro j
            rw [wipe_get, wipe_length, wipe_get]
            split <;> rfl), ?_⟩
          refine ⟨.str x, by
            rw [List.getElem?_set_self (by rw [wipe_length, ← R1.len]; exact c.1)], .inr x, S, acc.length, rfl, z2, by omega, ?_⟩
          refine ⟨F2, fun j => S j || decide (j = .inr x), if x ∈ acc then acc else x :: acc, ⟨gr.ff.trans gr2.ff, fun a o e => ?_, fun a o e => ?_, fun a o e n => ?_⟩, f2, ?_, fun y => ?_, ?_, ?_⟩
          · rw [upd_ne (ne_of_none e f2)]
            exact gr2.fh a o e
          · rw [upd_ne (ne_of_none e hZ)]
            exact gr2.hh a o (gr.hh a o e)
          · cases q : F' a with
            | none =>
              have := gr2.new a o e q
              cases q1 : H1 a with
              | none => rfl
              | some o1 => rw [gr.hh a o1 q1] at this; cases this
            | some o' => exact gr.new a o' q n
          · rw [upd_same, hS x]
            by_cases hm2 : x ∈ acc <;> simp [hm2]
          · show (S (.inr y) || decide (Sum.inr y = Sum.inr x)) = _
            rw [hS y]
            by_cases hm2 : x ∈ acc
            · simp [hm2]
              intro e; subst e; exact hm2
            · by_cases e : y = x <;> simp [hm2, e]
          · rw [hr, ← hd, e2]
            show _ = if x ∈ acc then distL acc r else distL (x :: acc) r
            by_cases hm2 : x ∈ acc <;> simp [hm2]
          · by_cases hm2 : x ∈ acc <;> simp [hm2] <;> omega
      · exact p.elim
    · exact p.elim
theorem v_lenSc {kk : Nat} (Z : Bx X W kk) (B : Bd X vi li ug) (i : Nat) {n : Str} {iter : Expr} {scope : Scope} {p pos q1 q2 spos : Pos} {mi : M (List D)} (hm : X.mg "len" = none) (ok : BlkOk X.N X.env.scope scope [(n, i)]) (hi : DI X ca W (.Name n q1) iter mi) (hv : visB X.N scope [i] = true) (hl : locB X.N scope [i] = true)
    (hN : X.N[i]? = some n := by rfl) (hs : ∀ x, foldedSetIterable iter X.env x = pure x := by intro _; rfl) (hg : ("len" : Str) ∈ ug := by decide +kernel) (he : starEach [.SetComp (.Name n q2) [⟨.Name n q1, iter, [], 0⟩] scope spos] X.env = [(false, eval (.SetComp (.Name n q2) [⟨.Name n q1, iter, [], 0⟩] scope spos) X.env)] := by rfl) :
    DE X ca W (.Call (.Name "len" p) [.SetComp (.Name n q2) [⟨.Name n q1, iter, [], 0⟩] scope spos] [] pos) (mLenSc mi i) := by
  have b := bd_blk (ug' := []) B hv hl rfl
  refine pe_imp (pe_callB call_lenK (B.gl _ hg) hm boot_len (pa_cons (pe_scK (own := [(n, i)]) (g := gName i) (tt := tYes) (te := tVar i) Z.calm B.nd hi ok (fun s H C cl fp => pg_name B.nd hN ((b s H C cl fp).loc i (by simp) n hN).1 ((b s H C cl fp).loc i (by simp) n hN).2) (fun s H C cl fp => pts_nil) (fun s H C cl fp => v_ev (b s H C cl fp) i (by simp) hN) hs) pa_nil he) (by decide) (by decide) he rfl) fun σ H Q h => ?_
  exact t_lenSc h
end
end PM
set_option Elab.async false
set_option linter.all false
set_option maxRecDepth 100000
set_option maxHeartbeats 4000000
namespace PM
open PySem PySem.Spec PyProof.Rows L2
open PySem.PyData (strOk)
open He (ba Fa DefD Tab AlT obsT valT SaysT frG asD frG_in fAd ga)
/-! ### the head's hook: defs, tables, one Bool, the __init__ of error classes -/
structure InD where
  at_ : Str × Option Str
  qual : Str
  params : Arguments
  body : List Stmt
  scope : Scope
abbrev FnC : Type := Option (Str × Str × Arguments × FuncBody × Scope × Addr × List Str × Addr)
def fnC (K : PySem.W.Frag) (a : Addr) : FnC := match K.lookup a with
  | some ⟨_, _, .func fd, _⟩ => some (fd.name, fd.qualname, fd.params, fd.body, fd.scope, fd.globals, fd.closure.map (·.1), fd.builtins)
  | _ => none
def InD.val (d : InD) : FnC := some ("__init__", d.qual, d.params, .stmts d.body, d.scope, mainGlobals, ["__class__"], builtinsNs)
abbrev AlP : Type := AlT × Bool × List FnC
def obsP (fa : List Fa) (fn : List DefD) (ts : List Tab) (ex : PySem.W.Frag → Bool) (ins : List InD) (K : PySem.W.Frag) : AlP := (obsT fa fn ts K, ex K, ins.map fun d => fnC K (fAd K d.at_))
def valP (fn : List DefD) (ts : List Tab) (ins : List InD) (w : World) : AlP := (valT fn ts w, true, ins.map InD.val)
def frP (g : Addr → Option Obj) (n : Nat) : PySem.W.Frag := frG g (asD g n ++ [cStatics])
def obsPG (n : Nat) (fa : List Fa) (fn : List DefD) (ts : List Tab) (ex : PySem.W.Frag → Bool) (ins : List InD) (g : Addr → Option Obj) : AlP := obsP fa fn ts ex ins (frP g n)
structure SaysP (fa : List Fa) (fn : List DefD) (ts : List Tab) (ex : PySem.W.Frag → Bool) (ins : List InD) (w : World) (K : PySem.W.Frag) : Prop where
  eq : obsP fa fn ts ex ins K = valP fn ts ins w
def hookP (n : Nat) (fa : List Fa) (fn : List DefD) (ts : List Tab) (ex : PySem.W.Frag → Bool) (ins : List InD) : PySem.W.Hook where
  α := AlP
  obs := fun s => obsPG n fa fn ts ex ins s.heap.get?
  val := fun w => valP fn ts ins w
  says := fun w h => ∃ K : PySem.W.Frag, K.In h ∧ SaysP fa fn ts ex ins w K
  of := fun _ _ e => ⟨_, frG_in, ⟨e⟩⟩
  keeps := fun _ _ _ ⟨K, hK, c⟩ k => ⟨K, PySem.W.Frag.In.keeps hK k, c⟩
theorem obsPG_eq {n : Nat} {fa : List Fa} {fn : List DefD} {ts : List Tab} {ex : PySem.W.Frag → Bool} {ins : List InD} {g : Addr → Option Obj} {s : Shared} (h : ∀ a, g a = s.heap.get? a) : obsPG n fa fn ts ex ins g = (hookP n fa fn ts ex ins).obs s := by
  have e : g = s.heap.get? := funext h
  rw [e] <;> rfl
section
variable {fa : List Fa} {fn : List DefD} {ts : List Tab} {ex : PySem.W.Frag → Bool} {ins : List InD} {w : World} {K : PySem.W.Frag}
theorem SaysP.t (c : SaysP fa fn ts ex ins w K) : SaysT fa fn ts w K := congrArg (fun z : AlP => z.1) c.eq
theorem SaysP.more (c : SaysP fa fn ts ex ins w K) : ex K = true := congrArg (fun z : AlP => z.2.1) c.eq
theorem SaysP.ini (c : SaysP fa fn ts ex ins w K) (i : Nat) {d : InD} (h : ins[i]? = some d := by rfl) : fnC K (fAd K d.at_) = d.val := by
  have e : ins.map (fun d => fnC K (fAd K d.at_)) = ins.map InD.val := congrArg (fun z : AlP => z.2.2) c.eq
  have e2 : (ins.map fun d => fnC K (fAd K d.at_))[i]? = (ins.map InD.val)[i]? := by rw [e]
  rw [List.getElem?_map, List.getElem?_map, h] at e2
  exact Option.some.inj e2
theorem SaysP.fact (c : SaysP fa fn ts ex ins w K) {f : Fa} (h : f ∈ fa) : f.ok K = true := He.SaysD.facts c.t.d h
theorem SaysP.def_ (c : SaysP fa fn ts ex ins w K) {d : DefD} (h : d ∈ fn) : ∃ fd, FunD K d.name d.qual d.params d.body d.scope (d.dvs K) (d.kws K) (fAd K d.at_) fd := He.SaysD.defs c.t.d h
end
/-! ### error classes -/
def clsB (K : PySem.W.Frag) (C : Addr) : Bool := match K.lookup C with
  | some ⟨.type c, _, .cls cd, sl⟩ => (match cd.mro, sl.toList with
    | .ref C' :: bm, [_, _, _, _, some (.builtin n), _] => decide (c = "type") && (decide (C' = C) && (decide (n = "ValueError.__new__") && (!cd.hasDel && (cd.hasDict && PySem.HandSPX.refsVE bm))))
    | _, _ => false)
  | _ => false
theorem clsB_ok {K : PySem.W.Frag} {C : Addr} (h : clsB K C = true) : ∃ nm q N bs bm sn sub ab col dd k0 k1 k2 k3 k5, K.lookup C = some (excClassObj nm q C N bs bm true sn sub ab col dd k0 k1 k2 k3 k5 "ValueError.__new__") ∧ PySem.HandSPX.refsVE bm = true := by
  unfold clsB at h
  split at h
  · rename_i c dd cd sl ho
    split at h
    · rename_i C' bm k0 k1 k2 k3 n k5 hm hs
      simp only [Bool.and_eq_true, decide_eq_true_eq, Bool.not_eq_true'] at h
      obtain ⟨rfl, rfl, rfl, hdel, hdict, ht⟩ := h
      obtain ⟨nm, bs, mro, ns, qn, hd, sn, sub, ab, col, del⟩ := cd
      dsimp only at hm hdel hdict
      subst hm hdel hdict
      have hsl : sl = #[k0, k1, k2, k3, some (.builtin "ValueError.__new__"), k5] := by
        obtain ⟨l⟩ := sl
        simp only at hs
        rw [hs]
      exact ⟨nm, qn, ns, bs, bm, sn, sub, ab, col, dd, k0, k1, k2, k3, k5, by rw [ho, hsl], ht⟩
    · cases h
  · cases h
def oexB (K : PySem.W.Frag) (C : Addr) : Bool := clsB K C && (decide (PySem.W.findIn K (.ref C) "__setattr__" = some (some (.builtin "object.__setattr__"))) && (decide (PySem.W.subIn K (.ref C) (.type "BaseException") = some true) && (decide (PySem.W.typeIn K (.ref C) = some (.type "type")) && PySem.W.keepIn K (.ref C))))
theorem oexB_ok {K : PySem.W.Frag} {C : Addr} (h : oexB K C = true) : OexC K C := by
  obtain ⟨h1, h⟩ := ba h
  obtain ⟨h2, h⟩ := ba h
  obtain ⟨h3, h⟩ := ba h
  obtain ⟨h4, h5⟩ := ba h
  exact ⟨clsB_ok h1, of_decide_eq_true h2, of_decide_eq_true h3, of_decide_eq_true h4, h5⟩
def supB (K : PySem.W.Frag) (C : Addr) : Bool := (match PySem.W.clsIn K C with
  | some cd => decide (PySem.W.alongIn K "__init__" ((cd.mro.dropWhile (· != .ref C)).drop 1) = some (some (.builtin "ValueError.__init__")))
  | none => false) && (decide (PySem.W.subIn K (.ref C) (.type "ValueError") = some true) && (decide (PySem.W.mroIn K C (.ref C) = some true) && decide (PySem.W.nsIn K cStatics "thirdparty.any" = some none)))
theorem supB_ok {P : Program} {K : PySem.W.Frag} {mg : Str → Option Value} {C : Addr} (h0 : oexB K C = true) (h : supB K C = true) (top : (P.main.scope.names.lookup ("super" : Str)).isSome = false) (nos : mg "super" = none) : XCls P K mg C := by
  obtain ⟨h1, h⟩ := ba h
  obtain ⟨h2, h⟩ := ba h
  obtain ⟨h3, h4⟩ := ba h
  refine ⟨oexB_ok h0, ?_, of_decide_eq_true h2, of_decide_eq_true h3, of_decide_eq_true h4, top, nos⟩
  split at h1
  · rename_i cd e
    exact ⟨cd, e, of_decide_eq_true h1⟩
  · cases h1
def excCB (K : PySem.W.Frag) (C : Addr) : Bool := decide (PySem.W.findIn K (.ref C) "__getattribute__" = some (some (.builtin "BaseException.__getattribute__"))) && (decide (PySem.W.findIn K (.ref C) "__getattr__" = some none) && (decide (PySem.W.subIn K (.ref C) (.type "BaseException") = some true) && (PySem.W.hasDictIn K C &&
  (decide (PySem.W.findIn K (.ref C) "__class__" = some (some (.builtin "object.__class__"))) && (decide (PySem.W.specialIn K (.builtin "object.__class__") "__get__" = some (some (.builtin "getset_descriptor.__get__"))) && (decide (PySem.W.takesIn K (.builtin "object.__class__") = some true) && decide (PySem.W.mroIn K C (.type "object") = some true)))))))
theorem excCB_ok {K : PySem.W.Frag} {C : Addr} (h : excCB K C = true) : ExcC K C ∧ XfC K C := by
  obtain ⟨h1, h⟩ := ba h
  obtain ⟨h2, h⟩ := ba h
  obtain ⟨h3, h⟩ := ba h
  obtain ⟨h4, h⟩ := ba h
  obtain ⟨h5, h⟩ := ba h
  obtain ⟨h6, h⟩ := ba h
  obtain ⟨h7, h8⟩ := ba h
  exact ⟨⟨of_decide_eq_true h1, of_decide_eq_true h2, of_decide_eq_true h3, h4, of_decide_eq_true h5, of_decide_eq_true h6, of_decide_eq_true h7, of_decide_eq_true h8⟩, ⟨of_decide_eq_true h1, of_decide_eq_true h2, of_decide_eq_true h3, h4⟩⟩
/-- an own __init__: no defaults, its code's file, its cell -/
def iniB (file : Str) (K : PySem.W.Frag) (C f : Addr) (qual : Str) : Bool := (match K.lookup f with
  | some ⟨_, _, .func fd, _⟩ => decide (fd.defaults = .none) && (PySem.W.codeIn K fd.code qual && ((match fd.code with
    | .ref c => (match K.lookup c with
      | some ⟨_, _, .fields vs, _⟩ => (match (vs[2]? : Option Value) with
        | some (Value.str z _) => file == z
        | _ => false)
      | _ => false)
    | _ => false) && (match fd.closure with
    | [(_, cc)] => (match K.lookup cc with
      | some ⟨_, _, .cell (some (.ref C')), _⟩ => decide (C' = C)
      | _ => false)
    | _ => false)))
  | _ => false) && (decide (PySem.W.findIn K (.ref C) "__init__" = some (some (.ref f))) && decide (PySem.W.typeIn K (.ref f) = some (.type "function")))
theorem fnC_ok {K : PySem.W.Frag} {f : Addr} {d : InD} (h : fnC K f = d.val) : ∃ (oc : Value) (od : Option Addr) (osl : Array (Option Value)) (cl : List (Str × Addr)) (dV kV doc pm : Value) (an : Option Addr) (cdv ct : Value), K.lookup f = some ⟨oc, od, .func (PySem.W.fnX "__init__" d.qual d.params d.body d.scope cl dV kV doc pm an cdv ct), osl⟩ ∧ cl.map (·.1) = (["__class__"] : List Str) := by
  unfold fnC at h
  split at h
  · rename_i oc od fd osl e
    obtain ⟨n1, n2, n3, n4, n5, n6, n7, n8, n9, n10, n11, n12, n13, n14, n15⟩ := fd
    unfold InD.val at h
    simp only [Option.some.injEq, Prod.mk.injEq] at h
    obtain ⟨rfl, rfl, rfl, rfl, rfl, rfl, h7, rfl⟩ := h
    exact ⟨oc, od, osl, n7, n8, n9, n10, n11, n12, n13, n14, e, h7⟩
  · cases h
abbrev SupOk (x : Str) (p0 p1 p2 p3 p4 p5 : Pos) (j : Nat) (scope : Scope) : Prop := ∀ env : Env, env.scope = scope → interactive env = false ∧ swapsWith (.Call (.Attribute (.Call (.Name "super" p0) [] [] p1) "__init__" p2) [.Constant (.str x) j p3] [] p4) none p5.line env = pure false ∧ (∃ pl : Sem Bool, eval (.Call (.Attribute (.Call (.Name "super" p0) [] [] p1) "__init__" p2) [.Constant (.str x) j p3] [] p4) env = (do
      let ov ← attributeBase (.Call (.Name "super" p0) [] [] p1) "__init__" env (eval (.Call (.Name "super" p0) [] [] p1) env)
      standAt p2.atName
      let (f, first) ← holding [ov] (getMethod ov "__init__" pl)
      callWith p4 f first (backTo p4 (starEach [.Constant (.str x) j p3] env)) []))
theorem xinit_of {P : Program} {K : PySem.W.Frag} {mg : Str → Option Value} {C f : Addr} {N ps ks : List Str} {d : InD} {rest : List Stmt} {x : Str} {p0 p1 p2 p3 p4 p5 : Pos} {j : Nat} {ar : Arg} (cl : XCls P K mg C) (hf : fnC K f = d.val) (hi : iniB P.main.file K C f d.qual = true) (nof : ∀ k ∈ ks, PySem.W.findIn K (.ref C) k = some none)
    (hb : d.body = superInit x p0 p1 p2 p3 p4 p5 j :: rest) (sc : NdefX.nscB N ps ["__class__"] d.scope = true) (ha : (d.params.posonlyargs ++ d.params.args).head? = some ar) (hN : N[0]? = some ar.arg) (l0 : d.scope.names.lookup ar.arg = some .local) (ls : d.scope.names.lookup ("super" : Str) = some .globalImplicit)
    (lc : d.scope.names.lookup ("__class__" : Str) = some .free) (sup : SupOk x p0 p1 p2 p3 p4 p5 j d.scope)
    (hbd : ∀ (cl : List (Str × Addr)) (kV doc pm : Value) (an : Option Addr) (cdv ct : Value) (us : List Value), us.length = ps.length → bindArgs (PySem.W.fnX "__init__" d.qual d.params d.body d.scope cl .none kV doc pm an cdv ct) ⟨us, []⟩ = pure (ps.zip us)) : ∃ fd, XInit P K mg C f fd N ps ks d.qual rest ∧ Binds K fd ps [] := by
  obtain ⟨oc, od, osl, cls, dV, kV, doc, pm, an, cdv, ct, lk, hcl⟩ := fnC_ok hf
  unfold iniB at hi
  obtain ⟨h1, h⟩ := ba hi
  obtain ⟨h2, h3⟩ := ba h
  rw [lk] at h1
  dsimp only at h1
  obtain ⟨h4, h1⟩ := ba h1
  obtain ⟨h5, h1⟩ := ba h1
  obtain ⟨h6, h7⟩ := ba h1
  clear h1 hi h
  have e4 : dV = .none := of_decide_eq_true h4
  subst e4
  obtain ⟨c, rfl⟩ := He.codeIn_ref h5
  dsimp only at h6
  split at h6
  · rename_i ccl cdd vs ccs e6
    split at h6
    · rename_i z t e8
      split at h7
      · rename_i nm cc _
        split at h7
        · rename_i cl' cld C' csl e9
          have e10 : C' = C := of_decide_eq_true h7
          subst e10
          have e11 : nm = ("__class__" : Str) := by simpa using hcl
          subst e11
          have bd : Binds K (PySem.W.fnX "__init__" d.qual d.params d.body d.scope [("__class__", cc)] .none kV doc pm an (.ref c) ct) ps [] := .all fun us hu => hbd _ kV doc pm an _ ct us hu
          rw [hb] at lk bd
          exact ⟨_, ⟨cl, of_decide_eq_true h2, of_decide_eq_true h3, nof, d.params, d.scope, x, p0, p1, p2, p3, p4, p5, j, cc, c, kV, doc, pm, ct, an, oc, ccl, cl', od, cdd, cld, osl, ccs, csl, vs, z, t, ar, rfl, lk, h5, e6, e8, h6, e9, NdefX.nscope_by sc, ha, hN, l0, ls, lc, sup⟩, bd⟩
        · cases h7
      · cases h7
    · cases h6
  · cases h6
/-! ### written tuples of plain values -/
def dvB : List He.Dv → List D → Bool
  | [], [] => true
  | .int i :: vs, .int j :: ds => decide (i = j) && dvB vs ds
  | .str x :: vs, .str y :: ds => decide (x = y) && (strOk y && dvB vs ds)
  | .non :: vs, .non :: ds => dvB vs ds
  | .bl a :: vs, .bl b :: ds => decide (a = b) && dvB vs ds
  | _, _ => false
theorem dpS_ok {G : Gd} {F : Hp} {K : PySem.W.Frag} : ∀ {vs : List He.Dv} {ds : List D}, dvB vs ds = true → DpAll G F (vs.map (He.Dv.v K)) ds := fun {vs ds} h => by
  fun_induction dvB vs ds with
  | case1 => exact .nil
  | case2 i vs j ds ih =>
    obtain ⟨h1, h2⟩ := ba h
    rw [of_decide_eq_true h1]
    exact .cons (.int _) (ih h2)
  | case3 x vs y ds ih =>
    obtain ⟨h1, h2⟩ := ba h
    obtain ⟨h2, h3⟩ := ba h2
    rw [of_decide_eq_true h1]
    exact .cons (.str _ h2) (ih h3)
  | case4 vs ds ih => exact .cons .non (ih h)
  | case5 a vs b ds ih =>
    obtain ⟨h1, h2⟩ := ba h
    rw [of_decide_eq_true h1]
    exact .cons (.bl _) (ih h2)
  | case6 => cases h
end PM
set_option Elab.async false
set_option linter.all false
set_option maxRecDepth 100000
set_option maxHeartbeats 4000000
namespace PM
open PySem PySem.Spec PyProof.Rows L2
open PySem.PyData (strOk)
section
variable {P : Program} {w : World} {K : PySem.W.Frag} {mg : Str → Option Value} {base : Heap} {ca : Ca}
abbrev cxD (P : Program) (w : World) (K : PySem.W.Frag) (mg : Str → Option Value) (base : Heap) (N : List Str) (qual : Str) (sc : Scope) (f : Addr) (cdv : Value) (A : Around) (outer : List Env) (s : Shared) (H : Hp) (E : XK) : Cx := cxOf (L2.CX P w) P w K mg base N qual sc f cdv A outer s H E
/-- a def of the top: its body's derivation gives its promise -/
theorem df_mk {x : Str} {st : Stmt} {f : Addr} {N ps ug : List Str} {vi li : List Nat} {k np nt : Nat} {b : M Fl} (F : ∃ fd, FunD K x x (defArgs st) (defBody st) (defScope st) [] [] f fd) (hm : mg x = some (.ref f)) (S : FnScope N ps (defScope st)) (hnp : np = ps.length) (hnt : nt = N.length)
    (hb : ∀ (kV doc pm : Value) (an : Option Addr) (cdv ct : Value) (us : List Value), us.length = ps.length → bindArgs (PySem.W.fnOf x x (defArgs st) (defBody st) (defScope st) .none kV doc pm an cdv ct) ⟨us, []⟩ = pure (ps.zip us)) (hv : visB N (defScope st) vi = true) (hl : locB N (defScope st) li = true) (hg : glB (defScope st) ug = true)
    (h : ∀ (base : Heap) (cdv : Value) (A : Around) (outer : List Env) (s : Shared) (H : Hp) (E : XK), Bd (cxD P w K mg base N x (defScope st) f cdv A outer s H E) vi li ug → Bx (cxD P w K mg base N x (defScope st) f cdv A outer s H E) (WF E) k → DB (cxD P w K mg base N x (defScope st) f cdv A outer s H E) ca (WF E) (defBody st) b) :
    ∃ fd, (∀ base : Heap, FnOk P w K mg base (L2.CX P w) (k + 1) f fd ps (spF ⟨K, ca⟩ (fnOf np nt b))) ∧ mg x = some (.ref f) ∧ PySem.W.keepIn K (.ref f) = true ∧ Binds K fd ps [] ∧ ∀ (s : Shared) (us : List Value), us.length = ps.length → BindsTo s fd ⟨us, []⟩ (ps.zip us) := by
  obtain ⟨fd, F⟩ := F
  subst hnt
  refine ⟨fd, fun base => F.ok S (fun vs H Q E q => by rw [← hnp]; exact (body_post q).1) fun cdv A outer s H vs Q E hr q => ⟨_, h base cdv A outer s H E (bd_mk hv hl hg S.nd hr) ⟨takes_of rfl rfl rfl rfl, passes_of rfl, rfl, hr⟩, (body_post q).2⟩, hm, F.kp, F.bindsN hb, F.bindsA hb⟩
theorem df_of {x : Str} {k : Nat} {f : Addr} {ps : List Str} {b : M Rv} (h : ∃ fd, (∀ base : Heap, FnOk P w K mg base (L2.CX P w) k f fd ps (spF ⟨K, ca⟩ b)) ∧ mg x = some (.ref f) ∧ PySem.W.keepIn K (.ref f) = true ∧ Binds K fd ps [] ∧ ∀ (s : Shared) (us : List Value), us.length = ps.length → BindsTo s fd ⟨us, []⟩ (ps.zip us)) : Df P w K mg base ca x k b :=
  let ⟨fd, h1, h2, h3, h4, _⟩ := h
  ⟨f, fd, ps, h1 base, h2, h3, h4⟩
theorem cx_false (H : Hp) (s : Shared) (e : Value) (s' : Shared) (h : L2.CX P w [] H s (fun _ _ _ => False) e s') : False := by
  obtain ⟨_, _, _, _, _, _, _, _, _, _, _, _, z⟩ := h
  exact z
/-- the table at the start -/
def ca0 (at_ : Nat → Addr) : Ca := ⟨at_, fun _ => none, fun _ => none, 0, fun _ _ h => by cases h⟩
theorem sp_law {at_ : Nat → Addr} {f : M Rv} {ρ' : En} {a : Addr} {ns : List Int} {H : Hp} (hf : f [.val (.scr ns)] = .ok (.val (.bl true)) ρ') (hS : SqL K H a (ns.map V.int)) : spF ⟨K, ca0 at_⟩ f [.ref a] H (fun v _ => v = .bl true) fun _ _ _ => False := by
  refine ⟨H, [.val (.scr ns)], ⟨Same.refl _, rfl, fun i d h => ?_, fun i s ds h l => ?_, fun i j s t ds es p h l => ?_, (fun _ _ h => by cases h), (fun _ _ h => by cases h), fun i h => ?_⟩, fun s m => ?_, ?_⟩
  · cases i with
    | zero => cases h; exact ⟨_, rfl, .scr hS⟩
    | succ i => cases h
  · cases i with
    | zero => cases h; rcases l with l | l <;> cases l
    | succ i => cases h
  · cases i with
    | zero => cases h; rcases l with l | l <;> cases l
    | succ i => cases h
  · cases i with
    | zero => cases h
    | succ i => cases h
  · cases m with
    | head => exact .inl ⟨_, rfl⟩
    | tail _ m => cases m
  · rw [hf]
    intro v F' H' R' f' k
    cases k
    rfl
end
end PM
namespace PM
open PySem L2
section
variable {X : Cx} {ca : Ca} {W : WX} {vi li : List Nat} {ug : List Str}
/-- what is known of a module's constant -/
def Cst (K : PySem.W.Frag) (mg : Str → Option Value) (ca : Ca) (x : Str) (d : D) : Prop := ∃ v u, mg x = some u ∧ RelV v u ∧ ∀ F : Hp, Dp ⟨K, ca⟩ F v d
theorem v_cst (B : Bd X vi li ug) {x : Str} {d : D} {pos : Pos} (h : Cst X.K X.mg ca x d) (hg : x ∈ ug := by decide +kernel) (hd : (x == ("__debug__" : Str)) = false := by decide) : DE X ca W (.Name x pos) (mC d) := by
  obtain ⟨v, u, h1, h2, h3⟩ := h
  exact v_glob B h1 h2 h3 hg hd
theorem Bx.blk {k : Nat} (Z : Bx X W k) {scope : Scope} (s : Shared) (H : Hp) (C : Addr) (cl : List (Str × Addr)) (fp : List Addr) : Bx (Blk X scope s H C cl fp) W0 k :=
  ⟨fun u s' ⟨_, _, _, _, _, _, _, _, _, _, _, _, _, _, _, _, z⟩ => z.elim, PassesOwn.never, Z.calm, Z.room⟩
end
end PM
namespace PM
open PySem PySem.Spec PyProof.Rows L2
/-- what may leave, in some world -/
def CXany (P : Program) : CXT := fun outer H s E u s' => ∃ w, L2.CX P w outer H s E u s'
theorem fn_any {P : Program} {w : World} {K : PySem.W.Frag} {mg : Str → Option Value} {base : Heap} {k : Nat} {f : Addr} {fd : FuncData} {ps : List Str} {sp : Sp} (F : FnOk P w K mg base (L2.CX P w) k f fd ps sp) : FnOk P w K mg base (CXany P) k f fd ps sp :=
  ⟨F.len, fun A outer s H args us vs Q E hr he hb hv hs => codeAny_mono (F.run A outer s H args us vs Q E hr he hb hv hs) fun r s' h => by
    cases r with
    | ok v => cases v <;> exact h
    | error e => exact ⟨w, h⟩⟩
theorem cxany_false {P : Program} (H : Hp) (s : Shared) (e : Value) (s' : Shared) (h : CXany P [] H s (fun _ _ _ => False) e s') : False := let ⟨_, z⟩ := h; cx_false H s e s' z
end PM
set_option Elab.async false
set_option linter.all false
set_option maxRecDepth 100000
set_option maxHeartbeats 4000000
/-! PMXv: exceptions of own classes, held as values. -/
namespace PM
open PySem L2
open PySem.PyData (strOk)
section
variable {X : Cx}
/-- C(e, ..) as a value: the exception and its dict stay tracked -/
def tXn (C : Addr) (sp : Sp) (ta : TA) : TE := fun σ H Q => ta σ H fun vs H1 => vs.length ≤ 1000 ∧ ∀ a, H1 a = none → sp (.ref a :: vs) (upd H1 a (exo a C none)) (fun v H2 => v = .non ∧ Q (.ref a) H2) (fun _ _ _ => False)
theorem pe_oexV {CX : CXT} {x : Str} {C fI : Addr} {k : Nat} {fd : FuncData} {ps : List Str} {sp : Sp} {e : Expr} {es : List Expr} {ta : TA} {p pos : Pos} (T : OexC X.K C) (iC : PySem.W.findIn X.K (.ref C) "__init__" = some (some (.ref fI))) (tI : PySem.W.typeIn X.K (.ref fI) = some (.type "function"))
    (F1 : FnOk X.prog X.w X.K X.mg X.base CX k fI fd ps sp) (hr : Room (k + 1) X.A) (hb : Binds X.K fd ps []) (hx : Passes CX X (fun _ _ _ => False)) (hg : Gl X x) (hm : X.mg x = some (.ref C)) (ha : PA X (e :: es) ta)
    (hdb : (x == ("__debug__" : Str)) = false) (he : starEach (e :: es) X.env = (false, eval e X.env) :: starEach es X.env) (hpl : (backTo pos (starEach es X.env)).any (·.1) = false) :
    PE X (.Call (.Name x p) (e :: es) [] pos) (tXn C sp ta) := by
  refine ⟨fun pins s σ H Q I h => ?_⟩
  obtain ⟨nm, q, N, bs, bm, sn, sub, ab, col, dd, k0, k1, k2, k3, k5, hC, hbm⟩ := T.cls
  refine wpAny_Call_Name_kw (ld_glob I hg hm ?_ hdb)
  refine PySem.W.callWith_K (h₀ := X.base) I.ok.mod.kin T.kC (thn (ha.run pos pins s σ H _ I h) fun us s1 ⟨vs, H1, I1, r1, hz, q1⟩ => ⟨I1.kIn, ?_⟩) he hpl
  show wpAny _ _ (call (.ref C) us) _ _ _
  obtain ⟨hp, g, dr, tk, os⟩ := s1
  have hsz : hp.objs.size ≤ hp.objs.size + 1 := Nat.le_succ _
  have hn : H1 (hp.objs.size + 1) = none := I1.hok.fresh hsz
  have hq := q1 (hp.objs.size + 1) hn
  have kk : ∀ b o, hp.get? b = some o → ((hp.push (PySem.W.kdv_tup us)).push (PySem.HandSPX.excO C hp.objs.size)).get? b = some o := fun b o e => Heap.get?_push_of_some _ (Heap.get?_push_of_some _ e)
  have hget : ((hp.push (PySem.W.kdv_tup us)).push (PySem.HandSPX.excO C hp.objs.size)).get? (hp.objs.size + 1) = some (PySem.HandSPX.excO C hp.objs.size) := by heap_get
  have I2 : Inv X pins σ (upd H1 (hp.objs.size + 1) (exo (hp.objs.size + 1) C none)) ⟨(hp.push (PySem.W.kdv_tup us)).push (PySem.HandSPX.excO C hp.objs.size), g, dr, tk, os⟩ :=
    I1.laid (t' := tk) (a := hp.objs.size + 1) (o := exo (hp.objs.size + 1) C none) (h' := (hp.push (PySem.W.kdv_tup us)).push (PySem.HandSPX.excO C hp.objs.size)) kk hsz (exo_ok hget)
  have r2 : Vals (V.ref (hp.objs.size + 1) :: vs) (Value.ref (hp.objs.size + 1) :: us) := .cons rfl r1
  have hl : (Value.ref (hp.objs.size + 1) :: us).length = ps.length := by
    have e := r2.length
    rw [F1.len _ _ _ _ hq] at e
    exact e.symm
  have hus : us.length ≤ sizeLine := by
    rw [← Paired.length r1, sizeLine_eq]
    omega
  have hbb := hb _ (Value.ref (hp.objs.size + 1) :: us) I2.kIn (by rw [List.append_nil]; exact hl)
  rw [List.append_nil] at hbb
  refine wpAny_call (PySem.HandSPX.call_own F.excBase_ValueError (fun Y => PySem.HandSPX.refsVE_contains Y bm hbm) (I1.kIn _ _ hC) (PySem.W.looks_findIn I1.kIn iC) (fun self => PySem.W.bind_fn I1.kIn self tI) hus
    (codeAny_mono (F1.run _ X.stack _ _ ⟨Value.ref (hp.objs.size + 1) :: us, []⟩ (Value.ref (hp.objs.size + 1) :: us) _ _ (fun _ _ _ => False) (hr.make C us []) (I2.env0.make C us []) hbb r2 hq) fun r s' hq' => ?_))
  cases r with
  | error er => exact hx pins σ _ _ er s' I2 hq'
  | ok fl =>
    cases fl with
    | ret u =>
      obtain ⟨v, H', I3, rv, ev, q3⟩ := I2.after hq'
      subst ev
      exact ⟨rv, ⟨V.ref (hp.objs.size + 1), H', I3, rfl, q3⟩⟩
    | next => exact False.elim hq'
    | brk => exact False.elim hq'
    | cont => exact False.elim hq'
/-- C() of an own class without own __init__ -/
theorem pe_oexV0 {C : Addr} {bmB : List Value} {B newId initId : String} {x : Str} {p pos : Pos} (F : ExcBaseFacts B newId initId bmB) (q : PySem.W.excIn X.K C bmB newId = true) (gC : X.mg x = some (.ref C)) (kC : PySem.W.keepIn X.K (.ref C) = true) (hg : Gl X x) (hdb : (x == ("__debug__" : Str)) = false) :
    PE X (.Call (.Name x p) [] [] pos) (fun σ H Q => ∀ a, H a = none → Q (.ref a) (upd H a (exo a C none))) := by
  refine ⟨fun pins s σ H Q I h => ?_⟩
  refine wpAny_Call_Name_kw (ld_glob I hg gC ?_ hdb)
  refine PySem.W.callWith_K0 I.kIn kC ?_
  obtain ⟨bm, N, nm, qn, bs, hdct, sn, sub, ab, col, dd, k0, k1, k2, k3, k5, mN, hC, hN, hni, T⟩ := exc_obj I.kIn q
  refine wpAny_call_exc_subT F T hC hN hni (fun h' a hm => ?_) (by show 0 ≤ sizeLine; omega)
  have hn : H a = none := I.hok.gone hm.new
  obtain ⟨t, ht, _, _⟩ := hm.there
  exact ⟨.ref a, upd H a (exo a C none), I.laidN hm.keeps hm.new hn (exo_ok ht), rfl, h a hn⟩
/-- e.f of an exception held as a value -/
def tXfv (K : PySem.W.Frag) (f : Str) (te : TE) : TE := fun σ H Q => te σ H fun x H1 => ∃ (a C dx : Addr) (fs : List (Str × V)) (v : V), x = .ref a ∧ XfC K C ∧ PySem.W.findIn K (.ref C) f = some none ∧ H1 a = some (exo a C (some dx)) ∧ H1 dx = some (exd dx fs) ∧ fs.lookup f = some v ∧ Q v H1
theorem pe_xfv {e : Expr} {te : TE} {pos : Pos} {n : Str} (he : PE X e te) (hb : attributeBase e n X.env (eval e X.env) = eval e X.env) : PE X (.Attribute e n pos) (tXfv X.K n te) := by
  refine ⟨fun pins s σ H Q I h => ?_⟩
  refine attr_of hb (thn (he.run pins s σ H _ I h) fun u s1 hh => ?_)
  obtain ⟨x, H1, I1, rx, a, C, dx, fs, v, ex, T, hno, ea, ed, l, q⟩ := hh
  subst ex
  obtain rfl : u = Value.ref a := rx
  obtain ⟨t1, ho⟩ := exo_at I1.hok ea
  obtain ⟨mA, hns, hr⟩ := exd_at I1.hok ed
  obtain ⟨od, hod, hl⟩ := lookIn_ns hns
  obtain ⟨u, hu, ru⟩ := RelO.some_of (v := v) (o := mA n) (by rw [← l]; exact hr n)
  have J : PySem.W.InstAt s1.heap a _ C (some od) := ⟨ho, rfl, rfl, hod⟩
  exact HandSPX.exc_get I1.kIn J T.ga T.gg T.exC (PySem.W.findObj_own T.hdC hno rfl (by rw [hl, hu])) (handed_of ru) ⟨v, H1, I1.tok _, ru, q⟩
/-- isinstance(e, c), e an exception held as a value -/
def rIsV (K : PySem.W.Frag) : List V → Hp → VK → Prop := fun xs H Q => ∃ (a C : Addr) (c : V) (cv : Value) (b : Bool), xs = [.ref a, c] ∧ (∀ u, RelV c u → u = cv) ∧ ExcC K C ∧ PySem.W.kitOne K (.ref C) cv = some b ∧
  (H a = some (exo a C none) ∨ ∃ dx fs, H a = some (exo a C (some dx)) ∧ H dx = some (exd dx fs)) ∧ Q (.bl b) H
theorem call_isV : CallR X (.builtin "isinstance") (rIsV X.K) := by
  intro pins s σ H xs us Q I r h
  obtain ⟨a, C, c, cv, b, rfl, hcv, T, e, hd, q⟩ := h
  cases r with
  | cons rx rr =>
    cases rr with
    | cons rt rr =>
      cases rr
      cases rx
      have ec := hcv _ rt
      subst ec
      obtain ⟨cd, hcd, _⟩ := PySem.W.any_some T.hd
      obtain ⟨oe, od, J⟩ : ∃ oe od, PySem.W.InstAt s.heap a oe C od := by
        rcases hd with ha | ⟨dx, fs, ha, hx⟩
        · obtain ⟨t1, ho⟩ := exo_at I.hok ha
          exact ⟨_, none, ho, rfl, rfl, trivial⟩
        · obtain ⟨t1, ho⟩ := exo_at I.hok ha
          obtain ⟨mA, hns, _⟩ := exd_at I.hok hx
          obtain ⟨od, hod, _⟩ := lookIn_ns hns
          exact ⟨_, some od, ho, rfl, rfl, hod⟩
      exact PySem.W.kia_one (PySem.W.kitx_exc (by rw [hcd]; rfl) T.hg T.hk T.hs T.ha T.hn T.ht T.hm) I.kIn J e (fun z => nomatch z) fun tk => ⟨.bl b, H, I.kept (t' := tk) fun _ _ z => z, rfl, q⟩
end
/-! ### denotations -/
def mXnew (c : Nat) (ks : List Str) (m : M (List Rv)) : M Rv := fun ρ => match m ρ with
  | .ok rs ρ1 => match escs ρ1 rs with
    | some (ds, ρ2) => if ds.length = ks.length ∧ 0 < ks.length ∧ ds.length ≤ 1000 then .ok (.val (.obj (c + 100) ((fldsD ks ds).map (·.1)) ((fldsD ks ds).map (·.2)))) ρ2 else .bad
    | none => .bad
  | .err x ρ1 => .err x ρ1
  | .bad => .bad
def mXnew0 (c : Nat) : M Rv := fun ρ => .ok (.val (.obj (c + 100) [] [])) ρ
def gXf (f : Str) : D → Option Rv
  | .obj c ks ds => if c < 100 then none else match (ks.zip ds).lookup f with
    | some d => some (.val d)
    | none => none
  | _ => none
def gIsV (sub : Nat → Bool) : D → Option Rv
  | .obj c _ _ => if c < 100 then none else some (.val (.bl (sub (c - 100))))
  | _ => none
section
variable {X : Cx} {ca : Ca} {W : WX}
theorem zip_fst : ∀ {ks : List Str} {ds : List D}, ks.length = ds.length → (ks.zip ds).map (·.1) = ks ∧ (ks.zip ds).map (·.2) = ds
  | [], [], _ => ⟨rfl, rfl⟩
  | k :: ks, d :: ds, h => by
    obtain ⟨a, b⟩ := zip_fst (ks := ks) (ds := ds) (by simpa using h)
    exact ⟨by simp [a], by simp [b]⟩
theorem de_xnew {c : Nat} {x : Str} {C fI : Addr} {fd : FuncData} {ps ks : List Str} {p pos : Pos} {e : Expr} {es : List Expr} {m : M (List Rv)} (hC : ca.at_ c = C) (T : OexC X.K C) (iC : PySem.W.findIn X.K (.ref C) "__init__" = some (some (.ref fI))) (tI : PySem.W.typeIn X.K (.ref fI) = some (.type "function"))
    (F1 : FnOk X.prog X.w X.K X.mg X.base (L2.CX X.prog X.w) 1 fI fd ps (spX C ks)) (hr : Room 2 X.A) (hb : Binds X.K fd ps []) (hg : Gl X x) (hm : X.mg x = some (.ref C)) (ha : DA X ca W (e :: es) m)
    (hdb : (x == ("__debug__" : Str)) = false) (he : starEach (e :: es) X.env = (false, eval e X.env) :: starEach es X.env) (hpl : (backTo pos (starEach es X.env)).any (·.1) = false) : DE X ca W (.Call (.Name x p) (e :: es) [] pos) (mXnew c ks m) := by
  refine pe_imp (pe_oexV T iC tI F1 hr hb passL hg hm ha hdb he hpl) fun σ H Q ⟨F, ρ, R, p⟩ => ?_
  refine ⟨F, ρ, R, ?_⟩
  unfold mXnew at p
  cases e1 : m ρ with
  | bad => rw [e1] at p; exact p
  | err y ρ1 => rw [e1] at p; exact p
  | ok rs ρ1 =>
    rw [e1] at p
    intro vs F1 H1 R1 f1 k1
    dsimp only at p
    cases q : escs ρ1 rs with
    | none => rw [q] at p; exact p.elim
    | some y =>
      obtain ⟨ds, ρ2⟩ := y
      rw [q] at p
      dsimp only at p
      split at p
      · rename_i cnd
        obtain ⟨F2, R2, f2, k2, s2⟩ := escs_ok R1 f1 k1 q
        refine ⟨by rw [k2.length]; exact cnd.2.2, fun a ha0 => ⟨a, vs, rfl, by rw [k2.length]; exact cnd.1, upd_same, fun d H2 hd ne h2a h2d h2o => ⟨rfl, ?_⟩⟩⟩
        have hd1 : H1 d = none := by rw [upd_ne ne] at hd; exact hd
        have hold : ∀ b o, H1 b = some o → H2 b = some o := fun b o hb => by
          have b1 : b ≠ a := fun z => by rw [z, ha0] at hb; cases hb
          have b2 : b ≠ d := fun z => by rw [z, hd1] at hb; cases hb
          rw [h2o b b1 b2, upd_ne b1]
          exact hb
        have fa : F2 a = none := by
          cases z : F2 a with
          | none => rfl
          | some o => rw [R2.ex _ _ z] at ha0; cases ha0
        have fd' : F2 d = none := by
          cases z : F2 d with
          | none => rfl
          | some o => rw [R2.ex _ _ z] at hd1; cases hd1
        have g : Grow F2 H1 (upd (upd F2 d (exd d (fldsV ks vs))) a (exo a C (some d))) H2 := by
          refine ⟨fun b o hb => ?_, fun b o hb => ?_, hold, fun b o hb hn => ?_⟩
          · rw [upd_ne (fun z => by rw [z, fa] at hb; cases hb), upd_ne (fun z => by rw [z, fd'] at hb; cases hb)]
            exact hb
          · by_cases b1 : b = a
            · subst b1
              rw [upd_same] at hb
              cases hb
              exact h2a
            · rw [upd_ne b1] at hb
              by_cases b2 : b = d
              · subst b2
                rw [upd_same] at hb
                cases hb
                exact h2d
              · rw [upd_ne b2] at hb
                exact hold b o (R2.ex b o hb)
          · by_cases b1 : b = a
            · rw [b1]
              exact ha0
            · rw [upd_ne b1] at hb
              by_cases b2 : b = d
              · rw [b2]
                exact hd1
              · rw [upd_ne b2, hn] at hb
                cases hb
        refine p (.ref a) _ H2 (R2.grow g) (f2.trans (Fm.grow g)) ?_
        show Dp _ _ (.ref a) (.obj (c + 100) _ _)
        refine Dp.obj (fs := fldsV ks vs) ?_ ?_ ?_
        · unfold ObA
          rw [if_neg (by omega), Nat.add_sub_cancel]
          refine .inl ⟨d, ?_, ?_⟩
          · show upd _ a _ a = _
            rw [upd_same]
            show _ = some (exo a (ca.at_ c) (some d))
            rw [hC]
          · rw [upd_ne ne, upd_same]
        · unfold fldsV fldsD
          rw [List.map_reverse, List.map_reverse, (dpAll_zip k2).1]
        · unfold fldsV fldsD
          rw [List.map_reverse, List.map_reverse]
          exact dpAll_same g.ff (dpAll_zip k2).2.reverse
      · exact p.elim
theorem de_xnew0 {c : Nat} {x : Str} {C : Addr} {bmB : List Value} {B newId initId : String} {p pos : Pos} (hC : ca.at_ c = C) (F : ExcBaseFacts B newId initId bmB) (q : PySem.W.excIn X.K C bmB newId = true) (hm : X.mg x = some (.ref C)) (kC : PySem.W.keepIn X.K (.ref C) = true) (hg : Gl X x) (hdb : (x == ("__debug__" : Str)) = false) :
    DE X ca W (.Call (.Name x p) [] [] pos) (mXnew0 c) := by
  refine pe_imp (pe_oexV0 F q hm kC hg hdb) fun σ H Q ⟨F, ρ, R, p⟩ a ha => ?_
  have fa : F a = none := by
    cases z : F a with
    | none => rfl
    | some o => rw [R.ex _ _ z] at ha; cases ha
  have g : Grow F H (upd F a (exo a C none)) (upd H a (exo a C none)) := Grow.lay R.ex ha
  refine p (.ref a) _ _ (R.grow g) (Fm.grow g) ?_
  show Dp _ _ (.ref a) (.obj (c + 100) [] [])
  refine Dp.obj (fs := []) ?_ rfl .nil
  unfold ObA
  rw [if_neg (by omega), Nat.add_sub_cancel]
  refine .inr ⟨rfl, ?_⟩
  rw [upd_same]
  show _ = some (exo a (ca.at_ c) none)
  rw [hC]
theorem op_xf {f : Str} (T : ∀ c, XfC X.K (ca.at_ c)) (hno : ∀ c, PySem.W.findIn X.K (.ref (ca.at_ c)) f = some none) : Op1 ⟨X.K, ca⟩ (fun x H Q => ∃ (a C dx : Addr) (fs : List (Str × V)) (v : V), x = .ref a ∧ XfC X.K C ∧ PySem.W.findIn X.K (.ref C) f = some none ∧ H a = some (exo a C (some dx)) ∧ H dx = some (exd dx fs) ∧ fs.lookup f = some v ∧ Q v H) (gXf f) := fun d z h x F H Q s hx k => by
  cases d with
  | obj c ks ds =>
    unfold gXf at h
    dsimp only at h
    split at h
    · cases h
    · rename_i hc
      split at h
      · rename_i d' e'
        cases h
        cases hx with
        | fz hx =>
          cases hx with
          | @obj a _ fs _ _ hA hk hr =>
            unfold ObA at hA
            rw [if_neg hc] at hA
            rcases hA with ⟨dx, h1, h2⟩ | ⟨rfl, h1⟩
            · have hl : ks.length = ds.length := by rw [← hk, List.length_map, ← hr.length, List.length_map]
              obtain ⟨z1, z2⟩ := zip_fst hl
              obtain ⟨v, l1, l2⟩ := look_pair (fs := ks.zip ds) (vs := fs) (by rw [z1, hk]) (by rw [z2]; exact hr) e'
              exact ⟨a, _, dx, fs, v, rfl, T _, hno _, s _ _ h1, s _ _ h2, l1, k v F H (Grow.refl s) l2⟩
            · cases hk
              simp at e'
      · cases h
  | _ => cases h
theorem de_xfv {f : Str} {e : Expr} {m : M Rv} {pos : Pos} (T : ∀ c, XfC X.K (ca.at_ c)) (hno : ∀ c, PySem.W.findIn X.K (.ref (ca.at_ c)) f = some none) (he : DE X ca W e m) (hb : attributeBase e f X.env (eval e X.env) = eval e X.env) : DE X ca W (.Attribute e f pos) (mOp1 (gXf f) m) :=
  pe_imp (pe_xfv he hb) fun _ _ _ h => t_op1 (op_xf T hno) h
theorem op_isV {sub : Nat → Bool} {c : V} {cv : Value} (hcv : ∀ u, RelV c u → u = cv) (T : ∀ c, ExcC X.K (ca.at_ c)) (hk : ∀ c', PySem.W.kitOne X.K (.ref (ca.at_ c')) cv = some (sub c')) : Op1 ⟨X.K, ca⟩ (fun x H Q => rIsV X.K [x, c] H Q) (gIsV sub) := fun d z h x F H Q s hx k => by
  cases d with
  | obj c' ks ds =>
    unfold gIsV at h
    dsimp only at h
    split at h
    · cases h
    · rename_i hc
      cases h
      cases hx with
      | fz hx =>
        cases hx with
        | @obj a _ fs _ _ hA hk' hr =>
          unfold ObA at hA
          rw [if_neg hc] at hA
          refine ⟨a, _, c, cv, _, rfl, hcv, T _, hk _, ?_, k _ F H (Grow.refl s) (.bl _)⟩
          rcases hA with ⟨dx, h1, h2⟩ | ⟨rfl, h1⟩
          · exact .inr ⟨dx, fs, s _ _ h1, s _ _ h2⟩
          · exact .inl (s _ _ h1)
  | _ => cases h
/-- isinstance(e, C), C an own class of errors -/
theorem de_isV {sub : Nat → Nat → Bool} {c : Nat} {y : Str} {p p2 pos : Pos} {e : Expr} {m : M Rv} (T : ∀ c, ExcC X.K (ca.at_ c)) (hk : ∀ c', PySem.W.kitOne X.K (.ref (ca.at_ c')) (.ref (ca.at_ c)) = some (sub c' c)) (hg : Gl X "isinstance") (hm : X.mg "isinstance" = none) (hgy : Gl X y) (hmy : X.mg y = some (.ref (ca.at_ c))) (hdy : (y == ("__debug__" : Str)) = false) (ha : DE X ca W e m)
    (he : starEach [e, .Name y p2] X.env = [(false, eval e X.env), (false, eval (.Name y p2) X.env)]) (he2 : starEach [.Name y p2] X.env = [(false, eval (.Name y p2) X.env)]) : DE X ca W (.Call (.Name "isinstance" p) [e, .Name y p2] [] pos) (mOp1 (gIsV fun c' => sub c' c) m) :=
  pe_imp (pe_callB call_isV hg hm (by decide +kernel) (pa_cons ha (pa_cons (pe_glob (v := .ref (ca.at_ c)) hgy hmy rfl hdy) pa_nil (by rw [he2]; rfl)) (by rw [he, he2])) (by decide) (by decide) (by rw [he, he2]) (by rw [he2]; rfl)) fun σ H Q h => t_op1 (op_isV (c := .ref (ca.at_ c)) (cv := .ref (ca.at_ c)) (fun u r => r) T hk) h
/-- isinstance(e, T), T a built-in class, e an error -/
theorem de_isVT {T : String} {b : Bool} {tn : Str} {p p2 pos : Pos} {e : Expr} {m : M Rv} (Tc : ∀ c, ExcC X.K (ca.at_ c)) (hk : ∀ c', PySem.W.kitOne X.K (.ref (ca.at_ c')) (.type T) = some b) (hg : Gl X "isinstance") (hm : X.mg "isinstance" = none) (hgt : Gl X tn) (hmt : X.mg tn = none) (hvt : bootBuiltins tn = some (.type T)) (ha : DE X ca W e m) (hnt : tn ≠ "__name__") (hdt : (tn == ("__debug__" : Str)) = false)
    (he : starEach [e, .Name tn p2] X.env = [(false, eval e X.env), (false, eval (.Name tn p2) X.env)]) (he2 : starEach [.Name tn p2] X.env = [(false, eval (.Name tn p2) X.env)]) : DE X ca W (.Call (.Name "isinstance" p) [e, .Name tn p2] [] pos) (mOp1 (gIsV fun _ => b) m) :=
  pe_imp (pe_callB call_isV hg hm (by decide +kernel) (pa_cons ha (pa_cons (pe_bltn (v := .ty T) hgt hmt hvt rfl hnt hdt) pa_nil (by rw [he2]; rfl)) (by rw [he, he2])) (by decide) (by decide) (by rw [he, he2]) (by rw [he2]; rfl)) fun σ H Q h => t_op1 (op_isV (c := .ty T) (cv := .type T) (fun u r => r) Tc hk) h
end
end PM
set_option Elab.async false
set_option linter.all false
set_option maxRecDepth 100000
set_option maxHeartbeats 4000000
/-! PMXw: words for errors as values; str.upper. -/
namespace PM
open PySem L2
open PySem.PyData (strOk)
section
variable {X : Cx} {ca : Ca} {W : WX} {vi li : List Nat} {ug : List Str}
theorem v_xnew {kz c : Nat} {x : Str} {ks : List Str} {p pos : Pos} {e : Expr} {es : List Expr} {m : M (List Rv)} (Z : Bx X W kz) (B : Bd X vi li ug) (R : Rz X.prog X.w X.K X.mg X.base (ca.at_ c) ks) (hm : X.mg x = some (.ref (ca.at_ c))) (ha : DA X ca W (e :: es) m) (hk : 2 ≤ kz := by decide) (hg : x ∈ ug := by decide +kernel) (hdb : (x == ("__debug__" : Str)) = false := by decide)
    (he : starEach (e :: es) X.env = (false, eval e X.env) :: starEach es X.env := by rfl) (hpl : (backTo pos (starEach es X.env)).any (·.1) = false := by rfl) : DE X ca W (.Call (.Name x p) (e :: es) [] pos) (mXnew c ks m) := by
  obtain ⟨fI, fd, ps, h1, h2, h3, h4, h5⟩ := R.ex
  exact de_xnew rfl h1 h2 h3 h4 (Room.down Z.room hk) h5 (B.gl _ hg) hm ha hdb he hpl
theorem v_xnew0 {c : Nat} {x : Str} {p pos : Pos} (B : Bd X vi li ug) (q : PySem.W.excIn X.K (ca.at_ c) [.type "ValueError", .type "Exception", .type "BaseException", .type "object"] "ValueError.__new__" = true) (kC : PySem.W.keepIn X.K (.ref (ca.at_ c)) = true) (hm : X.mg x = some (.ref (ca.at_ c))) (hg : x ∈ ug := by decide +kernel) (hdb : (x == ("__debug__" : Str)) = false := by decide) :
    DE X ca W (.Call (.Name x p) [] [] pos) (mXnew0 c) := de_xnew0 rfl F.excBase_ValueError q hm kC (B.gl _ hg) hdb
theorem v_xfv {f : Str} {e : Expr} {m : M Rv} {pos : Pos} (T : ∀ c, XfC X.K (ca.at_ c)) (hno : ∀ c, PySem.W.findIn X.K (.ref (ca.at_ c)) f = some none) (he : DE X ca W e m) (hb : attributeBase e f X.env (eval e X.env) = eval e X.env := by rfl) : DE X ca W (.Attribute e f pos) (mOp1 (gXf f) m) := de_xfv T hno he hb
theorem v_isV {sub : Nat → Nat → Bool} (B : Bd X vi li ug) (c : Nat) {y : Str} {p p2 pos : Pos} {e : Expr} {m : M Rv} (T : ∀ c, ExcC X.K (ca.at_ c)) (hk : ∀ c', PySem.W.kitOne X.K (.ref (ca.at_ c')) (.ref (ca.at_ c)) = some (sub c' c)) (hm : X.mg "isinstance" = none) (hmy : X.mg y = some (.ref (ca.at_ c))) (ha : DE X ca W e m) (hg : ("isinstance" : Str) ∈ ug := by decide +kernel) (hgy : y ∈ ug := by decide +kernel) (hdy : (y == ("__debug__" : Str)) = false := by decide)
    (he : starEach [e, .Name y p2] X.env = [(false, eval e X.env), (false, eval (.Name y p2) X.env)] := by rfl) : DE X ca W (.Call (.Name "isinstance" p) [e, .Name y p2] [] pos) (mOp1 (gIsV fun c' => sub c' c) m) := de_isV T hk (B.gl _ hg) hm (B.gl _ hgy) hmy hdy ha he rfl
theorem v_isVT (B : Bd X vi li ug) (T : String) {b : Bool} {tn : Str} {p p2 pos : Pos} {e : Expr} {m : M Rv} (Tc : ∀ c, ExcC X.K (ca.at_ c)) (hk : ∀ c', PySem.W.kitOne X.K (.ref (ca.at_ c')) (.type T) = some b) (hm : X.mg "isinstance" = none) (hmt : X.mg tn = none) (ha : DE X ca W e m) (hvt : bootBuiltins tn = some (.type T) := by decide +kernel) (hg : ("isinstance" : Str) ∈ ug := by decide +kernel) (hgt : tn ∈ ug := by decide +kernel) (hnt : tn ≠ "__name__" := by decide) (hdt : (tn == ("__debug__" : Str)) = false := by decide)
    (he : starEach [e, .Name tn p2] X.env = [(false, eval e X.env), (false, eval (.Name tn p2) X.env)] := by rfl) : DE X ca W (.Call (.Name "isinstance" p) [e, .Name tn p2] [] pos) (mOp1 (gIsV fun _ => b) m) := de_isVT Tc hk (B.gl _ hg) hm (B.gl _ hgt) hmt hvt ha hnt hdt he rfl
def gUpper : D → Option Rv
  | .str a => if a.length ≤ 5592405 ∧ strOk (Txt.upper a) = true then some (.val (.str (Txt.upper a))) else none
  | _ => none
theorem op_upper : Op1 ⟨X.K, ca⟩ (fun x H Q => (∃ a, x = .str a) ∧ ∃ a, x = .str a ∧ ([] : List V) = [] ∧ a.length ≤ 5592405 ∧ Q (.str (Txt.upper a)) H) gUpper := fun d z h x F H Q s hx k => by
  cases d with
  | str a =>
    unfold gUpper at h
    dsimp only at h
    split at h
    · rename_i c
      cases h
      cases hx with
      | fz hx =>
        cases hx with
        | str _ ok => exact ⟨⟨a, rfl⟩, a, rfl, rfl, c.1, k _ F H (Grow.refl s) (.str _ c.2)⟩
    · cases h
  | _ => cases h
theorem v_upper {o : Expr} {m : M Rv} {apos pos : Pos} (ho : DE X ca W o m) (hbase : attributeBase o "upper" X.env (eval o X.env) = eval o X.env := by rfl) (hline : (apos.endLine == pos.line) = true := by rfl) : DE X ca W (.Call (.Attribute o "upper" apos) [] [] pos) (mOp1 gUpper m) :=
  pe_imp (pe_upper ho hbase hline) fun _ _ _ h => t_op1 op_upper h
/-- a call of a def without parameters -/
theorem v_call0 {k kz : Nat} {x : Str} {f : M Rv} {p pos : Pos} (Z : Bx X W kz) (B : Bd X vi li ug) (F : Df X.prog X.w X.K X.mg X.base ca x k f) (hk : k ≤ kz := by decide) (hg : x ∈ ug := by decide +kernel) (hdb : (x == ("__debug__" : Str)) = false := by decide) : DE X ca W (.Call (.Name x p) [] [] pos) (mCallV f mNil) := by
  obtain ⟨fa, fd, ps, h1, h2, h3, h4⟩ := F.ex
  have hp : PE X (.Call (.Name x p) [] [] pos) (tCallS (spF ⟨X.K, ca⟩ f) (WE W) tNil) := by
    refine ⟨fun pins s σ H Q I h => ?_⟩
    refine wpAny_Call_Name_kw (ld_glob I (B.gl _ hg) h2 ?_ hdb)
    exact PySem.W.callWith_K0 I.kIn h3 (run_fnS (us := []) h1 (Room.down Z.room hk) h4 (passAt Z.tk σ) I .nil h)
  exact pe_imp hp fun σ H Q h => by
    obtain ⟨F, ρ, R, q⟩ := t_callV (m := mNil) h
    exact q [] F H R Fm.refl .nil
/-- a list comprehension, with the facts of its block -/
theorem v_lc2 {kk : Nat} (Z : Bx X W kk) (B : Bd X vi li ug) {elt tg iter : Expr} {ifs : List Expr} {scope : Scope} (own : List (Str × Nat)) (vi' li' : List Nat) (ug' : List Str) {pos : Pos} {mi : M (List D)} {h : D → En → Option En} {t : TG} {c : M Bool} {el : M Rv} (ok : BlkOk X.N X.env.scope scope own) (hi : DI X ca W tg iter mi)
    (hv : visB X.N scope vi' = true) (hl : locB X.N scope li' = true) (hgl : glB scope ug' = true)
    (hg : ∀ s H C cl fp, Bd (Blk X scope s H C cl fp) vi' li' ug' → Bx (Blk X scope s H C cl fp) W0 kk → DGo (Blk X scope s H C cl fp) ca tg (own.map (·.2)) h t) (ht : ∀ s H C cl fp, Bd (Blk X scope s H C cl fp) vi' li' ug' → Bx (Blk X scope s H C cl fp) W0 kk → DTs (Blk X scope s H C cl fp) ca W0 ifs c)
    (he : ∀ s H C cl fp, Bd (Blk X scope s H C cl fp) vi' li' ug' → Bx (Blk X scope s H C cl fp) W0 kk → DE (Blk X scope s H C cl fp) ca W0 elt el) (hs : ∀ x, foldedSetIterable iter X.env x = pure x := by intro _; rfl) :
    DE X ca W (.ListComp elt [⟨tg, iter, ifs, 0⟩] scope pos) (mLc mi (own.map (·.2)) h c el) :=
  v_lc Z B ok hi (fun s H C cl fp => hg s H C cl fp (bd_blk B hv hl hgl s H C cl fp) (Z.blk s H C cl fp)) (fun s H C cl fp => ht s H C cl fp (bd_blk B hv hl hgl s H C cl fp) (Z.blk s H C cl fp)) (fun s H C cl fp => he s H C cl fp (bd_blk B hv hl hgl s H C cl fp) (Z.blk s H C cl fp)) hs
theorem v_setLc2 {kk : Nat} (Z : Bx X W kk) (B : Bd X vi li ug) (i : Nat) {y : Str} {py spos : Pos} {elt tg iter : Expr} {ifs : List Expr} {scope : Scope} (own : List (Str × Nat)) (vi' li' : List Nat) (ug' : List Str) {pos : Pos} {mi : M (List D)} {h : D → En → Option En} {t : TG} {c : M Bool} {el : M Rv} (hsw : swapsWith (.ListComp elt [⟨tg, iter, ifs, 0⟩] scope pos) (some (.Name y py)) spos.line X.env = pure true) (hyl : X.env.scope.names.lookup y = some .local) (ok : BlkOk X.N X.env.scope scope own) (hi : DI X ca W tg iter mi)
    (hv : visB X.N scope vi' = true) (hl : locB X.N scope li' = true) (hgl : glB scope ug' = true)
    (hg : ∀ s H C cl fp, Bd (Blk X scope s H C cl fp) vi' li' ug' → Bx (Blk X scope s H C cl fp) W0 kk → DGo (Blk X scope s H C cl fp) ca tg (own.map (·.2)) h t) (ht : ∀ s H C cl fp, Bd (Blk X scope s H C cl fp) vi' li' ug' → Bx (Blk X scope s H C cl fp) W0 kk → DTs (Blk X scope s H C cl fp) ca W0 ifs c)
    (he : ∀ s H C cl fp, Bd (Blk X scope s H C cl fp) vi' li' ug' → Bx (Blk X scope s H C cl fp) W0 kk → DE (Blk X scope s H C cl fp) ca W0 elt el) (hN : X.N[i]? = some y := by rfl) (hs : ∀ x, foldedSetIterable iter X.env x = pure x := by intro _; rfl) :
    DS X ca W (.Assign [.Name y py] (.ListComp elt [⟨tg, iter, ifs, 0⟩] scope pos) spos) (mSet i (mLc mi (own.map (·.2)) h c el)) :=
  v_setLc Z B i hsw hyl ok hi (fun s H C cl fp => hg s H C cl fp (bd_blk B hv hl hgl s H C cl fp) (Z.blk s H C cl fp)) (fun s H C cl fp => ht s H C cl fp (bd_blk B hv hl hgl s H C cl fp) (Z.blk s H C cl fp)) (fun s H C cl fp => he s H C cl fp (bd_blk B hv hl hgl s H C cl fp) (Z.blk s H C cl fp)) hN hs
end
end PM
set_option Elab.async false
set_option linter.all false
set_option maxRecDepth 100000
set_option maxHeartbeats 8000000
namespace K00
open PySem L2 PM
def c_RESERVED : D := .tup [.str "lock", .str "kind", .str "body", .str "routine", .str "done", .str "do", .str "with", .str "block", .str "either", .str "or", .str "repeat", .str "close", .str "drop", .str "give", .str "skip", .str "make", .str "copy", .str "fetch", .str "read", .str "keep", .str "write", .str "put", .str "call", .str "take", .str "as"]
def c_LETTERS : D := .str "abcdefghijklmnopqrstuvwxyz"
def c_DIGITS : D := .str "0123456789"
def c_MOST_CHARACTERS : D := .int 8
def c_RULES : D := .tup [.str "form", .str "place", .str "many", .str "pair", .str "twice", .str "scope", .str "unknown", .str "fit", .str "needs", .str "order", .str "end"]
def nrm (c : Nat) : Nat := if c < 28 then c else 0
def subC (c k : Nat) : Bool := nrm k == 0 || nrm c == nrm k
def ks_HandsError : List Str := []
def ks_BadPart : List Str := ["rule"]
def ks_BadLine : List Str := ["line", "rule"]
def ks_NoSuch : List Str := ["name"]
def ks_Unlike : List Str := []
def ks_BadPath : List Str := ["position"]
def ks_BadMove : List Str := ["position"]
def ks_BadPlace : List Str := ["place"]
def ks_BadRun : List Str := ["position"]
def ks_BadPoint : List Str := ["point"]
def ks_TooLarge : List Str := ["what"]
def ks_NoFirst : List Str := ["kind"]
def ks_WrongFirst : List Str := ["position"]
def ks_NoHand : List Str := ["hand"]
def ks_WrongMove : List Str := ["move", "rule"]
def ks_MustWait : List Str := ["lock", "hand"]
def ks_Refused : List Str := ["position"]
def ks_Unfinished : List Str := ["cycle", "short"]
def ks_NoRow : List Str := ["row"]
def ks_NoTag : List Str := ["tag"]
def ks_NoNode : List Str := ["node"]
def ks_NoRequest : List Str := ["request"]
def ks_NoLockOrder : List Str := ["cycle"]
def ks_BadStand : List Str := ["part"]
def ks_Unnested : List Str := ["routine", "nodes"]
def ks_Clash : List Str := ["cycle"]
def ks_NoState : List Str := ["state"]
def ks_NotFit : List Str := ["rule"]
def q_is_name_1 : M Fl := mIfS (mAndT (mB (mOp2 (gIn true) (mVar 1) (mC c_LETTERS))) (mB (mOp2 (gIn true) (mVar 1) (mC c_DIGITS)))) (mRet (mC (.bl false))) (mNx)
def b_is_name : M Fl := mSq (mIfS (mNotT (mB (mOp1 (gIsi "str") (mVar 0)))) (mRet (mC (.bl false))) (mNx)) (mSq (mIfS (mOrT (mB (mOp2 gEq (mVar 0) (mC (.str "")))) (mOrT (mB (mOp2 gGt (mOpN gLen (mCons (mVar 0) (mNil))) (mC c_MOST_CHARACTERS))) (mB (mOp2 (gIn false) (mVar 0) (mC c_RESERVED))))) (mRet (mC (.bl false))) (mNx)) (mSq (mFor (mSeq (mVar 0)) (gNm 1) q_is_name_1) (mRet (mOp2 (gIn false) (mOp2 gIx (mVar 0) (mC (.int 0))) (mC c_LETTERS)))))
def f_is_name : M Rv := fnOf 1 2 b_is_name
def q_law_draws_1 : M Fl := mIfS (mAndT (mB (mOp2 gGt (mVar 4) (mC (.int 0)))) (mB (mOp2 gLt (mOpN gLen (mCons (mVar 1) (mNil))) (mC (.int 600))))) (mSq (mDo (mMut gAppend 1 (mCons (mOp2 gMod (mOpN gInt (mCons (mVar 4) (mNil))) (mC (.int 720))) (mNil)))) (mSet 4 (mOp2 gFdiv (mVar 4) (mC (.int 720))))) (mNx)
def q_law_draws_2 : M Fl := mSq (mSet 6 (mOp2 gMod (mOpN gInt (mCons (mOp2 gAdd (mOp2 gAdd (mOp2 gMul (mVar 6) (mC (.int 69621))) (mOp2 gMul (mVar 4) (mC (.int 31)))) (mVar 5)) (mNil))) (mC (.int 2147483629)))) (mIfS (mB (mOp2 gLt (mOpN gLen (mCons (mVar 1) (mNil))) (mC (.int 600)))) (mDo (mMut gAppend 1 (mCons (mOp2 gFdiv (mVar 6) (mC (.int 127))) (mNil)))) (mNx))
def q_law_draws_3 : M Fl := mSq (mSet 4 (mOp2 gAdd (mOp2 gMul (mC (.int 2)) (mOpN gAbs (mCons (mVar 3) (mNil)))) (mOpN gInt (mCons (mOp2 gLt (mVar 3) (mC (.int 0))) (mNil))))) (mIfS (mB (mOp2 gGe (mVar 4) (mOp2 gMul (mC (.int 2)) (mOp2 gPow (mC (.int 10)) (mC (.int 18)))))) (mFor (mRng1 (mCons (mC (.int 60)) (mNil))) (gNm 5) q_law_draws_1) (mSq (mSet 6 (mOp2 gMod (mOpN gInt (mCons (mOp2 gAdd (mOp2 gAdd (mOp2 gMul (mVar 4) (mC (.int 48271))) (mOp2 gMul (mVar 2) (mC (.int 7919)))) (mC (.int 12345))) (mNil))) (mC (.int 2147483647)))) (mFor (mRng1 (mCons (mC (.int 6)) (mNil))) (gNm 5) q_law_draws_2)))
def b_law_draws : M Fl := mSq (mSet 1 (mLst (mNil))) (mSq (mFor (mEnm (mCons (mSl (mVar 0) none (some (mC (.int 63)))) (mNil))) (gTu [gNm 2, gNm 3]) q_law_draws_3) (mRet (mVar 1)))
def f_law_draws : M Rv := fnOf 1 7 b_law_draws
def b_law_next : M Fl := mSq (mIfS (mB (mOp2 gEq (mOpN gLen (mCons (mVar 0) (mNil))) (mC (.int 0)))) (mRet (mC (.int 0))) (mNx)) (mRet (mOp2 gMod (mOpN gInt (mCons (mMut gPopAt 0 (mCons (mC (.int 0)) (mNil))) (mNil))) (mVar 1)))
def f_law_next : M Rv := fnOf 2 2 b_law_next
def b_law_words : M Fl := mSq (mSet 0 (mLst (mCons (mC (.str "lock")) (mCons (mC (.str "kind")) (mCons (mC (.str "body")) (mCons (mC (.str "routine")) (mCons (mC (.str "done")) (mCons (mC (.str "do")) (mCons (mC (.str "with")) (mCons (mC (.str "block")) (mCons (mC (.str "either")) (mCons (mC (.str "or")) (mCons (mC (.str "repeat")) (mCons (mC (.str "close")) (mNil))))))))))))))) (mSq (mSet 0 (mOp2 gAdd (mVar 0) (mLst (mCons (mC (.str "drop")) (mCons (mC (.str "give")) (mCons (mC (.str "skip")) (mCons (mC (.str "make")) (mCons (mC (.str "copy")) (mCons (mC (.str "fetch")) (mCons (mC (.str "read")) (mCons (mC (.str "keep")) (mCons (mC (.str "write")) (mCons (mC (.str "put")) (mCons (mC (.str "call")) (mCons (mC (.str "take")) (mNil)))))))))))))))) (mRet (mOp2 gAdd (mVar 0) (mLst (mCons (mC (.str "as")) (mNil))))))
def f_law_words : M Rv := fnOf 0 1 b_law_words
def q_law_value_1 : M Fl := mSet 8 (mOp2 gAdd (mVar 8) (mOp2 gIx (mVar 3) (mCallR f_law_next 0 (mCons (mC (.int 36)) (mNil)))))
def b_law_value : M Fl := mSq (mSet 2 (mCallR f_law_next 0 (mCons (mC (.int 6)) (mNil)))) (mSq (mSet 3 (mC (.str "abcdefghijklmnopqrstuvwxyz0123456789"))) (mSq (mIfS (mB (mOp2 gEq (mVar 2) (mC (.int 3)))) (mRet (mOp2 gIx (mLst (mCons (mC .non) (mCons (mC (.bl true)) (mCons (mC (.int 7)) (mCons (mTup (mCons (mC (.str "a")) (mNil))) (mCons (mLst (mCons (mC (.str "a")) (mNil))) (mCons (mC (.int 0)) (mCons (mLst (mCons (mC (.str "take")) (mCons (mC (.str "a")) (mNil)))) (mNil))))))))) (mCallR f_law_next 0 (mCons (mC (.int 7)) (mNil))))) (mNx)) (mSq (mIfS (mB (mOp2 gEq (mVar 2) (mC (.int 4)))) (mSq (mSet 4 (mOp2 gIx (mVar 1) (mCallR f_law_next 0 (mCons (mC (.int 25)) (mNil))))) (mSq (mSet 5 (mCallR f_law_next 0 (mCons (mC (.int 6)) (mNil)))) (mSq (mSet 6 (mOp2 gIx (mVar 3) (mCallR f_law_next 0 (mCons (mC (.int 36)) (mNil))))) (mRet (mOp2 gIx (mLst (mCons (mVar 4) (mCons (mOp2 gAdd (mVar 4) (mVar 6)) (mCons (mOp2 gAdd (mVar 6) (mVar 4)) (mCons (mSl (mVar 4) (some (mC (.int 1))) none) (mCons (mSl (mVar 4) none (some (mOp1 gNeg (mC (.int 1))))) (mCons (mOp1 gUpper (mVar 4)) (mNil)))))))) (mVar 5)))))) (mNx)) (mSq (mSet 7 (mOp2 gIx (mLst (mCons (mC (.int 3)) (mCons (mC (.int 0)) (mCons (mC (.int 1)) (mCons (mC (.int 8)) (mCons (mC (.int 9)) (mCons (mC (.int 2)) (mCons (mC (.int 5)) (mCons (mC (.int 4)) (mCons (mC (.int 7)) (mCons (mC (.int 6)) (mCons (mC (.int 10)) (mNil))))))))))))) (mCallR f_law_next 0 (mCons (mC (.int 11)) (mNil))))) (mSq (mSet 8 (mC (.str ""))) (mSq (mFor (mRng1 (mCons (mVar 7) (mNil))) (gNm 9) q_law_value_1) (mSq (mIfS (mB (mOp2 gEq (mVar 2) (mC (.int 5)))) (mSq (mSet 10 (mCallR f_law_next 0 (mCons (mOp2 gAdd (mVar 7) (mC (.int 1))) (mNil)))) (mSq (mSet 11 (mC (.str " !\"#$&'()*+,-./:;<=>?@ABCDEFGHIJKLMNOPQRSTUVWXYZ[\\]^_`{|}~\n"))) (mSet 8 (mOp2 gAdd (mOp2 gAdd (mSl (mVar 8) none (some (mVar 10))) (mOp2 gIx (mVar 11) (mCallR f_law_next 0 (mCons (mOpN gLen (mCons (mVar 11) (mNil))) (mNil))))) (mSl (mVar 8) (some (mVar 10)) none))))) (mNx)) (mRet (mVar 8)))))))))
def f_law_value : M Rv := fnOf 2 12 b_law_value
def q_law_due_1 : M Fl := mIfS (mB (mOp2 (gIn true) (mVar 2) (mC (.str "abcdefghijklmnopqrstuvwxyz0123456789")))) (mRet (mC (.bl false))) (mNx)
def b_law_due : M Fl := mSq (mIfS (mOrT (mNotT (mB (mOp1 (gIsi "str") (mVar 0)))) (mOrT (mB (mOp2 gLt (mOpN gLen (mCons (mVar 0) (mNil))) (mC (.int 1)))) (mB (mOp2 gGt (mOpN gLen (mCons (mVar 0) (mNil))) (mC (.int 8)))))) (mRet (mC (.bl false))) (mNx)) (mSq (mFor (mSeq (mVar 0)) (gNm 2) q_law_due_1) (mRet (mAndV (mOp2 (gIn false) (mOp2 gIx (mVar 0) (mC (.int 0))) (mC (.str "abcdefghijklmnopqrstuvwxyz"))) (mOp2 (gIn true) (mVar 0) (mVar 1)))))
def f_law_due : M Rv := fnOf 2 3 b_law_due
def b_law_classes : M Fl := mSq (mSet 1 (mLst (mCons (mOp1 (gIsV fun c => subC c 1) (mVar 0)) (mCons (mOp1 (gIsV fun c => subC c 2) (mVar 0)) (mCons (mOp1 (gIsV fun c => subC c 3) (mVar 0)) (mCons (mOp1 (gIsV fun c => subC c 4) (mVar 0)) (mNil))))))) (mSq (mSet 1 (mOp2 gAdd (mVar 1) (mLst (mCons (mOp1 (gIsV fun c => subC c 5) (mVar 0)) (mCons (mOp1 (gIsV fun c => subC c 6) (mVar 0)) (mCons (mOp1 (gIsV fun c => subC c 7) (mVar 0)) (mCons (mOp1 (gIsV fun c => subC c 8) (mVar 0)) (mNil)))))))) (mSq (mSet 1 (mOp2 gAdd (mVar 1) (mLst (mCons (mOp1 (gIsV fun c => subC c 9) (mVar 0)) (mCons (mOp1 (gIsV fun c => subC c 10) (mVar 0)) (mCons (mOp1 (gIsV fun c => subC c 18) (mVar 0)) (mCons (mOp1 (gIsV fun c => subC c 19) (mVar 0)) (mNil)))))))) (mSq (mSet 1 (mOp2 gAdd (mVar 1) (mLst (mCons (mOp1 (gIsV fun c => subC c 20) (mVar 0)) (mCons (mOp1 (gIsV fun c => subC c 11) (mVar 0)) (mCons (mOp1 (gIsV fun c => subC c 12) (mVar 0)) (mCons (mOp1 (gIsV fun c => subC c 13) (mVar 0)) (mNil)))))))) (mSq (mSet 1 (mOp2 gAdd (mVar 1) (mLst (mCons (mOp1 (gIsV fun c => subC c 14) (mVar 0)) (mCons (mOp1 (gIsV fun c => subC c 15) (mVar 0)) (mCons (mOp1 (gIsV fun c => subC c 16) (mVar 0)) (mNil))))))) (mSq (mSet 1 (mOp2 gAdd (mVar 1) (mLst (mCons (mOp1 (gIsV fun c => subC c 17) (mVar 0)) (mCons (mOp1 (gIsV fun c => subC c 21) (mVar 0)) (mCons (mOp1 (gIsV fun c => subC c 22) (mVar 0)) (mNil))))))) (mSq (mSet 1 (mOp2 gAdd (mVar 1) (mLst (mCons (mOp1 (gIsV fun c => subC c 23) (mVar 0)) (mCons (mOp1 (gIsV fun c => subC c 24) (mVar 0)) (mCons (mOp1 (gIsV fun c => subC c 25) (mVar 0)) (mNil))))))) (mRet (mOp2 gAdd (mVar 1) (mLst (mCons (mOp1 (gIsV fun c => subC c 26) (mVar 0)) (mCons (mOp1 (gIsV fun c => subC c 27) (mVar 0)) (mNil))))))))))))
def f_law_classes : M Rv := fnOf 1 2 b_law_classes
def b_law_errors : M Fl := mSq (mSet 3 (mLst (mCons (mXnew 1 ks_BadPart (mCons (mVar 1) (mNil))) (mCons (mXnew 2 ks_BadLine (mCons (mVar 0) (mCons (mVar 1) (mNil)))) (mCons (mXnew 3 ks_NoSuch (mCons (mVar 2) (mNil))) (mCons (mXnew0 4) (mCons (mXnew 5 ks_BadPath (mCons (mVar 0) (mNil))) (mCons (mXnew 6 ks_BadMove (mCons (mVar 0) (mNil))) (mNil))))))))) (mSq (mSet 3 (mOp2 gAdd (mVar 3) (mLst (mCons (mXnew 7 ks_BadPlace (mCons (mVar 2) (mNil))) (mCons (mXnew 8 ks_BadRun (mCons (mVar 0) (mNil))) (mCons (mXnew 9 ks_BadPoint (mCons (mVar 2) (mNil))) (mCons (mXnew 10 ks_TooLarge (mCons (mVar 1) (mNil))) (mCons (mXnew 18 ks_NoRow (mCons (mVar 2) (mNil))) (mCons (mXnew 19 ks_NoTag (mCons (mVar 1) (mNil))) (mNil)))))))))) (mSq (mSet 3 (mOp2 gAdd (mVar 3) (mLst (mCons (mXnew 20 ks_NoNode (mCons (mVar 2) (mNil))) (mCons (mXnew 11 ks_NoFirst (mCons (mVar 1) (mNil))) (mCons (mXnew 12 ks_WrongFirst (mCons (mVar 0) (mNil))) (mCons (mXnew 13 ks_NoHand (mCons (mVar 2) (mNil))) (mCons (mXnew 14 ks_WrongMove (mCons (mVar 2) (mCons (mVar 1) (mNil)))) (mNil))))))))) (mSq (mSet 3 (mOp2 gAdd (mVar 3) (mLst (mCons (mXnew 15 ks_MustWait (mCons (mVar 1) (mCons (mVar 0) (mNil)))) (mCons (mXnew 16 ks_Refused (mCons (mVar 0) (mNil))) (mCons (mXnew 17 ks_Unfinished (mCons (mVar 2) (mCons (mVar 0) (mNil)))) (mCons (mXnew 21 ks_NoRequest (mCons (mVar 2) (mNil))) (mNil)))))))) (mRet (mOp2 gAdd (mVar 3) (mLst (mCons (mXnew 22 ks_NoLockOrder (mCons (mVar 2) (mNil))) (mCons (mXnew 23 ks_BadStand (mCons (mVar 2) (mNil))) (mCons (mXnew 24 ks_Unnested (mCons (mVar 1) (mCons (mVar 2) (mNil)))) (mCons (mXnew 25 ks_Clash (mCons (mVar 2) (mNil))) (mCons (mXnew 26 ks_NoState (mCons (mVar 2) (mNil))) (mCons (mXnew 27 ks_NotFit (mCons (mVar 1) (mNil))) (mNil)))))))))))))
def f_law_errors : M Rv := fnOf 3 4 b_law_errors
def b_law_fields_hold : M Fl := mSq (mSet 4 (mLst (mCons (mOp1 (gXf "rule") (mOp2 gIx (mVar 0) (mC (.int 0)))) (mCons (mOp1 (gXf "line") (mOp2 gIx (mVar 0) (mC (.int 1)))) (mCons (mOp1 (gXf "rule") (mOp2 gIx (mVar 0) (mC (.int 1)))) (mCons (mOp1 (gXf "name") (mOp2 gIx (mVar 0) (mC (.int 2)))) (mCons (mOp1 (gXf "position") (mOp2 gIx (mVar 0) (mC (.int 4)))) (mCons (mOp1 (gXf "position") (mOp2 gIx (mVar 0) (mC (.int 5)))) (mNil))))))))) (mSq (mSet 4 (mOp2 gAdd (mVar 4) (mLst (mCons (mOp1 (gXf "place") (mOp2 gIx (mVar 0) (mC (.int 6)))) (mCons (mOp1 (gXf "position") (mOp2 gIx (mVar 0) (mC (.int 7)))) (mCons (mOp1 (gXf "point") (mOp2 gIx (mVar 0) (mC (.int 8)))) (mCons (mOp1 (gXf "what") (mOp2 gIx (mVar 0) (mC (.int 9)))) (mCons (mOp1 (gXf "row") (mOp2 gIx (mVar 0) (mC (.int 10)))) (mCons (mOp1 (gXf "tag") (mOp2 gIx (mVar 0) (mC (.int 11)))) (mNil)))))))))) (mSq (mSet 4 (mOp2 gAdd (mVar 4) (mLst (mCons (mOp1 (gXf "node") (mOp2 gIx (mVar 0) (mC (.int 12)))) (mCons (mOp1 (gXf "kind") (mOp2 gIx (mVar 0) (mC (.int 13)))) (mCons (mOp1 (gXf "position") (mOp2 gIx (mVar 0) (mC (.int 14)))) (mCons (mOp1 (gXf "hand") (mOp2 gIx (mVar 0) (mC (.int 15)))) (mCons (mOp1 (gXf "move") (mOp2 gIx (mVar 0) (mC (.int 16)))) (mCons (mOp1 (gXf "rule") (mOp2 gIx (mVar 0) (mC (.int 16)))) (mNil)))))))))) (mSq (mSet 4 (mOp2 gAdd (mVar 4) (mLst (mCons (mOp1 (gXf "lock") (mOp2 gIx (mVar 0) (mC (.int 17)))) (mCons (mOp1 (gXf "hand") (mOp2 gIx (mVar 0) (mC (.int 17)))) (mCons (mOp1 (gXf "position") (mOp2 gIx (mVar 0) (mC (.int 18)))) (mCons (mOp1 (gXf "cycle") (mOp2 gIx (mVar 0) (mC (.int 19)))) (mCons (mOp1 (gXf "short") (mOp2 gIx (mVar 0) (mC (.int 19)))) (mNil))))))))) (mSq (mSet 4 (mOp2 gAdd (mVar 4) (mLst (mCons (mOp1 (gXf "request") (mOp2 gIx (mVar 0) (mC (.int 20)))) (mCons (mOp1 (gXf "cycle") (mOp2 gIx (mVar 0) (mC (.int 21)))) (mCons (mOp1 (gXf "part") (mOp2 gIx (mVar 0) (mC (.int 22)))) (mCons (mOp1 (gXf "routine") (mOp2 gIx (mVar 0) (mC (.int 23)))) (mCons (mOp1 (gXf "nodes") (mOp2 gIx (mVar 0) (mC (.int 23)))) (mNil))))))))) (mSq (mSet 4 (mOp2 gAdd (mVar 4) (mLst (mCons (mOp1 (gXf "cycle") (mOp2 gIx (mVar 0) (mC (.int 24)))) (mCons (mOp1 (gXf "state") (mOp2 gIx (mVar 0) (mC (.int 25)))) (mCons (mOp1 (gXf "rule") (mOp2 gIx (mVar 0) (mC (.int 26)))) (mNil))))))) (mSq (mSet 5 (mLst (mCons (mVar 2) (mCons (mVar 1) (mCons (mVar 2) (mCons (mVar 3) (mCons (mVar 1) (mCons (mVar 1) (mCons (mVar 3) (mCons (mVar 1) (mCons (mVar 3) (mCons (mVar 2) (mCons (mVar 3) (mCons (mVar 2) (mNil))))))))))))))) (mSq (mSet 5 (mOp2 gAdd (mVar 5) (mLst (mCons (mVar 3) (mCons (mVar 2) (mCons (mVar 1) (mCons (mVar 3) (mCons (mVar 3) (mCons (mVar 2) (mCons (mVar 2) (mCons (mVar 1) (mCons (mVar 1) (mCons (mVar 3) (mCons (mVar 1) (mNil))))))))))))))) (mRet (mOp2 gEq (mVar 4) (mOp2 gAdd (mVar 5) (mLst (mCons (mVar 3) (mCons (mVar 3) (mCons (mVar 3) (mCons (mVar 2) (mCons (mVar 3) (mCons (mVar 3) (mCons (mVar 3) (mCons (mVar 2) (mNil))))))))))))))))))))
def f_law_fields_hold : M Rv := fnOf 4 6 b_law_fields_hold
def q_law_1 : M Fl := mSq (mIfS (mOrT (mNotT (mB (mOp1 (gIsV fun c => subC c 0) (mVar 12)))) (mNotT (mB (mOp1 (gIsV fun _ => true) (mVar 12))))) (mRet (mC (.bl false))) (mNx)) (mIfS (mB (mOp2 gNe (mLc (mEnm (mCons (mCallV f_law_classes (mCons (mVar 12) (mNil))) (mNil))) [13, 14] (gTu [gNm 13, gNm 14]) (mB (mVar 14)) (mVar 13)) (mLst (mCons (mVar 11) (mNil))))) (mRet (mC (.bl false))) (mNx))
def q_law_2 : M Fl := mSq (mSet 6 (mCallV f_is_name (mCons (mVar 7) (mNil)))) (mIfS (mOrT (mNotT (mB (mOp1 (gIsi "bool") (mVar 6)))) (mB (mVar 6))) (mRet (mC (.bl false))) (mNx))
def q_law_3 : M Fl := mSq (mSet 5 (mCallR f_law_value 1 (mCons (mVar 2) (mNil)))) (mSq (mSet 6 (mCallV f_is_name (mCons (mVar 5) (mNil)))) (mIfS (mOrT (mNotT (mB (mOp1 (gIsi "bool") (mVar 6)))) (mB (mOp2 gNe (mVar 6) (mCallV f_law_due (mCons (mVar 5) (mCons (mVar 2) (mNil))))))) (mRet (mC (.bl false))) (mNx)))
def b_law : M Fl := mSq (mSet 1 (mCallV f_law_draws (mCons (mVar 0) (mNil)))) (mSq (mSet 2 (mCallV f_law_words mNil)) (mSq (mSet 3 (mLst (mCons (mC (.str "form")) (mCons (mC (.str "place")) (mCons (mC (.str "many")) (mCons (mC (.str "pair")) (mCons (mC (.str "twice")) (mCons (mC (.str "scope")) (mCons (mC (.str "unknown")) (mCons (mC (.str "fit")) (mCons (mC (.str "needs")) (mCons (mC (.str "order")) (mCons (mC (.str "end")) (mNil)))))))))))))) (mSq (mIfS (mOrT (mNotT (mB (mOp1 (gIsi "tuple") (mC c_RESERVED)))) (mB (mOp2 gNe (mOpN gList (mCons (mC c_RESERVED) (mNil))) (mVar 2)))) (mRet (mC (.bl false))) (mNx)) (mSq (mIfS (mOrT (mNotT (mB (mOp1 (gIsi "tuple") (mC c_RULES)))) (mB (mOp2 gNe (mOpN gList (mCons (mC c_RULES) (mNil))) (mVar 3)))) (mRet (mC (.bl false))) (mNx)) (mSq (mFor (mRng1 (mCons (mC (.int 16)) (mNil))) (gNm 4) q_law_3) (mSq (mFor (mSeq (mVar 2)) (gNm 7) q_law_2) (mSq (mSet 8 (mOp2 gSub (mCallR f_law_next 1 (mCons (mC (.int 720)) (mNil))) (mC (.int 9)))) (mSq (mSet 7 (mOp2 gIx (mVar 3) (mCallR f_law_next 1 (mCons (mC (.int 11)) (mNil))))) (mSq (mSet 9 (mTup (mCons (mVar 7) (mCons (mVar 8) (mCons (mCallR f_law_next 1 (mCons (mC (.int 720)) (mNil))) (mNil)))))) (mSq (mSet 10 (mCallV f_law_errors (mCons (mVar 8) (mCons (mVar 7) (mCons (mVar 9) (mNil)))))) (mSq (mFor (mEnm (mCons (mVar 10) (mNil))) (gTu [gNm 11, gNm 12]) q_law_1) (mRet (mCallV f_law_fields_hold (mCons (mVar 10) (mCons (mVar 8) (mCons (mVar 7) (mCons (mVar 9) (mNil))))))))))))))))))
def f_law : M Rv := fnOf 1 15 b_law
end K00
set_option Elab.async false
set_option linter.all false
set_option maxRecDepth 100000
set_option maxHeartbeats 8000000
namespace K00
open PySem L2 PM
def S_is_name_0 : M Fl := mIfS (mNotT (mB (mOp1 (gIsi "str") (mVar 0)))) (mRet (mC (.bl false))) (mNx)
def S_is_name_1 : M Fl := mIfS (mOrT (mB (mOp2 gEq (mVar 0) (mC (.str "")))) (mOrT (mB (mOp2 gGt (mOpN gLen (mCons (mVar 0) (mNil))) (mC c_MOST_CHARACTERS))) (mB (mOp2 (gIn false) (mVar 0) (mC c_RESERVED))))) (mRet (mC (.bl false))) (mNx)
def S_is_name_2 : M Fl := mFor (mSeq (mVar 0)) (gNm 1) q_is_name_1
def S_is_name_3 : M Fl := mRet (mOp2 (gIn false) (mOp2 gIx (mVar 0) (mC (.int 0))) (mC c_LETTERS))
def T_is_name_3 : M Fl := S_is_name_3
def T_is_name_2 : M Fl := mSq S_is_name_2 T_is_name_3
def T_is_name_1 : M Fl := mSq S_is_name_1 T_is_name_2
def T_is_name_0 : M Fl := mSq S_is_name_0 T_is_name_1
theorem B_is_name : b_is_name = T_is_name_0 := rfl
def S_q_law_draws_2_0 : M Fl := mSet 6 (mOp2 gMod (mOpN gInt (mCons (mOp2 gAdd (mOp2 gAdd (mOp2 gMul (mVar 6) (mC (.int 69621))) (mOp2 gMul (mVar 4) (mC (.int 31)))) (mVar 5)) (mNil))) (mC (.int 2147483629)))
def S_q_law_draws_2_1 : M Fl := mIfS (mB (mOp2 gLt (mOpN gLen (mCons (mVar 1) (mNil))) (mC (.int 600)))) (mDo (mMut gAppend 1 (mCons (mOp2 gFdiv (mVar 6) (mC (.int 127))) (mNil)))) (mNx)
def T_q_law_draws_2_1 : M Fl := S_q_law_draws_2_1
def T_q_law_draws_2_0 : M Fl := mSq S_q_law_draws_2_0 T_q_law_draws_2_1
theorem B_q_law_draws_2 : q_law_draws_2 = T_q_law_draws_2_0 := rfl
def S_q_law_draws_3_0 : M Fl := mSet 4 (mOp2 gAdd (mOp2 gMul (mC (.int 2)) (mOpN gAbs (mCons (mVar 3) (mNil)))) (mOpN gInt (mCons (mOp2 gLt (mVar 3) (mC (.int 0))) (mNil))))
def S_q_law_draws_3_1 : M Fl := mIfS (mB (mOp2 gGe (mVar 4) (mOp2 gMul (mC (.int 2)) (mOp2 gPow (mC (.int 10)) (mC (.int 18)))))) (mFor (mRng1 (mCons (mC (.int 60)) (mNil))) (gNm 5) q_law_draws_1) (mSq (mSet 6 (mOp2 gMod (mOpN gInt (mCons (mOp2 gAdd (mOp2 gAdd (mOp2 gMul (mVar 4) (mC (.int 48271))) (mOp2 gMul (mVar 2) (mC (.int 7919)))) (mC (.int 12345))) (mNil))) (mC (.int 2147483647)))) (mFor (mRng1 (mCons (mC (.int 6)) (mNil))) (gNm 5) q_law_draws_2))
def T_q_law_draws_3_1 : M Fl := S_q_law_draws_3_1
def T_q_law_draws_3_0 : M Fl := mSq S_q_law_draws_3_0 T_q_law_draws_3_1
theorem B_q_law_draws_3 : q_law_draws_3 = T_q_law_draws_3_0 := rfl
def S_law_draws_0 : M Fl := mSet 1 (mLst (mNil))
def S_law_draws_1 : M Fl := mFor (mEnm (mCons (mSl (mVar 0) none (some (mC (.int 63)))) (mNil))) (gTu [gNm 2, gNm 3]) q_law_draws_3
def S_law_draws_2 : M Fl := mRet (mVar 1)
def T_law_draws_2 : M Fl := S_law_draws_2
def T_law_draws_1 : M Fl := mSq S_law_draws_1 T_law_draws_2
def T_law_draws_0 : M Fl := mSq S_law_draws_0 T_law_draws_1
theorem B_law_draws : b_law_draws = T_law_draws_0 := rfl
def S_law_next_0 : M Fl := mIfS (mB (mOp2 gEq (mOpN gLen (mCons (mVar 0) (mNil))) (mC (.int 0)))) (mRet (mC (.int 0))) (mNx)
def S_law_next_1 : M Fl := mRet (mOp2 gMod (mOpN gInt (mCons (mMut gPopAt 0 (mCons (mC (.int 0)) (mNil))) (mNil))) (mVar 1))
def T_law_next_1 : M Fl := S_law_next_1
def T_law_next_0 : M Fl := mSq S_law_next_0 T_law_next_1
theorem B_law_next : b_law_next = T_law_next_0 := rfl
def S_law_words_0 : M Fl := mSet 0 (mLst (mCons (mC (.str "lock")) (mCons (mC (.str "kind")) (mCons (mC (.str "body")) (mCons (mC (.str "routine")) (mCons (mC (.str "done")) (mCons (mC (.str "do")) (mCons (mC (.str "with")) (mCons (mC (.str "block")) (mCons (mC (.str "either")) (mCons (mC (.str "or")) (mCons (mC (.str "repeat")) (mCons (mC (.str "close")) (mNil))))))))))))))
def S_law_words_1 : M Fl := mSet 0 (mOp2 gAdd (mVar 0) (mLst (mCons (mC (.str "drop")) (mCons (mC (.str "give")) (mCons (mC (.str "skip")) (mCons (mC (.str "make")) (mCons (mC (.str "copy")) (mCons (mC (.str "fetch")) (mCons (mC (.str "read")) (mCons (mC (.str "keep")) (mCons (mC (.str "write")) (mCons (mC (.str "put")) (mCons (mC (.str "call")) (mCons (mC (.str "take")) (mNil)))))))))))))))
def S_law_words_2 : M Fl := mRet (mOp2 gAdd (mVar 0) (mLst (mCons (mC (.str "as")) (mNil))))
def T_law_words_2 : M Fl := S_law_words_2
def T_law_words_1 : M Fl := mSq S_law_words_1 T_law_words_2
def T_law_words_0 : M Fl := mSq S_law_words_0 T_law_words_1
theorem B_law_words : b_law_words = T_law_words_0 := rfl
def S_law_value_0 : M Fl := mSet 2 (mCallR f_law_next 0 (mCons (mC (.int 6)) (mNil)))
def S_law_value_1 : M Fl := mSet 3 (mC (.str "abcdefghijklmnopqrstuvwxyz0123456789"))
def S_law_value_2 : M Fl := mIfS (mB (mOp2 gEq (mVar 2) (mC (.int 3)))) (mRet (mOp2 gIx (mLst (mCons (mC .non) (mCons (mC (.bl true)) (mCons (mC (.int 7)) (mCons (mTup (mCons (mC (.str "a")) (mNil))) (mCons (mLst (mCons (mC (.str "a")) (mNil))) (mCons (mC (.int 0)) (mCons (mLst (mCons (mC (.str "take")) (mCons (mC (.str "a")) (mNil)))) (mNil))))))))) (mCallR f_law_next 0 (mCons (mC (.int 7)) (mNil))))) (mNx)
def S_law_value_3 : M Fl := mIfS (mB (mOp2 gEq (mVar 2) (mC (.int 4)))) (mSq (mSet 4 (mOp2 gIx (mVar 1) (mCallR f_law_next 0 (mCons (mC (.int 25)) (mNil))))) (mSq (mSet 5 (mCallR f_law_next 0 (mCons (mC (.int 6)) (mNil)))) (mSq (mSet 6 (mOp2 gIx (mVar 3) (mCallR f_law_next 0 (mCons (mC (.int 36)) (mNil))))) (mRet (mOp2 gIx (mLst (mCons (mVar 4) (mCons (mOp2 gAdd (mVar 4) (mVar 6)) (mCons (mOp2 gAdd (mVar 6) (mVar 4)) (mCons (mSl (mVar 4) (some (mC (.int 1))) none) (mCons (mSl (mVar 4) none (some (mOp1 gNeg (mC (.int 1))))) (mCons (mOp1 gUpper (mVar 4)) (mNil)))))))) (mVar 5)))))) (mNx)
def S_law_value_4 : M Fl := mSet 7 (mOp2 gIx (mLst (mCons (mC (.int 3)) (mCons (mC (.int 0)) (mCons (mC (.int 1)) (mCons (mC (.int 8)) (mCons (mC (.int 9)) (mCons (mC (.int 2)) (mCons (mC (.int 5)) (mCons (mC (.int 4)) (mCons (mC (.int 7)) (mCons (mC (.int 6)) (mCons (mC (.int 10)) (mNil))))))))))))) (mCallR f_law_next 0 (mCons (mC (.int 11)) (mNil))))
def S_law_value_5 : M Fl := mSet 8 (mC (.str ""))
def S_law_value_6 : M Fl := mFor (mRng1 (mCons (mVar 7) (mNil))) (gNm 9) q_law_value_1
def S_law_value_7 : M Fl := mIfS (mB (mOp2 gEq (mVar 2) (mC (.int 5)))) (mSq (mSet 10 (mCallR f_law_next 0 (mCons (mOp2 gAdd (mVar 7) (mC (.int 1))) (mNil)))) (mSq (mSet 11 (mC (.str " !\"#$&'()*+,-./:;<=>?@ABCDEFGHIJKLMNOPQRSTUVWXYZ[\\]^_`{|}~\n"))) (mSet 8 (mOp2 gAdd (mOp2 gAdd (mSl (mVar 8) none (some (mVar 10))) (mOp2 gIx (mVar 11) (mCallR f_law_next 0 (mCons (mOpN gLen (mCons (mVar 11) (mNil))) (mNil))))) (mSl (mVar 8) (some (mVar 10)) none))))) (mNx)
def S_law_value_8 : M Fl := mRet (mVar 8)
def T_law_value_8 : M Fl := S_law_value_8
def T_law_value_7 : M Fl := mSq S_law_value_7 T_law_value_8
def T_law_value_6 : M Fl := mSq S_law_value_6 T_law_value_7
def T_law_value_5 : M Fl := mSq S_law_value_5 T_law_value_6
def T_law_value_4 : M Fl := mSq S_law_value_4 T_law_value_5
def T_law_value_3 : M Fl := mSq S_law_value_3 T_law_value_4
def T_law_value_2 : M Fl := mSq S_law_value_2 T_law_value_3
def T_law_value_1 : M Fl := mSq S_law_value_1 T_law_value_2
def T_law_value_0 : M Fl := mSq S_law_value_0 T_law_value_1
theorem B_law_value : b_law_value = T_law_value_0 := rfl
def S_law_due_0 : M Fl := mIfS (mOrT (mNotT (mB (mOp1 (gIsi "str") (mVar 0)))) (mOrT (mB (mOp2 gLt (mOpN gLen (mCons (mVar 0) (mNil))) (mC (.int 1)))) (mB (mOp2 gGt (mOpN gLen (mCons (mVar 0) (mNil))) (mC (.int 8)))))) (mRet (mC (.bl false))) (mNx)
def S_law_due_1 : M Fl := mFor (mSeq (mVar 0)) (gNm 2) q_law_due_1
def S_law_due_2 : M Fl := mRet (mAndV (mOp2 (gIn false) (mOp2 gIx (mVar 0) (mC (.int 0))) (mC (.str "abcdefghijklmnopqrstuvwxyz"))) (mOp2 (gIn true) (mVar 0) (mVar 1)))
def T_law_due_2 : M Fl := S_law_due_2
def T_law_due_1 : M Fl := mSq S_law_due_1 T_law_due_2
def T_law_due_0 : M Fl := mSq S_law_due_0 T_law_due_1
theorem B_law_due : b_law_due = T_law_due_0 := rfl
def S_law_classes_0 : M Fl := mSet 1 (mLst (mCons (mOp1 (gIsV fun c => subC c 1) (mVar 0)) (mCons (mOp1 (gIsV fun c => subC c 2) (mVar 0)) (mCons (mOp1 (gIsV fun c => subC c 3) (mVar 0)) (mCons (mOp1 (gIsV fun c => subC c 4) (mVar 0)) (mNil))))))
def S_law_classes_1 : M Fl := mSet 1 (mOp2 gAdd (mVar 1) (mLst (mCons (mOp1 (gIsV fun c => subC c 5) (mVar 0)) (mCons (mOp1 (gIsV fun c => subC c 6) (mVar 0)) (mCons (mOp1 (gIsV fun c => subC c 7) (mVar 0)) (mCons (mOp1 (gIsV fun c => subC c 8) (mVar 0)) (mNil)))))))
def S_law_classes_2 : M Fl := mSet 1 (mOp2 gAdd (mVar 1) (mLst (mCons (mOp1 (gIsV fun c => subC c 9) (mVar 0)) (mCons (mOp1 (gIsV fun c => subC c 10) (mVar 0)) (mCons (mOp1 (gIsV fun c => subC c 18) (mVar 0)) (mCons (mOp1 (gIsV fun c => subC c 19) (mVar 0)) (mNil)))))))
def S_law_classes_3 : M Fl := mSet 1 (mOp2 gAdd (mVar 1) (mLst (mCons (mOp1 (gIsV fun c => subC c 20) (mVar 0)) (mCons (mOp1 (gIsV fun c => subC c 11) (mVar 0)) (mCons (mOp1 (gIsV fun c => subC c 12) (mVar 0)) (mCons (mOp1 (gIsV fun c => subC c 13) (mVar 0)) (mNil)))))))
def S_law_classes_4 : M Fl := mSet 1 (mOp2 gAdd (mVar 1) (mLst (mCons (mOp1 (gIsV fun c => subC c 14) (mVar 0)) (mCons (mOp1 (gIsV fun c => subC c 15) (mVar 0)) (mCons (mOp1 (gIsV fun c => subC c 16) (mVar 0)) (mNil))))))
def S_law_classes_5 : M Fl := mSet 1 (mOp2 gAdd (mVar 1) (mLst (mCons (mOp1 (gIsV fun c => subC c 17) (mVar 0)) (mCons (mOp1 (gIsV fun c => subC c 21) (mVar 0)) (mCons (mOp1 (gIsV fun c => subC c 22) (mVar 0)) (mNil))))))
def S_law_classes_6 : M Fl := mSet 1 (mOp2 gAdd (mVar 1) (mLst (mCons (mOp1 (gIsV fun c => subC c 23) (mVar 0)) (mCons (mOp1 (gIsV fun c => subC c 24) (mVar 0)) (mCons (mOp1 (gIsV fun c => subC c 25) (mVar 0)) (mNil))))))
def S_law_classes_7 : M Fl := mRet (mOp2 gAdd (mVar 1) (mLst (mCons (mOp1 (gIsV fun c => subC c 26) (mVar 0)) (mCons (mOp1 (gIsV fun c => subC c 27) (mVar 0)) (mNil)))))
def T_law_classes_7 : M Fl := S_law_classes_7
def T_law_classes_6 : M Fl := mSq S_law_classes_6 T_law_classes_7
def T_law_classes_5 : M Fl := mSq S_law_classes_5 T_law_classes_6
def T_law_classes_4 : M Fl := mSq S_law_classes_4 T_law_classes_5
def T_law_classes_3 : M Fl := mSq S_law_classes_3 T_law_classes_4
def T_law_classes_2 : M Fl := mSq S_law_classes_2 T_law_classes_3
def T_law_classes_1 : M Fl := mSq S_law_classes_1 T_law_classes_2
def T_law_classes_0 : M Fl := mSq S_law_classes_0 T_law_classes_1
theorem B_law_classes : b_law_classes = T_law_classes_0 := rfl
def S_law_errors_0 : M Fl := mSet 3 (mLst (mCons (mXnew 1 ks_BadPart (mCons (mVar 1) (mNil))) (mCons (mXnew 2 ks_BadLine (mCons (mVar 0) (mCons (mVar 1) (mNil)))) (mCons (mXnew 3 ks_NoSuch (mCons (mVar 2) (mNil))) (mCons (mXnew0 4) (mCons (mXnew 5 ks_BadPath (mCons (mVar 0) (mNil))) (mCons (mXnew 6 ks_BadMove (mCons (mVar 0) (mNil))) (mNil))))))))
def S_law_errors_1 : M Fl := mSet 3 (mOp2 gAdd (mVar 3) (mLst (mCons (mXnew 7 ks_BadPlace (mCons (mVar 2) (mNil))) (mCons (mXnew 8 ks_BadRun (mCons (mVar 0) (mNil))) (mCons (mXnew 9 ks_BadPoint (mCons (mVar 2) (mNil))) (mCons (mXnew 10 ks_TooLarge (mCons (mVar 1) (mNil))) (mCons (mXnew 18 ks_NoRow (mCons (mVar 2) (mNil))) (mCons (mXnew 19 ks_NoTag (mCons (mVar 1) (mNil))) (mNil)))))))))
def S_law_errors_2 : M Fl := mSet 3 (mOp2 gAdd (mVar 3) (mLst (mCons (mXnew 20 ks_NoNode (mCons (mVar 2) (mNil))) (mCons (mXnew 11 ks_NoFirst (mCons (mVar 1) (mNil))) (mCons (mXnew 12 ks_WrongFirst (mCons (mVar 0) (mNil))) (mCons (mXnew 13 ks_NoHand (mCons (mVar 2) (mNil))) (mCons (mXnew 14 ks_WrongMove (mCons (mVar 2) (mCons (mVar 1) (mNil)))) (mNil))))))))
def S_law_errors_3 : M Fl := mSet 3 (mOp2 gAdd (mVar 3) (mLst (mCons (mXnew 15 ks_MustWait (mCons (mVar 1) (mCons (mVar 0) (mNil)))) (mCons (mXnew 16 ks_Refused (mCons (mVar 0) (mNil))) (mCons (mXnew 17 ks_Unfinished (mCons (mVar 2) (mCons (mVar 0) (mNil)))) (mCons (mXnew 21 ks_NoRequest (mCons (mVar 2) (mNil))) (mNil)))))))
def S_law_errors_4 : M Fl := mRet (mOp2 gAdd (mVar 3) (mLst (mCons (mXnew 22 ks_NoLockOrder (mCons (mVar 2) (mNil))) (mCons (mXnew 23 ks_BadStand (mCons (mVar 2) (mNil))) (mCons (mXnew 24 ks_Unnested (mCons (mVar 1) (mCons (mVar 2) (mNil)))) (mCons (mXnew 25 ks_Clash (mCons (mVar 2) (mNil))) (mCons (mXnew 26 ks_NoState (mCons (mVar 2) (mNil))) (mCons (mXnew 27 ks_NotFit (mCons (mVar 1) (mNil))) (mNil)))))))))
def T_law_errors_4 : M Fl := S_law_errors_4
def T_law_errors_3 : M Fl := mSq S_law_errors_3 T_law_errors_4
def T_law_errors_2 : M Fl := mSq S_law_errors_2 T_law_errors_3
def T_law_errors_1 : M Fl := mSq S_law_errors_1 T_law_errors_2
def T_law_errors_0 : M Fl := mSq S_law_errors_0 T_law_errors_1
theorem B_law_errors : b_law_errors = T_law_errors_0 := rfl
def S_law_fields_hold_0 : M Fl := mSet 4 (mLst (mCons (mOp1 (gXf "rule") (mOp2 gIx (mVar 0) (mC (.int 0)))) (mCons (mOp1 (gXf "line") (mOp2 gIx (mVar 0) (mC (.int 1)))) (mCons (mOp1 (gXf "rule") (mOp2 gIx (mVar 0) (mC (.int 1)))) (mCons (mOp1 (gXf "name") (mOp2 gIx (mVar 0) (mC (.int 2)))) (mCons (mOp1 (gXf "position") (mOp2 gIx (mVar 0) (mC (.int 4)))) (mCons (mOp1 (gXf "position") (mOp2 gIx (mVar 0) (mC (.int 5)))) (mNil))))))))
def S_law_fields_hold_1 : M Fl := mSet 4 (mOp2 gAdd (mVar 4) (mLst (mCons (mOp1 (gXf "place") (mOp2 gIx (mVar 0) (mC (.int 6)))) (mCons (mOp1 (gXf "position") (mOp2 gIx (mVar 0) (mC (.int 7)))) (mCons (mOp1 (gXf "point") (mOp2 gIx (mVar 0) (mC (.int 8)))) (mCons (mOp1 (gXf "what") (mOp2 gIx (mVar 0) (mC (.int 9)))) (mCons (mOp1 (gXf "row") (mOp2 gIx (mVar 0) (mC (.int 10)))) (mCons (mOp1 (gXf "tag") (mOp2 gIx (mVar 0) (mC (.int 11)))) (mNil)))))))))
def S_law_fields_hold_2 : M Fl := mSet 4 (mOp2 gAdd (mVar 4) (mLst (mCons (mOp1 (gXf "node") (mOp2 gIx (mVar 0) (mC (.int 12)))) (mCons (mOp1 (gXf "kind") (mOp2 gIx (mVar 0) (mC (.int 13)))) (mCons (mOp1 (gXf "position") (mOp2 gIx (mVar 0) (mC (.int 14)))) (mCons (mOp1 (gXf "hand") (mOp2 gIx (mVar 0) (mC (.int 15)))) (mCons (mOp1 (gXf "move") (mOp2 gIx (mVar 0) (mC (.int 16)))) (mCons (mOp1 (gXf "rule") (mOp2 gIx (mVar 0) (mC (.int 16)))) (mNil)))))))))
def S_law_fields_hold_3 : M Fl := mSet 4 (mOp2 gAdd (mVar 4) (mLst (mCons (mOp1 (gXf "lock") (mOp2 gIx (mVar 0) (mC (.int 17)))) (mCons (mOp1 (gXf "hand") (mOp2 gIx (mVar 0) (mC (.int 17)))) (mCons (mOp1 (gXf "position") (mOp2 gIx (mVar 0) (mC (.int 18)))) (mCons (mOp1 (gXf "cycle") (mOp2 gIx (mVar 0) (mC (.int 19)))) (mCons (mOp1 (gXf "short") (mOp2 gIx (mVar 0) (mC (.int 19)))) (mNil))))))))
def S_law_fields_hold_4 : M Fl := mSet 4 (mOp2 gAdd (mVar 4) (mLst (mCons (mOp1 (gXf "request") (mOp2 gIx (mVar 0) (mC (.int 20)))) (mCons (mOp1 (gXf "cycle") (mOp2 gIx (mVar 0) (mC (.int 21)))) (mCons (mOp1 (gXf "part") (mOp2 gIx (mVar 0) (mC (.int 22)))) (mCons (mOp1 (gXf "routine") (mOp2 gIx (mVar 0) (mC (.int 23)))) (mCons (mOp1 (gXf "nodes") (mOp2 gIx (mVar 0) (mC (.int 23)))) (mNil))))))))
def S_law_fields_hold_5 : M Fl := mSet 4 (mOp2 gAdd (mVar 4) (mLst (mCons (mOp1 (gXf "cycle") (mOp2 gIx (mVar 0) (mC (.int 24)))) (mCons (mOp1 (gXf "state") (mOp2 gIx (mVar 0) (mC (.int 25)))) (mCons (mOp1 (gXf "rule") (mOp2 gIx (mVar 0) (mC (.int 26)))) (mNil))))))
def S_law_fields_hold_6 : M Fl := mSet 5 (mLst (mCons (mVar 2) (mCons (mVar 1) (mCons (mVar 2) (mCons (mVar 3) (mCons (mVar 1) (mCons (mVar 1) (mCons (mVar 3) (mCons (mVar 1) (mCons (mVar 3) (mCons (mVar 2) (mCons (mVar 3) (mCons (mVar 2) (mNil))))))))))))))
def S_law_fields_hold_7 : M Fl := mSet 5 (mOp2 gAdd (mVar 5) (mLst (mCons (mVar 3) (mCons (mVar 2) (mCons (mVar 1) (mCons (mVar 3) (mCons (mVar 3) (mCons (mVar 2) (mCons (mVar 2) (mCons (mVar 1) (mCons (mVar 1) (mCons (mVar 3) (mCons (mVar 1) (mNil))))))))))))))
def S_law_fields_hold_8 : M Fl := mRet (mOp2 gEq (mVar 4) (mOp2 gAdd (mVar 5) (mLst (mCons (mVar 3) (mCons (mVar 3) (mCons (mVar 3) (mCons (mVar 2) (mCons (mVar 3) (mCons (mVar 3) (mCons (mVar 3) (mCons (mVar 2) (mNil))))))))))))
def T_law_fields_hold_8 : M Fl := S_law_fields_hold_8
def T_law_fields_hold_7 : M Fl := mSq S_law_fields_hold_7 T_law_fields_hold_8
def T_law_fields_hold_6 : M Fl := mSq S_law_fields_hold_6 T_law_fields_hold_7
def T_law_fields_hold_5 : M Fl := mSq S_law_fields_hold_5 T_law_fields_hold_6
def T_law_fields_hold_4 : M Fl := mSq S_law_fields_hold_4 T_law_fields_hold_5
def T_law_fields_hold_3 : M Fl := mSq S_law_fields_hold_3 T_law_fields_hold_4
def T_law_fields_hold_2 : M Fl := mSq S_law_fields_hold_2 T_law_fields_hold_3
def T_law_fields_hold_1 : M Fl := mSq S_law_fields_hold_1 T_law_fields_hold_2
def T_law_fields_hold_0 : M Fl := mSq S_law_fields_hold_0 T_law_fields_hold_1
theorem B_law_fields_hold : b_law_fields_hold = T_law_fields_hold_0 := rfl
def S_q_law_1_0 : M Fl := mIfS (mOrT (mNotT (mB (mOp1 (gIsV fun c => subC c 0) (mVar 12)))) (mNotT (mB (mOp1 (gIsV fun _ => true) (mVar 12))))) (mRet (mC (.bl false))) (mNx)
def S_q_law_1_1 : M Fl := mIfS (mB (mOp2 gNe (mLc (mEnm (mCons (mCallV f_law_classes (mCons (mVar 12) (mNil))) (mNil))) [13, 14] (gTu [gNm 13, gNm 14]) (mB (mVar 14)) (mVar 13)) (mLst (mCons (mVar 11) (mNil))))) (mRet (mC (.bl false))) (mNx)
def T_q_law_1_1 : M Fl := S_q_law_1_1
def T_q_law_1_0 : M Fl := mSq S_q_law_1_0 T_q_law_1_1
theorem B_q_law_1 : q_law_1 = T_q_law_1_0 := rfl
def S_q_law_2_0 : M Fl := mSet 6 (mCallV f_is_name (mCons (mVar 7) (mNil)))
def S_q_law_2_1 : M Fl := mIfS (mOrT (mNotT (mB (mOp1 (gIsi "bool") (mVar 6)))) (mB (mVar 6))) (mRet (mC (.bl false))) (mNx)
def T_q_law_2_1 : M Fl := S_q_law_2_1
def T_q_law_2_0 : M Fl := mSq S_q_law_2_0 T_q_law_2_1
theorem B_q_law_2 : q_law_2 = T_q_law_2_0 := rfl
def S_q_law_3_0 : M Fl := mSet 5 (mCallR f_law_value 1 (mCons (mVar 2) (mNil)))
def S_q_law_3_1 : M Fl := mSet 6 (mCallV f_is_name (mCons (mVar 5) (mNil)))
def S_q_law_3_2 : M Fl := mIfS (mOrT (mNotT (mB (mOp1 (gIsi "bool") (mVar 6)))) (mB (mOp2 gNe (mVar 6) (mCallV f_law_due (mCons (mVar 5) (mCons (mVar 2) (mNil))))))) (mRet (mC (.bl false))) (mNx)
def T_q_law_3_2 : M Fl := S_q_law_3_2
def T_q_law_3_1 : M Fl := mSq S_q_law_3_1 T_q_law_3_2
def T_q_law_3_0 : M Fl := mSq S_q_law_3_0 T_q_law_3_1
theorem B_q_law_3 : q_law_3 = T_q_law_3_0 := rfl
def S_law_0 : M Fl := mSet 1 (mCallV f_law_draws (mCons (mVar 0) (mNil)))
def S_law_1 : M Fl := mSet 2 (mCallV f_law_words mNil)
def S_law_2 : M Fl := mSet 3 (mLst (mCons (mC (.str "form")) (mCons (mC (.str "place")) (mCons (mC (.str "many")) (mCons (mC (.str "pair")) (mCons (mC (.str "twice")) (mCons (mC (.str "scope")) (mCons (mC (.str "unknown")) (mCons (mC (.str "fit")) (mCons (mC (.str "needs")) (mCons (mC (.str "order")) (mCons (mC (.str "end")) (mNil)))))))))))))
def S_law_3 : M Fl := mIfS (mOrT (mNotT (mB (mOp1 (gIsi "tuple") (mC c_RESERVED)))) (mB (mOp2 gNe (mOpN gList (mCons (mC c_RESERVED) (mNil))) (mVar 2)))) (mRet (mC (.bl false))) (mNx)
def S_law_4 : M Fl := mIfS (mOrT (mNotT (mB (mOp1 (gIsi "tuple") (mC c_RULES)))) (mB (mOp2 gNe (mOpN gList (mCons (mC c_RULES) (mNil))) (mVar 3)))) (mRet (mC (.bl false))) (mNx)
def S_law_5 : M Fl := mFor (mRng1 (mCons (mC (.int 16)) (mNil))) (gNm 4) q_law_3
def S_law_6 : M Fl := mFor (mSeq (mVar 2)) (gNm 7) q_law_2
def S_law_7 : M Fl := mSet 8 (mOp2 gSub (mCallR f_law_next 1 (mCons (mC (.int 720)) (mNil))) (mC (.int 9)))
def S_law_8 : M Fl := mSet 7 (mOp2 gIx (mVar 3) (mCallR f_law_next 1 (mCons (mC (.int 11)) (mNil))))
def S_law_9 : M Fl := mSet 9 (mTup (mCons (mVar 7) (mCons (mVar 8) (mCons (mCallR f_law_next 1 (mCons (mC (.int 720)) (mNil))) (mNil)))))
def S_law_10 : M Fl := mSet 10 (mCallV f_law_errors (mCons (mVar 8) (mCons (mVar 7) (mCons (mVar 9) (mNil)))))
def S_law_11 : M Fl := mFor (mEnm (mCons (mVar 10) (mNil))) (gTu [gNm 11, gNm 12]) q_law_1
def S_law_12 : M Fl := mRet (mCallV f_law_fields_hold (mCons (mVar 10) (mCons (mVar 8) (mCons (mVar 7) (mCons (mVar 9) (mNil))))))
def T_law_12 : M Fl := S_law_12
def T_law_11 : M Fl := mSq S_law_11 T_law_12
def T_law_10 : M Fl := mSq S_law_10 T_law_11
def T_law_9 : M Fl := mSq S_law_9 T_law_10
def T_law_8 : M Fl := mSq S_law_8 T_law_9
def T_law_7 : M Fl := mSq S_law_7 T_law_8
def T_law_6 : M Fl := mSq S_law_6 T_law_7
def T_law_5 : M Fl := mSq S_law_5 T_law_6
def T_law_4 : M Fl := mSq S_law_4 T_law_5
def T_law_3 : M Fl := mSq S_law_3 T_law_4
def T_law_2 : M Fl := mSq S_law_2 T_law_3
def T_law_1 : M Fl := mSq S_law_1 T_law_2
def T_law_0 : M Fl := mSq S_law_0 T_law_1
theorem B_law : b_law = T_law_0 := rfl
end K00
set_option Elab.async false
set_option linter.all false
set_option maxRecDepth 100000
set_option maxHeartbeats 8000000
namespace PL
open PySem L2 PM TL
open PySem.PyData (strOk)
def c_RESERVED : D := .tup [.str "lock", .str "kind", .str "body", .str "routine", .str "done", .str "do", .str "with", .str "block", .str "either", .str "or", .str "repeat", .str "close", .str "drop", .str "give", .str "skip", .str "make", .str "copy", .str "fetch", .str "read", .str "keep", .str "write", .str "put", .str "call", .str "take", .str "as"]
def c_LETTERS : D := .str "abcdefghijklmnopqrstuvwxyz"
def c_DIGITS : D := .str "0123456789"
def c_MOST_CHARACTERS : D := .int 8
def q_is_name_1 : M Fl := mIfS (mAndT (mB (mOp2 (gIn true) (mVar 1) (mC c_LETTERS))) (mB (mOp2 (gIn true) (mVar 1) (mC c_DIGITS)))) (mRet (mC (.bl false))) (mNx)
def b_is_name : M Fl := mSq (mIfS (mNotT (mB (mOp1 (gIsi "str") (mVar 0)))) (mRet (mC (.bl false))) (mNx)) (mSq (mIfS (mOrT (mB (mOp2 gEq (mVar 0) (mC (.str "")))) (mOrT (mB (mOp2 gGt (mOpN gLen (mCons (mVar 0) (mNil))) (mC c_MOST_CHARACTERS))) (mB (mOp2 (gIn false) (mVar 0) (mC c_RESERVED))))) (mRet (mC (.bl false))) (mNx)) (mSq (mFor (mSeq (mVar 0)) (gNm 1) q_is_name_1) (mRet (mOp2 (gIn false) (mOp2 gIx (mVar 0) (mC (.int 0))) (mC c_LETTERS)))))
def f_is_name : M Rv := fnOf 1 2 b_is_name
def q_are_names_1 : M Fl := mIfS (mNotT (mB (mCallV f_is_name (mCons (mVar 1) (mNil))))) (mRet (mC (.bl false))) (mNx)
def b_are_names : M Fl := mSq (mFor (mSeq (mVar 0)) (gNm 1) q_are_names_1) (mRet (mC (.bl true)))
def f_are_names : M Rv := fnOf 1 2 b_are_names
def q_law_draws_1 : M Fl := mIfS (mAndT (mB (mOp2 gGt (mVar 4) (mC (.int 0)))) (mB (mOp2 gLt (mOpN gLen (mCons (mVar 1) (mNil))) (mC (.int 600))))) (mSq (mDo (mMut gAppend 1 (mCons (mOp2 gMod (mOpN gInt (mCons (mVar 4) (mNil))) (mC (.int 720))) (mNil)))) (mSet 4 (mOp2 gFdiv (mVar 4) (mC (.int 720))))) (mNx)
def q_law_draws_2 : M Fl := mSq (mSet 6 (mOp2 gMod (mOpN gInt (mCons (mOp2 gAdd (mOp2 gAdd (mOp2 gMul (mVar 6) (mC (.int 69621))) (mOp2 gMul (mVar 4) (mC (.int 31)))) (mVar 5)) (mNil))) (mC (.int 2147483629)))) (mIfS (mB (mOp2 gLt (mOpN gLen (mCons (mVar 1) (mNil))) (mC (.int 600)))) (mDo (mMut gAppend 1 (mCons (mOp2 gFdiv (mVar 6) (mC (.int 127))) (mNil)))) (mNx))
def q_law_draws_3 : M Fl := mSq (mSet 4 (mOp2 gAdd (mOp2 gMul (mC (.int 2)) (mOpN gAbs (mCons (mVar 3) (mNil)))) (mOpN gInt (mCons (mOp2 gLt (mVar 3) (mC (.int 0))) (mNil))))) (mIfS (mB (mOp2 gGe (mVar 4) (mOp2 gMul (mC (.int 2)) (mOp2 gPow (mC (.int 10)) (mC (.int 18)))))) (mFor (mRng1 (mCons (mC (.int 60)) (mNil))) (gNm 5) q_law_draws_1) (mSq (mSet 6 (mOp2 gMod (mOpN gInt (mCons (mOp2 gAdd (mOp2 gAdd (mOp2 gMul (mVar 4) (mC (.int 48271))) (mOp2 gMul (mVar 2) (mC (.int 7919)))) (mC (.int 12345))) (mNil))) (mC (.int 2147483647)))) (mFor (mRng1 (mCons (mC (.int 6)) (mNil))) (gNm 5) q_law_draws_2)))
def b_law_draws : M Fl := mSq (mSet 1 (mLst (mNil))) (mSq (mFor (mEnm (mCons (mSl (mVar 0) none (some (mC (.int 63)))) (mNil))) (gTu [gNm 2, gNm 3]) q_law_draws_3) (mRet (mVar 1)))
def f_law_draws : M Rv := fnOf 1 7 b_law_draws
def b_law_next : M Fl := mSq (mIfS (mB (mOp2 gEq (mOpN gLen (mCons (mVar 0) (mNil))) (mC (.int 0)))) (mRet (mC (.int 0))) (mNx)) (mRet (mOp2 gMod (mOpN gInt (mCons (mMut gPopAt 0 (mCons (mC (.int 0)) (mNil))) (mNil))) (mVar 1)))
def f_law_next : M Rv := fnOf 2 2 b_law_next
def q_law_pool_1 : M Fl := mSq (mSet 8 (mOp2 gMod (mOpN gInt (mCons (mOp2 gAdd (mVar 5) (mOp2 gMul (mC (.int 5)) (mVar 7))) (mNil))) (mC (.int 28)))) (mSq (mSet 3 (mOp2 gIx (mVar 1) (mOp2 gMod (mVar 7) (mC (.int 3))))) (mSq (mIfS (mAndT (mB (mOp2 gGt (mVar 8) (mC (.int 17)))) (mB (mOp2 gEq (mVar 3) (mC (.str ""))))) (mSet 3 (mC (.str "a"))) (mNx)) (mSq (mSet 9 (mOp2 gMod (mOpN gInt (mCons (mOp2 gAdd (mOp2 gFdiv (mVar 7) (mC (.int 3))) (mOpN gLen (mCons (mVar 3) (mNil)))) (mNil))) (mOp2 gAdd (mOpN gLen (mCons (mVar 3) (mNil))) (mC (.int 1))))) (mSq (mIfS (mAndT (mB (mOp2 gGt (mVar 8) (mC (.int 17)))) (mB (mOp2 gEq (mVar 9) (mC (.int 0))))) (mSet 9 (mC (.int 1))) (mNx)) (mSq (mSet 10 (mOp2 gAdd (mOp2 gAdd (mSl (mVar 3) none (some (mVar 9))) (mOp2 gIx (mC (.str "ijklmnopqrstuvwxyz0123456789")) (mVar 8))) (mSl (mVar 3) (some (mVar 9)) none))) (mSq (mIfS (mB (mOp2 (gIn false) (mVar 10) (mLst (mCons (mC (.str "do")) (mCons (mC (.str "as")) (mCons (mC (.str "read")) (mCons (mC (.str "fetch")) (mNil)))))))) (mSet 10 (mOp2 gAdd (mVar 10) (mC (.str "0")))) (mNx)) (mDo (mMut gAppend 6 (mCons (mVar 10) (mNil))))))))))
def q_law_pool_2 : M Fl := mSet 3 (mOp2 gAdd (mVar 3) (mOp2 gIx (mC (.str "abcdefgh")) (mCallR f_law_next 0 (mCons (mC (.int 8)) (mNil)))))
def q_law_pool_3 : M Fl := mSq (mSet 3 (mC (.str ""))) (mSq (mFor (mRng1 (mCons (mCallR f_law_next 0 (mCons (mC (.int 8)) (mNil))) (mNil))) (gNm 4) q_law_pool_2) (mDo (mMut gAppend 1 (mCons (mVar 3) (mNil)))))
def b_law_pool : M Fl := mSq (mSet 1 (mLst (mNil))) (mSq (mFor (mRng1 (mCons (mC (.int 3)) (mNil))) (gNm 2) q_law_pool_3) (mSq (mSet 5 (mCallR f_law_next 0 (mCons (mC (.int 28)) (mNil)))) (mSq (mSet 6 (mLst (mNil))) (mSq (mFor (mRng1 (mCons (mC (.int 28)) (mNil))) (gNm 7) q_law_pool_1) (mRet (mVar 6))))))
def f_law_pool : M Rv := fnOf 1 11 b_law_pool
def S_q_law_draws_2_0 : M Fl := mSet 6 (mOp2 gMod (mOpN gInt (mCons (mOp2 gAdd (mOp2 gAdd (mOp2 gMul (mVar 6) (mC (.int 69621))) (mOp2 gMul (mVar 4) (mC (.int 31)))) (mVar 5)) (mNil))) (mC (.int 2147483629)))
def S_q_law_draws_2_1 : M Fl := mIfS (mB (mOp2 gLt (mOpN gLen (mCons (mVar 1) (mNil))) (mC (.int 600)))) (mDo (mMut gAppend 1 (mCons (mOp2 gFdiv (mVar 6) (mC (.int 127))) (mNil)))) (mNx)
def T_q_law_draws_2_1 : M Fl := S_q_law_draws_2_1
def T_q_law_draws_2_0 : M Fl := mSq S_q_law_draws_2_0 T_q_law_draws_2_1
theorem B_q_law_draws_2 : q_law_draws_2 = T_q_law_draws_2_0 := rfl
def S_q_law_draws_3_0 : M Fl := mSet 4 (mOp2 gAdd (mOp2 gMul (mC (.int 2)) (mOpN gAbs (mCons (mVar 3) (mNil)))) (mOpN gInt (mCons (mOp2 gLt (mVar 3) (mC (.int 0))) (mNil))))
def S_q_law_draws_3_1 : M Fl := mIfS (mB (mOp2 gGe (mVar 4) (mOp2 gMul (mC (.int 2)) (mOp2 gPow (mC (.int 10)) (mC (.int 18)))))) (mFor (mRng1 (mCons (mC (.int 60)) (mNil))) (gNm 5) q_law_draws_1) (mSq (mSet 6 (mOp2 gMod (mOpN gInt (mCons (mOp2 gAdd (mOp2 gAdd (mOp2 gMul (mVar 4) (mC (.int 48271))) (mOp2 gMul (mVar 2) (mC (.int 7919)))) (mC (.int 12345))) (mNil))) (mC (.int 2147483647)))) (mFor (mRng1 (mCons (mC (.int 6)) (mNil))) (gNm 5) q_law_draws_2))
def T_q_law_draws_3_1 : M Fl := S_q_law_draws_3_1
def T_q_law_draws_3_0 : M Fl := mSq S_q_law_draws_3_0 T_q_law_draws_3_1
theorem B_q_law_draws_3 : q_law_draws_3 = T_q_law_draws_3_0 := rfl
def S_law_draws_0 : M Fl := mSet 1 (mLst (mNil))
def S_law_draws_1 : M Fl := mFor (mEnm (mCons (mSl (mVar 0) none (some (mC (.int 63)))) (mNil))) (gTu [gNm 2, gNm 3]) q_law_draws_3
def S_law_draws_2 : M Fl := mRet (mVar 1)
def T_law_draws_2 : M Fl := S_law_draws_2
def T_law_draws_1 : M Fl := mSq S_law_draws_1 T_law_draws_2
def T_law_draws_0 : M Fl := mSq S_law_draws_0 T_law_draws_1
theorem B_law_draws : b_law_draws = T_law_draws_0 := rfl
def S_law_next_0 : M Fl := mIfS (mB (mOp2 gEq (mOpN gLen (mCons (mVar 0) (mNil))) (mC (.int 0)))) (mRet (mC (.int 0))) (mNx)
def S_law_next_1 : M Fl := mRet (mOp2 gMod (mOpN gInt (mCons (mMut gPopAt 0 (mCons (mC (.int 0)) (mNil))) (mNil))) (mVar 1))
def T_law_next_1 : M Fl := S_law_next_1
def T_law_next_0 : M Fl := mSq S_law_next_0 T_law_next_1
theorem B_law_next : b_law_next = T_law_next_0 := rfl
def S_q_law_pool_1_0 : M Fl := mSet 8 (mOp2 gMod (mOpN gInt (mCons (mOp2 gAdd (mVar 5) (mOp2 gMul (mC (.int 5)) (mVar 7))) (mNil))) (mC (.int 28)))
def S_q_law_pool_1_1 : M Fl := mSet 3 (mOp2 gIx (mVar 1) (mOp2 gMod (mVar 7) (mC (.int 3))))
def S_q_law_pool_1_2 : M Fl := mIfS (mAndT (mB (mOp2 gGt (mVar 8) (mC (.int 17)))) (mB (mOp2 gEq (mVar 3) (mC (.str ""))))) (mSet 3 (mC (.str "a"))) (mNx)
def S_q_law_pool_1_3 : M Fl := mSet 9 (mOp2 gMod (mOpN gInt (mCons (mOp2 gAdd (mOp2 gFdiv (mVar 7) (mC (.int 3))) (mOpN gLen (mCons (mVar 3) (mNil)))) (mNil))) (mOp2 gAdd (mOpN gLen (mCons (mVar 3) (mNil))) (mC (.int 1))))
def S_q_law_pool_1_4 : M Fl := mIfS (mAndT (mB (mOp2 gGt (mVar 8) (mC (.int 17)))) (mB (mOp2 gEq (mVar 9) (mC (.int 0))))) (mSet 9 (mC (.int 1))) (mNx)
def S_q_law_pool_1_5 : M Fl := mSet 10 (mOp2 gAdd (mOp2 gAdd (mSl (mVar 3) none (some (mVar 9))) (mOp2 gIx (mC (.str "ijklmnopqrstuvwxyz0123456789")) (mVar 8))) (mSl (mVar 3) (some (mVar 9)) none))
def S_q_law_pool_1_6 : M Fl := mIfS (mB (mOp2 (gIn false) (mVar 10) (mLst (mCons (mC (.str "do")) (mCons (mC (.str "as")) (mCons (mC (.str "read")) (mCons (mC (.str "fetch")) (mNil)))))))) (mSet 10 (mOp2 gAdd (mVar 10) (mC (.str "0")))) (mNx)
def S_q_law_pool_1_7 : M Fl := mDo (mMut gAppend 6 (mCons (mVar 10) (mNil)))
def T_q_law_pool_1_7 : M Fl := S_q_law_pool_1_7
def T_q_law_pool_1_6 : M Fl := mSq S_q_law_pool_1_6 T_q_law_pool_1_7
def T_q_law_pool_1_5 : M Fl := mSq S_q_law_pool_1_5 T_q_law_pool_1_6
def T_q_law_pool_1_4 : M Fl := mSq S_q_law_pool_1_4 T_q_law_pool_1_5
def T_q_law_pool_1_3 : M Fl := mSq S_q_law_pool_1_3 T_q_law_pool_1_4
def T_q_law_pool_1_2 : M Fl := mSq S_q_law_pool_1_2 T_q_law_pool_1_3
def T_q_law_pool_1_1 : M Fl := mSq S_q_law_pool_1_1 T_q_law_pool_1_2
def T_q_law_pool_1_0 : M Fl := mSq S_q_law_pool_1_0 T_q_law_pool_1_1
theorem B_q_law_pool_1 : q_law_pool_1 = T_q_law_pool_1_0 := rfl
def S_q_law_pool_3_0 : M Fl := mSet 3 (mC (.str ""))
def S_q_law_pool_3_1 : M Fl := mFor (mRng1 (mCons (mCallR f_law_next 0 (mCons (mC (.int 8)) (mNil))) (mNil))) (gNm 4) q_law_pool_2
def S_q_law_pool_3_2 : M Fl := mDo (mMut gAppend 1 (mCons (mVar 3) (mNil)))
def T_q_law_pool_3_2 : M Fl := S_q_law_pool_3_2
def T_q_law_pool_3_1 : M Fl := mSq S_q_law_pool_3_1 T_q_law_pool_3_2
def T_q_law_pool_3_0 : M Fl := mSq S_q_law_pool_3_0 T_q_law_pool_3_1
theorem B_q_law_pool_3 : q_law_pool_3 = T_q_law_pool_3_0 := rfl
def S_law_pool_0 : M Fl := mSet 1 (mLst (mNil))
def S_law_pool_1 : M Fl := mFor (mRng1 (mCons (mC (.int 3)) (mNil))) (gNm 2) q_law_pool_3
def S_law_pool_2 : M Fl := mSet 5 (mCallR f_law_next 0 (mCons (mC (.int 28)) (mNil)))
def S_law_pool_3 : M Fl := mSet 6 (mLst (mNil))
def S_law_pool_4 : M Fl := mFor (mRng1 (mCons (mC (.int 28)) (mNil))) (gNm 7) q_law_pool_1
def S_law_pool_5 : M Fl := mRet (mVar 6)
def T_law_pool_5 : M Fl := S_law_pool_5
def T_law_pool_4 : M Fl := mSq S_law_pool_4 T_law_pool_5
def T_law_pool_3 : M Fl := mSq S_law_pool_3 T_law_pool_4
def T_law_pool_2 : M Fl := mSq S_law_pool_2 T_law_pool_3
def T_law_pool_1 : M Fl := mSq S_law_pool_1 T_law_pool_2
def T_law_pool_0 : M Fl := mSq S_law_pool_0 T_law_pool_1
theorem B_law_pool : b_law_pool = T_law_pool_0 := rfl
def resv : List Str := ["lock", "kind", "body", "routine", "done", "do", "with", "block", "either", "or", "repeat", "close", "drop", "give", "skip", "make", "copy", "fetch", "read", "keep", "write", "put", "call", "take", "as"]
def ltr : Str := "abcdefghijklmnopqrstuvwxyz"
def dgt : Str := "0123456789"
def okC (c : Nat) : Bool := decide (c ∈ ltr.cps.toList) || decide (c ∈ dgt.cps.toList)
def isN (x : Str) : Bool := !(x == "") && decide (x.length ≤ 8) && !(resv.any fun z => z == x) && x.cps.toList.all okC && (match x.cps.toList with | c :: _ => decide (c ∈ ltr.cps.toList) | [] => false)
theorem gNm_ok {i : Nat} {d : D} {ρ : En} (h : isBor ρ[i]? = false) : gNm i d ρ = some (ρ.set i (.val d)) := by
  unfold gNm
  rw [h]
  rfl
theorem inC (neg : Bool) (c : Nat) (z : Str) : gIn neg (.str ⟨#[c]⟩) (.str z) = some (.val (.bl (neg ^^ decide (c ∈ z.cps.toList)))) := rfl
theorem hL : c_LETTERS = .str ltr := rfl
theorem hD : c_DIGITS = .str dgt := rfl
theorem loop_nx {h : D → En → Option En} {b : M Fl} {d : D} {ds : List D} {ρ ρ1 ρ2 : En} (e1 : h d ρ = some ρ1) (e2 : b ρ1 = .ok .nx ρ2) : mLoop h b (d :: ds) ρ = mLoop h b ds ρ2 := by
  rw [mLoop, e1]
  dsimp only
  rw [e2]
theorem loop_rt {h : D → En → Option En} {b : M Fl} {d : D} {ds : List D} {ρ ρ1 ρ2 : En} {r : Rv} (e1 : h d ρ = some ρ1) (e2 : b ρ1 = .ok (.rt r) ρ2) : mLoop h b (d :: ds) ρ = .ok (.rt r) ρ2 := by
  rw [mLoop, e1]
  dsimp only
  rw [e2]
theorem qn1_eq (x : D) (c : Nat) : q_is_name_1 [.val x, .val (.str ⟨#[c]⟩)] = .ok (if okC c then .nx else .rt (.val (.bl false))) [.val x, .val (.str ⟨#[c]⟩)] := by
  by_cases h1 : c ∈ ltr.cps.toList <;> by_cases h2 : c ∈ dgt.cps.toList <;>
    simp [q_is_name_1, mIfS, mAndT, mB, mOp2, mVar, mC, deref, hL, hD, inC, tru, mNx, mRet, okC, h1, h2]
theorem loop_all {h : D → En → Option En} {b : M Fl} {α : Type} {P : En → Prop} {p : α → Bool} {g : α → D} {r : Rv} (hs : ∀ a ρ, P ρ → ∃ ρ1 ρ2, h (g a) ρ = some ρ1 ∧ b ρ1 = .ok (if p a then .nx else .rt r) ρ2 ∧ P ρ2) : ∀ (l : List α) (ρ : En), P ρ → ∃ ρ', P ρ' ∧ mLoop h b (l.map g) ρ = .ok (if l.all p then .nx else .rt r) ρ'
  | [], ρ, q => ⟨ρ, q, rfl⟩
  | a :: l, ρ, q => by
    obtain ⟨ρ1, ρ2, e1, e2, q2⟩ := hs a ρ q
    by_cases c : p a = true
    · rw [c, if_pos rfl] at e2
      obtain ⟨ρ', q', e'⟩ := loop_all hs l ρ2 q2
      exact ⟨ρ', q', by rw [List.map_cons, loop_nx e1 e2, e', List.all_cons, c, Bool.true_and]⟩
    · have c : p a = false := by simpa using c
      rw [c] at e2
      exact ⟨ρ2, q2, by rw [List.map_cons, loop_rt e1 e2, List.all_cons, c]; rfl⟩
theorem loop_name {x : D} (cs : List Nat) : ∃ s', mLoop (gNm 1) q_is_name_1 (cs.map fun c => .str ⟨#[c]⟩) [.val x, .un] = .ok (if cs.all okC then .nx else .rt (.val (.bl false))) [.val x, s'] := by
  obtain ⟨ρ', ⟨s', rfl, _⟩, e⟩ := loop_all (h := gNm 1) (b := q_is_name_1) (P := fun ρ => ∃ s, ρ = [.val x, s] ∧ isBor (some s) = false) (p := okC) (g := fun c => .str ⟨#[c]⟩) (r := .val (.bl false)) (fun a ρ ⟨s, e, h⟩ => by
    subst e
    exact ⟨_, _, gNm_ok h, qn1_eq x a, _, rfl, rfl⟩) cs [.val x, .un] ⟨.un, rfl, rfl⟩
  exact ⟨s', e⟩
theorem isi_ok (T t : String) (d : D) (b : Bool) (h1 : tyD d = some t) (h2 : kitB t T = some b) : gIsi T d = some (.val (.bl b)) := by
  unfold gIsi
  rw [h1]
  dsimp only
  rw [h2]
theorem k_ss : kitB "str" "str" = some true := by decide +kernel
theorem k_is : kitB "int" "str" = some false := by decide +kernel
theorem k_ns : kitB "NoneType" "str" = some false := by decide +kernel
theorem k_ls : kitB "list" "str" = some false := by decide +kernel
theorem k_ts : kitB "tuple" "str" = some false := by decide +kernel
theorem k_tt : kitB "tuple" "tuple" = some true := by decide +kernel
theorem k_st : kitB "str" "tuple" = some false := by decide +kernel
theorem k_it : kitB "int" "tuple" = some false := by decide +kernel
theorem k_nt : kitB "NoneType" "tuple" = some false := by decide +kernel
theorem k_lt : kitB "list" "tuple" = some false := by decide +kernel
theorem k_bb : kitB "bool" "bool" = some true := by decide +kernel
def tyB (T : String) (d : D) : Bool := match tyD d with
  | some t => decide (t = T)
  | none => false
def plD : D → Bool
  | .obj _ _ _ => false
  | .scr _ => false
  | _ => true
theorem k_bs : kitB "bool" "str" = some false := by decide +kernel
theorem k_bt : kitB "bool" "tuple" = some false := by decide +kernel
theorem isi_str {d : D} (h : plD d = true) : gIsi "str" d = some (.val (.bl (tyB "str" d))) := by
  cases d with
  | non => exact isi_ok _ _ _ _ rfl k_ns
  | bl _ => exact isi_ok _ _ _ _ rfl k_bs
  | int _ => exact isi_ok _ _ _ _ rfl k_is
  | str _ => exact isi_ok _ _ _ _ rfl k_ss
  | lst _ => exact isi_ok _ _ _ _ rfl k_ls
  | tup _ => exact isi_ok _ _ _ _ rfl k_ts
  | obj _ _ _ => cases h
  | scr _ => cases h
theorem isi_tup {d : D} (h : plD d = true) : gIsi "tuple" d = some (.val (.bl (tyB "tuple" d))) := by
  cases d with
  | non => exact isi_ok _ _ _ _ rfl k_nt
  | bl _ => exact isi_ok _ _ _ _ rfl k_bt
  | int _ => exact isi_ok _ _ _ _ rfl k_it
  | str _ => exact isi_ok _ _ _ _ rfl k_st
  | lst _ => exact isi_ok _ _ _ _ rfl k_lt
  | tup _ => exact isi_ok _ _ _ _ rfl k_tt
  | obj _ _ _ => cases h
  | scr _ => cases h
theorem hR : c_RESERVED = .tup (resv.map D.str) := rfl
theorem hM : c_MOST_CHARACTERS = .int 8 := rfl
theorem in_strs (neg : Bool) (x : Str) (l : List Str) : gIn neg (.str x) (.tup (l.map D.str)) = some (.val (.bl (neg ^^ l.any fun z => z == x))) := by
  have h : (l.map D.str).all flatD = true := by simp [flatD]
  have q : ((fun z => eqD z (D.str x)) ∘ D.str) = fun z => z == x := funext fun z => by simp [eqD]
  unfold gIn
  dsimp only
  rw [h]
  simp only [flatD, Bool.and_self, if_true, List.any_map, q]
theorem in_lst (neg : Bool) (x : Str) (l : List Str) : gIn neg (.str x) (.lst (l.map D.str)) = some (.val (.bl (neg ^^ l.any fun z => z == x))) := by
  have h : (l.map D.str).all (pd 63) = true := by simp [pd]
  have q : ((fun z => eqD z (D.str x)) ∘ D.str) = fun z => z == x := funext fun z => by simp [eqD]
  unfold gIn
  dsimp only
  rw [h]
  simp only [pd, Bool.and_self, if_true, List.any_map, q]
theorem eq_ss (x y : Str) : gEq (.str x) (.str y) = some (.val (.bl (x == y))) := rfl
theorem eq_ii (i j : Int) : gEq (.int i) (.int j) = some (.val (.bl (i == j))) := rfl
theorem ne_ss (x y : Str) : gNe (.str x) (.str y) = some (.val (.bl (!(x == y)))) := rfl
theorem isi_s1 (x : Str) : gIsi "str" (.str x) = some (.val (.bl true)) := isi_ok _ _ _ _ rfl k_ss
theorem isi_s2 (x : List D) : gIsi "str" (.tup x) = some (.val (.bl false)) := isi_ok _ _ _ _ rfl k_ts
theorem isi_s3 (x : List D) : gIsi "str" (.lst x) = some (.val (.bl false)) := isi_ok _ _ _ _ rfl k_ls
theorem isi_s4 (x : Int) : gIsi "str" (.int x) = some (.val (.bl false)) := isi_ok _ _ _ _ rfl k_is
theorem isi_s5 : gIsi "str" .non = some (.val (.bl false)) := isi_ok _ _ _ _ rfl k_ns
theorem isi_t1 (x : Str) : gIsi "tuple" (.str x) = some (.val (.bl false)) := isi_ok _ _ _ _ rfl k_st
theorem isi_t2 (x : List D) : gIsi "tuple" (.tup x) = some (.val (.bl true)) := isi_ok _ _ _ _ rfl k_tt
theorem isi_t3 (x : List D) : gIsi "tuple" (.lst x) = some (.val (.bl false)) := isi_ok _ _ _ _ rfl k_lt
theorem isi_t4 (x : Int) : gIsi "tuple" (.int x) = some (.val (.bl false)) := isi_ok _ _ _ _ rfl k_it
theorem isi_t5 : gIsi "tuple" .non = some (.val (.bl false)) := isi_ok _ _ _ _ rfl k_nt
theorem isi_b1 (b : Bool) : gIsi "bool" (.bl b) = some (.val (.bl true)) := isi_ok _ _ _ _ rfl k_bb
theorem in_strsF (x : Str) (l : List Str) : gIn false (.str x) (.tup (l.map D.str)) = some (.val (.bl (l.any fun z => z == x))) := by rw [in_strs, Bool.false_xor]
theorem in_lstF (x : Str) (l : List Str) : gIn false (.str x) (.lst (l.map D.str)) = some (.val (.bl (l.any fun z => z == x))) := by rw [in_lst, Bool.false_xor]
theorem atI_zero {α : Type} (a : α) (l : List α) : atI (a :: l) 0 = some a := by
  simp [atI, ixN]
theorem cps_nil {x : Str} (h : x.cps.toList = []) : x = "" := by
  obtain ⟨⟨l⟩⟩ := x
  simp at h
  subst h
  rfl
theorem f_is_name_str (x : Str) (hx : x.length ≤ sizeLine) : f_is_name [.val (.str x)] = .ok (.val (.bl (isN x))) [.val (.str x)] := by
  obtain ⟨s', e⟩ := loop_name (x := .str x) x.cps.toList
  by_cases h1 : x = ""
  · subst h1
    rfl
  · by_cases h2 : x.length ≤ 8
    · have h2' : ¬ (8 : Int) < (x.length : Int) := by omega
      by_cases h3 : (resv.any fun z => z == x) = true
      · simp [isBor, fnOf, outs, mSq, mIfS, mNotT, mB, mOp1, mOp2, mOpN, mVar, mC, mCons, mNil, deref, derefs, tru, mNx, mRet, mRetN, mOrT, mAndT, mOrV, mAndV, mNotV, mIf, mSet, mDo, mFor, mSeq, mTup, mLst, mSl, mOptInt, esc, escs, gLen, gInt, gI0, gI, gNeg, gSl, gTuple, gList, eq_ss, eq_ii, ne_ss, in_strs, in_lst, in_strsF, in_lstF, isi_s1, isi_s2, isi_s3, isi_s4, isi_s5, isi_t1, isi_t2, isi_t3, isi_t4, isi_t5, isi_b1, f_is_name, b_is_name, isN, h1, hx, hM, hR, h3, h2, h2']
      · cases q : x.cps.toList with
        | nil => exact absurd (cps_nil q) h1
        | cons c r =>
          rw [q] at e
          by_cases h4 : (c :: r).all okC = true
          · rw [h4, if_pos rfl] at e
            simp only [List.map_cons] at e
            simp [isBor, fnOf, outs, mSq, mIfS, mNotT, mB, mOp1, mOp2, mOpN, mVar, mC, mCons, mNil, deref, derefs, tru, mNx, mRet, mRetN, mOrT, mAndT, mOrV, mAndV, mNotV, mIf, mSet, mDo, mFor, mSeq, mTup, mLst, mSl, mOptInt, esc, escs, gLen, gInt, gI0, gI, gNeg, gSl, gTuple, gList, eq_ss, eq_ii, ne_ss, in_strs, in_lst, in_strsF, in_lstF, isi_s1, isi_s2, isi_s3, isi_s4, isi_s5, isi_t1, isi_t2, isi_t3, isi_t4, isi_t5, isi_b1, f_is_name, b_is_name, isN, h1, hx, hM, hR, h3, h2, h2', itemsD, q, e, gIx, atI_zero, hL, inC]
            intro _
            simpa using h4
          · rw [if_neg h4] at e
            simp only [List.map_cons] at e
            simp [isBor, fnOf, outs, mSq, mIfS, mNotT, mB, mOp1, mOp2, mOpN, mVar, mC, mCons, mNil, deref, derefs, tru, mNx, mRet, mRetN, mOrT, mAndT, mOrV, mAndV, mNotV, mIf, mSet, mDo, mFor, mSeq, mTup, mLst, mSl, mOptInt, esc, escs, gLen, gInt, gI0, gI, gNeg, gSl, gTuple, gList, eq_ss, eq_ii, ne_ss, in_strs, in_lst, in_strsF, in_lstF, isi_s1, isi_s2, isi_s3, isi_s4, isi_s5, isi_t1, isi_t2, isi_t3, isi_t4, isi_t5, isi_b1, f_is_name, b_is_name, isN, h1, hx, hM, hR, h3, h2, h2', itemsD, q, e, gIx, atI_zero, hL, inC]
            intro a b
            exact absurd (by simpa using ⟨a, b⟩) h4
    · have h2' : (8 : Int) < (x.length : Int) := by omega
      simp [isBor, fnOf, outs, mSq, mIfS, mNotT, mB, mOp1, mOp2, mOpN, mVar, mC, mCons, mNil, deref, derefs, tru, mNx, mRet, mRetN, mOrT, mAndT, mOrV, mAndV, mNotV, mIf, mSet, mDo, mFor, mSeq, mTup, mLst, mSl, mOptInt, esc, escs, gLen, gInt, gI0, gI, gNeg, gSl, gTuple, gList, eq_ss, eq_ii, ne_ss, in_strs, in_lst, in_strsF, in_lstF, isi_s1, isi_s2, isi_s3, isi_s4, isi_s5, isi_t1, isi_t2, isi_t3, isi_t4, isi_t5, isi_b1, f_is_name, b_is_name, isN, h1, hx, hM, hR, h2, h2']
def okS : D → Bool
  | .str x => decide (x.length ≤ 2000)
  | _ => true
def okE (d : D) : Bool := pd 60 d && okS d
def nmD : D → Bool
  | .str x => isN x
  | _ => false
theorem okE_str {x : Str} (h : okE (.str x) = true) : x.length ≤ sizeLine := Nat.le_trans (of_decide_eq_true (Bool.and_eq_true_iff.mp h).2) (by decide)
theorem is_name_eq {d : D} (h : okE d = true) : f_is_name [.val d] = .ok (.val (.bl (nmD d))) [.val d] := by
  cases d with
  | str x => exact f_is_name_str x (okE_str h)
  | obj _ _ _ => cases h
  | scr _ => cases h
  | non => simp [isBor, fnOf, outs, mSq, mIfS, mNotT, mB, mOp1, mOp2, mOpN, mVar, mC, mCons, mNil, deref, derefs, tru, mNx, mRet, mRetN, mOrT, mAndT, mOrV, mAndV, mNotV, mIf, mSet, mDo, mFor, mSeq, mTup, mLst, mSl, mOptInt, esc, escs, gLen, gInt, gI0, gI, gNeg, gSl, gTuple, gList, eq_ss, eq_ii, ne_ss, in_strs, in_lst, in_strsF, in_lstF, isi_s1, isi_s2, isi_s3, isi_s4, isi_s5, isi_t1, isi_t2, isi_t3, isi_t4, isi_t5, isi_b1, f_is_name, b_is_name, nmD]
  | bl b => simp [isBor, fnOf, outs, mSq, mIfS, mNotT, mB, mOp1, mOp2, mOpN, mVar, mC, mCons, mNil, deref, derefs, tru, mNx, mRet, mRetN, mOrT, mAndT, mOrV, mAndV, mNotV, mIf, mSet, mDo, mFor, mSeq, mTup, mLst, mSl, mOptInt, esc, escs, gLen, gInt, gI0, gI, gNeg, gSl, gTuple, gList, eq_ss, eq_ii, ne_ss, in_strs, in_lst, in_strsF, in_lstF, isi_s1, isi_s2, isi_s3, isi_s4, isi_s5, isi_t1, isi_t2, isi_t3, isi_t4, isi_t5, isi_b1, f_is_name, b_is_name, nmD, isi_ok "str" "bool" (.bl b) false rfl k_bs]
  | int i => simp [isBor, fnOf, outs, mSq, mIfS, mNotT, mB, mOp1, mOp2, mOpN, mVar, mC, mCons, mNil, deref, derefs, tru, mNx, mRet, mRetN, mOrT, mAndT, mOrV, mAndV, mNotV, mIf, mSet, mDo, mFor, mSeq, mTup, mLst, mSl, mOptInt, esc, escs, gLen, gInt, gI0, gI, gNeg, gSl, gTuple, gList, eq_ss, eq_ii, ne_ss, in_strs, in_lst, in_strsF, in_lstF, isi_s1, isi_s2, isi_s3, isi_s4, isi_s5, isi_t1, isi_t2, isi_t3, isi_t4, isi_t5, isi_b1, f_is_name, b_is_name, nmD]
  | lst l => simp [isBor, fnOf, outs, mSq, mIfS, mNotT, mB, mOp1, mOp2, mOpN, mVar, mC, mCons, mNil, deref, derefs, tru, mNx, mRet, mRetN, mOrT, mAndT, mOrV, mAndV, mNotV, mIf, mSet, mDo, mFor, mSeq, mTup, mLst, mSl, mOptInt, esc, escs, gLen, gInt, gI0, gI, gNeg, gSl, gTuple, gList, eq_ss, eq_ii, ne_ss, in_strs, in_lst, in_strsF, in_lstF, isi_s1, isi_s2, isi_s3, isi_s4, isi_s5, isi_t1, isi_t2, isi_t3, isi_t4, isi_t5, isi_b1, f_is_name, b_is_name, nmD]
  | tup l => simp [isBor, fnOf, outs, mSq, mIfS, mNotT, mB, mOp1, mOp2, mOpN, mVar, mC, mCons, mNil, deref, derefs, tru, mNx, mRet, mRetN, mOrT, mAndT, mOrV, mAndV, mNotV, mIf, mSet, mDo, mFor, mSeq, mTup, mLst, mSl, mOptInt, esc, escs, gLen, gInt, gI0, gI, gNeg, gSl, gTuple, gList, eq_ss, eq_ii, ne_ss, in_strs, in_lst, in_strsF, in_lstF, isi_s1, isi_s2, isi_s3, isi_s4, isi_s5, isi_t1, isi_t2, isi_t3, isi_t4, isi_t5, isi_b1, f_is_name, b_is_name, nmD]
theorem call1 {f : M Rv} {m : M Rv} {ρ ρ1 ρ2 ρ' : En} {r : Rv} {d e : D} (h1 : m ρ = .ok r ρ1) (h2 : esc ρ1 r = some (d, ρ2)) (h3 : f [.val d] = .ok (.val e) ρ') : mCallV f (mCons m mNil) ρ = .ok (.val e) ρ2 := by
  simp [mCallV, mCons, mNil, h1, escs, h2, vals, h3]
theorem loop_all' {h : D → En → Option En} {b : M Fl} {P : En → Prop} {p : D → Bool} {r : Rv} : ∀ (l : List D), (∀ a ∈ l, ∀ ρ, P ρ → ∃ ρ1 ρ2, h a ρ = some ρ1 ∧ b ρ1 = .ok (if p a then .nx else .rt r) ρ2 ∧ P ρ2) → ∀ (ρ : En), P ρ → ∃ ρ', P ρ' ∧ mLoop h b l ρ = .ok (if l.all p then .nx else .rt r) ρ'
  | [], _, ρ, q => ⟨ρ, q, rfl⟩
  | a :: l, hs, ρ, q => by
    obtain ⟨ρ1, ρ2, e1, e2, q2⟩ := hs a (by simp) ρ q
    by_cases c : p a = true
    · rw [c, if_pos rfl] at e2
      obtain ⟨ρ', q', e'⟩ := loop_all' l (fun a m => hs a (by simp [m])) ρ2 q2
      exact ⟨ρ', q', by rw [loop_nx e1 e2, e', List.all_cons, c, Bool.true_and]⟩
    · have c : p a = false := by simpa using c
      rw [c] at e2
      exact ⟨ρ2, q2, by rw [loop_rt e1 e2, List.all_cons, c]; rfl⟩
theorem are_names_eq {ds : List D} (h : ds.all okE = true) : ∃ ρ', f_are_names [.val (.tup ds)] = .ok (.val (.bl (ds.all nmD))) ρ' := by
  obtain ⟨ρ', ⟨s', rfl, _⟩, e⟩ := loop_all' (h := gNm 1) (b := q_are_names_1) (P := fun ρ => ∃ s, ρ = [.val (.tup ds), s] ∧ isBor (some s) = false) (p := nmD) (r := .val (.bl false)) ds (fun a m ρ ⟨s, e, hb⟩ => by
    subst e
    refine ⟨_, _, gNm_ok hb, ?_, .val a, rfl, rfl⟩
    have q := is_name_eq (List.all_eq_true.mp h a m)
    have c : mCallV f_is_name (mCons (mVar 1) mNil) [.val (.tup ds), .val a] = .ok (.val (.bl (nmD a))) [.val (.tup ds), .val a] := call1 rfl rfl q
    show q_are_names_1 [.val (.tup ds), .val a] = _
    simp only [q_are_names_1, mIfS, mNotT, mB, c, deref, tru]
    cases nmD a <;> rfl) [.val (.tup ds), .un] ⟨.un, rfl, rfl⟩
  cases q : ds.all nmD <;> rw [q] at e <;> simp [isBor, fnOf, outs, mSq, mIfS, mNotT, mB, mOp1, mOp2, mOpN, mVar, mC, mCons, mNil, deref, derefs, tru, mNx, mRet, mRetN, mOrT, mAndT, mOrV, mAndV, mNotV, mIf, mSet, mDo, mFor, mSeq, mTup, mLst, mSl, mOptInt, esc, escs, gLen, gInt, gI0, gI, gNeg, gSl, gTuple, gList, eq_ss, eq_ii, ne_ss, in_strs, in_lst, in_strsF, in_lstF, isi_s1, isi_s2, isi_s3, isi_s4, isi_s5, isi_t1, isi_t2, isi_t3, isi_t4, isi_t5, isi_b1, f_are_names, b_are_names, itemsD, e]
theorem pd_up : ∀ (n : Nat) (d : D), pd n d = true → pd (n + 1) d = true := fun n => by
  induction n with
  | zero => intro d h; cases d <;> first | rfl | cases h
  | succ n ih =>
    intro d h
    cases d with
    | lst l => exact List.all_eq_true.mpr fun x m => ih x (List.all_eq_true.mp h x m)
    | tup l => exact List.all_eq_true.mpr fun x m => ih x (List.all_eq_true.mp h x m)
    | obj _ _ _ => cases h
    | scr _ => cases h
    | _ => rfl
theorem okE_pd {d : D} (h : okE d = true) : pd 64 d = true := pd_up _ _ (pd_up _ _ (pd_up _ _ (pd_up _ _ (Bool.and_eq_true_iff.mp h).1)))
theorem eq_ds {d : D} (h : okE d = true) (x : Str) : gEq d (.str x) = some (.val (.bl (eqD d (.str x)))) := by
  unfold gEq
  rw [okE_pd h]
  rfl
theorem cut_from (xs : List D) (k : Nat) : cutD xs (some (k : Int)) none = xs.drop k := by
  unfold cutD
  rw [HT.sIx_nat, HT.sIx_none]
  by_cases h : k ≤ xs.length
  · have e : min k xs.length = k := by omega
    rw [e]
    exact List.take_of_length_le (by simp)
  · have e : min k xs.length = xs.length := by omega
    rw [e, List.drop_eq_nil_of_le (by omega : xs.length ≤ k)]
    simp
theorem cut1 (xs : List D) : cutD xs (some 1) none = xs.drop 1 := cut_from xs 1
theorem cut2 (xs : List D) : cutD xs (some 2) none = xs.drop 2 := cut_from xs 2
theorem cut3 (xs : List D) : cutD xs (some 3) none = xs.drop 3 := cut_from xs 3
theorem atI_one {α : Type} (a b : α) (l : List α) : atI (a :: b :: l) 1 = some b := by
  have h : (1 : Int) < (l.length : Int) + 1 + 1 := by omega
  simp [atI, ixN, h]
theorem atI_two {α : Type} (a b c : α) (l : List α) : atI (a :: b :: c :: l) 2 = some c := by
  have h : (2 : Int) < (l.length : Int) + 1 + 1 + 1 := by omega
  simp [atI, ixN, h]
theorem isi_tupE {d : D} (h : okE d = true) : gIsi "tuple" d = some (.val (.bl (tyB "tuple" d))) := isi_tup (by
  have := (Bool.and_eq_true_iff.mp h).1
  cases d <;> first | rfl | cases this)
theorem isi_strE {d : D} (h : okE d = true) : gIsi "str" d = some (.val (.bl (tyB "str" d))) := isi_str (by
  have := (Bool.and_eq_true_iff.mp h).1
  cases d <;> first | rfl | cases this)
theorem call1E {f : M Rv} {m : M Rv} {ρ ρ1 ρ2 : En} {r : Rv} {d e : D} (h1 : m ρ = .ok r ρ1) (h2 : esc ρ1 r = some (d, ρ2)) (h3 : ∃ ρ', f [.val d] = .ok (.val e) ρ') : mCallV f (mCons m mNil) ρ = .ok (.val e) ρ2 := let ⟨_, h⟩ := h3; call1 h1 h2 h
def tx (x : Str) : Bool := x.cps.toList.all (· < 256)
theorem tx_ok {x : Str} (h : tx x = true) : strOk x = true := by
  unfold strOk
  rw [← Array.all_toList]
  exact List.all_eq_true.mpr fun c m => by
    have := List.all_eq_true.mp h c m
    simp at this ⊢
    omega
theorem strsD_map : ∀ (ys : List Str), strsD (ys.map D.str) = some ys
  | [] => rfl
  | y :: ys => by simp [strsD, strsD_map ys]
theorem sum_le {n : Nat} : ∀ {W : List Str}, (∀ w ∈ W, w.length ≤ n) → (W.map (·.length)).sum ≤ W.length * n
  | [], _ => by simp
  | w :: W, h => by
    have := sum_le (n := n) (W := W) fun v m => h v (by simp [m])
    have h1 := h w (by simp)
    simp only [List.map_cons, List.sum_cons, List.length_cons, Nat.succ_mul]
    omega
theorem app3 (a b c : Str) : (a ++ b ++ c).cps.toList = a.cps.toList ++ b.cps.toList ++ c.cps.toList := by
  have h1 := tl_append (a ++ b) c
  have h2 := tl_append a b
  exact h1.trans (congrArg (· ++ c.cps.toList) h2)
theorem app2 (a b : Str) : (a ++ b).cps.toList = a.cps.toList ++ b.cps.toList := tl_append a b
theorem join_cps (y : Str) : ∀ (W : List Str) (c : Nat), c ∈ (Str.join y W).cps.toList → c ∈ y.cps.toList ∨ ∃ w ∈ W, c ∈ w.cps.toList
  | [], c, h => by
    have : (Str.join y []).cps.toList = [] := rfl
    rw [this] at h
    cases h
  | [w], c, h => .inr ⟨w, by simp, h⟩
  | w :: v :: r, c, h => by
    have e : Str.join y (w :: v :: r) = w ++ y ++ Str.join y (v :: r) := rfl
    rw [e] at h
    have q : (w ++ y ++ Str.join y (v :: r)).cps.toList = w.cps.toList ++ y.cps.toList ++ (Str.join y (v :: r)).cps.toList := app3 _ _ _
    rw [q] at h
    rcases List.mem_append.mp h with h | h
    · rcases List.mem_append.mp h with h | h
      · exact .inr ⟨w, by simp, h⟩
      · exact .inl h
    · rcases join_cps y (v :: r) c h with h | ⟨z, m, h⟩
      · exact .inl h
      · exact .inr ⟨z, by simp [List.mem_cons.mp m], h⟩
theorem tx_join {W : List Str} (h : ∀ w ∈ W, tx w = true) : tx (Txt.join " " W) = true := by
  refine List.all_eq_true.mpr fun c m => ?_
  rw [join_eq] at m
  rcases join_cps " " W c m with m | ⟨w, mw, m⟩
  · have : (" " : Str).cps.toList = [32] := rfl
    rw [this] at m
    simp at m
    subst m
    decide
  · exact List.all_eq_true.mp (h w mw) c m
theorem gJoin_lst {W : List Str} {n : Nat} (h : ∀ w ∈ W, tx w = true) (hl : ∀ w ∈ W, w.length ≤ n) (hn : W.length * (n + 1) ≤ 16777216) : gJoin " " [.lst (W.map D.str)] = some (.val (.str (Txt.join " " W))) := by
  have h1 : (W.map (·.length)).sum + W.length * (" " : Str).length ≤ 16777216 := by
    have := sum_le hl
    have e : (" " : Str).length = 1 := rfl
    rw [e]
    rw [Nat.mul_add] at hn
    omega
  have h2 := tx_ok (tx_join h)
  unfold gJoin
  simp only [strsD_map]
  rw [if_pos ⟨h1, h2⟩]
theorem join_len {W : List Str} {n : Nat} (hl : ∀ w ∈ W, w.length ≤ n) : (Txt.join " " W).length ≤ W.length * (n + 1) := by
  rw [join_eq]
  have := StrLaws.join_length_le " " W
  have h := sum_le hl
  have e : (" " : Str).length = 1 := rfl
  rw [e] at this
  rw [Nat.mul_add]
  omega
theorem split_back {W : List Str} (h0 : W ≠ []) (hs : ∀ w ∈ W, 32 ∉ w.cps.toList) : Txt.split (Txt.join " " W) " " = W := split_join (y := " ") (s := 32) (S := []) rfl (by decide +kernel) h0 hs
theorem split_tx {x : Str} (h : tx x = true) : ∀ p ∈ Txt.split x " ", tx p = true := fun p m => by
  refine List.all_eq_true.mpr fun c mc => List.all_eq_true.mp h c ?_
  have e := StrLaws.join_split x " "
  have aux : ∀ (W : List Str), p ∈ W → c ∈ (Str.join " " W).cps.toList := fun W => by
    induction W with
    | nil => intro m; cases m
    | cons w r ih =>
      intro m
      cases r with
      | nil =>
        simp at m
        subst m
        exact mc
      | cons v r =>
        have q : (w ++ " " ++ Str.join " " (v :: r)).cps.toList = w.cps.toList ++ (" " : Str).cps.toList ++ (Str.join " " (v :: r)).cps.toList := app3 _ _ _
        show c ∈ (w ++ " " ++ Str.join " " (v :: r)).cps.toList
        rw [q]
        rcases List.mem_cons.mp m with rfl | m
        · simp [mc]
        · simp [ih m]
  rw [← e]
  exact aux _ m
theorem gSplit_eq {x : Str} (h : tx x = true) (hl : x.length ≤ 1000000) : gSplit x [.str " "] = some (.own ((Txt.split x " ").map D.str)) := by
  unfold gSplit
  have : sizeLine = 16777216 := rfl
  exact if_pos ⟨rfl, by omega, List.all_eq_true.mpr fun p m => tx_ok (split_tx h p m)⟩
theorem fn_val {np nt : Nat} {b : M Fl} {as ρ : En} {d : D} (h : as.length = np) (e : b (as ++ List.replicate (nt - np) .un) = .ok (.rt (.val d)) ρ) : fnOf np nt b as = .ok (.val d) (outs as ρ) := by
  unfold fnOf
  rw [if_pos h, e]
theorem fn_own {np nt : Nat} {b : M Fl} {as ρ : En} {d : List D} (h : as.length = np) (e : b (as ++ List.replicate (nt - np) .un) = .ok (.rt (.own d)) ρ) : fnOf np nt b as = .ok (.own d) (outs as ρ) := by
  unfold fnOf
  rw [if_pos h, e]
theorem fn_err {np nt : Nat} {b : M Fl} {as ρ : En} {x : Xc} (h : as.length = np) (e : b (as ++ List.replicate (nt - np) .un) = .err x ρ) : fnOf np nt b as = .err x (outs as ρ) := by
  unfold fnOf
  rw [if_pos h, e]
theorem sq_nx {m n : M Fl} {ρ ρ1 : En} (h : m ρ = .ok .nx ρ1) : mSq m n ρ = n ρ1 := by
  unfold mSq
  rw [h]
theorem sq_rt {m n : M Fl} {ρ ρ1 : En} {r : Rv} (h : m ρ = .ok (.rt r) ρ1) : mSq m n ρ = .ok (.rt r) ρ1 := by
  unfold mSq
  rw [h]
theorem for_eq {mi : M (List D)} {h : D → En → Option En} {b : M Fl} {ρ ρ1 : En} {ds : List D} (e : mi ρ = .ok ds ρ1) : mFor mi h b ρ = mLoop h b ds ρ1 := by
  unfold mFor
  rw [e]
theorem atI_m2 {α : Type} (V : List α) (a b : α) : atI (V ++ [a, b]) (-2) = some a := by
  have h1 : ((V ++ [a, b]).length : Int) = (V.length : Int) + 2 := by simp
  have h2 : -((V ++ [a, b]).length : Int) ≤ -2 := by omega
  have h3 : (-2 + ((V ++ [a, b]).length : Int)).toNat = V.length := by omega
  unfold atI ixN
  rw [if_neg (by omega), if_pos h2, h3]
  simp
theorem atI_m1 {α : Type} (V : List α) (b : α) : atI (V ++ [b]) (-1) = some b := by
  have h1 : ((V ++ [b]).length : Int) = (V.length : Int) + 1 := by simp
  have h2 : -((V ++ [b]).length : Int) ≤ -1 := by omega
  have h3 : (-1 + ((V ++ [b]).length : Int)).toNat = V.length := by omega
  unfold atI ixN
  rw [if_neg (by omega), if_pos h2, h3]
  simp
theorem sIx_m2 (V : List D) (a b : D) (d : Nat) : HT.sIx (V ++ [a, b]).length d (some (-2)) = V.length := by
  unfold HT.sIx
  dsimp only
  rw [if_pos (by decide)]
  simp
  omega
theorem sIx_m1 (V : List D) (b : D) (d : Nat) : HT.sIx (V ++ [b]).length d (some (-1)) = V.length := by
  unfold HT.sIx
  dsimp only
  rw [if_pos (by decide)]
  simp
  omega
theorem cut_m2 (V : List D) (a b : D) : cutD (V ++ [a, b]) (some (-2)) none = [a, b] := by
  unfold cutD
  rw [sIx_m2, HT.sIx_none]
  simp
theorem cut_to2 (V : List D) (a b : D) : cutD (V ++ [a, b]) none (some (-2)) = V := by
  unfold cutD
  rw [sIx_m2, HT.sIx_none]
  simp
theorem cut_to1 (V : List D) (b : D) : cutD (V ++ [b]) none (some (-1)) = V := by
  unfold cutD
  rw [sIx_m1, HT.sIx_none]
  simp
theorem last2 {α : Type} {W : List α} (h : 2 < W.length) : ∃ V a b, V ≠ [] ∧ W = V ++ [a, b] := by
  refine ⟨W.take (W.length - 2), W[W.length - 2], W[W.length - 1], fun e => ?_, ?_⟩
  · have := congrArg List.length e
    simp at this
    omega
  · have e1 : W.drop (W.length - 2) = [W[W.length - 2], W[W.length - 1]] := by
      rw [List.drop_eq_getElem_cons (by omega), List.drop_eq_getElem_cons (by omega)]
      have q : W.length - 2 + 1 = W.length - 1 := by omega
      congr 1
      simp only [q]
      congr 1
      rw [List.drop_eq_nil_of_le (by omega)]
    rw [← e1, List.take_append_drop]
theorem gAdd_tup {xs ys : List D} (h : xs.length + ys.length ≤ sizeLine) : gAdd (.tup xs) (.tup ys) = some (.val (.tup (xs ++ ys))) := if_pos h
theorem in2 (neg : Bool) (x a b : Str) : gIn neg (.str x) (.lst [.str a, .str b]) = some (.val (.bl (neg ^^ (a == x || b == x)))) := by
  have := in_lst neg x [a, b]
  simpa using this
theorem in4 (neg : Bool) (x a b c d : Str) : gIn neg (.str x) (.lst [.str a, .str b, .str c, .str d]) = some (.val (.bl (neg ^^ (a == x || (b == x || (c == x || d == x)))))) := by
  have := in_lst neg x [a, b, c, d]
  simpa using this
theorem gAdd_t {xs ys : List D} (h : xs.length + ys.length ≤ 2000) : gAdd (.tup xs) (.tup ys) = some (.val (.tup (xs ++ ys))) := gAdd_tup (Nat.le_trans h (by decide))
theorem sz2 : (2 : Nat) ≤ sizeLine := by decide
theorem sz1 : (1 : Nat) ≤ sizeLine := by decide
theorem sz3 : (3 : Nat) ≤ sizeLine := by decide
theorem sz4 : (4 : Nat) ≤ sizeLine := by decide
theorem sz0 : (0 : Nat) ≤ sizeLine := by decide
theorem beq_no {a b : Str} (h : ¬ a = b) : (a == b) = false := by
  refine Bool.eq_false_iff.mpr fun z => h (eq_of_beq z)
def gS (x : Str) : Bool := decide (x.length ≤ 100) && (tx x && !decide (32 ∈ x.cps.toList))
theorem gS_len {x : Str} (h : gS x = true) : x.length ≤ 100 := of_decide_eq_true (Bool.and_eq_true_iff.mp h).1
theorem gS_tx {x : Str} (h : gS x = true) : tx x = true := (Bool.and_eq_true_iff.mp (Bool.and_eq_true_iff.mp h).2).1
theorem gS_sp {x : Str} (h : gS x = true) : 32 ∉ x.cps.toList := by
  have := (Bool.and_eq_true_iff.mp (Bool.and_eq_true_iff.mp h).2).2
  simpa using this
theorem pd_ge {n : Nat} {d : D} (h : pd n d = true) : ∀ k, pd (n + k) d = true
  | 0 => h
  | k + 1 => pd_up _ _ (pd_ge h k)
theorem beq_yes {a b : Str} (h : (a == b) = true) : a = b := eq_of_beq h
theorem call1err {f : M Rv} {m : M Rv} {ρ ρ1 ρ2 ρ' : En} {r : Rv} {d : D} {x : Xc} (h1 : m ρ = .ok r ρ1) (h2 : esc ρ1 r = some (d, ρ2)) (h3 : f [.val d] = .err x ρ') : mCallV f (mCons m mNil) ρ = .err x ρ2 := by
  simp [mCallV, mCons, mNil, h1, escs, h2, vals, h3]
theorem loop_inv {h : D → En → Option En} {b : M Fl} {P : En → Prop} : ∀ (l : List D), (∀ a ∈ l, ∀ ρ, P ρ → ∃ ρ1, h a ρ = some ρ1 ∧ ∃ ρ2, b ρ1 = .ok .nx ρ2 ∧ P ρ2) → ∀ (ρ : En), P ρ → ∃ ρ', P ρ' ∧ mLoop h b l ρ = .ok .nx ρ'
  | [], _, ρ, q => ⟨ρ, q, rfl⟩
  | a :: l, hs, ρ, q => by
    obtain ⟨ρ1, e1, ρ2, e2, q2⟩ := hs a (by simp) ρ q
    obtain ⟨ρ', q', e'⟩ := loop_inv l (fun a m => hs a (by simp [m])) ρ2 q2
    exact ⟨ρ', q', by rw [loop_nx e1 e2, e']⟩
def Ns (ds : List D) : Prop := ∃ ns : List Int, ds = ns.map D.int
theorem Ns.nil : Ns [] := ⟨[], rfl⟩
theorem Ns.app {ds : List D} (h : Ns ds) (i : Int) : Ns (ds ++ [.int i]) := by
  obtain ⟨ns, rfl⟩ := h
  exact ⟨ns ++ [i], by simp⟩
theorem next_eq {ds : List D} (h : Ns ds) {m : Int} (hm : 0 < m) : ∃ r ds', 0 ≤ r ∧ r < m ∧ Ns ds' ∧ f_law_next [.bor ds, .val (.int m)] = .ok (.val (.int r)) [.bor ds', .val (.int m)] := by
  obtain ⟨ns, rfl⟩ := h
  cases ns with
  | nil => exact ⟨0, [], by omega, hm, Ns.nil, rfl⟩
  | cons n ns =>
    refine ⟨n % m, ns.map D.int, Int.emod_nonneg _ (by omega), Int.emod_lt_of_pos _ hm, ⟨ns, rfl⟩, ?_⟩
    have h0 : ¬ ((ns.length : Int) + 1 = 0) := by omega
    have hp : gPopAt (.int n :: ns.map D.int) [.int 0] = some (.int n, ns.map D.int) := by
      have hs : seqIndex? 0 (D.int n :: ns.map D.int).length = some 0 := by
        simp [seqIndex?]
      unfold gPopAt
      dsimp only
      rw [if_pos (by decide), hs]
      rfl
    simp [isBor, fnOf, outs, mSq, mIfS, mNotT, mB, mOp1, mOp2, mOpN, mVar, mC, mCons, mNil, deref, derefs, tru, mNx, mRet, mRetN, mOrT, mAndT, mOrV, mAndV, mNotV, mIf, mSet, mDo, mFor, mSeq, mTup, mLst, mSl, mOptInt, esc, escs, gLen, gInt, gI0, gI, gNeg, gSl, gTuple, gList, eq_ss, eq_ii, ne_ss, in_strs, in_lst, in_strsF, in_lstF, isi_s1, isi_s2, isi_s3, isi_s4, isi_s5, isi_t1, isi_t2, isi_t3, isi_t4, isi_t5, isi_b1, f_law_next, b_law_next, h0, mMut, hp, hm]
theorem nextG {i : Nat} {n : M (List Rv)} {ρ ρ1 : En} {ds : List D} {m : Int} (hi : ρ[i]? = some (.bor ds)) (hn : n ρ = .ok [.val (.int m)] ρ) (h : Ns ds) (hm : 0 < m) : ∃ r ds', 0 ≤ r ∧ r < m ∧ Ns ds' ∧ mCallR f_law_next i n ρ = .ok (.val (.int r)) (ρ.set i (.bor ds')) := by
  obtain ⟨r, ds', h1, h2, h3, e⟩ := next_eq h hm
  refine ⟨r, ds', h1, h2, h3, ?_⟩
  simp [mCallR, mVar, hi, hn, escs, esc, vals, e, backR, putSl]
theorem nextB {n : M (List Rv)} {R : En} {ds : List D} {m : Int} (hn : n (.bor ds :: R) = .ok [.val (.int m)] (.bor ds :: R)) (h : Ns ds) (hm : 0 < m) : ∃ r ds', 0 ≤ r ∧ r < m ∧ Ns ds' ∧ mCallR f_law_next 0 n (.bor ds :: R) = .ok (.val (.int r)) (.bor ds' :: R) :=
  nextG (ρ1 := []) (i := 0) rfl hn h hm
theorem nextC {R : En} {ds : List D} {m : Int} (h : Ns ds) (hm : 0 < m) : ∃ r ds', 0 ≤ r ∧ r < m ∧ Ns ds' ∧ mCallR f_law_next 0 (mCons (mC (.int m)) (mNil)) (.bor ds :: R) = .ok (.val (.int r)) (.bor ds' :: R) := nextB rfl h hm
/-! ### the draws -/
theorem cm {j : Int} (h : -(2 ^ 64) < j ∧ j < 2 ^ 64) (i : Int) : CMul i j := .inr h
theorem cm' {j : Int} (h : -(2 ^ 64) < j ∧ j < 2 ^ 64) (i : Int) : CMul j i := .inl h
theorem c1 (i : Int) : CMul i 48271 := cm (by decide) i
theorem c2 (i : Int) : CMul i 7919 := cm (by decide) i
theorem c3 (i : Int) : CMul i 69621 := cm (by decide) i
theorem c4 (i : Int) : CMul i 31 := cm (by decide) i
theorem c5 (i : Int) : CMul 2 i := cm' (by decide) i
theorem c6 (i : Int) : CMul 5 i := cm' (by decide) i
theorem d1 (i : Int) : CDiv i 720 := ⟨by decide, by decide⟩
theorem d2 (i : Int) : CDiv i 127 := ⟨by decide, by decide⟩
theorem d3 (i : Int) : CDiv i 3 := ⟨by decide, by decide⟩
theorem p1 : CPow 10 18 := ⟨by decide, by decide, by decide⟩
def Pd (x : D) (ρ : En) : Prop := ∃ ds a b c s5 s6, ρ = [.val x, .own ds, .val (.int a), .val (.int b), .val (.int c), s5, s6] ∧ Ns ds ∧ isBor (some s5) = false ∧ isBor (some s6) = false
theorem app_ok {ds : List D} (h : (ds.length : Int) < 600) : ds.length < sizeLine := by
  have : sizeLine = 16777216 := rfl
  omega
theorem draws1 {x : D} {a : Int} {ρ : En} (h : Pd x ρ) : ∃ ρ1, gNm 5 (.int a) ρ = some ρ1 ∧ ∃ ρ2, q_law_draws_1 ρ1 = .ok .nx ρ2 ∧ Pd x ρ2 := by
  obtain ⟨ds, p, q, c, s5, s6, rfl, hn, h5, h6⟩ := h
  refine ⟨_, gNm_ok h5, ?_⟩
  by_cases g1 : 0 < c
  · by_cases g2 : (ds.length : Int) < 600
    · refine ⟨_, ?_, ⟨ds ++ [.int (c % 720)], p, q, c / 720, .val (.int a), s6, rfl, hn.app _, rfl, h6⟩⟩
      simp [isBor, fnOf, outs, mSq, mIfS, mNotT, mB, mOp1, mOp2, mOpN, mVar, mC, mCons, mNil, deref, derefs, tru, mNx, mRet, mRetN, mOrT, mAndT, mOrV, mAndV, mNotV, mIf, mSet, mDo, mFor, mSeq, mTup, mLst, mSl, mOptInt, esc, escs, gLen, gInt, gI0, gI, gNeg, gSl, gTuple, gList, eq_ss, eq_ii, ne_ss, in_strs, in_lst, in_strsF, in_lstF, isi_s1, isi_s2, isi_s3, isi_s4, isi_s5, isi_t1, isi_t2, isi_t3, isi_t4, isi_t5, isi_b1, q_law_draws_1, g1, g2, mMut, gAppend, app_ok g2, d1]
    · refine ⟨_, ?_, ⟨ds, p, q, c, .val (.int a), s6, rfl, hn, rfl, h6⟩⟩
      simp [isBor, fnOf, outs, mSq, mIfS, mNotT, mB, mOp1, mOp2, mOpN, mVar, mC, mCons, mNil, deref, derefs, tru, mNx, mRet, mRetN, mOrT, mAndT, mOrV, mAndV, mNotV, mIf, mSet, mDo, mFor, mSeq, mTup, mLst, mSl, mOptInt, esc, escs, gLen, gInt, gI0, gI, gNeg, gSl, gTuple, gList, eq_ss, eq_ii, ne_ss, in_strs, in_lst, in_strsF, in_lstF, isi_s1, isi_s2, isi_s3, isi_s4, isi_s5, isi_t1, isi_t2, isi_t3, isi_t4, isi_t5, isi_b1, q_law_draws_1, g1, g2]
  · refine ⟨_, ?_, ⟨ds, p, q, c, .val (.int a), s6, rfl, hn, rfl, h6⟩⟩
    simp [isBor, fnOf, outs, mSq, mIfS, mNotT, mB, mOp1, mOp2, mOpN, mVar, mC, mCons, mNil, deref, derefs, tru, mNx, mRet, mRetN, mOrT, mAndT, mOrV, mAndV, mNotV, mIf, mSet, mDo, mFor, mSeq, mTup, mLst, mSl, mOptInt, esc, escs, gLen, gInt, gI0, gI, gNeg, gSl, gTuple, gList, eq_ss, eq_ii, ne_ss, in_strs, in_lst, in_strsF, in_lstF, isi_s1, isi_s2, isi_s3, isi_s4, isi_s5, isi_t1, isi_t2, isi_t3, isi_t4, isi_t5, isi_b1, q_law_draws_1, g1]
def Pe (x : D) (ρ : En) : Prop := ∃ ds a b c s5 e, ρ = [.val x, .own ds, .val (.int a), .val (.int b), .val (.int c), s5, .val (.int e)] ∧ Ns ds ∧ isBor (some s5) = false
theorem draws2 {x : D} {a : Int} {ρ : En} (h : Pe x ρ) : ∃ ρ1, gNm 5 (.int a) ρ = some ρ1 ∧ ∃ ρ2, q_law_draws_2 ρ1 = .ok .nx ρ2 ∧ Pe x ρ2 := by
  obtain ⟨ds, p, q, c, s5, e, rfl, hn, h5⟩ := h
  refine ⟨_, gNm_ok h5, ?_⟩
  by_cases g2 : (ds.length : Int) < 600
  · refine ⟨_, ?_, ⟨ds ++ [.int ((e * 69621 + c * 31 + a) % 2147483629 / 127)], p, q, c, .val (.int a), (e * 69621 + c * 31 + a) % 2147483629, rfl, hn.app _, rfl⟩⟩
    simp [isBor, fnOf, outs, mSq, mIfS, mNotT, mB, mOp1, mOp2, mOpN, mVar, mC, mCons, mNil, deref, derefs, tru, mNx, mRet, mRetN, mOrT, mAndT, mOrV, mAndV, mNotV, mIf, mSet, mDo, mFor, mSeq, mTup, mLst, mSl, mOptInt, esc, escs, gLen, gInt, gI0, gI, gNeg, gSl, gTuple, gList, eq_ss, eq_ii, ne_ss, in_strs, in_lst, in_strsF, in_lstF, isi_s1, isi_s2, isi_s3, isi_s4, isi_s5, isi_t1, isi_t2, isi_t3, isi_t4, isi_t5, isi_b1, q_law_draws_2, g2, mMut, gAppend, gAdd, app_ok g2, d2, c3, c4]
  · refine ⟨_, ?_, ⟨ds, p, q, c, .val (.int a), (e * 69621 + c * 31 + a) % 2147483629, rfl, hn, rfl⟩⟩
    simp [isBor, fnOf, outs, mSq, mIfS, mNotT, mB, mOp1, mOp2, mOpN, mVar, mC, mCons, mNil, deref, derefs, tru, mNx, mRet, mRetN, mOrT, mAndT, mOrV, mAndV, mNotV, mIf, mSet, mDo, mFor, mSeq, mTup, mLst, mSl, mOptInt, esc, escs, gLen, gInt, gI0, gI, gNeg, gSl, gTuple, gList, eq_ss, eq_ii, ne_ss, in_strs, in_lst, in_strsF, in_lstF, isi_s1, isi_s2, isi_s3, isi_s4, isi_s5, isi_t1, isi_t2, isi_t3, isi_t4, isi_t5, isi_b1, q_law_draws_2, g2, gAdd, d2, c3, c4]
theorem rng_int {n : Nat} {lo : Int} {d : D} (h : d ∈ rngD lo n) : ∃ a : Int, d = .int a ∧ lo ≤ a ∧ a < lo + n := by
  unfold rngD at h
  obtain ⟨i, m, rfl⟩ := List.mem_map.mp h
  have := List.mem_range.mp m
  exact ⟨_, rfl, by omega, by omega⟩
theorem rng1_eq {ρ : En} {n : Int} (h : 0 ≤ n) (h2 : n < 1000) : mRng1 (mCons (mC (.int n)) mNil) ρ = .ok (rngD 0 n.toNat) ρ := by
  have : -(2 ^ 62) ≤ n ∧ n < 2 ^ 62 := ⟨by omega, by omega⟩
  simp [mRng1, mCons, mC, mNil, derefs, deref]
  omega
def Pf (x : D) (ρ : En) : Prop := ∃ ds s2 s3 s4 s5 s6, ρ = [.val x, .own ds, s2, s3, s4, s5, s6] ∧ Ns ds ∧ isBor (some s2) = false ∧ isBor (some s3) = false ∧ isBor (some s4) = false ∧ isBor (some s5) = false ∧ isBor (some s6) = false
theorem draws3 {x : D} {i c : Int} {ρ : En} (h : Pf x ρ) : ∃ ρ1, gTu [gNm 2, gNm 3] (.tup [.int i, .int c]) ρ = some ρ1 ∧ ∃ ρ2, q_law_draws_3 ρ1 = .ok .nx ρ2 ∧ Pf x ρ2 := by
  obtain ⟨ds, s2, s3, s4, s5, s6, rfl, hn, h2, h3, h4, h5, h6⟩ := h
  have e1 : gTu [gNm 2, gNm 3] (.tup [.int i, .int c]) [.val x, .own ds, s2, s3, s4, s5, s6] = some [.val x, .own ds, .val (.int i), .val (.int c), s4, s5, s6] := by
    simp [gTu, gTp, gNm, h2, h3]
  obtain ⟨v, q0⟩ : ∃ v, S_q_law_draws_3_0 [.val x, .own ds, .val (.int i), .val (.int c), s4, s5, s6] = .ok .nx [.val x, .own ds, .val (.int i), .val (.int c), .val (.int v), s5, s6] := by
    refine ⟨2 * (if c < 0 then -c else c) + (if decide (c < 0) = true then 1 else 0), ?_⟩
    simp [isBor, fnOf, outs, mSq, mIfS, mNotT, mB, mOp1, mOp2, mOpN, mVar, mC, mCons, mNil, deref, derefs, tru, mNx, mRet, mRetN, mOrT, mAndT, mOrV, mAndV, mNotV, mIf, mSet, mDo, mFor, mSeq, mTup, mLst, mSl, mOptInt, esc, escs, gLen, gInt, gI0, gI, gNeg, gSl, gTuple, gList, eq_ss, eq_ii, ne_ss, in_strs, in_lst, in_strsF, in_lstF, isi_s1, isi_s2, isi_s3, isi_s4, isi_s5, isi_t1, isi_t2, isi_t3, isi_t4, isi_t5, isi_b1, S_q_law_draws_3_0, c5, gAbs, gAdd, h4]
    cases s4 <;> first | rfl | cases h4
  refine ⟨_, e1, ?_⟩
  by_cases g : (2 * 10 ^ 18 : Int) ≤ v
  · obtain ⟨ρ', ⟨ds', a, b, c', s5', s6', rfl, hn', h5', h6'⟩, e⟩ := loop_inv (h := gNm 5) (b := q_law_draws_1) (P := Pd x) (rngD 0 60) (fun d m ρ p => by
      obtain ⟨a, rfl, _⟩ := rng_int m
      exact draws1 p) [.val x, .own ds, .val (.int i), .val (.int c), .val (.int v), s5, s6] ⟨ds, i, c, v, s5, s6, rfl, hn, h5, h6⟩
    refine ⟨_, ?_, ⟨ds', .val (.int a), .val (.int b), .val (.int c'), s5', s6', rfl, hn', rfl, rfl, rfl, h5', h6'⟩⟩
    show mSq S_q_law_draws_3_0 S_q_law_draws_3_1 _ = _
    rw [sq_nx q0]
    have g' : (2000000000000000000 : Int) ≤ v := by simpa using g
    have e' : mFor (mRng1 (mCons (mC (.int 60)) (mNil))) (gNm 5) q_law_draws_1 [.val x, .own ds, .val (.int i), .val (.int c), .val (.int v), s5, s6] = _ := (for_eq (rng1_eq (by decide) (by decide))).trans e
    simp only [S_q_law_draws_3_1, mIfS, mB, mOp2, mVar, mC, deref]
    simp [gI0, gI, p1, c5, tru, g', g]
    exact e'
  · obtain ⟨w, hw⟩ : ∃ w, (mSet 6 (mOp2 gMod (mOpN gInt (mCons (mOp2 gAdd (mOp2 gAdd (mOp2 gMul (mVar 4) (mC (.int 48271))) (mOp2 gMul (mVar 2) (mC (.int 7919)))) (mC (.int 12345))) (mNil))) (mC (.int 2147483647)))) [.val x, .own ds, .val (.int i), .val (.int c), .val (.int v), s5, s6] = .ok .nx [.val x, .own ds, .val (.int i), .val (.int c), .val (.int v), s5, .val (.int w)] := by
      refine ⟨(v * 48271 + i * 7919 + 12345) % 2147483647, ?_⟩
      simp [isBor, fnOf, outs, mSq, mIfS, mNotT, mB, mOp1, mOp2, mOpN, mVar, mC, mCons, mNil, deref, derefs, tru, mNx, mRet, mRetN, mOrT, mAndT, mOrV, mAndV, mNotV, mIf, mSet, mDo, mFor, mSeq, mTup, mLst, mSl, mOptInt, esc, escs, gLen, gInt, gI0, gI, gNeg, gSl, gTuple, gList, eq_ss, eq_ii, ne_ss, in_strs, in_lst, in_strsF, in_lstF, isi_s1, isi_s2, isi_s3, isi_s4, isi_s5, isi_t1, isi_t2, isi_t3, isi_t4, isi_t5, isi_b1, c1, c2, gAdd]
      cases s6 <;> first | rfl | cases h6
    obtain ⟨ρ', ⟨ds', a, b, c', s5', w', rfl, hn', h5'⟩, e⟩ := loop_inv (h := gNm 5) (b := q_law_draws_2) (P := Pe x) (rngD 0 6) (fun d m ρ p => by
      obtain ⟨a, rfl, _⟩ := rng_int m
      exact draws2 p) [.val x, .own ds, .val (.int i), .val (.int c), .val (.int v), s5, .val (.int w)] ⟨ds, i, c, v, s5, w, rfl, hn, h5⟩
    refine ⟨_, ?_, ⟨ds', .val (.int a), .val (.int b), .val (.int c'), s5', .val (.int w'), rfl, hn', rfl, rfl, rfl, h5', rfl⟩⟩
    show mSq S_q_law_draws_3_0 S_q_law_draws_3_1 _ = _
    rw [sq_nx q0]
    have e' : mFor (mRng1 (mCons (mC (.int 6)) (mNil))) (gNm 5) q_law_draws_2 [.val x, .own ds, .val (.int i), .val (.int c), .val (.int v), s5, .val (.int w)] = _ := (for_eq (rng1_eq (by decide) (by decide))).trans e
    have e'' := (sq_nx hw).trans e'
    have g' : ¬ (2000000000000000000 : Int) ≤ v := by simpa using g
    have tst : mB (mOp2 gGe (mVar 4) (mOp2 gMul (mC (.int 2)) (mOp2 gPow (mC (.int 10)) (mC (.int 18))))) [.val x, .own ds, .val (.int i), .val (.int c), .val (.int v), s5, s6] = .ok false [.val x, .own ds, .val (.int i), .val (.int c), .val (.int v), s5, s6] := by
      simp only [mB, mOp2, mVar, mC, deref]
      simp [gI0, gI, p1, c5, tru, g', g]
    unfold S_q_law_draws_3_1 mIfS
    rw [tst]
    exact e''
theorem enum_int {ns : List Int} {k : Nat} {d : D} (h : d ∈ (((ns.map D.int).zipIdx k).map fun x => D.tup [.int (x.2 : Nat), x.1])) : ∃ i c : Int, d = .tup [.int i, .int c] := by
  obtain ⟨⟨y, j⟩, m, rfl⟩ := List.mem_map.mp h
  have := List.fst_mem_of_mem_zipIdx m
  obtain ⟨z, _, rfl⟩ := List.mem_map.mp this
  exact ⟨_, _, rfl⟩
theorem draws_eq {ns : List Int} : ∃ ds ρ', Ns ds ∧ f_law_draws [.val (.scr ns)] = .ok (.own ds) ρ' := by
  have cutI : ∃ ms : List Int, cutD (ns.map D.int) none (some 63) = ms.map D.int := by
    unfold cutD
    exact ⟨_, by rw [← List.map_drop, ← List.map_take]⟩
  obtain ⟨ms, ec⟩ := cutI
  obtain ⟨ρ', ⟨ds, s2, s3, s4, s5, s6, rfl, hn, _⟩, e⟩ := loop_inv (h := gTu [gNm 2, gNm 3]) (b := q_law_draws_3) (P := Pf (.scr ns)) (enumD (ms.map D.int)) (fun d m ρ p => by
    obtain ⟨i, c, rfl⟩ := enum_int m
    exact draws3 p) [.val (.scr ns), .own [], .un, .un, .un, .un, .un] ⟨[], .un, .un, .un, .un, .un, rfl, Ns.nil, rfl, rfl, rfl, rfl, rfl⟩
  have q0 : S_law_draws_0 [.val (.scr ns), .un, .un, .un, .un, .un, .un] = .ok .nx [.val (.scr ns), .own [], .un, .un, .un, .un, .un] := rfl
  have it : mEnm (mCons (mSl (mVar 0) none (some (mC (.int 63)))) (mNil)) [.val (.scr ns), .own [], .un, .un, .un, .un, .un] = .ok (enumD (ms.map D.int)) [.val (.scr ns), .own [], .un, .un, .un, .un, .un] := by
    simp [isBor, fnOf, outs, mSq, mIfS, mNotT, mB, mOp1, mOp2, mOpN, mVar, mC, mCons, mNil, deref, derefs, tru, mNx, mRet, mRetN, mOrT, mAndT, mOrV, mAndV, mNotV, mIf, mSet, mDo, mFor, mSeq, mTup, mLst, mSl, mOptInt, esc, escs, gLen, gInt, gI0, gI, gNeg, gSl, gTuple, gList, eq_ss, eq_ii, ne_ss, in_strs, in_lst, in_strsF, in_lstF, isi_s1, isi_s2, isi_s3, isi_s4, isi_s5, isi_t1, isi_t2, isi_t3, isi_t4, isi_t5, isi_b1, mEnm, ec]
  have q1 : S_law_draws_1 [.val (.scr ns), .own [], .un, .un, .un, .un, .un] = _ := (for_eq it).trans e
  have z : T_law_draws_0 [.val (.scr ns), .un, .un, .un, .un, .un, .un] = .ok (.rt (.own ds)) [.val (.scr ns), .un, s2, s3, s4, s5, s6] := (sq_nx q0).trans ((sq_nx q1).trans rfl)
  exact ⟨ds, _, hn, fn_own rfl z⟩
theorem loop_invN {h : D → En → Option En} {b : M Fl} {P : Nat → En → Prop} (N : Nat) : ∀ (l : List D), (∀ a ∈ l, ∀ k ρ, k < N → P k ρ → ∃ ρ1, h a ρ = some ρ1 ∧ ∃ ρ2, b ρ1 = .ok .nx ρ2 ∧ P (k + 1) ρ2) → ∀ (k : Nat) (ρ : En), k + l.length ≤ N → P k ρ → ∃ ρ', P (k + l.length) ρ' ∧ mLoop h b l ρ = .ok .nx ρ'
  | [], _, k, ρ, _, q => ⟨ρ, q, rfl⟩
  | a :: l, hs, k, ρ, hk, q => by
    rw [List.length_cons] at hk
    obtain ⟨ρ1, e1, ρ2, e2, q2⟩ := hs a (by simp) k ρ (by omega) q
    obtain ⟨ρ', q', e'⟩ := loop_invN N l (fun a m => hs a (by simp [m])) (k + 1) ρ2 (by omega) q2
    refine ⟨ρ', ?_, by rw [loop_nx e1 e2, e']⟩
    rw [List.length_cons, show k + (l.length + 1) = k + 1 + l.length by omega]
    exact q'
structure Gs (n : Nat) (x : Str) : Prop where
  len : x.length ≤ n
  tx : tx x = true
  sp : 32 ∉ x.cps.toList
theorem Gs.gS {n : Nat} {x : Str} (h : Gs n x) (hn : n ≤ 100) : gS x = true := by
  unfold PL.gS
  rw [h.tx, decide_eq_true (Nat.le_trans h.len hn), decide_eq_false h.sp]
  rfl
theorem Gs.app {n m : Nat} {x y : Str} (h : Gs n x) (k : Gs m y) : Gs (n + m) (x ++ y) := by
  refine ⟨?_, ?_, ?_⟩
  · rw [Str.length_append]
    have := h.len
    have := k.len
    omega
  · unfold PL.tx
    rw [app2, List.all_append]
    exact Bool.and_eq_true_iff.mpr ⟨h.tx, k.tx⟩
  · rw [app2]
    intro m
    rcases List.mem_append.mp m with m | m
    · exact h.sp m
    · exact k.sp m
theorem Gs.mono {n m : Nat} {x : Str} (h : Gs n x) (hm : n ≤ m) : Gs m x := ⟨Nat.le_trans h.len hm, h.tx, h.sp⟩
theorem cut_mem {z : Str} {lo hi : Option Int} {c : Nat} (h : c ∈ (cutS z lo hi).cps.toList) : c ∈ z.cps.toList := by
  have h' : c ∈ ((z.cps.toList.drop (HT.sIx z.length 0 lo)).take (HT.sIx z.length z.length hi - HT.sIx z.length 0 lo)) := h
  exact List.mem_of_mem_drop (List.mem_of_mem_take h')
theorem tx_cut {z : Str} (lo hi : Option Int) (h : tx z = true) : tx (cutS z lo hi) = true := List.all_eq_true.mpr fun c m => List.all_eq_true.mp h c (cut_mem m)
theorem Gs.cut {n : Nat} {x : Str} (h : Gs n x) (lo hi : Option Int) : Gs n (cutS x lo hi) := ⟨Nat.le_trans (cutS_length x lo hi) h.len, tx_cut lo hi h.tx, fun m => h.sp (cut_mem m)⟩
theorem atI_mem {α : Type} {xs : List α} {i : Int} (h0 : 0 ≤ i) (h1 : i < xs.length) : ∃ d ∈ xs, atI xs i = some d := by
  have hn : i.toNat < xs.length := by omega
  refine ⟨xs[i.toNat], List.getElem_mem hn, ?_⟩
  unfold atI ixN
  rw [if_pos h0, if_pos h1]
  simp [hn]
theorem gIx_lst {xs : List D} {i : Int} (h0 : 0 ≤ i) (h1 : i < xs.length) : ∃ d ∈ xs, gIx (.lst xs) (.int i) = some (.val d) := by
  obtain ⟨d, m, e⟩ := atI_mem h0 h1
  exact ⟨d, m, by simp [gIx, e]⟩
theorem gIx_str {z : Str} {i : Int} (hz : Gs 100 z) (h0 : 0 ≤ i) (h1 : i < z.length) : ∃ c, Gs 1 ⟨#[c]⟩ ∧ gIx (.str z) (.int i) = some (.val (.str ⟨#[c]⟩)) := by
  have hl : z.length = z.cps.toList.length := by simp [Str.length]
  obtain ⟨c, m, e⟩ := atI_mem (xs := z.cps.toList) h0 (by omega)
  refine ⟨c, ⟨by simp [Str.length], ?_, fun q => ?_⟩, ?_⟩
  · show ([c].all (· < 256)) = true
    have := List.all_eq_true.mp hz.tx c m
    simpa using this
  · have : 32 ∈ [c] := q
    simp at this
    rw [← this] at m
    exact hz.sp m
  · have : z.length ≤ sizeLine := Nat.le_trans hz.len (by decide)
    simp [gIx, e, this]
theorem Gs.ofB {n : Nat} {x : Str} (h : (decide (x.length ≤ n) && (PL.tx x && !decide (32 ∈ x.cps.toList))) = true) : Gs n x := by
  have h1 := Bool.and_eq_true_iff.mp h
  have h2 := Bool.and_eq_true_iff.mp h1.2
  exact ⟨of_decide_eq_true h1.1, h2.1, by simpa using h2.2⟩
theorem gs_ah : Gs 100 ("abcdefgh" : Str) := Gs.ofB (by decide +kernel)
theorem gs_iz : Gs 100 ("ijklmnopqrstuvwxyz0123456789" : Str) := Gs.ofB (by decide +kernel)
theorem gs_e : Gs 0 ("" : Str) := Gs.ofB (by decide +kernel)
theorem gs_a : Gs 1 ("a" : Str) := Gs.ofB (by decide +kernel)
theorem gs_0 : Gs 1 ("0" : Str) := Gs.ofB (by decide +kernel)
theorem gAdd_str {n m : Nat} {x y : Str} (h : Gs n x) (k : Gs m y) (hn : n + m ≤ 100000) : gAdd (.str x) (.str y) = some (.val (.str (x ++ y))) := by
  have := h.len
  have := k.len
  exact if_pos (Nat.le_trans (by omega : x.length + y.length ≤ 100000) (by decide))
def Ts (n : Nat) (ds : List D) : Prop := ∀ d ∈ ds, ∃ x, d = .str x ∧ Gs n x
theorem Ts.app {n : Nat} {ds : List D} {x : Str} (h : Ts n ds) (k : Gs n x) : Ts n (ds ++ [.str x]) := fun d m => by
  rcases List.mem_append.mp m with m | m
  · exact h d m
  · simp at m
    exact ⟨x, m, k⟩
/-! ### pool -/
section
variable {s2 s5 s6 s7 s8 s9 s10 : Sl} {st : List D}
theorem pool2 {a : D} {k : Nat} {ρ : En} (hk : k ≤ 100) (h : ∃ ds s4 x, ρ = [.bor ds, .own st, s2, .val (.str x), s4, s5, s6, s7, s8, s9, s10] ∧ Ns ds ∧ isBor (some s4) = false ∧ Gs k x) : ∃ ρ1, gNm 4 a ρ = some ρ1 ∧ ∃ ρ2, q_law_pool_2 ρ1 = .ok .nx ρ2 ∧ ∃ ds s4 x, ρ2 = [.bor ds, .own st, s2, .val (.str x), s4, s5, s6, s7, s8, s9, s10] ∧ Ns ds ∧ isBor (some s4) = false ∧ Gs (k + 1) x := by
  obtain ⟨ds, s4, x, rfl, hn, h4, hx⟩ := h
  refine ⟨_, gNm_ok h4, ?_⟩
  obtain ⟨r, ds', r0, r1, hn', e⟩ := nextC (R := [.own st, s2, .val (.str x), .val a, s5, s6, s7, s8, s9, s10]) hn (m := 8) (by decide)
  obtain ⟨c, hc, e2⟩ := gIx_str gs_ah r0 r1
  refine ⟨[.bor ds', .own st, s2, .val (.str (x ++ ⟨#[c]⟩)), .val a, s5, s6, s7, s8, s9, s10], ?_, ⟨_, _, _, rfl, hn', rfl, hx.app hc⟩⟩
  show q_law_pool_2 [.bor ds, .own st, s2, .val (.str x), .val a, s5, s6, s7, s8, s9, s10] = _
  simp [isBor, fnOf, outs, mSq, mIfS, mNotT, mB, mOp1, mOp2, mOpN, mVar, mC, mCons, mNil, deref, derefs, tru, mNx, mRet, mRetN, mOrT, mAndT, mOrV, mAndV, mNotV, mIf, mSet, mDo, mFor, mSeq, mTup, mLst, mSl, mOptInt, esc, escs, gLen, gInt, gI0, gI, gNeg, gSl, gTuple, gList, eq_ss, eq_ii, ne_ss, in_strs, in_lst, in_strsF, in_lstF, isi_s1, isi_s2, isi_s3, isi_s4, isi_s5, isi_t1, isi_t2, isi_t3, isi_t4, isi_t5, isi_b1, q_law_pool_2, e, e2, gAdd_str hx hc (by omega)]
end
theorem rngD_len (lo : Int) (n : Nat) : (rngD lo n).length = n := by simp [rngD]
def P3 (k : Nat) (ρ : En) : Prop := ∃ ds st s2 s3 s4, ρ = [.bor ds, .own st, s2, s3, s4, .un, .un, .un, .un, .un, .un] ∧ Ns ds ∧ isBor (some s2) = false ∧ isBor (some s3) = false ∧ isBor (some s4) = false ∧ Ts 7 st ∧ st.length = k
theorem pool3 {a : D} {k : Nat} {ρ : En} (hk : k ≤ 100) (h : P3 k ρ) : ∃ ρ1, gNm 2 a ρ = some ρ1 ∧ ∃ ρ2, q_law_pool_3 ρ1 = .ok .nx ρ2 ∧ P3 (k + 1) ρ2 := by
  obtain ⟨ds, st, s2, s3, s4, rfl, hn, h2, h3, h4, hs, hl⟩ := h
  refine ⟨_, gNm_ok h2, ?_⟩
  have q0 : S_q_law_pool_3_0 [.bor ds, .own st, .val a, s3, s4, .un, .un, .un, .un, .un, .un] = .ok .nx [.bor ds, .own st, .val a, .val (.str ""), s4, .un, .un, .un, .un, .un, .un] := by
    cases s3 <;> first | rfl | cases h3
  obtain ⟨r, ds', r0, r1, hn', e⟩ := nextC (R := [.own st, .val a, .val (.str ""), s4, .un, .un, .un, .un, .un, .un]) hn (m := 8) (by decide)
  have it : mRng1 (mCons (mCallR f_law_next 0 (mCons (mC (.int 8)) (mNil))) (mNil)) [.bor ds, .own st, .val a, .val (.str ""), s4, .un, .un, .un, .un, .un, .un] = .ok (rngD 0 r.toNat) [.bor ds', .own st, .val a, .val (.str ""), s4, .un, .un, .un, .un, .un, .un] := by
    simp [mRng1, mCons, e, mNil, derefs, deref]
    omega
  obtain ⟨ρ', ⟨ds2, s4', x, rfl, hn2, h4', hx⟩, el⟩ := loop_invN (h := gNm 4) (b := q_law_pool_2) (P := fun j ρ => ∃ ds s4 x, ρ = [.bor ds, .own st, .val a, .val (.str x), s4, .un, .un, .un, .un, .un, .un] ∧ Ns ds ∧ isBor (some s4) = false ∧ Gs j x) 7 (rngD 0 r.toNat) (fun d m j ρ hj p => pool2 (by omega) p) 0 [.bor ds', .own st, .val a, .val (.str ""), s4, .un, .un, .un, .un, .un, .un] (by rw [rngD_len]; omega) ⟨ds', s4, "", rfl, hn', h4, gs_e⟩
  have q1 : S_q_law_pool_3_1 [.bor ds, .own st, .val a, .val (.str ""), s4, .un, .un, .un, .un, .un, .un] = _ := (for_eq it).trans el
  have hx7 : Gs 7 x := hx.mono (by rw [rngD_len]; omega)
  have hz : st.length < sizeLine := Nat.lt_of_le_of_lt (by omega : st.length ≤ 100) (by decide)
  have q2 : S_q_law_pool_3_2 [.bor ds2, .own st, .val a, .val (.str x), s4', .un, .un, .un, .un, .un, .un] = .ok .nx [.bor ds2, .own (st ++ [.str x]), .val a, .val (.str x), s4', .un, .un, .un, .un, .un, .un] := by
    simp [isBor, fnOf, outs, mSq, mIfS, mNotT, mB, mOp1, mOp2, mOpN, mVar, mC, mCons, mNil, deref, derefs, tru, mNx, mRet, mRetN, mOrT, mAndT, mOrV, mAndV, mNotV, mIf, mSet, mDo, mFor, mSeq, mTup, mLst, mSl, mOptInt, esc, escs, gLen, gInt, gI0, gI, gNeg, gSl, gTuple, gList, eq_ss, eq_ii, ne_ss, in_strs, in_lst, in_strsF, in_lstF, isi_s1, isi_s2, isi_s3, isi_s4, isi_s5, isi_t1, isi_t2, isi_t3, isi_t4, isi_t5, isi_b1, S_q_law_pool_3_2, mMut, gAppend, hz]
  refine ⟨[.bor ds2, .own (st ++ [.str x]), .val a, .val (.str x), s4', .un, .un, .un, .un, .un, .un], ?_, ⟨ds2, _, _, _, _, rfl, hn2, rfl, rfl, h4', hs.app hx7, by simp [hl]⟩⟩
  exact (sq_nx q0).trans ((sq_nx q1).trans q2)
def P1 (st : List D) (fi : Int) (k : Nat) (ρ : En) : Prop := ∃ ds ns s2 s3 s4 s7 s8 s9 s10, ρ = [.bor ds, .own st, s2, s3, s4, .val (.int fi), .own ns, s7, s8, s9, s10] ∧ Ns ds ∧ isBor (some s3) = false ∧ isBor (some s7) = false ∧ isBor (some s8) = false ∧ isBor (some s9) = false ∧ isBor (some s10) = false ∧ Ts 16 ns ∧ (∀ d ∈ ns, d ≠ .str "as") ∧ ns.length = k
theorem pool1 {st : List D} {fi a : Int} {k : Nat} {ρ : En} (hs : Ts 7 st) (hl : st.length = 3) (ha : 0 ≤ a) (hk : k < 28) (h : P1 st fi k ρ) : ∃ ρ1, gNm 7 (.int a) ρ = some ρ1 ∧ ∃ ρ2, q_law_pool_1 ρ1 = .ok .nx ρ2 ∧ P1 st fi (k + 1) ρ2 := by
  obtain ⟨ds, ns, s2, s3, s4, s7, s8, s9, s10, rfl, hn, h3, h7, h8, h9, h10, ht, hna, hk'⟩ := h
  refine ⟨_, gNm_ok h7, ?_⟩
  show ∃ ρ2, T_q_law_pool_1_0 [.bor ds, .own st, s2, s3, s4, .val (.int fi), .own ns, .val (.int a), s8, s9, s10] = .ok .nx ρ2 ∧ P1 st fi (k + 1) ρ2
  obtain ⟨sg, g0, g1, q0⟩ : ∃ sg : Int, 0 ≤ sg ∧ sg < 28 ∧ S_q_law_pool_1_0 [.bor ds, .own st, s2, s3, s4, .val (.int fi), .own ns, .val (.int a), s8, s9, s10] = .ok .nx [.bor ds, .own st, s2, s3, s4, .val (.int fi), .own ns, .val (.int a), .val (.int sg), s9, s10] := by
    refine ⟨(fi + 5 * a) % 28, Int.emod_nonneg _ (by decide), Int.emod_lt_of_pos _ (by decide), ?_⟩
    simp [isBor, fnOf, outs, mSq, mIfS, mNotT, mB, mOp1, mOp2, mOpN, mVar, mC, mCons, mNil, deref, derefs, tru, mNx, mRet, mRetN, mOrT, mAndT, mOrV, mAndV, mNotV, mIf, mSet, mDo, mFor, mSeq, mTup, mLst, mSl, mOptInt, esc, escs, gLen, gInt, gI0, gI, gNeg, gSl, gTuple, gList, eq_ss, eq_ii, ne_ss, in_strs, in_lst, in_strsF, in_lstF, isi_s1, isi_s2, isi_s3, isi_s4, isi_s5, isi_t1, isi_t2, isi_t3, isi_t4, isi_t5, isi_b1, S_q_law_pool_1_0, gAdd, c6]
    cases s8 <;> first | rfl | cases h8
  obtain ⟨x, hx, q1⟩ : ∃ x, Gs 7 x ∧ S_q_law_pool_1_1 [.bor ds, .own st, s2, s3, s4, .val (.int fi), .own ns, .val (.int a), .val (.int sg), s9, s10] = .ok .nx [.bor ds, .own st, s2, .val (.str x), s4, .val (.int fi), .own ns, .val (.int a), .val (.int sg), s9, s10] := by
    obtain ⟨d, m, e⟩ := gIx_lst (xs := st) (i := a % 3) (Int.emod_nonneg _ (by decide)) (by rw [hl]; exact Int.emod_lt_of_pos _ (by decide))
    obtain ⟨x, rfl, hx⟩ := hs d m
    refine ⟨x, hx, ?_⟩
    simp [isBor, fnOf, outs, mSq, mIfS, mNotT, mB, mOp1, mOp2, mOpN, mVar, mC, mCons, mNil, deref, derefs, tru, mNx, mRet, mRetN, mOrT, mAndT, mOrV, mAndV, mNotV, mIf, mSet, mDo, mFor, mSeq, mTup, mLst, mSl, mOptInt, esc, escs, gLen, gInt, gI0, gI, gNeg, gSl, gTuple, gList, eq_ss, eq_ii, ne_ss, in_strs, in_lst, in_strsF, in_lstF, isi_s1, isi_s2, isi_s3, isi_s4, isi_s5, isi_t1, isi_t2, isi_t3, isi_t4, isi_t5, isi_b1, S_q_law_pool_1_1, e]
    cases s3 <;> first | rfl | cases h3
  obtain ⟨y, hy, q2⟩ : ∃ y, Gs 7 y ∧ S_q_law_pool_1_2 [.bor ds, .own st, s2, .val (.str x), s4, .val (.int fi), .own ns, .val (.int a), .val (.int sg), s9, s10] = .ok .nx [.bor ds, .own st, s2, .val (.str y), s4, .val (.int fi), .own ns, .val (.int a), .val (.int sg), s9, s10] := by
    by_cases c : 17 < sg
    · by_cases c2 : x = ""
      · exact ⟨"a", gs_a.mono (by decide), by simp [isBor, fnOf, outs, mSq, mIfS, mNotT, mB, mOp1, mOp2, mOpN, mVar, mC, mCons, mNil, deref, derefs, tru, mNx, mRet, mRetN, mOrT, mAndT, mOrV, mAndV, mNotV, mIf, mSet, mDo, mFor, mSeq, mTup, mLst, mSl, mOptInt, esc, escs, gLen, gInt, gI0, gI, gNeg, gSl, gTuple, gList, eq_ss, eq_ii, ne_ss, in_strs, in_lst, in_strsF, in_lstF, isi_s1, isi_s2, isi_s3, isi_s4, isi_s5, isi_t1, isi_t2, isi_t3, isi_t4, isi_t5, isi_b1, S_q_law_pool_1_2, c, c2]⟩
      · exact ⟨x, hx, by simp [isBor, fnOf, outs, mSq, mIfS, mNotT, mB, mOp1, mOp2, mOpN, mVar, mC, mCons, mNil, deref, derefs, tru, mNx, mRet, mRetN, mOrT, mAndT, mOrV, mAndV, mNotV, mIf, mSet, mDo, mFor, mSeq, mTup, mLst, mSl, mOptInt, esc, escs, gLen, gInt, gI0, gI, gNeg, gSl, gTuple, gList, eq_ss, eq_ii, ne_ss, in_strs, in_lst, in_strsF, in_lstF, isi_s1, isi_s2, isi_s3, isi_s4, isi_s5, isi_t1, isi_t2, isi_t3, isi_t4, isi_t5, isi_b1, S_q_law_pool_1_2, c, c2]⟩
    · exact ⟨x, hx, by simp [isBor, fnOf, outs, mSq, mIfS, mNotT, mB, mOp1, mOp2, mOpN, mVar, mC, mCons, mNil, deref, derefs, tru, mNx, mRet, mRetN, mOrT, mAndT, mOrV, mAndV, mNotV, mIf, mSet, mDo, mFor, mSeq, mTup, mLst, mSl, mOptInt, esc, escs, gLen, gInt, gI0, gI, gNeg, gSl, gTuple, gList, eq_ss, eq_ii, ne_ss, in_strs, in_lst, in_strsF, in_lstF, isi_s1, isi_s2, isi_s3, isi_s4, isi_s5, isi_t1, isi_t2, isi_t3, isi_t4, isi_t5, isi_b1, S_q_law_pool_1_2, c]⟩
  have hyl : y.length ≤ sizeLine := Nat.le_trans hy.len (by decide)
  obtain ⟨p, q3⟩ : ∃ p, S_q_law_pool_1_3 [.bor ds, .own st, s2, .val (.str y), s4, .val (.int fi), .own ns, .val (.int a), .val (.int sg), s9, s10] = .ok .nx [.bor ds, .own st, s2, .val (.str y), s4, .val (.int fi), .own ns, .val (.int a), .val (.int sg), .val (.int p), s10] := by
    have hp : (0 : Int) < (y.length : Int) + 1 := by omega
    refine ⟨(a / 3 + y.length) % (y.length + 1), ?_⟩
    simp [isBor, fnOf, outs, mSq, mIfS, mNotT, mB, mOp1, mOp2, mOpN, mVar, mC, mCons, mNil, deref, derefs, tru, mNx, mRet, mRetN, mOrT, mAndT, mOrV, mAndV, mNotV, mIf, mSet, mDo, mFor, mSeq, mTup, mLst, mSl, mOptInt, esc, escs, gLen, gInt, gI0, gI, gNeg, gSl, gTuple, gList, eq_ss, eq_ii, ne_ss, in_strs, in_lst, in_strsF, in_lstF, isi_s1, isi_s2, isi_s3, isi_s4, isi_s5, isi_t1, isi_t2, isi_t3, isi_t4, isi_t5, isi_b1, S_q_law_pool_1_3, gAdd, d3, hyl, hp]
    cases s9 <;> first | rfl | cases h9
  obtain ⟨p2, q4⟩ : ∃ p2, S_q_law_pool_1_4 [.bor ds, .own st, s2, .val (.str y), s4, .val (.int fi), .own ns, .val (.int a), .val (.int sg), .val (.int p), s10] = .ok .nx [.bor ds, .own st, s2, .val (.str y), s4, .val (.int fi), .own ns, .val (.int a), .val (.int sg), .val (.int p2), s10] := by
    by_cases c : 17 < sg
    · by_cases c2 : p = 0
      · exact ⟨1, by simp [isBor, fnOf, outs, mSq, mIfS, mNotT, mB, mOp1, mOp2, mOpN, mVar, mC, mCons, mNil, deref, derefs, tru, mNx, mRet, mRetN, mOrT, mAndT, mOrV, mAndV, mNotV, mIf, mSet, mDo, mFor, mSeq, mTup, mLst, mSl, mOptInt, esc, escs, gLen, gInt, gI0, gI, gNeg, gSl, gTuple, gList, eq_ss, eq_ii, ne_ss, in_strs, in_lst, in_strsF, in_lstF, isi_s1, isi_s2, isi_s3, isi_s4, isi_s5, isi_t1, isi_t2, isi_t3, isi_t4, isi_t5, isi_b1, S_q_law_pool_1_4, c, c2]⟩
      · exact ⟨p, by simp [isBor, fnOf, outs, mSq, mIfS, mNotT, mB, mOp1, mOp2, mOpN, mVar, mC, mCons, mNil, deref, derefs, tru, mNx, mRet, mRetN, mOrT, mAndT, mOrV, mAndV, mNotV, mIf, mSet, mDo, mFor, mSeq, mTup, mLst, mSl, mOptInt, esc, escs, gLen, gInt, gI0, gI, gNeg, gSl, gTuple, gList, eq_ss, eq_ii, ne_ss, in_strs, in_lst, in_strsF, in_lstF, isi_s1, isi_s2, isi_s3, isi_s4, isi_s5, isi_t1, isi_t2, isi_t3, isi_t4, isi_t5, isi_b1, S_q_law_pool_1_4, c, c2]⟩
    · exact ⟨p, by simp [isBor, fnOf, outs, mSq, mIfS, mNotT, mB, mOp1, mOp2, mOpN, mVar, mC, mCons, mNil, deref, derefs, tru, mNx, mRet, mRetN, mOrT, mAndT, mOrV, mAndV, mNotV, mIf, mSet, mDo, mFor, mSeq, mTup, mLst, mSl, mOptInt, esc, escs, gLen, gInt, gI0, gI, gNeg, gSl, gTuple, gList, eq_ss, eq_ii, ne_ss, in_strs, in_lst, in_strsF, in_lstF, isi_s1, isi_s2, isi_s3, isi_s4, isi_s5, isi_t1, isi_t2, isi_t3, isi_t4, isi_t5, isi_b1, S_q_law_pool_1_4, c]⟩
  obtain ⟨z, hz, q5⟩ : ∃ z, Gs 15 z ∧ S_q_law_pool_1_5 [.bor ds, .own st, s2, .val (.str y), s4, .val (.int fi), .own ns, .val (.int a), .val (.int sg), .val (.int p2), s10] = .ok .nx [.bor ds, .own st, s2, .val (.str y), s4, .val (.int fi), .own ns, .val (.int a), .val (.int sg), .val (.int p2), .val (.str z)] := by
    obtain ⟨c, hc, e⟩ := gIx_str gs_iz g0 g1
    have k1 := hy.cut none (some p2)
    have k2 := hy.cut (some p2) none
    have kk := (k1.app hc).app k2
    refine ⟨cutS y none (some p2) ++ ⟨#[c]⟩ ++ cutS y (some p2) none, kk, ?_⟩
    simp [isBor, fnOf, outs, mSq, mIfS, mNotT, mB, mOp1, mOp2, mOpN, mVar, mC, mCons, mNil, deref, derefs, tru, mNx, mRet, mRetN, mOrT, mAndT, mOrV, mAndV, mNotV, mIf, mSet, mDo, mFor, mSeq, mTup, mLst, mSl, mOptInt, esc, escs, gLen, gInt, gI0, gI, gNeg, gSl, gTuple, gList, eq_ss, eq_ii, ne_ss, in_strs, in_lst, in_strsF, in_lstF, isi_s1, isi_s2, isi_s3, isi_s4, isi_s5, isi_t1, isi_t2, isi_t3, isi_t4, isi_t5, isi_b1, S_q_law_pool_1_5, e, hyl, gAdd_str k1 hc (by decide), gAdd_str (k1.app hc) k2 (by decide)]
    cases s10 <;> first | rfl | cases h10
  obtain ⟨w, hw, hwa, q6⟩ : ∃ w, Gs 16 w ∧ ¬ w = "as" ∧ S_q_law_pool_1_6 [.bor ds, .own st, s2, .val (.str y), s4, .val (.int fi), .own ns, .val (.int a), .val (.int sg), .val (.int p2), .val (.str z)] = .ok .nx [.bor ds, .own st, s2, .val (.str y), s4, .val (.int fi), .own ns, .val (.int a), .val (.int sg), .val (.int p2), .val (.str w)] := by
    cases c : (("do" : Str) == z || (("as" : Str) == z || (("read" : Str) == z || ("fetch" : Str) == z))) with
    | true =>
      have e := in4 false z "do" "as" "read" "fetch"
      rw [c] at e
      have hna : ¬ z ++ "0" = ("as" : Str) := fun q => by
        have q2 := congrArg (fun x : Str => x.cps.toList) q
        simp only [app2] at q2
        have e1 : ("0" : Str).cps.toList = [48] := rfl
        have e2 : ("as" : Str).cps.toList = [97] ++ [115] := rfl
        rw [e1, e2] at q2
        have := (List.append_inj' q2 rfl).2
        simp at this
      exact ⟨z ++ "0", hz.app gs_0, hna, by simp [isBor, fnOf, outs, mSq, mIfS, mNotT, mB, mOp1, mOp2, mOpN, mVar, mC, mCons, mNil, deref, derefs, tru, mNx, mRet, mRetN, mOrT, mAndT, mOrV, mAndV, mNotV, mIf, mSet, mDo, mFor, mSeq, mTup, mLst, mSl, mOptInt, esc, escs, gLen, gInt, gI0, gI, gNeg, gSl, gTuple, gList, eq_ss, eq_ii, ne_ss, in_strs, in_lst, in_strsF, in_lstF, isi_s1, isi_s2, isi_s3, isi_s4, isi_s5, isi_t1, isi_t2, isi_t3, isi_t4, isi_t5, isi_b1, S_q_law_pool_1_6, e, sz4, gAdd_str hz gs_0 (by decide)]⟩
    | false =>
      have e := in4 false z "do" "as" "read" "fetch"
      rw [c] at e
      have hna : ¬ z = ("as" : Str) := fun q => by
        subst q
        simp at c
      exact ⟨z, hz.mono (by decide), hna, by simp [isBor, fnOf, outs, mSq, mIfS, mNotT, mB, mOp1, mOp2, mOpN, mVar, mC, mCons, mNil, deref, derefs, tru, mNx, mRet, mRetN, mOrT, mAndT, mOrV, mAndV, mNotV, mIf, mSet, mDo, mFor, mSeq, mTup, mLst, mSl, mOptInt, esc, escs, gLen, gInt, gI0, gI, gNeg, gSl, gTuple, gList, eq_ss, eq_ii, ne_ss, in_strs, in_lst, in_strsF, in_lstF, isi_s1, isi_s2, isi_s3, isi_s4, isi_s5, isi_t1, isi_t2, isi_t3, isi_t4, isi_t5, isi_b1, S_q_law_pool_1_6, e, sz4]⟩
  have hzl : ns.length < sizeLine := Nat.lt_of_le_of_lt (by omega : ns.length ≤ 100) (by decide)
  have q7 : S_q_law_pool_1_7 [.bor ds, .own st, s2, .val (.str y), s4, .val (.int fi), .own ns, .val (.int a), .val (.int sg), .val (.int p2), .val (.str w)] = .ok .nx [.bor ds, .own st, s2, .val (.str y), s4, .val (.int fi), .own (ns ++ [.str w]), .val (.int a), .val (.int sg), .val (.int p2), .val (.str w)] := by
    simp [isBor, fnOf, outs, mSq, mIfS, mNotT, mB, mOp1, mOp2, mOpN, mVar, mC, mCons, mNil, deref, derefs, tru, mNx, mRet, mRetN, mOrT, mAndT, mOrV, mAndV, mNotV, mIf, mSet, mDo, mFor, mSeq, mTup, mLst, mSl, mOptInt, esc, escs, gLen, gInt, gI0, gI, gNeg, gSl, gTuple, gList, eq_ss, eq_ii, ne_ss, in_strs, in_lst, in_strsF, in_lstF, isi_s1, isi_s2, isi_s3, isi_s4, isi_s5, isi_t1, isi_t2, isi_t3, isi_t4, isi_t5, isi_b1, S_q_law_pool_1_7, mMut, gAppend, hzl]
  refine ⟨[.bor ds, .own st, s2, .val (.str y), s4, .val (.int fi), .own (ns ++ [.str w]), .val (.int a), .val (.int sg), .val (.int p2), .val (.str w)], ?_, ⟨ds, _, _, _, _, _, _, _, _, rfl, hn, rfl, rfl, rfl, rfl, rfl, ht.app hw, (fun d m => by
    rcases List.mem_append.mp m with m | m
    · exact hna d m
    · simp at m
      subst m
      intro q
      cases q
      exact hwa rfl), by simp [hk']⟩⟩
  exact (sq_nx q0).trans ((sq_nx q1).trans ((sq_nx q2).trans ((sq_nx q3).trans ((sq_nx q4).trans ((sq_nx q5).trans ((sq_nx q6).trans q7))))))
structure Pl (ns : List D) : Prop where
  ts : Ts 16 ns
  na : ∀ d ∈ ns, d ≠ .str "as"
  len : ns.length = 28
theorem pool_eq {ds : List D} (h : Ns ds) : ∃ ns ds', Pl ns ∧ Ns ds' ∧ f_law_pool [.bor ds] = .ok (.own ns) [.bor ds'] := by
  obtain ⟨ρ', ⟨ds1, st, s2, s3, s4, rfl, hn1, h2, h3, h4, hs, hl⟩, e1⟩ := loop_invN (h := gNm 2) (b := q_law_pool_3) (P := P3) 3 (rngD 0 3) (fun d m k ρ hk p => pool3 (by omega) p) 0 [.bor ds, .own [], .un, .un, .un, .un, .un, .un, .un, .un, .un] (by rw [rngD_len]; omega) ⟨ds, [], .un, .un, .un, rfl, h, rfl, rfl, rfl, (fun d m => (by cases m)), rfl⟩
  rw [rngD_len] at hl
  have q0 : S_law_pool_0 [.bor ds, .un, .un, .un, .un, .un, .un, .un, .un, .un, .un] = .ok .nx [.bor ds, .own [], .un, .un, .un, .un, .un, .un, .un, .un, .un] := rfl
  have q1 : S_law_pool_1 [.bor ds, .own [], .un, .un, .un, .un, .un, .un, .un, .un, .un] = _ := (for_eq (rng1_eq (by decide) (by decide))).trans e1
  obtain ⟨fi, ds2, _, _, hn2, e2⟩ := nextC (R := [.own st, s2, s3, s4, .un, .un, .un, .un, .un, .un]) hn1 (m := 28) (by decide)
  have q2 : S_law_pool_2 [.bor ds1, .own st, s2, s3, s4, .un, .un, .un, .un, .un, .un] = .ok .nx [.bor ds2, .own st, s2, s3, s4, .val (.int fi), .un, .un, .un, .un, .un] := by
    simp [isBor, fnOf, outs, mSq, mIfS, mNotT, mB, mOp1, mOp2, mOpN, mVar, mC, mCons, mNil, deref, derefs, tru, mNx, mRet, mRetN, mOrT, mAndT, mOrV, mAndV, mNotV, mIf, mSet, mDo, mFor, mSeq, mTup, mLst, mSl, mOptInt, esc, escs, gLen, gInt, gI0, gI, gNeg, gSl, gTuple, gList, eq_ss, eq_ii, ne_ss, in_strs, in_lst, in_strsF, in_lstF, isi_s1, isi_s2, isi_s3, isi_s4, isi_s5, isi_t1, isi_t2, isi_t3, isi_t4, isi_t5, isi_b1, S_law_pool_2, e2]
  have q3 : S_law_pool_3 [.bor ds2, .own st, s2, s3, s4, .val (.int fi), .un, .un, .un, .un, .un] = .ok .nx [.bor ds2, .own st, s2, s3, s4, .val (.int fi), .own [], .un, .un, .un, .un] := rfl
  obtain ⟨ρ', ⟨ds3, ns, t2, t3, t4, t7, t8, t9, t10, rfl, hn3, _, _, _, _, _, ht, hna, hk⟩, e3⟩ := loop_invN (h := gNm 7) (b := q_law_pool_1) (P := P1 st fi) 28 (rngD 0 28) (fun d m k ρ hk p => by
    obtain ⟨a, rfl, ha, _⟩ := rng_int m
    exact pool1 hs (by omega) ha hk p) 0 [.bor ds2, .own st, s2, s3, s4, .val (.int fi), .own [], .un, .un, .un, .un] (by rw [rngD_len]; omega) ⟨ds2, [], _, _, _, _, _, _, _, rfl, hn2, h3, rfl, rfl, rfl, rfl, (fun d m => (by cases m)), (fun d m => (by cases m)), rfl⟩
  rw [rngD_len] at hk
  have q4 : S_law_pool_4 [.bor ds2, .own st, s2, s3, s4, .val (.int fi), .own [], .un, .un, .un, .un] = _ := (for_eq (rng1_eq (by decide) (by decide))).trans e3
  have z : T_law_pool_0 [.bor ds, .un, .un, .un, .un, .un, .un, .un, .un, .un, .un] = .ok (.rt (.own ns)) [.bor ds3, .own st, t2, t3, t4, .val (.int fi), .un, t7, t8, t9, t10] := (sq_nx q0).trans ((sq_nx q1).trans ((sq_nx q2).trans ((sq_nx q3).trans ((sq_nx q4).trans rfl))))
  exact ⟨ns, ds3, ⟨ht, hna, by omega⟩, hn3, (fn_own (np := 1) (nt := 11) (b := b_law_pool) (as := [.bor ds]) rfl z :)⟩
theorem pool_ix {ns : List D} (hp : Pl ns) {r : Int} (h0 : 0 ≤ r) (h1 : r < 28) : ∃ x, Gs 16 x ∧ ¬ x = "as" ∧ gIx (.lst ns) (.int r) = some (.val (.str x)) := by
  obtain ⟨d, m, e⟩ := gIx_lst (xs := ns) h0 (by rw [hp.len]; exact h1)
  obtain ⟨x, rfl, hx⟩ := hp.ts d m
  exact ⟨x, hx, fun q => hp.na _ m (by rw [q]), e⟩
theorem gAdd_s {x y : Str} (h : x.length + y.length ≤ 100000) : gAdd (.str x) (.str y) = some (.val (.str (x ++ y))) := if_pos (Nat.le_trans h (by decide))
theorem tx_app {x y : Str} (h : tx x = true) (k : tx y = true) : tx (x ++ y) = true := by
  unfold tx
  rw [app2, List.all_append]
  exact Bool.and_eq_true_iff.mpr ⟨h, k⟩
theorem ixN_ok {n : Nat} {i : Int} (h0 : 0 ≤ i) (h1 : i < n) : ixN n i = some i.toNat := by
  unfold ixN
  rw [if_pos h0, if_pos h1]
theorem gIx_s {z : Str} {i : Int} (hz : tx z = true) (hl : z.length ≤ 100) (h0 : 0 ≤ i) (h1 : i < z.length) : ∃ c, tx ⟨#[c]⟩ = true ∧ gIx (.str z) (.int i) = some (.val (.str ⟨#[c]⟩)) := by
  have hl2 : z.length = z.cps.toList.length := by simp [Str.length]
  obtain ⟨c, m, e⟩ := atI_mem (xs := z.cps.toList) h0 (by omega)
  refine ⟨c, ?_, ?_⟩
  · show ([c].all (· < 256)) = true
    have := List.all_eq_true.mp hz c m
    simpa using this
  · have : z.length ≤ sizeLine := Nat.le_trans hl (by decide)
    simp [gIx, e, this]
theorem setIx {j : Nat} {mi m : M Rv} {ρ ρ1 : En} {xs : List D} {i : Int} {d : D} (h1 : m ρ = .ok (.val d) ρ1) (h2 : ρ1[j]? = some (.own xs)) (h3 : mi ρ1 = .ok (.val (.int i)) ρ1) (i0 : 0 ≤ i) (i1 : i < xs.length) : mSetIx j mi m ρ = .ok .nx (ρ1.set j (.own (xs.set i.toNat d))) := by
  simp [mSetIx, h1, mVar, h2, h3, deref, esc, ixN_ok i0 i1]
def wt (W : List Str) : Nat := (W.map (·.length)).sum + W.length
theorem wt_cons (w : Str) (W : List Str) : wt (w :: W) = w.length + 1 + wt W := by
  simp [wt]
  omega
theorem wt_app (V W : List Str) : wt (V ++ W) = wt V + wt W := by
  simp [wt]
  omega
theorem gJoin_wt {W : List Str} (h : ∀ w ∈ W, tx w = true) (hw : wt W ≤ 100000) : gJoin " " [.lst (W.map D.str)] = some (.val (.str (Txt.join " " W))) := by
  have h1 : (W.map (·.length)).sum + W.length * (" " : Str).length ≤ 16777216 := by
    have e : (" " : Str).length = 1 := rfl
    rw [e]
    unfold wt at hw
    omega
  unfold gJoin
  simp only [strsD_map]
  rw [if_pos ⟨h1, tx_ok (tx_join h)⟩]
theorem join_wt (W : List Str) : (Txt.join " " W).length ≤ wt W := by
  rw [join_eq]
  have := StrLaws.join_length_le " " W
  have e : (" " : Str).length = 1 := rfl
  rw [e] at this
  unfold wt
  omega
theorem gAdd_ll (xs ys : List D) (q : xs.length + ys.length ≤ 2000) : gAdd (.lst xs) (.lst ys) = some (.own (xs ++ ys)) := if_pos (Nat.le_trans q (by decide))
theorem last1 {α : Type} {R : List α} (h : R ≠ []) : ∃ V b, R = V ++ [b] := ⟨R.dropLast, R.getLast h, (List.dropLast_concat_getLast h).symm⟩
theorem cut_m21 (V : List D) (a b : D) : cutD (V ++ [a, b]) (some (-2)) (some (-1)) = [a] := by
  unfold cutD
  rw [sIx_m2]
  have e : HT.sIx (V ++ [a, b]).length (V ++ [a, b]).length (some (-1)) = V.length + 1 := by
    have := sIx_m1 (V ++ [a]) b (V ++ [a, b]).length
    simpa using this
  rw [e]
  simp
theorem call2 {f : M Rv} {m n : M Rv} {ρ : En} {r s : Rv} {d e z : D} (h1 : m ρ = .ok r ρ) (h2 : n ρ = .ok s ρ) (h3 : esc ρ r = some (d, ρ)) (h4 : esc ρ s = some (e, ρ)) (h5 : ∃ ρ', f [.val d, .val e] = .ok (.val z) ρ') : mCallV f (mCons m (mCons n mNil)) ρ = .ok (.val z) ρ := by
  obtain ⟨ρ', h5⟩ := h5
  simp [mCallV, mCons, mNil, h1, h2, escs, h3, h4, vals, h5]
theorem call1own {f : M Rv} {m : M Rv} {ρ ρ1 ρ2 : En} {r : Rv} {d : D} {e : List D} (h1 : m ρ = .ok r ρ1) (h2 : esc ρ1 r = some (d, ρ2)) (h3 : ∃ ρ', f [.val d] = .ok (.own e) ρ') : mCallV f (mCons m mNil) ρ = .ok (.own e) ρ2 := by
  obtain ⟨ρ', h3⟩ := h3
  simp [mCallV, mCons, mNil, h1, escs, h2, vals, h3]
theorem callR_val {f : M Rv} {i : Nat} {n : M (List Rv)} {ρ as' : En} {rs : List Rv} {ds xs xs' : List D} {d : D} (h0 : ρ[i]? = some (.bor xs)) (h1 : n ρ = .ok rs ρ) (h2 : escs ρ rs = some (ds, ρ)) (h3 : f (.bor xs :: vals ds) = .ok (.val d) (.bor xs' :: as')) : mCallR f i n ρ = .ok (.val d) (ρ.set i (.bor xs')) := by
  simp [mCallR, mVar, h0, h1, h2, h3, backR, putSl]
theorem callR_valO {f : M Rv} {i : Nat} {n : M (List Rv)} {ρ as' : En} {rs : List Rv} {ds xs xs' : List D} {d : D} (h0 : ρ[i]? = some (.own xs)) (h1 : n ρ = .ok rs ρ) (h2 : escs ρ rs = some (ds, ρ)) (h3 : f (.bor xs :: vals ds) = .ok (.val d) (.bor xs' :: as')) : mCallR f i n ρ = .ok (.val d) (ρ.set i (.own xs')) := by
  simp [mCallR, mVar, h0, h1, h2, h3, backR, putSl]
theorem callR_ownO {f : M Rv} {i : Nat} {n : M (List Rv)} {ρ as' : En} {rs : List Rv} {ds xs xs' d : List D} (h0 : ρ[i]? = some (.own xs)) (h1 : n ρ = .ok rs ρ) (h2 : escs ρ rs = some (ds, ρ)) (h3 : f (.bor xs :: vals ds) = .ok (.own d) (.bor xs' :: as')) : mCallR f i n ρ = .ok (.own d) (ρ.set i (.own xs')) := by
  simp [mCallR, mVar, h0, h1, h2, h3, backR, putSl]
theorem callR_vO {f : M Rv} {i : Nat} {n : M (List Rv)} {ρ ρ2 as' : En} {rs : List Rv} {ds xs xs' : List D} {d : D} (h0 : ρ[i]? = some (.own xs)) (h1 : n ρ = .ok rs ρ) (h2 : escs ρ rs = some (ds, ρ2)) (h0' : ρ2[i]? = some (.own xs)) (h3 : f (.bor xs :: vals ds) = .ok (.val d) (.bor xs' :: as')) : mCallR f i n ρ = .ok (.val d) (ρ2.set i (.own xs')) := by
  simp [mCallR, mVar, h0, h1, h2, h0', h3, backR, putSl]
end PL
set_option Elab.async false
set_option linter.all false
set_option maxRecDepth 100000
set_option maxHeartbeats 8000000
/-! evaluation, step by step -/
namespace PL
open PySem L2 PM
section
variable {ρ ρ1 ρ2 ρ3 : En} {m n : M Rv} {r s z : Rv} {a b d : D}
theorem if_t {t : M Bool} {x y : M Fl} (h : t ρ = .ok true ρ1) : mIfS t x y ρ = x ρ1 := by
  unfold mIfS
  rw [h]
  rfl
theorem if_f {t : M Bool} {x y : M Fl} (h : t ρ = .ok false ρ1) : mIfS t x y ρ = y ρ1 := by
  unfold mIfS
  rw [h]
  rfl
theorem ret_v (h : m ρ = .ok (.val d) ρ1) : mRet m ρ = .ok (.rt (.val d)) ρ1 := by
  unfold mRet
  rw [h]
theorem set_v {i : Nat} (h : m ρ = .ok (.val d) ρ1) (hb : isBor ρ1[i]? = false) : mSet i m ρ = .ok .nx (ρ1.set i (.val d)) := by
  unfold mSet
  rw [h]
  simp [esc, hb]
theorem op2 {g : D → D → Option Rv} (h1 : m ρ = .ok r ρ1) (h2 : n ρ1 = .ok s ρ2) (h3 : deref ρ2 r = some a) (h4 : deref ρ2 s = some b) (h5 : g a b = some z) : mOp2 g m n ρ = .ok z ρ2 := by
  unfold mOp2
  rw [h1]
  dsimp only
  rw [h2]
  dsimp only
  rw [h3, h4]
  dsimp only
  rw [h5]
theorem op1 {g : D → Option Rv} (h1 : m ρ = .ok r ρ1) (h3 : deref ρ1 r = some a) (h5 : g a = some z) : mOp1 g m ρ = .ok z ρ1 := by
  unfold mOp1
  rw [h1]
  dsimp only
  rw [h3]
  dsimp only
  rw [h5]
theorem mb {b : Bool} (h1 : m ρ = .ok r ρ1) (h2 : deref ρ1 r = some (.bl b)) : mB m ρ = .ok b ρ1 := by
  unfold mB
  rw [h1]
  dsimp only
  rw [h2]
  rfl
end
mutual
theorem eqD_refl : ∀ (n : Nat) (d : D), pd n d = true → eqD d d = true
  | _, .non, _ => by simp [eqD]
  | _, .bl b, _ => by simp [eqD]
  | _, .int i, _ => by simp [eqD]
  | _, .str x, _ => by simp [eqD]
  | 0, .lst l, h => by simp [pd] at h
  | 0, .tup l, h => by simp [pd] at h
  | n + 1, .lst l, h => by
    simp only [eqD]
    exact eqDs_refl n l h
  | n + 1, .tup l, h => by
    simp only [eqD]
    exact eqDs_refl n l h
  | n, .obj _ _ _, h => by cases n <;> simp [pd] at h
  | n, .scr _, h => by cases n <;> simp [pd] at h
theorem eqDs_refl : ∀ (n : Nat) (l : List D), l.all (pd n) = true → eqDs l l = true
  | _, [], _ => by simp [eqDs]
  | n, d :: l, h => by
    simp only [List.all_cons, Bool.and_eq_true] at h
    simp only [eqDs, eqD_refl n d h.1, eqDs_refl n l h.2, Bool.and_self]
end
theorem gEq_refl {d : D} (h : pd 64 d = true) : gEq d d = some (.val (.bl true)) := by
  unfold gEq
  rw [h, eqD_refl 64 d h]
  rfl
theorem gNe_refl {d : D} (h : pd 64 d = true) : gNe d d = some (.val (.bl false)) := by
  unfold gNe
  rw [h, eqD_refl 64 d h]
  rfl
end PL
set_option Elab.async false
set_option linter.all false
set_option maxRecDepth 100000
set_option maxHeartbeats 8000000
namespace K00
open PySem L2 PM TL PL
theorem e_is_name : K00.f_is_name = PL.f_is_name := rfl
theorem e_next : K00.f_law_next = PL.f_law_next := rfl
theorem e_draws : K00.f_law_draws = PL.f_law_draws := rfl
def WL : List D := resv.map D.str
theorem words_eq : f_law_words [] = .ok (.own WL) [] := rfl
/-- a value of the law -/
def Vk (d : D) : Prop := okE d = true
theorem vk_str {x : Str} (h : x.length ≤ 100) : Vk (.str x) := by
  show (pd 60 (.str x) && okS (.str x)) = true
  have : okS (.str x) = true := decide_eq_true (by omega)
  rw [this]
  rfl
theorem nextC0 {R : En} {ds : List D} {m : Int} (h : Ns ds) (hm : 0 < m) : ∃ r ds', 0 ≤ r ∧ r < m ∧ Ns ds' ∧ mCallR K00.f_law_next 0 (mCons (mC (.int m)) (mNil)) (.bor ds :: R) = .ok (.val (.int r)) (.bor ds' :: R) := nextC h hm
theorem nextB0 {n : M (List Rv)} {R : En} {ds : List D} {m : Int} (hn : n (.bor ds :: R) = .ok [.val (.int m)] (.bor ds :: R)) (h : Ns ds) (hm : 0 < m) : ∃ r ds', 0 ≤ r ∧ r < m ∧ Ns ds' ∧ mCallR K00.f_law_next 0 n (.bor ds :: R) = .ok (.val (.int r)) (.bor ds' :: R) := nextB hn h hm
def sg : Str := "abcdefghijklmnopqrstuvwxyz0123456789"
def od : Str := " !\"#$&'()*+,-./:;<=>?@ABCDEFGHIJKLMNOPQRSTUVWXYZ[\\]^_`{|}~\n"
theorem sg_tx : tx sg = true := by decide +kernel
theorem od_tx : tx od = true := by decide +kernel
theorem sg_len : sg.length = 36 := by decide +kernel
theorem od_len : od.length ≤ 100 := by decide +kernel
theorem od_pos : 0 < od.length := by decide +kernel
def sevD : List D := [.non, .bl true, .int 7, .tup [.str "a"], .lst [.str "a"], .int 0, .lst [.str "take", .str "a"]]
theorem sev_ok : ∀ d ∈ sevD, Vk d := by
  intro d m
  simp only [sevD, List.mem_cons, List.not_mem_nil, or_false] at m
  rcases m with rfl | rfl | rfl | rfl | rfl | rfl | rfl <;> (show okE _ = true; decide +kernel)
def eleD : List D := [.int 3, .int 0, .int 1, .int 8, .int 9, .int 2, .int 5, .int 4, .int 7, .int 6, .int 10]
theorem WL_ix {r : Int} (h0 : 0 ≤ r) (h1 : r < 25) : ∃ w ∈ resv, gIx (.lst WL) (.int r) = some (.val (.str w)) := by
  obtain ⟨d, md, ed⟩ := gIx_lst (xs := WL) h0 h1
  obtain ⟨w, mw, rfl⟩ := List.mem_map.mp md
  exact ⟨w, mw, ed⟩
theorem up_ok : ∀ w ∈ resv, w.length ≤ 8 ∧ (Txt.upper w).length ≤ 100 ∧ (decide (w.length ≤ 5592405 ∧ PyData.strOk (Txt.upper w) = true)) = true := by decide +kernel
theorem up_eq {w : Str} (h : w ∈ resv) : gUpper (.str w) = some (.val (.str (Txt.upper w))) := by
  have := of_decide_eq_true (up_ok w h).2.2
  unfold gUpper
  dsimp only
  rw [if_pos this]
def Out (m : Res Fl) : Prop := ∃ v ds' R, Ns ds' ∧ Vk v ∧ m = .ok (.rt (.val v)) (.bor ds' :: .val (.lst WL) :: R)
theorem sl_s {x : Str} {lo hi : Option Int} (h : x.length ≤ 100) : gSl (.str x) lo hi = some (.val (.str (cutS x lo hi))) := if_pos (Nat.le_trans h (by decide))
theorem val3 {ds : List D} (h : Ns ds) : Out (T_law_value_2 [.bor ds, .val (.lst WL), .val (.int 3), .val (.str sg), .un, .un, .un, .un, .un, .un, .un, .un]) := by
  obtain ⟨r, ds1, r0, r1, hn1, e1⟩ := nextC0 (R := [.val (.lst WL), .val (.int 3), .val (.str sg), .un, .un, .un, .un, .un, .un, .un, .un]) h (m := 7) (by decide)
  obtain ⟨v, mv, ev⟩ := gIx_lst (xs := sevD) r0 r1
  refine ⟨v, ds1, [.val (.int 3), .val (.str sg), .un, .un, .un, .un, .un, .un, .un, .un], hn1, sev_ok v mv, ?_⟩
  refine sq_rt ?_
  have l : ∀ ρ, mLst (mCons (mC .non) (mCons (mC (.bl true)) (mCons (mC (.int 7)) (mCons (mTup (mCons (mC (.str "a")) (mNil))) (mCons (mLst (mCons (mC (.str "a")) (mNil))) (mCons (mC (.int 0)) (mCons (mLst (mCons (mC (.str "take")) (mCons (mC (.str "a")) (mNil)))) (mNil)))))))) ρ = .ok (.own sevD) ρ := fun ρ => rfl
  have c : mB (mOp2 gEq (mVar 2) (mC (.int 3))) [.bor ds, .val (.lst WL), .val (.int 3), .val (.str sg), .un, .un, .un, .un, .un, .un, .un, .un] = .ok true [.bor ds, .val (.lst WL), .val (.int 3), .val (.str sg), .un, .un, .un, .un, .un, .un, .un, .un] := rfl
  exact (if_t c).trans (ret_v (op2 (l _) e1 rfl rfl ev))
theorem val4 {ds : List D} (h : Ns ds) : Out (T_law_value_2 [.bor ds, .val (.lst WL), .val (.int 4), .val (.str sg), .un, .un, .un, .un, .un, .un, .un, .un]) := by
  have q2 : S_law_value_2 [.bor ds, .val (.lst WL), .val (.int 4), .val (.str sg), .un, .un, .un, .un, .un, .un, .un, .un] = .ok .nx [.bor ds, .val (.lst WL), .val (.int 4), .val (.str sg), .un, .un, .un, .un, .un, .un, .un, .un] := if_f (ρ1 := [.bor ds, .val (.lst WL), .val (.int 4), .val (.str sg), .un, .un, .un, .un, .un, .un, .un, .un]) rfl
  obtain ⟨r, ds1, r0, r1, hn1, e1⟩ := nextC0 (R := [.val (.lst WL), .val (.int 4), .val (.str sg), .un, .un, .un, .un, .un, .un, .un, .un]) h (m := 25) (by decide)
  obtain ⟨w, mw, ew⟩ := WL_ix r0 r1
  have k4 : mSet 4 (mOp2 gIx (mVar 1) (mCallR f_law_next 0 (mCons (mC (.int 25)) (mNil)))) [.bor ds, .val (.lst WL), .val (.int 4), .val (.str sg), .un, .un, .un, .un, .un, .un, .un, .un] = .ok .nx [.bor ds1, .val (.lst WL), .val (.int 4), .val (.str sg), .val (.str w), .un, .un, .un, .un, .un, .un, .un] := set_v (op2 (ρ1 := [.bor ds, .val (.lst WL), .val (.int 4), .val (.str sg), .un, .un, .un, .un, .un, .un, .un, .un]) rfl e1 rfl rfl ew) rfl
  obtain ⟨ch, ds2, c0, c1, hn2, e2⟩ := nextC0 (R := [.val (.lst WL), .val (.int 4), .val (.str sg), .val (.str w), .un, .un, .un, .un, .un, .un, .un]) hn1 (m := 6) (by decide)
  have k5 : mSet 5 (mCallR f_law_next 0 (mCons (mC (.int 6)) (mNil))) [.bor ds1, .val (.lst WL), .val (.int 4), .val (.str sg), .val (.str w), .un, .un, .un, .un, .un, .un, .un] = .ok .nx [.bor ds2, .val (.lst WL), .val (.int 4), .val (.str sg), .val (.str w), .val (.int ch), .un, .un, .un, .un, .un, .un] := set_v e2 rfl
  obtain ⟨r3, ds3, r30, r31, hn3, e3⟩ := nextC0 (R := [.val (.lst WL), .val (.int 4), .val (.str sg), .val (.str w), .val (.int ch), .un, .un, .un, .un, .un, .un]) hn2 (m := 36) (by decide)
  obtain ⟨c, ct, ec⟩ := gIx_s (z := sg) sg_tx (by decide +kernel) r30 (by rw [sg_len]; exact r31)
  have k6 : mSet 6 (mOp2 gIx (mVar 3) (mCallR f_law_next 0 (mCons (mC (.int 36)) (mNil)))) [.bor ds2, .val (.lst WL), .val (.int 4), .val (.str sg), .val (.str w), .val (.int ch), .un, .un, .un, .un, .un, .un] = .ok .nx [.bor ds3, .val (.lst WL), .val (.int 4), .val (.str sg), .val (.str w), .val (.int ch), .val (.str ⟨#[c]⟩), .un, .un, .un, .un, .un] := set_v (op2 (ρ1 := [.bor ds2, .val (.lst WL), .val (.int 4), .val (.str sg), .val (.str w), .val (.int ch), .un, .un, .un, .un, .un, .un]) rfl e3 rfl rfl ec) rfl
  have wl : w.length ≤ 8 := (up_ok w mw).1
  have cl : (⟨#[c]⟩ : Str).length = 1 := rfl
  let L : List D := [.str w, .str (w ++ ⟨#[c]⟩), .str (⟨#[c]⟩ ++ w), .str (cutS w (some 1) none), .str (cutS w none (some (-1))), .str (Txt.upper w)]
  have a1 := gAdd_s (x := w) (y := ⟨#[c]⟩) (by omega)
  have a2 := gAdd_s (x := ⟨#[c]⟩) (y := w) (by omega)
  have sl := fun lo hi => sl_s (x := w) (lo := lo) (hi := hi) (by omega)
  have up := up_eq mw
  have sz6 : (6 : Nat) ≤ sizeLine := by decide
  have l : mLst (mCons (mVar 4) (mCons (mOp2 gAdd (mVar 4) (mVar 6)) (mCons (mOp2 gAdd (mVar 6) (mVar 4)) (mCons (mSl (mVar 4) (some (mC (.int 1))) none) (mCons (mSl (mVar 4) none (some (mOp1 gNeg (mC (.int 1))))) (mCons (mOp1 gUpper (mVar 4)) (mNil))))))) [.bor ds3, .val (.lst WL), .val (.int 4), .val (.str sg), .val (.str w), .val (.int ch), .val (.str ⟨#[c]⟩), .un, .un, .un, .un, .un] = .ok (.own L) [.bor ds3, .val (.lst WL), .val (.int 4), .val (.str sg), .val (.str w), .val (.int ch), .val (.str ⟨#[c]⟩), .un, .un, .un, .un, .un] := by
    have g : ∀ z lo hi, gSl (.str z) lo hi = if z.length ≤ sizeLine then some (.val (.str (cutS z lo hi))) else none := fun _ _ _ => rfl
    have ws : w.length ≤ sizeLine := Nat.le_trans wl (by decide)
    simp [isBor, fnOf, outs, mSq, mIfS, mNotT, mB, mOp1, mOp2, mOpN, mVar, mC, mCons, mNil, deref, derefs, tru, mNx, mRet, mRetN, mOrT, mAndT, mOrV, mAndV, mNotV, mIf, mSet, mDo, mFor, mSeq, mTup, mLst, mSl, mOptInt, esc, escs, gLen, gInt, gI0, gI, gNeg, gSl, gTuple, gList, eq_ss, eq_ii, ne_ss, in_strs, in_lst, in_strsF, in_lstF, isi_s1, isi_s2, isi_s3, isi_s4, isi_s5, isi_t1, isi_t2, isi_t3, isi_t4, isi_t5, isi_b1, a1, a2, up, sz6, L, ws]
  obtain ⟨v, mv, ev⟩ := gIx_lst (xs := L) c0 c1
  have hv : Vk v := by
    have app : ∀ x y : Str, (x ++ y).length = x.length + y.length := fun x y => by
      show (x ++ y).cps.size = x.cps.size + y.cps.size
      have := congrArg List.length (app2 x y)
      simpa using this
    simp only [L, List.mem_cons, List.not_mem_nil, or_false] at mv
    rcases mv with rfl | rfl | rfl | rfl | rfl | rfl
    · exact vk_str (by omega)
    · exact vk_str (by rw [app]; omega)
    · exact vk_str (by rw [app]; omega)
    · exact vk_str (Nat.le_trans (cutS_length _ _ _) (by omega))
    · exact vk_str (Nat.le_trans (cutS_length _ _ _) (by omega))
    · exact vk_str (up_ok w mw).2.1
  refine ⟨v, ds3, _, hn3, hv, (sq_nx q2).trans (sq_rt ((if_t (ρ1 := [.bor ds, .val (.lst WL), .val (.int 4), .val (.str sg), .un, .un, .un, .un, .un, .un, .un, .un]) rfl).trans ((sq_nx k4).trans ((sq_nx k5).trans ((sq_nx k6).trans (ret_v (op2 l rfl rfl rfl ev)))))))⟩
theorem app_len (x y : Str) : (x ++ y).length = x.length + y.length := by
  show (x ++ y).cps.size = x.cps.size + y.cps.size
  have := congrArg List.length (app2 x y)
  simpa using this
section
variable {act mn : Int}
def PV (act mn : Int) (k : Nat) (ρ : En) : Prop := ∃ ds x s9, ρ = [.bor ds, .val (.lst WL), .val (.int act), .val (.str sg), .un, .un, .un, .val (.int mn), .val (.str x), s9, .un, .un] ∧ Ns ds ∧ x.length = k ∧ isBor (some s9) = false
theorem valL {a : D} {k : Nat} {ρ : En} (hk : k < 10) (h : PV act mn k ρ) : ∃ ρ1, gNm 9 a ρ = some ρ1 ∧ ∃ ρ2, q_law_value_1 ρ1 = .ok .nx ρ2 ∧ PV act mn (k + 1) ρ2 := by
  obtain ⟨ds, x, s9, rfl, hn, hx, h9⟩ := h
  refine ⟨[.bor ds, .val (.lst WL), .val (.int act), .val (.str sg), .un, .un, .un, .val (.int mn), .val (.str x), .val a, .un, .un], gNm_ok h9, ?_⟩
  obtain ⟨r3, ds3, r30, r31, hn3, e3⟩ := nextC0 (R := [.val (.lst WL), .val (.int act), .val (.str sg), .un, .un, .un, .val (.int mn), .val (.str x), .val a, .un, .un]) hn (m := 36) (by decide)
  obtain ⟨c, ct, ec⟩ := gIx_s (z := sg) sg_tx (by decide +kernel) r30 (by rw [sg_len]; exact r31)
  have cl : (⟨#[c]⟩ : Str).length = 1 := rfl
  have a1 := gAdd_s (x := x) (y := ⟨#[c]⟩) (by omega)
  have k : q_law_value_1 [.bor ds, .val (.lst WL), .val (.int act), .val (.str sg), .un, .un, .un, .val (.int mn), .val (.str x), .val a, .un, .un] = .ok .nx [.bor ds3, .val (.lst WL), .val (.int act), .val (.str sg), .un, .un, .un, .val (.int mn), .val (.str (x ++ ⟨#[c]⟩)), .val a, .un, .un] := by
    have o1 : mOp2 gIx (mVar 3) (mCallR f_law_next 0 (mCons (mC (.int 36)) (mNil))) [.bor ds, .val (.lst WL), .val (.int act), .val (.str sg), .un, .un, .un, .val (.int mn), .val (.str x), .val a, .un, .un] = .ok (.val (.str ⟨#[c]⟩)) [.bor ds3, .val (.lst WL), .val (.int act), .val (.str sg), .un, .un, .un, .val (.int mn), .val (.str x), .val a, .un, .un] := op2 (ρ1 := [.bor ds, .val (.lst WL), .val (.int act), .val (.str sg), .un, .un, .un, .val (.int mn), .val (.str x), .val a, .un, .un]) rfl e3 rfl rfl ec
    have o2 : mOp2 gAdd (mVar 8) (mOp2 gIx (mVar 3) (mCallR f_law_next 0 (mCons (mC (.int 36)) (mNil)))) [.bor ds, .val (.lst WL), .val (.int act), .val (.str sg), .un, .un, .un, .val (.int mn), .val (.str x), .val a, .un, .un] = .ok (.val (.str (x ++ ⟨#[c]⟩))) [.bor ds3, .val (.lst WL), .val (.int act), .val (.str sg), .un, .un, .un, .val (.int mn), .val (.str x), .val a, .un, .un] := op2 (ρ1 := [.bor ds, .val (.lst WL), .val (.int act), .val (.str sg), .un, .un, .un, .val (.int mn), .val (.str x), .val a, .un, .un]) rfl o1 rfl rfl a1
    exact set_v (i := 8) o2 rfl
  exact ⟨_, k, ds3, x ++ ⟨#[c]⟩, .val a, rfl, hn3, by rw [app_len]; omega, rfl⟩
theorem eq_in {i j : Int} (h : ¬ i = j) : gEq (.int i) (.int j) = some (.val (.bl false)) := by
  rw [eq_ii]
  simp [h]
theorem valR {ds : List D} (h : Ns ds) : Out (T_law_value_4 [.bor ds, .val (.lst WL), .val (.int act), .val (.str sg), .un, .un, .un, .un, .un, .un, .un, .un]) := by
  obtain ⟨r, ds1, r0, r1, hn1, e1⟩ := nextC0 (R := [.val (.lst WL), .val (.int act), .val (.str sg), .un, .un, .un, .un, .un, .un, .un, .un]) h (m := 11) (by decide)
  obtain ⟨d, md, ed⟩ := gIx_lst (xs := eleD) r0 r1
  obtain ⟨mn, rfl, m0, m1⟩ : ∃ mn : Int, d = .int mn ∧ 0 ≤ mn ∧ mn ≤ 10 := by
    simp only [eleD, List.mem_cons, List.not_mem_nil, or_false] at md
    rcases md with rfl | rfl | rfl | rfl | rfl | rfl | rfl | rfl | rfl | rfl | rfl <;> exact ⟨_, rfl, by decide, by decide⟩
  have q4 : S_law_value_4 [.bor ds, .val (.lst WL), .val (.int act), .val (.str sg), .un, .un, .un, .un, .un, .un, .un, .un] = .ok .nx [.bor ds1, .val (.lst WL), .val (.int act), .val (.str sg), .un, .un, .un, .val (.int mn), .un, .un, .un, .un] := set_v (op2 (r := .own eleD) (ρ1 := [.bor ds, .val (.lst WL), .val (.int act), .val (.str sg), .un, .un, .un, .un, .un, .un, .un, .un]) rfl e1 rfl rfl ed) rfl
  have q5 : S_law_value_5 [.bor ds1, .val (.lst WL), .val (.int act), .val (.str sg), .un, .un, .un, .val (.int mn), .un, .un, .un, .un] = .ok .nx [.bor ds1, .val (.lst WL), .val (.int act), .val (.str sg), .un, .un, .un, .val (.int mn), .val (.str ""), .un, .un, .un] := rfl
  obtain ⟨ρ', ⟨ds2, x, s9, rfl, hn2, hx, h9⟩, el⟩ := loop_invN (h := gNm 9) (b := q_law_value_1) (P := PV act mn) 10 (rngD 0 mn.toNat) (fun a _ k ρ hk p => valL hk p) 0 [.bor ds1, .val (.lst WL), .val (.int act), .val (.str sg), .un, .un, .un, .val (.int mn), .val (.str ""), .un, .un, .un] (by rw [rngD_len]; omega) ⟨ds1, "", .un, rfl, hn1, by decide +kernel, rfl⟩
  rw [rngD_len] at hx
  have i6 : mRng1 (mCons (mVar 7) mNil) [.bor ds1, .val (.lst WL), .val (.int act), .val (.str sg), .un, .un, .un, .val (.int mn), .val (.str ""), .un, .un, .un] = .ok (rngD 0 mn.toNat) [.bor ds1, .val (.lst WL), .val (.int act), .val (.str sg), .un, .un, .un, .val (.int mn), .val (.str ""), .un, .un, .un] := by
    have := rng1_eq (ρ := [.bor ds1, .val (.lst WL), .val (.int act), .val (.str sg), .un, .un, .un, .val (.int mn), .val (.str ""), .un, .un, .un]) m0 (by omega)
    exact this
  have q6 : S_law_value_6 [.bor ds1, .val (.lst WL), .val (.int act), .val (.str sg), .un, .un, .un, .val (.int mn), .val (.str ""), .un, .un, .un] = .ok .nx [.bor ds2, .val (.lst WL), .val (.int act), .val (.str sg), .un, .un, .un, .val (.int mn), .val (.str x), s9, .un, .un] := (for_eq i6).trans el
  have xl : x.length ≤ 10 := by omega
  by_cases c5 : act = 5
  · subst c5
    obtain ⟨pl, ds3, p0, p1, hn3, e3⟩ := nextB0 (n := mCons (mOp2 gAdd (mVar 7) (mC (.int 1))) (mNil)) (R := [.val (.lst WL), .val (.int 5), .val (.str sg), .un, .un, .un, .val (.int mn), .val (.str x), s9, .un, .un]) (ds := ds2) (m := mn + 1) rfl hn2 (by omega)
    have k10 : mSet 10 (mCallR f_law_next 0 (mCons (mOp2 gAdd (mVar 7) (mC (.int 1))) (mNil))) [.bor ds2, .val (.lst WL), .val (.int 5), .val (.str sg), .un, .un, .un, .val (.int mn), .val (.str x), s9, .un, .un] = .ok .nx [.bor ds3, .val (.lst WL), .val (.int 5), .val (.str sg), .un, .un, .un, .val (.int mn), .val (.str x), s9, .val (.int pl), .un] := set_v e3 rfl
    have k11 : mSet 11 (mC (.str od)) [.bor ds3, .val (.lst WL), .val (.int 5), .val (.str sg), .un, .un, .un, .val (.int mn), .val (.str x), s9, .val (.int pl), .un] = .ok .nx [.bor ds3, .val (.lst WL), .val (.int 5), .val (.str sg), .un, .un, .un, .val (.int mn), .val (.str x), s9, .val (.int pl), .val (.str od)] := rfl
    obtain ⟨r4, ds4, r40, r41, hn4, e4⟩ := nextB0 (n := mCons (mOpN gLen (mCons (mVar 11) (mNil))) (mNil)) (R := [.val (.lst WL), .val (.int 5), .val (.str sg), .un, .un, .un, .val (.int mn), .val (.str x), s9, .val (.int pl), .val (.str od)]) (ds := ds3) (m := (od.length : Int)) (by
      have : od.length ≤ sizeLine := Nat.le_trans od_len (by decide)
      simp [isBor, fnOf, outs, mSq, mIfS, mNotT, mB, mOp1, mOp2, mOpN, mVar, mC, mCons, mNil, deref, derefs, tru, mNx, mRet, mRetN, mOrT, mAndT, mOrV, mAndV, mNotV, mIf, mSet, mDo, mFor, mSeq, mTup, mLst, mSl, mOptInt, esc, escs, gLen, gInt, gI0, gI, gNeg, gSl, gTuple, gList, eq_ss, eq_ii, ne_ss, in_strs, in_lst, in_strsF, in_lstF, isi_s1, isi_s2, isi_s3, isi_s4, isi_s5, isi_t1, isi_t2, isi_t3, isi_t4, isi_t5, isi_b1, this]) hn3 (by have := od_pos; omega)
    obtain ⟨c, ct, ec⟩ := gIx_s (z := od) od_tx od_len r40 r41
    have cl : (⟨#[c]⟩ : Str).length = 1 := rfl
    have l1 := cutS_length x none (some pl)
    have l2 := cutS_length x (some pl) none
    have a1 := gAdd_s (x := cutS x none (some pl)) (y := ⟨#[c]⟩) (by omega)
    have a2 := gAdd_s (x := cutS x none (some pl) ++ ⟨#[c]⟩) (y := cutS x (some pl) none) (by rw [app_len]; omega)
    have s1 := sl_s (x := x) (lo := none) (hi := some pl) (by omega)
    have s2 := sl_s (x := x) (lo := some pl) (hi := none) (by omega)
    have xs : x.length ≤ sizeLine := Nat.le_trans xl (by decide)
    have k8 : mSet 8 (mOp2 gAdd (mOp2 gAdd (mSl (mVar 8) none (some (mVar 10))) (mOp2 gIx (mVar 11) (mCallR f_law_next 0 (mCons (mOpN gLen (mCons (mVar 11) (mNil))) (mNil))))) (mSl (mVar 8) (some (mVar 10)) none)) [.bor ds3, .val (.lst WL), .val (.int 5), .val (.str sg), .un, .un, .un, .val (.int mn), .val (.str x), s9, .val (.int pl), .val (.str od)] = .ok .nx [.bor ds4, .val (.lst WL), .val (.int 5), .val (.str sg), .un, .un, .un, .val (.int mn), .val (.str (cutS x none (some pl) ++ ⟨#[c]⟩ ++ cutS x (some pl) none)), s9, .val (.int pl), .val (.str od)] := by
      have o0 : mSl (mVar 8) none (some (mVar 10)) [.bor ds3, .val (.lst WL), .val (.int 5), .val (.str sg), .un, .un, .un, .val (.int mn), .val (.str x), s9, .val (.int pl), .val (.str od)] = .ok (.val (.str (cutS x none (some pl)))) [.bor ds3, .val (.lst WL), .val (.int 5), .val (.str sg), .un, .un, .un, .val (.int mn), .val (.str x), s9, .val (.int pl), .val (.str od)] := by simp [isBor, fnOf, outs, mSq, mIfS, mNotT, mB, mOp1, mOp2, mOpN, mVar, mC, mCons, mNil, deref, derefs, tru, mNx, mRet, mRetN, mOrT, mAndT, mOrV, mAndV, mNotV, mIf, mSet, mDo, mFor, mSeq, mTup, mLst, mSl, mOptInt, esc, escs, gLen, gInt, gI0, gI, gNeg, gSl, gTuple, gList, eq_ss, eq_ii, ne_ss, in_strs, in_lst, in_strsF, in_lstF, isi_s1, isi_s2, isi_s3, isi_s4, isi_s5, isi_t1, isi_t2, isi_t3, isi_t4, isi_t5, isi_b1, xs]
      have o1 : mOp2 gIx (mVar 11) (mCallR f_law_next 0 (mCons (mOpN gLen (mCons (mVar 11) (mNil))) (mNil))) [.bor ds3, .val (.lst WL), .val (.int 5), .val (.str sg), .un, .un, .un, .val (.int mn), .val (.str x), s9, .val (.int pl), .val (.str od)] = .ok (.val (.str ⟨#[c]⟩)) [.bor ds4, .val (.lst WL), .val (.int 5), .val (.str sg), .un, .un, .un, .val (.int mn), .val (.str x), s9, .val (.int pl), .val (.str od)] := op2 (ρ1 := [.bor ds3, .val (.lst WL), .val (.int 5), .val (.str sg), .un, .un, .un, .val (.int mn), .val (.str x), s9, .val (.int pl), .val (.str od)]) rfl e4 rfl rfl ec
      have o3 : mSl (mVar 8) (some (mVar 10)) none [.bor ds4, .val (.lst WL), .val (.int 5), .val (.str sg), .un, .un, .un, .val (.int mn), .val (.str x), s9, .val (.int pl), .val (.str od)] = .ok (.val (.str (cutS x (some pl) none))) [.bor ds4, .val (.lst WL), .val (.int 5), .val (.str sg), .un, .un, .un, .val (.int mn), .val (.str x), s9, .val (.int pl), .val (.str od)] := by simp [isBor, fnOf, outs, mSq, mIfS, mNotT, mB, mOp1, mOp2, mOpN, mVar, mC, mCons, mNil, deref, derefs, tru, mNx, mRet, mRetN, mOrT, mAndT, mOrV, mAndV, mNotV, mIf, mSet, mDo, mFor, mSeq, mTup, mLst, mSl, mOptInt, esc, escs, gLen, gInt, gI0, gI, gNeg, gSl, gTuple, gList, eq_ss, eq_ii, ne_ss, in_strs, in_lst, in_strsF, in_lstF, isi_s1, isi_s2, isi_s3, isi_s4, isi_s5, isi_t1, isi_t2, isi_t3, isi_t4, isi_t5, isi_b1, xs]
      exact set_v (i := 8) (op2 (op2 o0 o1 rfl rfl a1) o3 rfl rfl a2) rfl
    refine ⟨.str (cutS x none (some pl) ++ ⟨#[c]⟩ ++ cutS x (some pl) none), ds4, _, hn4, vk_str (by rw [app_len, app_len]; omega), (sq_nx q4).trans ((sq_nx q5).trans ((sq_nx q6).trans ((sq_nx ((if_t (ρ1 := [.bor ds2, .val (.lst WL), .val (.int 5), .val (.str sg), .un, .un, .un, .val (.int mn), .val (.str x), s9, .un, .un]) rfl).trans ((sq_nx k10).trans ((sq_nx k11).trans k8)))).trans rfl)))⟩
  · have q7 : S_law_value_7 [.bor ds2, .val (.lst WL), .val (.int act), .val (.str sg), .un, .un, .un, .val (.int mn), .val (.str x), s9, .un, .un] = .ok .nx [.bor ds2, .val (.lst WL), .val (.int act), .val (.str sg), .un, .un, .un, .val (.int mn), .val (.str x), s9, .un, .un] := by
      unfold S_law_value_7
      exact if_f (mb (op2 (m := mVar 2) (n := mC (.int 5)) (ρ1 := [.bor ds2, .val (.lst WL), .val (.int act), .val (.str sg), .un, .un, .un, .val (.int mn), .val (.str x), s9, .un, .un]) rfl rfl rfl rfl (eq_in c5)) rfl)
    refine ⟨.str x, ds2, _, hn2, vk_str (by omega), (sq_nx q4).trans ((sq_nx q5).trans ((sq_nx q6).trans ((sq_nx q7).trans rfl)))⟩
end
theorem value_eq {ds : List D} (h : Ns ds) : ∃ v ds', Ns ds' ∧ Vk v ∧ f_law_value [.bor ds, .val (.lst WL)] = .ok (.val v) [.bor ds', .val (.lst WL)] := by
  obtain ⟨act, ds1, a0, a1, hn1, e1⟩ := nextC0 (R := [.val (.lst WL), .un, .un, .un, .un, .un, .un, .un, .un, .un, .un]) h (m := 6) (by decide)
  have q0 : S_law_value_0 [.bor ds, .val (.lst WL), .un, .un, .un, .un, .un, .un, .un, .un, .un, .un] = .ok .nx [.bor ds1, .val (.lst WL), .val (.int act), .un, .un, .un, .un, .un, .un, .un, .un, .un] := set_v e1 rfl
  have q1 : S_law_value_1 [.bor ds1, .val (.lst WL), .val (.int act), .un, .un, .un, .un, .un, .un, .un, .un, .un] = .ok .nx [.bor ds1, .val (.lst WL), .val (.int act), .val (.str sg), .un, .un, .un, .un, .un, .un, .un, .un] := rfl
  have out : Out (T_law_value_2 [.bor ds1, .val (.lst WL), .val (.int act), .val (.str sg), .un, .un, .un, .un, .un, .un, .un, .un]) := by
    by_cases c3 : act = 3
    · subst c3
      exact val3 hn1
    · by_cases c4 : act = 4
      · subst c4
        exact val4 hn1
      · obtain ⟨v, ds', R, x1, x2, x3⟩ := valR (act := act) hn1
        refine ⟨v, ds', R, x1, x2, ?_⟩
        have q2 : S_law_value_2 [.bor ds1, .val (.lst WL), .val (.int act), .val (.str sg), .un, .un, .un, .un, .un, .un, .un, .un] = .ok .nx [.bor ds1, .val (.lst WL), .val (.int act), .val (.str sg), .un, .un, .un, .un, .un, .un, .un, .un] := if_f (mb (op2 (ρ1 := [.bor ds1, .val (.lst WL), .val (.int act), .val (.str sg), .un, .un, .un, .un, .un, .un, .un, .un]) rfl rfl rfl rfl (eq_in c3)) rfl)
        have q3 : S_law_value_3 [.bor ds1, .val (.lst WL), .val (.int act), .val (.str sg), .un, .un, .un, .un, .un, .un, .un, .un] = .ok .nx [.bor ds1, .val (.lst WL), .val (.int act), .val (.str sg), .un, .un, .un, .un, .un, .un, .un, .un] := if_f (mb (op2 (ρ1 := [.bor ds1, .val (.lst WL), .val (.int act), .val (.str sg), .un, .un, .un, .un, .un, .un, .un, .un]) rfl rfl rfl rfl (eq_in c4)) rfl)
        exact (sq_nx q2).trans ((sq_nx q3).trans x3)
  obtain ⟨v, ds', R, x1, x2, x3⟩ := out
  have z : T_law_value_0 [.bor ds, .val (.lst WL), .un, .un, .un, .un, .un, .un, .un, .un, .un, .un] = .ok (.rt (.val v)) (.bor ds' :: .val (.lst WL) :: R) := (sq_nx q0).trans ((sq_nx q1).trans x3)
  exact ⟨v, ds', x1, x2, (fn_val (np := 2) (nt := 12) (b := b_law_value) (as := [.bor ds, .val (.lst WL)]) rfl z :)⟩
end K00
set_option Elab.async false
set_option linter.all false
set_option maxRecDepth 100000
set_option maxHeartbeats 8000000
namespace K00
open PySem L2 PM TL PL
theorem alnum_eq : sg.cps.toList = ltr.cps.toList ++ dgt.cps.toList := by decide +kernel
theorem mem_alnum (c : Nat) : decide (c ∈ sg.cps.toList) = okC c := by
  rw [alnum_eq]
  unfold okC
  simp [List.mem_append]
theorem qdue_eq {s1 : Sl} (x : D) (c : Nat) : q_law_due_1 [.val x, s1, .val (.str ⟨#[c]⟩)] = .ok (if okC c then .nx else .rt (.val (.bl false))) [.val x, s1, .val (.str ⟨#[c]⟩)] := by
  have e1 : gIn true (.str ⟨#[c]⟩) (.str "abcdefghijklmnopqrstuvwxyz0123456789") = some (.val (.bl (true ^^ decide (c ∈ sg.cps.toList)))) := inC true c sg
  rw [mem_alnum] at e1
  cases h : okC c <;> rw [h] at e1 <;> simp [q_law_due_1, mIfS, mB, mOp2, mVar, mC, deref, e1, tru, mNx, mRet]
theorem loop_due {x : D} {s1 : Sl} (cs : List Nat) : ∃ s', mLoop (gNm 2) q_law_due_1 (cs.map fun c => .str ⟨#[c]⟩) [.val x, s1, .un] = .ok (if cs.all okC then .nx else .rt (.val (.bl false))) [.val x, s1, s'] := by
  obtain ⟨ρ', ⟨s', rfl, _⟩, e⟩ := loop_all (h := gNm 2) (b := q_law_due_1) (P := fun ρ => ∃ s, ρ = [.val x, s1, s] ∧ isBor (some s) = false) (p := okC) (g := fun c => .str ⟨#[c]⟩) (r := .val (.bl false)) (fun a ρ ⟨s, e, h⟩ => by
    subst e
    exact ⟨_, _, gNm_ok h, qdue_eq x a, _, rfl, rfl⟩) cs [.val x, s1, .un] ⟨.un, rfl, rfl⟩
  exact ⟨s', e⟩
theorem hLt : (D.str "abcdefghijklmnopqrstuvwxyz") = D.str ltr := rfl
theorem due_str (x : Str) (hx : x.length ≤ sizeLine) : ∃ ρ', b_law_due [.val (.str x), .val (.lst WL), .un] = .ok (.rt (.val (.bl (isN x)))) ρ' := by
  obtain ⟨s', e⟩ := loop_due (x := .str x) (s1 := .val (.lst WL)) x.cps.toList
  have n1 : gIn true (.str x) (.lst WL) = some (.val (.bl (true ^^ resv.any fun z => z == x))) := in_lst true x resv
  by_cases h1 : x = ""
  · subst h1
    exact ⟨_, rfl⟩
  · have hpos : ¬ (x.length : Int) < 1 := fun z => h1 (by
      have : x.cps.toList = [] := by
        have q : x.length = x.cps.toList.length := by simp [Str.length]
        exact List.length_eq_zero_iff.mp (by omega)
      exact cps_nil this)
    by_cases h2 : x.length ≤ 8
    · have h2' : ¬ (8 : Int) < (x.length : Int) := by omega
      cases q : x.cps.toList with
      | nil => exact absurd (cps_nil q) h1
      | cons c cs =>
        rw [q] at e
        have ic := inC false c ltr
        rw [Bool.false_xor] at ic
        by_cases h5 : (c :: cs).all okC = true
        · rw [h5, if_pos rfl] at e
          simp only [List.map_cons] at e
          cases h3 : (resv.any fun z => z == x) <;> rw [h3] at n1 <;> cases h6 : decide (c ∈ ltr.cps.toList) <;> rw [h6] at ic <;> have h6' := h6 <;> simp at h6' <;> simp [isBor, fnOf, outs, mSq, mIfS, mNotT, mB, mOp1, mOp2, mOpN, mVar, mC, mCons, mNil, deref, derefs, tru, mNx, mRet, mRetN, mOrT, mAndT, mOrV, mAndV, mNotV, mIf, mSet, mDo, mFor, mSeq, mTup, mLst, mSl, mOptInt, esc, escs, gLen, gInt, gI0, gI, gNeg, gSl, gTuple, gList, eq_ss, eq_ii, ne_ss, in_strs, in_lst, in_strsF, in_lstF, isi_s1, isi_s2, isi_s3, isi_s4, isi_s5, isi_t1, isi_t2, isi_t3, isi_t4, isi_t5, isi_b1, b_law_due, isN, h1, hx, hpos, h2, h2', n1, h3, h5, h6', itemsD, q, e, gIx, atI_zero, hLt, ic]
        · rw [if_neg h5] at e
          simp only [List.map_cons] at e
          have h5' : (c :: cs).all okC = false := Bool.eq_false_iff.mpr h5
          simp [isBor, fnOf, outs, mSq, mIfS, mNotT, mB, mOp1, mOp2, mOpN, mVar, mC, mCons, mNil, deref, derefs, tru, mNx, mRet, mRetN, mOrT, mAndT, mOrV, mAndV, mNotV, mIf, mSet, mDo, mFor, mSeq, mTup, mLst, mSl, mOptInt, esc, escs, gLen, gInt, gI0, gI, gNeg, gSl, gTuple, gList, eq_ss, eq_ii, ne_ss, in_strs, in_lst, in_strsF, in_lstF, isi_s1, isi_s2, isi_s3, isi_s4, isi_s5, isi_t1, isi_t2, isi_t3, isi_t4, isi_t5, isi_b1, b_law_due, isN, h1, hx, hpos, h2, h2', h5', itemsD, q, e]
    · have h2' : (8 : Int) < (x.length : Int) := by omega
      simp [isBor, fnOf, outs, mSq, mIfS, mNotT, mB, mOp1, mOp2, mOpN, mVar, mC, mCons, mNil, deref, derefs, tru, mNx, mRet, mRetN, mOrT, mAndT, mOrV, mAndV, mNotV, mIf, mSet, mDo, mFor, mSeq, mTup, mLst, mSl, mOptInt, esc, escs, gLen, gInt, gI0, gI, gNeg, gSl, gTuple, gList, eq_ss, eq_ii, ne_ss, in_strs, in_lst, in_strsF, in_lstF, isi_s1, isi_s2, isi_s3, isi_s4, isi_s5, isi_t1, isi_t2, isi_t3, isi_t4, isi_t5, isi_b1, b_law_due, isN, h1, hx, hpos, h2, h2']
theorem due_eq {d : D} (h : okE d = true) : ∃ ρ', f_law_due [.val d, .val (.lst WL)] = .ok (.val (.bl (nmD d))) ρ' := by
  cases d with
  | str x =>
    obtain ⟨ρ', e⟩ := due_str x (okE_str h)
    exact ⟨_, fn_val (np := 2) (nt := 3) (as := [.val (.str x), .val (.lst WL)]) rfl e⟩
  | obj _ _ _ => cases h
  | scr _ => cases h
  | non => exact ⟨_, rfl⟩
  | bl b => simp [isBor, fnOf, outs, mSq, mIfS, mNotT, mB, mOp1, mOp2, mOpN, mVar, mC, mCons, mNil, deref, derefs, tru, mNx, mRet, mRetN, mOrT, mAndT, mOrV, mAndV, mNotV, mIf, mSet, mDo, mFor, mSeq, mTup, mLst, mSl, mOptInt, esc, escs, gLen, gInt, gI0, gI, gNeg, gSl, gTuple, gList, eq_ss, eq_ii, ne_ss, in_strs, in_lst, in_strsF, in_lstF, isi_s1, isi_s2, isi_s3, isi_s4, isi_s5, isi_t1, isi_t2, isi_t3, isi_t4, isi_t5, isi_b1, f_law_due, b_law_due, nmD, isi_ok "str" "bool" (.bl b) false rfl k_bs]
  | int i => simp [isBor, fnOf, outs, mSq, mIfS, mNotT, mB, mOp1, mOp2, mOpN, mVar, mC, mCons, mNil, deref, derefs, tru, mNx, mRet, mRetN, mOrT, mAndT, mOrV, mAndV, mNotV, mIf, mSet, mDo, mFor, mSeq, mTup, mLst, mSl, mOptInt, esc, escs, gLen, gInt, gI0, gI, gNeg, gSl, gTuple, gList, eq_ss, eq_ii, ne_ss, in_strs, in_lst, in_strsF, in_lstF, isi_s1, isi_s2, isi_s3, isi_s4, isi_s5, isi_t1, isi_t2, isi_t3, isi_t4, isi_t5, isi_b1, f_law_due, b_law_due, nmD]
  | lst l => simp [isBor, fnOf, outs, mSq, mIfS, mNotT, mB, mOp1, mOp2, mOpN, mVar, mC, mCons, mNil, deref, derefs, tru, mNx, mRet, mRetN, mOrT, mAndT, mOrV, mAndV, mNotV, mIf, mSet, mDo, mFor, mSeq, mTup, mLst, mSl, mOptInt, esc, escs, gLen, gInt, gI0, gI, gNeg, gSl, gTuple, gList, eq_ss, eq_ii, ne_ss, in_strs, in_lst, in_strsF, in_lstF, isi_s1, isi_s2, isi_s3, isi_s4, isi_s5, isi_t1, isi_t2, isi_t3, isi_t4, isi_t5, isi_b1, f_law_due, b_law_due, nmD]
  | tup l => simp [isBor, fnOf, outs, mSq, mIfS, mNotT, mB, mOp1, mOp2, mOpN, mVar, mC, mCons, mNil, deref, derefs, tru, mNx, mRet, mRetN, mOrT, mAndT, mOrV, mAndV, mNotV, mIf, mSet, mDo, mFor, mSeq, mTup, mLst, mSl, mOptInt, esc, escs, gLen, gInt, gI0, gI, gNeg, gSl, gTuple, gList, eq_ss, eq_ii, ne_ss, in_strs, in_lst, in_strsF, in_lstF, isi_s1, isi_s2, isi_s3, isi_s4, isi_s5, isi_t1, isi_t2, isi_t3, isi_t4, isi_t5, isi_b1, f_law_due, b_law_due, nmD]
end K00
set_option Elab.async false
set_option linter.all false
set_option maxRecDepth 100000
set_option maxHeartbeats 8000000
namespace K00
open PySem L2 PM TL PL
section
variable (n : Int) (w : Str) (q : D)
def ob1 (c : Nat) (k : Str) (d : D) : D := .obj (c + 100) [k] [d]
def ob2 (c : Nat) (k l : Str) (d e : D) : D := .obj (c + 100) [l, k] [e, d]
def made (n : Int) (w : Str) (q : D) : List D :=
  [ob1 1 "rule" (.str w), ob2 2 "line" "rule" (.int n) (.str w), ob1 3 "name" q, .obj 104 [] [], ob1 5 "position" (.int n), ob1 6 "position" (.int n)] ++
  [ob1 7 "place" q, ob1 8 "position" (.int n), ob1 9 "point" q, ob1 10 "what" (.str w), ob1 18 "row" q, ob1 19 "tag" (.str w)] ++
  [ob1 20 "node" q, ob1 11 "kind" (.str w), ob1 12 "position" (.int n), ob1 13 "hand" q, ob2 14 "move" "rule" q (.str w)] ++
  [ob2 15 "lock" "hand" (.str w) (.int n), ob1 16 "position" (.int n), ob2 17 "cycle" "short" q (.int n), ob1 21 "request" q] ++
  [ob1 22 "cycle" q, ob1 23 "part" q, ob2 24 "routine" "nodes" (.str w) q, ob1 25 "cycle" q, ob1 26 "state" q, ob1 27 "rule" (.str w)]
theorem errors_eq : f_law_errors [.val (.int n), .val (.str w), .val q] = .ok (.own (made n w q)) [.val (.int n), .val (.str w), .val q] := rfl
def dueL (n : Int) (w : Str) (q : D) : List D :=
  [.str w, .int n, .str w, q, .int n, .int n, q, .int n, q, .str w, q, .str w, q, .str w, .int n, q, q, .str w, .str w, .int n, .int n, q, .int n, q, q, q, .str w, q, q, q, .str w]
theorem hold_eq (hq : pd 63 q = true) : ∃ ρ', f_law_fields_hold [.val (.lst (made n w q)), .val (.int n), .val (.str w), .val q] = .ok (.val (.bl true)) ρ' := by
  have hp : pd 64 (.lst (dueL n w q)) = true := by
    show (dueL n w q).all (pd 63) = true
    simp [dueL, hq, pd]
  have e := gEq_refl hp
  have z : T_law_fields_hold_0 [.val (.lst (made n w q)), .val (.int n), .val (.str w), .val q, .un, .un] = T_law_fields_hold_8 [.val (.lst (made n w q)), .val (.int n), .val (.str w), .val q, .own (dueL n w q), .own ((dueL n w q).take 23)] := rfl
  have y : T_law_fields_hold_8 [.val (.lst (made n w q)), .val (.int n), .val (.str w), .val q, .own (dueL n w q), .own ((dueL n w q).take 23)] = .ok (.rt (.val (.bl true))) [.val (.lst (made n w q)), .val (.int n), .val (.str w), .val q, .own (dueL n w q), .own ((dueL n w q).take 23)] := ret_v (op2 (r := .loc 4) (s := .own (dueL n w q)) (ρ1 := [.val (.lst (made n w q)), .val (.int n), .val (.str w), .val q, .own (dueL n w q), .own ((dueL n w q).take 23)]) rfl rfl rfl rfl e)
  exact ⟨_, (fn_val (np := 4) (nt := 6) (b := b_law_fields_hold) (as := [.val (.lst (made n w q)), .val (.int n), .val (.str w), .val q]) rfl (z.trans y) :)⟩
def stL (ns : List Int) (dr : List D) (s4 s5 s6 : Sl) (n : Int) (w : Str) (q : D) (s11 s12 : Sl) : En := [.val (.scr ns), .own dr, .val (.lst WL), .own [], s4, s5, s6, .val (.str w), .val (.int n), .val q, .val (.lst (made n w q)), s11, s12, .un, .un]
end
end K00
set_option Elab.async false
set_option linter.all false
set_option maxRecDepth 100000
set_option maxHeartbeats 8000000
namespace K00
open PySem L2 PM TL PL
section
variable (s0 s1 s2 s3 s4 s5 s6 : Sl) (n : Int) (w : Str) (q : D)
def lastE (w : Str) : D := ob1 27 "rule" (.str w)
theorem loopE : S_law_11 [s0, s1, s2, s3, s4, s5, s6, .val (.str w), .val (.int n), .val q, .own (made n w q), .un, .un, .un, .un] = .ok .nx [s0, s1, s2, s3, s4, s5, s6, .val (.str w), .val (.int n), .val q, .val (.lst (made n w q)), .val (.int 26), .val (lastE w), .un, .un] := by
  kernel_rfl
end
end K00
set_option Elab.async false
set_option linter.all false
set_option maxRecDepth 100000
set_option maxHeartbeats 8000000
namespace K00
open PySem L2 PM TL PL
def RL : List D := [.str "form", .str "place", .str "many", .str "pair", .str "twice", .str "scope", .str "unknown", .str "fit", .str "needs", .str "order", .str "end"]
/-- the states of the loop over sixteen values -/
def P5 (ns : List Int) (ρ : En) : Prop := ∃ ds s2 s4 s5 s6, ρ = [.val (.scr ns), .own ds, s2, .own RL, s4, s5, s6, .un, .un, .un, .un, .un, .un, .un, .un] ∧ Ns ds ∧ (s2 = .own WL ∨ s2 = .val (.lst WL)) ∧ isBor (some s4) = false ∧ isBor (some s5) = false ∧ isBor (some s6) = false
def P5' (ns : List Int) (k : Nat) (ρ : En) : Prop := P5 ns ρ ∧ (0 < k → ρ[2]? = some (.val (.lst WL)))
theorem lawL {ns : List Int} {a : D} {k : Nat} {ρ : En} (h : P5' ns k ρ) : ∃ ρ1, gNm 4 a ρ = some ρ1 ∧ ∃ ρ2, q_law_3 ρ1 = .ok .nx ρ2 ∧ P5' ns (k + 1) ρ2 := by
  obtain ⟨⟨ds, s2, s4, s5, s6, rfl, hn, h2, h4, h5, h6⟩, _⟩ := h
  refine ⟨[.val (.scr ns), .own ds, s2, .own RL, .val a, s5, s6, .un, .un, .un, .un, .un, .un, .un, .un], gNm_ok h4, ?_⟩
  obtain ⟨v, ds1, hn1, vk, e1⟩ := value_eq hn
  have q0 : S_q_law_3_0 [.val (.scr ns), .own ds, s2, .own RL, .val a, s5, s6, .un, .un, .un, .un, .un, .un, .un, .un] = .ok .nx [.val (.scr ns), .own ds1, .val (.lst WL), .own RL, .val a, .val v, s6, .un, .un, .un, .un, .un, .un, .un, .un] := by
    have c : mCallR f_law_value 1 (mCons (mVar 2) (mNil)) [.val (.scr ns), .own ds, s2, .own RL, .val a, s5, s6, .un, .un, .un, .un, .un, .un, .un, .un] = .ok (.val v) [.val (.scr ns), .own ds1, .val (.lst WL), .own RL, .val a, s5, s6, .un, .un, .un, .un, .un, .un, .un, .un] := by
      rcases h2 with rfl | rfl
      · exact callR_vO (ρ2 := [.val (.scr ns), .own ds, .val (.lst WL), .own RL, .val a, s5, s6, .un, .un, .un, .un, .un, .un, .un, .un]) rfl rfl rfl rfl e1
      · exact callR_vO (ρ2 := [.val (.scr ns), .own ds, .val (.lst WL), .own RL, .val a, s5, s6, .un, .un, .un, .un, .un, .un, .un, .un]) rfl rfl rfl rfl e1
    exact set_v (i := 5) c h5
  have q1 : S_q_law_3_1 [.val (.scr ns), .own ds1, .val (.lst WL), .own RL, .val a, .val v, s6, .un, .un, .un, .un, .un, .un, .un, .un] = .ok .nx [.val (.scr ns), .own ds1, .val (.lst WL), .own RL, .val a, .val v, .val (.bl (nmD v)), .un, .un, .un, .un, .un, .un, .un, .un] := by
    have c := call1 (f := PL.f_is_name) (m := mVar 5) (ρ := [.val (.scr ns), .own ds1, .val (.lst WL), .own RL, .val a, .val v, s6, .un, .un, .un, .un, .un, .un, .un, .un]) rfl rfl (is_name_eq vk)
    exact set_v (i := 6) c h6
  have q2 : S_q_law_3_2 [.val (.scr ns), .own ds1, .val (.lst WL), .own RL, .val a, .val v, .val (.bl (nmD v)), .un, .un, .un, .un, .un, .un, .un, .un] = .ok .nx [.val (.scr ns), .own ds1, .val (.lst WL), .own RL, .val a, .val v, .val (.bl (nmD v)), .un, .un, .un, .un, .un, .un, .un, .un] := by
    have c := call2 (f := f_law_due) (m := mVar 5) (n := mVar 2) (ρ := [.val (.scr ns), .own ds1, .val (.lst WL), .own RL, .val a, .val v, .val (.bl (nmD v)), .un, .un, .un, .un, .un, .un, .un, .un]) rfl rfl rfl rfl (due_eq vk)
    have g : gNe (.bl (nmD v)) (.bl (nmD v)) = some (.val (.bl false)) := gNe_refl rfl
    simp [isBor, fnOf, outs, mSq, mIfS, mNotT, mB, mOp1, mOp2, mOpN, mVar, mC, mCons, mNil, deref, derefs, tru, mNx, mRet, mRetN, mOrT, mAndT, mOrV, mAndV, mNotV, mIf, mSet, mDo, mFor, mSeq, mTup, mLst, mSl, mOptInt, esc, escs, gLen, gInt, gI0, gI, gNeg, gSl, gTuple, gList, eq_ss, eq_ii, ne_ss, in_strs, in_lst, in_strsF, in_lstF, isi_s1, isi_s2, isi_s3, isi_s4, isi_s5, isi_t1, isi_t2, isi_t3, isi_t4, isi_t5, isi_b1, S_q_law_3_2, c, g]
  exact ⟨_, (sq_nx q0).trans ((sq_nx q1).trans q2), ⟨ds1, _, _, _, _, rfl, hn1, .inr rfl, rfl, rfl, rfl⟩, fun _ => rfl⟩
theorem res_no : ∀ w ∈ resv, isN w = false ∧ w.length ≤ 100 := by decide +kernel
def P6 (ns : List Int) (ds : List D) (s4 s5 : Sl) (ρ : En) : Prop := ∃ s6 s7, ρ = [.val (.scr ns), .own ds, .val (.lst WL), .own RL, s4, s5, s6, s7, .un, .un, .un, .un, .un, .un, .un] ∧ isBor (some s6) = false ∧ isBor (some s7) = false
theorem wordL {ns : List Int} {ds : List D} {s4 s5 : Sl} {a : D} (ma : a ∈ WL) {ρ : En} (h : P6 ns ds s4 s5 ρ) : ∃ ρ1, gNm 7 a ρ = some ρ1 ∧ ∃ ρ2, q_law_2 ρ1 = .ok .nx ρ2 ∧ P6 ns ds s4 s5 ρ2 := by
  obtain ⟨s6, s7, rfl, h6, h7⟩ := h
  obtain ⟨w, mw, rfl⟩ := List.mem_map.mp ma
  refine ⟨[.val (.scr ns), .own ds, .val (.lst WL), .own RL, s4, s5, s6, .val (.str w), .un, .un, .un, .un, .un, .un, .un], gNm_ok h7, ?_⟩
  have q0 : S_q_law_2_0 [.val (.scr ns), .own ds, .val (.lst WL), .own RL, s4, s5, s6, .val (.str w), .un, .un, .un, .un, .un, .un, .un] = .ok .nx [.val (.scr ns), .own ds, .val (.lst WL), .own RL, s4, s5, .val (.bl false), .val (.str w), .un, .un, .un, .un, .un, .un, .un] := by
    have e := is_name_eq (vk_str (res_no w mw).2)
    have z : nmD (.str w) = false := (res_no w mw).1
    rw [z] at e
    have c := call1 (f := PL.f_is_name) (m := mVar 7) (ρ := [.val (.scr ns), .own ds, .val (.lst WL), .own RL, s4, s5, s6, .val (.str w), .un, .un, .un, .un, .un, .un, .un]) rfl rfl e
    exact set_v (i := 6) c h6
  have q1 : S_q_law_2_1 [.val (.scr ns), .own ds, .val (.lst WL), .own RL, s4, s5, .val (.bl false), .val (.str w), .un, .un, .un, .un, .un, .un, .un] = .ok .nx [.val (.scr ns), .own ds, .val (.lst WL), .own RL, s4, s5, .val (.bl false), .val (.str w), .un, .un, .un, .un, .un, .un, .un] := by simp [isBor, fnOf, outs, mSq, mIfS, mNotT, mB, mOp1, mOp2, mOpN, mVar, mC, mCons, mNil, deref, derefs, tru, mNx, mRet, mRetN, mOrT, mAndT, mOrV, mAndV, mNotV, mIf, mSet, mDo, mFor, mSeq, mTup, mLst, mSl, mOptInt, esc, escs, gLen, gInt, gI0, gI, gNeg, gSl, gTuple, gList, eq_ss, eq_ii, ne_ss, in_strs, in_lst, in_strsF, in_lstF, isi_s1, isi_s2, isi_s3, isi_s4, isi_s5, isi_t1, isi_t2, isi_t3, isi_t4, isi_t5, isi_b1, S_q_law_2_1]
  exact ⟨_, (sq_nx q0).trans q1, _, _, rfl, rfl, rfl⟩
theorem nextO {i : Nat} {n : M (List Rv)} {ρ : En} {ds : List D} {m : Int} (hi : ρ[i]? = some (.own ds)) (hn : n ρ = .ok [.val (.int m)] ρ) (h : Ns ds) (hm : 0 < m) : ∃ r ds', 0 ≤ r ∧ r < m ∧ Ns ds' ∧ mCallR K00.f_law_next i n ρ = .ok (.val (.int r)) (ρ.set i (.own ds')) := by
  obtain ⟨r, ds', h1, h2, h3, e⟩ := next_eq h hm
  exact ⟨r, ds', h1, h2, h3, callR_valO (f := PL.f_law_next) (rs := [.val (.int m)]) (ds := [.int m]) hi hn rfl e⟩
theorem RL_ix {r : Int} (h0 : 0 ≤ r) (h1 : r < 11) : ∃ w : Str, gIx (.lst RL) (.int r) = some (.val (.str w)) := by
  obtain ⟨d, md, ed⟩ := gIx_lst (xs := RL) h0 h1
  simp only [RL, List.mem_cons, List.not_mem_nil, or_false] at md
  rcases md with rfl | rfl | rfl | rfl | rfl | rfl | rfl | rfl | rfl | rfl | rfl <;> exact ⟨_, ed⟩
theorem plain (ns : List Int) (hl : ns.length ≤ 63) : ∃ ρ, f_law [.val (.scr ns)] = .ok (.val (.bl true)) ρ := by
  obtain ⟨ds, ρ0, hn, e0⟩ := draws_eq (ns := ns)
  have q0 : S_law_0 [.val (.scr ns), .un, .un, .un, .un, .un, .un, .un, .un, .un, .un, .un, .un, .un, .un] = .ok .nx [.val (.scr ns), .own ds, .un, .un, .un, .un, .un, .un, .un, .un, .un, .un, .un, .un, .un] := by
    have c := call1own (f := PL.f_law_draws) (m := mVar 0) (ρ := [.val (.scr ns), .un, .un, .un, .un, .un, .un, .un, .un, .un, .un, .un, .un, .un, .un]) rfl rfl ⟨_, e0⟩
    show mSet 1 (mCallV PL.f_law_draws (mCons (mVar 0) mNil)) _ = _
    unfold mSet
    rw [c]
    rfl
  have q14 : T_law_1 [.val (.scr ns), .own ds, .un, .un, .un, .un, .un, .un, .un, .un, .un, .un, .un, .un, .un] = T_law_5 [.val (.scr ns), .own ds, .own WL, .own RL, .un, .un, .un, .un, .un, .un, .un, .un, .un, .un, .un] := by kernel_rfl
  obtain ⟨ρ', ⟨⟨ds1, s2, s4, s5, s6, rfl, hn1, h2, h4, h5, h6⟩, h2'⟩, el⟩ := loop_invN (h := gNm 4) (b := q_law_3) (P := P5' ns) 16 (rngD 0 16) (fun a _ k ρ _ p => lawL p) 0 [.val (.scr ns), .own ds, .own WL, .own RL, .un, .un, .un, .un, .un, .un, .un, .un, .un, .un, .un] (by rw [rngD_len]; omega) ⟨⟨ds, _, _, _, _, rfl, hn, .inl rfl, rfl, rfl, rfl⟩, fun z => absurd z (by omega)⟩
  have q5 : S_law_5 [.val (.scr ns), .own ds, .own WL, .own RL, .un, .un, .un, .un, .un, .un, .un, .un, .un, .un, .un] = .ok .nx [.val (.scr ns), .own ds1, s2, .own RL, s4, s5, s6, .un, .un, .un, .un, .un, .un, .un, .un] := (for_eq (rng1_eq (n := 16) (by decide) (by decide))).trans el
  have e2 : s2 = .val (.lst WL) := Option.some.inj (h2' (by rw [rngD_len]; decide))
  subst e2
  obtain ⟨ρ6, ⟨s6', s7, rfl, h6', h7⟩, el6⟩ := loop_inv (h := gNm 7) (b := q_law_2) (P := P6 ns ds1 s4 s5) WL (fun a ma ρ p => wordL ma p) [.val (.scr ns), .own ds1, .val (.lst WL), .own RL, s4, s5, s6, .un, .un, .un, .un, .un, .un, .un, .un] ⟨_, _, rfl, h6, rfl⟩
  have q6 : S_law_6 [.val (.scr ns), .own ds1, .val (.lst WL), .own RL, s4, s5, s6, .un, .un, .un, .un, .un, .un, .un, .un] = .ok .nx [.val (.scr ns), .own ds1, .val (.lst WL), .own RL, s4, s5, s6', s7, .un, .un, .un, .un, .un, .un, .un] := (for_eq (ρ1 := [.val (.scr ns), .own ds1, .val (.lst WL), .own RL, s4, s5, s6, .un, .un, .un, .un, .un, .un, .un, .un]) (ds := WL) rfl).trans el6
  obtain ⟨r7, ds2, r70, r71, hn2, x7⟩ := nextO (i := 1) (n := mCons (mC (.int 720)) mNil) (ρ := [.val (.scr ns), .own ds1, .val (.lst WL), .own RL, s4, s5, s6', s7, .un, .un, .un, .un, .un, .un, .un]) (m := 720) rfl rfl hn1 (by decide)
  have q7 : S_law_7 [.val (.scr ns), .own ds1, .val (.lst WL), .own RL, s4, s5, s6', s7, .un, .un, .un, .un, .un, .un, .un] = .ok .nx [.val (.scr ns), .own ds2, .val (.lst WL), .own RL, s4, s5, s6', s7, .val (.int (r7 - 9)), .un, .un, .un, .un, .un, .un] := by
    have o : mOp2 gSub (mCallR K00.f_law_next 1 (mCons (mC (.int 720)) (mNil))) (mC (.int 9)) [.val (.scr ns), .own ds1, .val (.lst WL), .own RL, s4, s5, s6', s7, .un, .un, .un, .un, .un, .un, .un] = .ok (.val (.int (r7 - 9))) [.val (.scr ns), .own ds2, .val (.lst WL), .own RL, s4, s5, s6', s7, .un, .un, .un, .un, .un, .un, .un] := op2 x7 rfl rfl rfl rfl
    exact set_v (i := 8) o rfl
  obtain ⟨r8, ds3, r80, r81, hn3, x8⟩ := nextO (i := 1) (n := mCons (mC (.int 11)) mNil) (ρ := [.val (.scr ns), .own ds2, .val (.lst WL), .own RL, s4, s5, s6', s7, .val (.int (r7 - 9)), .un, .un, .un, .un, .un, .un]) (m := 11) rfl rfl hn2 (by decide)
  obtain ⟨w, ew⟩ := RL_ix r80 r81
  have q8 : S_law_8 [.val (.scr ns), .own ds2, .val (.lst WL), .own RL, s4, s5, s6', s7, .val (.int (r7 - 9)), .un, .un, .un, .un, .un, .un] = .ok .nx [.val (.scr ns), .own ds3, .val (.lst WL), .own RL, s4, s5, s6', .val (.str w), .val (.int (r7 - 9)), .un, .un, .un, .un, .un, .un] := by
    have o : mOp2 gIx (mVar 3) (mCallR K00.f_law_next 1 (mCons (mC (.int 11)) (mNil))) [.val (.scr ns), .own ds2, .val (.lst WL), .own RL, s4, s5, s6', s7, .val (.int (r7 - 9)), .un, .un, .un, .un, .un, .un] = .ok (.val (.str w)) [.val (.scr ns), .own ds3, .val (.lst WL), .own RL, s4, s5, s6', s7, .val (.int (r7 - 9)), .un, .un, .un, .un, .un, .un] := op2 (r := .loc 3) (ρ1 := [.val (.scr ns), .own ds2, .val (.lst WL), .own RL, s4, s5, s6', s7, .val (.int (r7 - 9)), .un, .un, .un, .un, .un, .un]) rfl x8 rfl rfl ew
    exact set_v (i := 7) o h7
  obtain ⟨r9, ds4, r90, r91, hn4, x9⟩ := nextO (i := 1) (n := mCons (mC (.int 720)) mNil) (ρ := [.val (.scr ns), .own ds3, .val (.lst WL), .own RL, s4, s5, s6', .val (.str w), .val (.int (r7 - 9)), .un, .un, .un, .un, .un, .un]) (m := 720) rfl rfl hn3 (by decide)
  have q9 : S_law_9 [.val (.scr ns), .own ds3, .val (.lst WL), .own RL, s4, s5, s6', .val (.str w), .val (.int (r7 - 9)), .un, .un, .un, .un, .un, .un] = .ok .nx [.val (.scr ns), .own ds4, .val (.lst WL), .own RL, s4, s5, s6', .val (.str w), .val (.int (r7 - 9)), .val (.tup [.str w, .int (r7 - 9), .int r9]), .un, .un, .un, .un, .un] := by
    simp [isBor, fnOf, outs, mSq, mIfS, mNotT, mB, mOp1, mOp2, mOpN, mVar, mC, mCons, mNil, deref, derefs, tru, mNx, mRet, mRetN, mOrT, mAndT, mOrV, mAndV, mNotV, mIf, mSet, mDo, mFor, mSeq, mTup, mLst, mSl, mOptInt, esc, escs, gLen, gInt, gI0, gI, gNeg, gSl, gTuple, gList, eq_ss, eq_ii, ne_ss, in_strs, in_lst, in_strsF, in_lstF, isi_s1, isi_s2, isi_s3, isi_s4, isi_s5, isi_t1, isi_t2, isi_t3, isi_t4, isi_t5, isi_b1, S_law_9, x9, sz3]
  have q10 : S_law_10 [.val (.scr ns), .own ds4, .val (.lst WL), .own RL, s4, s5, s6', .val (.str w), .val (.int (r7 - 9)), .val (.tup [.str w, .int (r7 - 9), .int r9]), .un, .un, .un, .un, .un] = .ok .nx [.val (.scr ns), .own ds4, .val (.lst WL), .own RL, s4, s5, s6', .val (.str w), .val (.int (r7 - 9)), .val (.tup [.str w, .int (r7 - 9), .int r9]), .own (made (r7 - 9) w (.tup [.str w, .int (r7 - 9), .int r9])), .un, .un, .un, .un] := rfl
  have q11 := loopE (.val (.scr ns)) (.own ds4) (.val (.lst WL)) (.own RL) s4 s5 s6' (r7 - 9) w (.tup [.str w, .int (r7 - 9), .int r9])
  obtain ⟨ρh, eh⟩ := hold_eq (r7 - 9) w (.tup [.str w, .int (r7 - 9), .int r9]) rfl
  have q12 : S_law_12 [.val (.scr ns), .own ds4, .val (.lst WL), .own RL, s4, s5, s6', .val (.str w), .val (.int (r7 - 9)), .val (.tup [.str w, .int (r7 - 9), .int r9]), .val (.lst (made (r7 - 9) w (.tup [.str w, .int (r7 - 9), .int r9]))), .val (.int 26), .val (lastE w), .un, .un] = .ok (.rt (.val (.bl true))) [.val (.scr ns), .own ds4, .val (.lst WL), .own RL, s4, s5, s6', .val (.str w), .val (.int (r7 - 9)), .val (.tup [.str w, .int (r7 - 9), .int r9]), .val (.lst (made (r7 - 9) w (.tup [.str w, .int (r7 - 9), .int r9]))), .val (.int 26), .val (lastE w), .un, .un] := by
    have c : mCallV f_law_fields_hold (mCons (mVar 10) (mCons (mVar 8) (mCons (mVar 7) (mCons (mVar 9) (mNil))))) [.val (.scr ns), .own ds4, .val (.lst WL), .own RL, s4, s5, s6', .val (.str w), .val (.int (r7 - 9)), .val (.tup [.str w, .int (r7 - 9), .int r9]), .val (.lst (made (r7 - 9) w (.tup [.str w, .int (r7 - 9), .int r9]))), .val (.int 26), .val (lastE w), .un, .un] = .ok (.val (.bl true)) [.val (.scr ns), .own ds4, .val (.lst WL), .own RL, s4, s5, s6', .val (.str w), .val (.int (r7 - 9)), .val (.tup [.str w, .int (r7 - 9), .int r9]), .val (.lst (made (r7 - 9) w (.tup [.str w, .int (r7 - 9), .int r9]))), .val (.int 26), .val (lastE w), .un, .un] := by
      simp [mCallV, mCons, mNil, mVar, escs, esc, vals, eh]
    exact ret_v c
  have z := (sq_nx (n := T_law_1) q0).trans (q14.trans ((sq_nx q5).trans ((sq_nx q6).trans ((sq_nx q7).trans ((sq_nx q8).trans ((sq_nx q9).trans ((sq_nx q10).trans ((sq_nx q11).trans q12))))))))
  exact ⟨_, (fn_val (np := 1) (nt := 15) (b := b_law) (as := [.val (.scr ns)]) rfl z :)⟩
end K00
set_option Elab.async false
set_option linter.all false
set_option maxRecDepth 100000
set_option maxHeartbeats 8000000
namespace K00
open PySem L2 PM
def top (i : Nat) : Stmt := PySem.Challenge.pw_handsroom_k00_names_and_words.main.body.getD i (.Pass ⟨0, 0, 0, 0⟩)
def clsN (c : Nat) : Str := (["HandsError", "BadPart", "BadLine", "NoSuch", "Unlike", "BadPath", "BadMove", "BadPlace", "BadRun", "BadPoint", "TooLarge", "NoFirst", "WrongFirst", "NoHand", "WrongMove", "MustWait", "Refused", "Unfinished", "NoRow", "NoTag", "NoNode", "NoRequest", "NoLockOrder", "BadStand", "Unnested", "Clash", "NoState", "NotFit"] : List Str).getD c "HandsError"
abbrev CA (K : PySem.W.Frag) : Ca := ca0 fun c => He.ga K (clsN c)
abbrev s_is_name : Stmt := top 6
abbrev s_law_draws : Stmt := top 37
abbrev s_law_next : Stmt := top 38
abbrev s_law_words : Stmt := top 39
abbrev s_law_value : Stmt := top 40
abbrev s_law_due : Stmt := top 41
abbrev s_law_classes : Stmt := top 42
abbrev s_law_errors : Stmt := top 43
abbrev s_law_fields_hold : Stmt := top 44
abbrev s_law : Stmt := top 45
structure Tx (P : Program) (w : World) (K : PySem.W.Frag) (mg : Str → Option Value) : Prop where
  n_ValueError : mg "ValueError" = none
  n_abs : mg "abs" = none
  n_bool : mg "bool" = none
  n_enumerate : mg "enumerate" = none
  n_int : mg "int" = none
  n_isinstance : mg "isinstance" = none
  n_len : mg "len" = none
  n_list : mg "list" = none
  n_range : mg "range" = none
  n_str : mg "str" = none
  n_tuple : mg "tuple" = none
  c_RESERVED : Cst K mg (CA K) "RESERVED" c_RESERVED
  c_LETTERS : Cst K mg (CA K) "LETTERS" c_LETTERS
  c_DIGITS : Cst K mg (CA K) "DIGITS" c_DIGITS
  c_MOST_CHARACTERS : Cst K mg (CA K) "MOST_CHARACTERS" c_MOST_CHARACTERS
  c_RULES : Cst K mg (CA K) "RULES" c_RULES
  g_HandsError : mg "HandsError" = some (.ref ((CA K).at_ 0))
  g_BadPart : mg "BadPart" = some (.ref ((CA K).at_ 1))
  rz_BadPart : ∀ base : Heap, Rz P w K mg base ((CA K).at_ 1) ks_BadPart
  g_BadLine : mg "BadLine" = some (.ref ((CA K).at_ 2))
  rz_BadLine : ∀ base : Heap, Rz P w K mg base ((CA K).at_ 2) ks_BadLine
  g_NoSuch : mg "NoSuch" = some (.ref ((CA K).at_ 3))
  rz_NoSuch : ∀ base : Heap, Rz P w K mg base ((CA K).at_ 3) ks_NoSuch
  g_Unlike : mg "Unlike" = some (.ref ((CA K).at_ 4))
  g_BadPath : mg "BadPath" = some (.ref ((CA K).at_ 5))
  rz_BadPath : ∀ base : Heap, Rz P w K mg base ((CA K).at_ 5) ks_BadPath
  g_BadMove : mg "BadMove" = some (.ref ((CA K).at_ 6))
  rz_BadMove : ∀ base : Heap, Rz P w K mg base ((CA K).at_ 6) ks_BadMove
  g_BadPlace : mg "BadPlace" = some (.ref ((CA K).at_ 7))
  rz_BadPlace : ∀ base : Heap, Rz P w K mg base ((CA K).at_ 7) ks_BadPlace
  g_BadRun : mg "BadRun" = some (.ref ((CA K).at_ 8))
  rz_BadRun : ∀ base : Heap, Rz P w K mg base ((CA K).at_ 8) ks_BadRun
  g_BadPoint : mg "BadPoint" = some (.ref ((CA K).at_ 9))
  rz_BadPoint : ∀ base : Heap, Rz P w K mg base ((CA K).at_ 9) ks_BadPoint
  g_TooLarge : mg "TooLarge" = some (.ref ((CA K).at_ 10))
  rz_TooLarge : ∀ base : Heap, Rz P w K mg base ((CA K).at_ 10) ks_TooLarge
  g_NoFirst : mg "NoFirst" = some (.ref ((CA K).at_ 11))
  rz_NoFirst : ∀ base : Heap, Rz P w K mg base ((CA K).at_ 11) ks_NoFirst
  g_WrongFirst : mg "WrongFirst" = some (.ref ((CA K).at_ 12))
  rz_WrongFirst : ∀ base : Heap, Rz P w K mg base ((CA K).at_ 12) ks_WrongFirst
  g_NoHand : mg "NoHand" = some (.ref ((CA K).at_ 13))
  rz_NoHand : ∀ base : Heap, Rz P w K mg base ((CA K).at_ 13) ks_NoHand
  g_WrongMove : mg "WrongMove" = some (.ref ((CA K).at_ 14))
  rz_WrongMove : ∀ base : Heap, Rz P w K mg base ((CA K).at_ 14) ks_WrongMove
  g_MustWait : mg "MustWait" = some (.ref ((CA K).at_ 15))
  rz_MustWait : ∀ base : Heap, Rz P w K mg base ((CA K).at_ 15) ks_MustWait
  g_Refused : mg "Refused" = some (.ref ((CA K).at_ 16))
  rz_Refused : ∀ base : Heap, Rz P w K mg base ((CA K).at_ 16) ks_Refused
  g_Unfinished : mg "Unfinished" = some (.ref ((CA K).at_ 17))
  rz_Unfinished : ∀ base : Heap, Rz P w K mg base ((CA K).at_ 17) ks_Unfinished
  g_NoRow : mg "NoRow" = some (.ref ((CA K).at_ 18))
  rz_NoRow : ∀ base : Heap, Rz P w K mg base ((CA K).at_ 18) ks_NoRow
  g_NoTag : mg "NoTag" = some (.ref ((CA K).at_ 19))
  rz_NoTag : ∀ base : Heap, Rz P w K mg base ((CA K).at_ 19) ks_NoTag
  g_NoNode : mg "NoNode" = some (.ref ((CA K).at_ 20))
  rz_NoNode : ∀ base : Heap, Rz P w K mg base ((CA K).at_ 20) ks_NoNode
  g_NoRequest : mg "NoRequest" = some (.ref ((CA K).at_ 21))
  rz_NoRequest : ∀ base : Heap, Rz P w K mg base ((CA K).at_ 21) ks_NoRequest
  g_NoLockOrder : mg "NoLockOrder" = some (.ref ((CA K).at_ 22))
  rz_NoLockOrder : ∀ base : Heap, Rz P w K mg base ((CA K).at_ 22) ks_NoLockOrder
  g_BadStand : mg "BadStand" = some (.ref ((CA K).at_ 23))
  rz_BadStand : ∀ base : Heap, Rz P w K mg base ((CA K).at_ 23) ks_BadStand
  g_Unnested : mg "Unnested" = some (.ref ((CA K).at_ 24))
  rz_Unnested : ∀ base : Heap, Rz P w K mg base ((CA K).at_ 24) ks_Unnested
  g_Clash : mg "Clash" = some (.ref ((CA K).at_ 25))
  rz_Clash : ∀ base : Heap, Rz P w K mg base ((CA K).at_ 25) ks_Clash
  g_NoState : mg "NoState" = some (.ref ((CA K).at_ 26))
  rz_NoState : ∀ base : Heap, Rz P w K mg base ((CA K).at_ 26) ks_NoState
  g_NotFit : mg "NotFit" = some (.ref ((CA K).at_ 27))
  rz_NotFit : ∀ base : Heap, Rz P w K mg base ((CA K).at_ 27) ks_NotFit
  xf : ∀ c, XfC K ((CA K).at_ c)
  xc : ∀ c, ExcC K ((CA K).at_ c)
  kit : ∀ c k, PySem.W.kitOne K (.ref ((CA K).at_ c)) (.ref ((CA K).at_ k)) = some (subC c k)
  kve : ∀ c, PySem.W.kitOne K (.ref ((CA K).at_ c)) (.type "ValueError") = some true
  x0_Unlike : PySem.W.excIn K ((CA K).at_ 4) [.type "ValueError", .type "Exception", .type "BaseException", .type "object"] "ValueError.__new__" = true
  k0_Unlike : PySem.W.keepIn K (.ref ((CA K).at_ 4)) = true
  n_cycle : ∀ c, PySem.W.findIn K (.ref ((CA K).at_ c)) "cycle" = some none
  n_hand : ∀ c, PySem.W.findIn K (.ref ((CA K).at_ c)) "hand" = some none
  n_kind : ∀ c, PySem.W.findIn K (.ref ((CA K).at_ c)) "kind" = some none
  n_line : ∀ c, PySem.W.findIn K (.ref ((CA K).at_ c)) "line" = some none
  n_lock : ∀ c, PySem.W.findIn K (.ref ((CA K).at_ c)) "lock" = some none
  n_move : ∀ c, PySem.W.findIn K (.ref ((CA K).at_ c)) "move" = some none
  n_name : ∀ c, PySem.W.findIn K (.ref ((CA K).at_ c)) "name" = some none
  n_node : ∀ c, PySem.W.findIn K (.ref ((CA K).at_ c)) "node" = some none
  n_nodes : ∀ c, PySem.W.findIn K (.ref ((CA K).at_ c)) "nodes" = some none
  n_part : ∀ c, PySem.W.findIn K (.ref ((CA K).at_ c)) "part" = some none
  n_place : ∀ c, PySem.W.findIn K (.ref ((CA K).at_ c)) "place" = some none
  n_point : ∀ c, PySem.W.findIn K (.ref ((CA K).at_ c)) "point" = some none
  n_position : ∀ c, PySem.W.findIn K (.ref ((CA K).at_ c)) "position" = some none
  n_request : ∀ c, PySem.W.findIn K (.ref ((CA K).at_ c)) "request" = some none
  n_routine : ∀ c, PySem.W.findIn K (.ref ((CA K).at_ c)) "routine" = some none
  n_row : ∀ c, PySem.W.findIn K (.ref ((CA K).at_ c)) "row" = some none
  n_rule : ∀ c, PySem.W.findIn K (.ref ((CA K).at_ c)) "rule" = some none
  n_short : ∀ c, PySem.W.findIn K (.ref ((CA K).at_ c)) "short" = some none
  n_state : ∀ c, PySem.W.findIn K (.ref ((CA K).at_ c)) "state" = some none
  n_tag : ∀ c, PySem.W.findIn K (.ref ((CA K).at_ c)) "tag" = some none
  n_what : ∀ c, PySem.W.findIn K (.ref ((CA K).at_ c)) "what" = some none
  F_is_name : (∃ fd, FunD K "is_name" "is_name" (defArgs s_is_name) (defBody s_is_name) (defScope s_is_name) [] [] (He.ga K "is_name") fd) ∧ mg "is_name" = some (.ref (He.ga K "is_name"))
  F_law_draws : (∃ fd, FunD K "_law_draws" "_law_draws" (defArgs s_law_draws) (defBody s_law_draws) (defScope s_law_draws) [] [] (He.ga K "_law_draws") fd) ∧ mg "_law_draws" = some (.ref (He.ga K "_law_draws"))
  F_law_next : (∃ fd, FunD K "_law_next" "_law_next" (defArgs s_law_next) (defBody s_law_next) (defScope s_law_next) [] [] (He.ga K "_law_next") fd) ∧ mg "_law_next" = some (.ref (He.ga K "_law_next"))
  F_law_words : (∃ fd, FunD K "_law_words" "_law_words" (defArgs s_law_words) (defBody s_law_words) (defScope s_law_words) [] [] (He.ga K "_law_words") fd) ∧ mg "_law_words" = some (.ref (He.ga K "_law_words"))
  F_law_value : (∃ fd, FunD K "_law_value" "_law_value" (defArgs s_law_value) (defBody s_law_value) (defScope s_law_value) [] [] (He.ga K "_law_value") fd) ∧ mg "_law_value" = some (.ref (He.ga K "_law_value"))
  F_law_due : (∃ fd, FunD K "_law_due" "_law_due" (defArgs s_law_due) (defBody s_law_due) (defScope s_law_due) [] [] (He.ga K "_law_due") fd) ∧ mg "_law_due" = some (.ref (He.ga K "_law_due"))
  F_law_classes : (∃ fd, FunD K "_law_classes" "_law_classes" (defArgs s_law_classes) (defBody s_law_classes) (defScope s_law_classes) [] [] (He.ga K "_law_classes") fd) ∧ mg "_law_classes" = some (.ref (He.ga K "_law_classes"))
  F_law_errors : (∃ fd, FunD K "_law_errors" "_law_errors" (defArgs s_law_errors) (defBody s_law_errors) (defScope s_law_errors) [] [] (He.ga K "_law_errors") fd) ∧ mg "_law_errors" = some (.ref (He.ga K "_law_errors"))
  F_law_fields_hold : (∃ fd, FunD K "_law_fields_hold" "_law_fields_hold" (defArgs s_law_fields_hold) (defBody s_law_fields_hold) (defScope s_law_fields_hold) [] [] (He.ga K "_law_fields_hold") fd) ∧ mg "_law_fields_hold" = some (.ref (He.ga K "_law_fields_hold"))
  F_law : (∃ fd, FunD K "law" "law" (defArgs s_law) (defBody s_law) (defScope s_law) [] [] (He.ga K "law") fd) ∧ mg "law" = some (.ref (He.ga K "law"))
section
variable {P : Program} {w : World} {K : PySem.W.Frag} {mg : Str → Option Value} {base : Heap}
def N_is_name : List Str := ["value", "character"]
theorem sc_is_name : FnScope N_is_name ["value"] (defScope s_is_name) := ⟨rfl, rfl, rfl, by decide +kernel, rfl, by decide +kernel, by decide +kernel⟩
theorem o_is_name (T : Tx P w K mg) : ∃ fd, (∀ base : Heap, FnOk P w K mg base (L2.CX P w) 1 (He.ga K "is_name") fd ["value"] (spF ⟨K, CA K⟩ f_is_name)) ∧ mg "is_name" = some (.ref (He.ga K "is_name")) ∧ PySem.W.keepIn K (.ref (He.ga K "is_name")) = true ∧ Binds K fd ["value"] [] ∧ ∀ (s : Shared) (us : List Value), us.length = (["value"] : List Str).length → BindsTo s fd ⟨us, []⟩ ((["value"] : List Str).zip us) :=
  df_mk (k := 0) (vi := [0, 1]) (li := [0, 1]) (ug := ["DIGITS", "LETTERS", "MOST_CHARACTERS", "RESERVED", "isinstance", "len", "str"]) (nt := 2) (b := b_is_name) T.F_is_name.1 T.F_is_name.2 sc_is_name rfl rfl (fun _ _ _ _ _ _ us hl => match us, hl with | [_], _ => rfl) (by decide +kernel) (by decide +kernel) (by decide +kernel) fun base cdv A outer s H E B Z =>
    db_cons (ds_if (dt_not (t_val (v_isi B "str" T.n_isinstance T.n_str (v_var B 0)))) (db_one (ds_ret (de_bl))) (db_nil)) (db_cons (ds_if (dt_w (dw_or (t_eq B (v_var B 0) (v_str)) (dw_or (t_gt (v_len B T.n_len (v_cons (v_var B 0) (da_nil))) (v_cst B T.c_MOST_CHARACTERS)) (dw_or1 (t_in B (v_var B 0) (v_cst B T.c_RESERVED)))))) (db_one (ds_ret (de_bl))) (db_nil)) (db_cons (v_for Z (di_seq (v_var B 0)) (v_name B 1) (db_one (ds_if (dt_w (dw_and (t_notIn B (v_var B 1) (v_cst B T.c_LETTERS)) (dw_and1 (t_notIn B (v_var B 1) (v_cst B T.c_DIGITS))))) (db_one (ds_ret (de_bl))) (db_nil)))) (db_one (ds_ret (v_in B (v_ix (v_var B 0) (de_int)) (v_cst B T.c_LETTERS))))))
theorem ok_is_name (T : Tx P w K mg) : Df P w K mg base (CA K) "is_name" 1 f_is_name := df_of (o_is_name T)
def N_law_draws : List Str := ["_law_script", "_law_draws_here", "_law_place", "_law_cell", "_law_number", "_law_turn", "_law_mixed"]
theorem sc_law_draws : FnScope N_law_draws ["_law_script"] (defScope s_law_draws) := ⟨rfl, rfl, rfl, by decide +kernel, rfl, by decide +kernel, by decide +kernel⟩
theorem o_law_draws (T : Tx P w K mg) : ∃ fd, (∀ base : Heap, FnOk P w K mg base (L2.CX P w) 1 (He.ga K "_law_draws") fd ["_law_script"] (spF ⟨K, CA K⟩ f_law_draws)) ∧ mg "_law_draws" = some (.ref (He.ga K "_law_draws")) ∧ PySem.W.keepIn K (.ref (He.ga K "_law_draws")) = true ∧ Binds K fd ["_law_script"] [] ∧ ∀ (s : Shared) (us : List Value), us.length = (["_law_script"] : List Str).length → BindsTo s fd ⟨us, []⟩ ((["_law_script"] : List Str).zip us) :=
  df_mk (k := 0) (vi := [0, 1, 2, 3, 4, 5, 6]) (li := [0, 1, 2, 3, 4, 5, 6]) (ug := ["abs", "enumerate", "int", "len", "range"]) (nt := 7) (b := b_law_draws) T.F_law_draws.1 T.F_law_draws.2 sc_law_draws rfl rfl (fun _ _ _ _ _ _ us hl => match us, hl with | [_], _ => rfl) (by decide +kernel) (by decide +kernel) (by decide +kernel) fun base cdv A outer s H E B Z =>
    db_cons (v_set B 1 (de_lst (da_nil))) (db_cons (v_for Z (v_enum2 B T.n_enumerate (v_cons (de_slice (v_var B 0) do_none (do_some (de_int))) (da_nil))) (v_ttup Z (v_tcons (v_name B 2) (v_tcons (v_name B 3) (dgs_nil)))) (db_cons (v_set B 4 (v_add (v_mul (de_int) (v_abs B T.n_abs (v_cons (v_var B 3) (da_nil)))) (v_int B T.n_int (v_cons (v_lt (v_var B 3) (de_int)) (da_nil))))) (db_one (ds_if (t_ge (v_var B 4) (v_mul (de_int) (v_pow (de_int) (de_int)))) (db_one (v_for Z (v_range1 B T.n_range (v_cons (de_int) (da_nil))) (v_name B 5) (db_one (ds_if (dt_w (dw_and (t_gt (v_var B 4) (de_int)) (dw_and1 (t_lt (v_len B T.n_len (v_cons (v_var B 1) (da_nil))) (de_int))))) (db_cons (v_do (v_append (v_var B 1) (v_cons (v_mod (v_int B T.n_int (v_cons (v_var B 4) (da_nil))) (de_int)) (da_nil)))) (db_one (v_set B 4 (v_fdiv (v_var B 4) (de_int))))) (db_nil))))) (db_cons (v_set B 6 (v_mod (v_int B T.n_int (v_cons (v_add (v_add (v_mul (v_var B 4) (de_int)) (v_mul (v_var B 2) (de_int))) (de_int)) (da_nil))) (de_int))) (db_one (v_for Z (v_range1 B T.n_range (v_cons (de_int) (da_nil))) (v_name B 5) (db_cons (v_set B 6 (v_mod (v_int B T.n_int (v_cons (v_add (v_add (v_mul (v_var B 6) (de_int)) (v_mul (v_var B 4) (de_int))) (v_var B 5)) (da_nil))) (de_int))) (db_one (ds_if (t_lt (v_len B T.n_len (v_cons (v_var B 1) (da_nil))) (de_int)) (db_one (v_do (v_append (v_var B 1) (v_cons (v_fdiv (v_var B 6) (de_int)) (da_nil))))) (db_nil))))))))))) (db_one (ds_ret (v_var B 1))))
theorem ok_law_draws (T : Tx P w K mg) : Df P w K mg base (CA K) "_law_draws" 1 f_law_draws := df_of (o_law_draws T)
def N_law_next : List Str := ["_law_draws_here", "_law_many"]
theorem sc_law_next : FnScope N_law_next ["_law_draws_here", "_law_many"] (defScope s_law_next) := ⟨rfl, rfl, rfl, by decide +kernel, rfl, by decide +kernel, by decide +kernel⟩
theorem o_law_next (T : Tx P w K mg) : ∃ fd, (∀ base : Heap, FnOk P w K mg base (L2.CX P w) 1 (He.ga K "_law_next") fd ["_law_draws_here", "_law_many"] (spF ⟨K, CA K⟩ f_law_next)) ∧ mg "_law_next" = some (.ref (He.ga K "_law_next")) ∧ PySem.W.keepIn K (.ref (He.ga K "_law_next")) = true ∧ Binds K fd ["_law_draws_here", "_law_many"] [] ∧ ∀ (s : Shared) (us : List Value), us.length = (["_law_draws_here", "_law_many"] : List Str).length → BindsTo s fd ⟨us, []⟩ ((["_law_draws_here", "_law_many"] : List Str).zip us) :=
  df_mk (k := 0) (vi := [0, 1]) (li := [0, 1]) (ug := ["int", "len"]) (nt := 2) (b := b_law_next) T.F_law_next.1 T.F_law_next.2 sc_law_next rfl rfl (fun _ _ _ _ _ _ us hl => match us, hl with | [_, _], _ => rfl) (by decide +kernel) (by decide +kernel) (by decide +kernel) fun base cdv A outer s H E B Z =>
    db_cons (ds_if (t_eq B (v_len B T.n_len (v_cons (v_var B 0) (da_nil))) (de_int)) (db_one (ds_ret (de_int))) (db_nil)) (db_one (ds_ret (v_mod (v_int B T.n_int (v_cons (v_popAt (v_var B 0) (v_cons (de_int) (da_nil))) (da_nil))) (v_var B 1))))
theorem ok_law_next (T : Tx P w K mg) : Df P w K mg base (CA K) "_law_next" 1 f_law_next := df_of (o_law_next T)
def N_law_words : List Str := ["_law_words_here"]
theorem sc_law_words : FnScope N_law_words [] (defScope s_law_words) := ⟨rfl, rfl, rfl, by decide +kernel, rfl, by decide +kernel, by decide +kernel⟩
theorem o_law_words (T : Tx P w K mg) : ∃ fd, (∀ base : Heap, FnOk P w K mg base (L2.CX P w) 1 (He.ga K "_law_words") fd [] (spF ⟨K, CA K⟩ f_law_words)) ∧ mg "_law_words" = some (.ref (He.ga K "_law_words")) ∧ PySem.W.keepIn K (.ref (He.ga K "_law_words")) = true ∧ Binds K fd [] [] ∧ ∀ (s : Shared) (us : List Value), us.length = ([] : List Str).length → BindsTo s fd ⟨us, []⟩ (([] : List Str).zip us) :=
  df_mk (k := 0) (vi := [0]) (li := [0]) (ug := []) (nt := 1) (b := b_law_words) T.F_law_words.1 T.F_law_words.2 sc_law_words rfl rfl (fun _ _ _ _ _ _ us hl => match us, hl with | [], _ => rfl) (by decide +kernel) (by decide +kernel) (by decide +kernel) fun base cdv A outer s H E B Z =>
    db_cons (v_set B 0 (de_lst (v_cons (v_str) (v_cons (v_str) (v_cons (v_str) (v_cons (v_str) (v_cons (v_str) (v_cons (v_str) (v_cons (v_str) (v_cons (v_str) (v_cons (v_str) (v_cons (v_str) (v_cons (v_str) (v_cons (v_str) (da_nil))))))))))))))) (db_cons (v_set B 0 (v_add (v_var B 0) (de_lst (v_cons (v_str) (v_cons (v_str) (v_cons (v_str) (v_cons (v_str) (v_cons (v_str) (v_cons (v_str) (v_cons (v_str) (v_cons (v_str) (v_cons (v_str) (v_cons (v_str) (v_cons (v_str) (v_cons (v_str) (da_nil)))))))))))))))) (db_one (ds_ret (v_add (v_var B 0) (de_lst (v_cons (v_str) (da_nil)))))))
theorem ok_law_words (T : Tx P w K mg) : Df P w K mg base (CA K) "_law_words" 1 f_law_words := df_of (o_law_words T)
def N_law_value : List Str := ["_law_draws_here", "_law_words_here", "_law_act", "_law_signs", "_law_word", "_law_change", "_law_letter", "_law_many", "_law_value_here", "_law_k", "_law_place", "_law_odd"]
theorem sc_law_value : FnScope N_law_value ["_law_draws_here", "_law_words_here"] (defScope s_law_value) := ⟨rfl, rfl, rfl, by decide +kernel, rfl, by decide +kernel, by decide +kernel⟩
theorem o_law_value (T : Tx P w K mg) : ∃ fd, (∀ base : Heap, FnOk P w K mg base (L2.CX P w) 2 (He.ga K "_law_value") fd ["_law_draws_here", "_law_words_here"] (spF ⟨K, CA K⟩ f_law_value)) ∧ mg "_law_value" = some (.ref (He.ga K "_law_value")) ∧ PySem.W.keepIn K (.ref (He.ga K "_law_value")) = true ∧ Binds K fd ["_law_draws_here", "_law_words_here"] [] ∧ ∀ (s : Shared) (us : List Value), us.length = (["_law_draws_here", "_law_words_here"] : List Str).length → BindsTo s fd ⟨us, []⟩ ((["_law_draws_here", "_law_words_here"] : List Str).zip us) :=
  df_mk (k := 1) (vi := [0, 1, 2, 3, 4, 5, 6, 7, 8, 9, 10, 11]) (li := [0, 1, 2, 3, 4, 5, 6, 7, 8, 9, 10, 11]) (ug := ["_law_next", "len", "range"]) (nt := 12) (b := b_law_value) T.F_law_value.1 T.F_law_value.2 sc_law_value rfl rfl (fun _ _ _ _ _ _ us hl => match us, hl with | [_, _], _ => rfl) (by decide +kernel) (by decide +kernel) (by decide +kernel) fun base cdv A outer s H E B Z =>
    db_cons (v_set B 2 (v_callR Z B (ok_law_next T) (v_cons (v_var B 0) (v_cons (de_int) (da_nil))))) (db_cons (v_set B 3 (v_str)) (db_cons (ds_if (t_eq B (v_var B 2) (de_int)) (db_one (ds_ret (v_ix (de_lst (v_cons (de_non) (v_cons (de_bl) (v_cons (de_int) (v_cons (de_tup (v_cons (v_str) (da_nil))) (v_cons (de_lst (v_cons (v_str) (da_nil))) (v_cons (de_int) (v_cons (de_lst (v_cons (v_str) (v_cons (v_str) (da_nil)))) (da_nil))))))))) (v_callR Z B (ok_law_next T) (v_cons (v_var B 0) (v_cons (de_int) (da_nil))))))) (db_nil)) (db_cons (ds_if (t_eq B (v_var B 2) (de_int)) (db_cons (v_set B 4 (v_ix (v_var B 1) (v_callR Z B (ok_law_next T) (v_cons (v_var B 0) (v_cons (de_int) (da_nil)))))) (db_cons (v_set B 5 (v_callR Z B (ok_law_next T) (v_cons (v_var B 0) (v_cons (de_int) (da_nil))))) (db_cons (v_set B 6 (v_ix (v_var B 3) (v_callR Z B (ok_law_next T) (v_cons (v_var B 0) (v_cons (de_int) (da_nil)))))) (db_one (ds_ret (v_ix (de_lst (v_cons (v_var B 4) (v_cons (v_add (v_var B 4) (v_var B 6)) (v_cons (v_add (v_var B 6) (v_var B 4)) (v_cons (de_slice (v_var B 4) (do_some (de_int)) do_none) (v_cons (de_slice (v_var B 4) do_none (do_some (v_neg (de_int)))) (v_cons (v_upper (v_var B 4)) (da_nil)))))))) (v_var B 5))))))) (db_nil)) (db_cons (v_set B 7 (v_ix (de_lst (v_cons (de_int) (v_cons (de_int) (v_cons (de_int) (v_cons (de_int) (v_cons (de_int) (v_cons (de_int) (v_cons (de_int) (v_cons (de_int) (v_cons (de_int) (v_cons (de_int) (v_cons (de_int) (da_nil))))))))))))) (v_callR Z B (ok_law_next T) (v_cons (v_var B 0) (v_cons (de_int) (da_nil)))))) (db_cons (v_set B 8 (v_str)) (db_cons (v_for Z (v_range1 B T.n_range (v_cons (v_var B 7) (da_nil))) (v_name B 9) (db_one (v_set B 8 (v_add (v_var B 8) (v_ix (v_var B 3) (v_callR Z B (ok_law_next T) (v_cons (v_var B 0) (v_cons (de_int) (da_nil))))))))) (db_cons (ds_if (t_eq B (v_var B 2) (de_int)) (db_cons (v_set B 10 (v_callR Z B (ok_law_next T) (v_cons (v_var B 0) (v_cons (v_add (v_var B 7) (de_int)) (da_nil))))) (db_cons (v_set B 11 (v_str)) (db_one (v_set B 8 (v_add (v_add (de_slice (v_var B 8) do_none (do_some (v_var B 10))) (v_ix (v_var B 11) (v_callR Z B (ok_law_next T) (v_cons (v_var B 0) (v_cons (v_len B T.n_len (v_cons (v_var B 11) (da_nil))) (da_nil)))))) (de_slice (v_var B 8) (do_some (v_var B 10)) do_none)))))) (db_nil)) (db_one (ds_ret (v_var B 8))))))))))
theorem ok_law_value (T : Tx P w K mg) : Df P w K mg base (CA K) "_law_value" 2 f_law_value := df_of (o_law_value T)
def N_law_due : List Str := ["_law_value_here", "_law_words_here", "_law_sign"]
theorem sc_law_due : FnScope N_law_due ["_law_value_here", "_law_words_here"] (defScope s_law_due) := ⟨rfl, rfl, rfl, by decide +kernel, rfl, by decide +kernel, by decide +kernel⟩
theorem o_law_due (T : Tx P w K mg) : ∃ fd, (∀ base : Heap, FnOk P w K mg base (L2.CX P w) 1 (He.ga K "_law_due") fd ["_law_value_here", "_law_words_here"] (spF ⟨K, CA K⟩ f_law_due)) ∧ mg "_law_due" = some (.ref (He.ga K "_law_due")) ∧ PySem.W.keepIn K (.ref (He.ga K "_law_due")) = true ∧ Binds K fd ["_law_value_here", "_law_words_here"] [] ∧ ∀ (s : Shared) (us : List Value), us.length = (["_law_value_here", "_law_words_here"] : List Str).length → BindsTo s fd ⟨us, []⟩ ((["_law_value_here", "_law_words_here"] : List Str).zip us) :=
  df_mk (k := 0) (vi := [0, 1, 2]) (li := [0, 1, 2]) (ug := ["isinstance", "len", "str"]) (nt := 3) (b := b_law_due) T.F_law_due.1 T.F_law_due.2 sc_law_due rfl rfl (fun _ _ _ _ _ _ us hl => match us, hl with | [_, _], _ => rfl) (by decide +kernel) (by decide +kernel) (by decide +kernel) fun base cdv A outer s H E B Z =>
    db_cons (ds_if (dt_w (dw_or (dt_not (t_val (v_isi B "str" T.n_isinstance T.n_str (v_var B 0)))) (dw_or (t_lt (v_len B T.n_len (v_cons (v_var B 0) (da_nil))) (de_int)) (dw_or1 (t_gt (v_len B T.n_len (v_cons (v_var B 0) (da_nil))) (de_int)))))) (db_one (ds_ret (de_bl))) (db_nil)) (db_cons (v_for Z (di_seq (v_var B 0)) (v_name B 2) (db_one (ds_if (t_notIn B (v_var B 2) (v_str)) (db_one (ds_ret (de_bl))) (db_nil)))) (db_one (ds_ret (de_and (v_in B (v_ix (v_var B 0) (de_int)) (v_str)) (de_one (v_notIn B (v_var B 0) (v_var B 1)))))))
theorem ok_law_due (T : Tx P w K mg) : Df P w K mg base (CA K) "_law_due" 1 f_law_due := df_of (o_law_due T)
def N_law_classes : List Str := ["_law_e", "_law_found"]
theorem sc_law_classes : FnScope N_law_classes ["_law_e"] (defScope s_law_classes) := ⟨rfl, rfl, rfl, by decide +kernel, rfl, by decide +kernel, by decide +kernel⟩
theorem o_law_classes (T : Tx P w K mg) : ∃ fd, (∀ base : Heap, FnOk P w K mg base (L2.CX P w) 1 (He.ga K "_law_classes") fd ["_law_e"] (spF ⟨K, CA K⟩ f_law_classes)) ∧ mg "_law_classes" = some (.ref (He.ga K "_law_classes")) ∧ PySem.W.keepIn K (.ref (He.ga K "_law_classes")) = true ∧ Binds K fd ["_law_e"] [] ∧ ∀ (s : Shared) (us : List Value), us.length = (["_law_e"] : List Str).length → BindsTo s fd ⟨us, []⟩ ((["_law_e"] : List Str).zip us) :=
  df_mk (k := 0) (vi := [0, 1]) (li := [0, 1]) (ug := ["BadLine", "BadMove", "BadPart", "BadPath", "BadPlace", "BadPoint", "BadRun", "BadStand", "Clash", "MustWait", "NoFirst", "NoHand", "NoLockOrder", "NoNode", "NoRequest", "NoRow", "NoState", "NoSuch", "NoTag", "NotFit", "Refused", "TooLarge", "Unfinished", "Unlike", "Unnested", "WrongFirst", "WrongMove", "isinstance"]) (nt := 2) (b := b_law_classes) T.F_law_classes.1 T.F_law_classes.2 sc_law_classes rfl rfl (fun _ _ _ _ _ _ us hl => match us, hl with | [_], _ => rfl) (by decide +kernel) (by decide +kernel) (by decide +kernel) fun base cdv A outer s H E B Z =>
    db_cons (v_set B 1 (de_lst (v_cons (v_isV (sub := subC) B 1 T.xc (fun c' => T.kit c' 1) T.n_isinstance T.g_BadPart (v_var B 0)) (v_cons (v_isV (sub := subC) B 2 T.xc (fun c' => T.kit c' 2) T.n_isinstance T.g_BadLine (v_var B 0)) (v_cons (v_isV (sub := subC) B 3 T.xc (fun c' => T.kit c' 3) T.n_isinstance T.g_NoSuch (v_var B 0)) (v_cons (v_isV (sub := subC) B 4 T.xc (fun c' => T.kit c' 4) T.n_isinstance T.g_Unlike (v_var B 0)) (da_nil))))))) (db_cons (v_set B 1 (v_add (v_var B 1) (de_lst (v_cons (v_isV (sub := subC) B 5 T.xc (fun c' => T.kit c' 5) T.n_isinstance T.g_BadPath (v_var B 0)) (v_cons (v_isV (sub := subC) B 6 T.xc (fun c' => T.kit c' 6) T.n_isinstance T.g_BadMove (v_var B 0)) (v_cons (v_isV (sub := subC) B 7 T.xc (fun c' => T.kit c' 7) T.n_isinstance T.g_BadPlace (v_var B 0)) (v_cons (v_isV (sub := subC) B 8 T.xc (fun c' => T.kit c' 8) T.n_isinstance T.g_BadRun (v_var B 0)) (da_nil)))))))) (db_cons (v_set B 1 (v_add (v_var B 1) (de_lst (v_cons (v_isV (sub := subC) B 9 T.xc (fun c' => T.kit c' 9) T.n_isinstance T.g_BadPoint (v_var B 0)) (v_cons (v_isV (sub := subC) B 10 T.xc (fun c' => T.kit c' 10) T.n_isinstance T.g_TooLarge (v_var B 0)) (v_cons (v_isV (sub := subC) B 18 T.xc (fun c' => T.kit c' 18) T.n_isinstance T.g_NoRow (v_var B 0)) (v_cons (v_isV (sub := subC) B 19 T.xc (fun c' => T.kit c' 19) T.n_isinstance T.g_NoTag (v_var B 0)) (da_nil)))))))) (db_cons (v_set B 1 (v_add (v_var B 1) (de_lst (v_cons (v_isV (sub := subC) B 20 T.xc (fun c' => T.kit c' 20) T.n_isinstance T.g_NoNode (v_var B 0)) (v_cons (v_isV (sub := subC) B 11 T.xc (fun c' => T.kit c' 11) T.n_isinstance T.g_NoFirst (v_var B 0)) (v_cons (v_isV (sub := subC) B 12 T.xc (fun c' => T.kit c' 12) T.n_isinstance T.g_WrongFirst (v_var B 0)) (v_cons (v_isV (sub := subC) B 13 T.xc (fun c' => T.kit c' 13) T.n_isinstance T.g_NoHand (v_var B 0)) (da_nil)))))))) (db_cons (v_set B 1 (v_add (v_var B 1) (de_lst (v_cons (v_isV (sub := subC) B 14 T.xc (fun c' => T.kit c' 14) T.n_isinstance T.g_WrongMove (v_var B 0)) (v_cons (v_isV (sub := subC) B 15 T.xc (fun c' => T.kit c' 15) T.n_isinstance T.g_MustWait (v_var B 0)) (v_cons (v_isV (sub := subC) B 16 T.xc (fun c' => T.kit c' 16) T.n_isinstance T.g_Refused (v_var B 0)) (da_nil))))))) (db_cons (v_set B 1 (v_add (v_var B 1) (de_lst (v_cons (v_isV (sub := subC) B 17 T.xc (fun c' => T.kit c' 17) T.n_isinstance T.g_Unfinished (v_var B 0)) (v_cons (v_isV (sub := subC) B 21 T.xc (fun c' => T.kit c' 21) T.n_isinstance T.g_NoRequest (v_var B 0)) (v_cons (v_isV (sub := subC) B 22 T.xc (fun c' => T.kit c' 22) T.n_isinstance T.g_NoLockOrder (v_var B 0)) (da_nil))))))) (db_cons (v_set B 1 (v_add (v_var B 1) (de_lst (v_cons (v_isV (sub := subC) B 23 T.xc (fun c' => T.kit c' 23) T.n_isinstance T.g_BadStand (v_var B 0)) (v_cons (v_isV (sub := subC) B 24 T.xc (fun c' => T.kit c' 24) T.n_isinstance T.g_Unnested (v_var B 0)) (v_cons (v_isV (sub := subC) B 25 T.xc (fun c' => T.kit c' 25) T.n_isinstance T.g_Clash (v_var B 0)) (da_nil))))))) (db_one (ds_ret (v_add (v_var B 1) (de_lst (v_cons (v_isV (sub := subC) B 26 T.xc (fun c' => T.kit c' 26) T.n_isinstance T.g_NoState (v_var B 0)) (v_cons (v_isV (sub := subC) B 27 T.xc (fun c' => T.kit c' 27) T.n_isinstance T.g_NotFit (v_var B 0)) (da_nil)))))))))))))
theorem ok_law_classes (T : Tx P w K mg) : Df P w K mg base (CA K) "_law_classes" 1 f_law_classes := df_of (o_law_classes T)
def N_law_errors : List Str := ["_law_number", "_law_word", "_law_rest", "_law_made"]
theorem sc_law_errors : FnScope N_law_errors ["_law_number", "_law_word", "_law_rest"] (defScope s_law_errors) := ⟨rfl, rfl, rfl, by decide +kernel, rfl, by decide +kernel, by decide +kernel⟩
theorem o_law_errors (T : Tx P w K mg) : ∃ fd, (∀ base : Heap, FnOk P w K mg base (L2.CX P w) 3 (He.ga K "_law_errors") fd ["_law_number", "_law_word", "_law_rest"] (spF ⟨K, CA K⟩ f_law_errors)) ∧ mg "_law_errors" = some (.ref (He.ga K "_law_errors")) ∧ PySem.W.keepIn K (.ref (He.ga K "_law_errors")) = true ∧ Binds K fd ["_law_number", "_law_word", "_law_rest"] [] ∧ ∀ (s : Shared) (us : List Value), us.length = (["_law_number", "_law_word", "_law_rest"] : List Str).length → BindsTo s fd ⟨us, []⟩ ((["_law_number", "_law_word", "_law_rest"] : List Str).zip us) :=
  df_mk (k := 2) (vi := [0, 1, 2, 3]) (li := [0, 1, 2, 3]) (ug := ["BadLine", "BadMove", "BadPart", "BadPath", "BadPlace", "BadPoint", "BadRun", "BadStand", "Clash", "MustWait", "NoFirst", "NoHand", "NoLockOrder", "NoNode", "NoRequest", "NoRow", "NoState", "NoSuch", "NoTag", "NotFit", "Refused", "TooLarge", "Unfinished", "Unlike", "Unnested", "WrongFirst", "WrongMove"]) (nt := 4) (b := b_law_errors) T.F_law_errors.1 T.F_law_errors.2 sc_law_errors rfl rfl (fun _ _ _ _ _ _ us hl => match us, hl with | [_, _, _], _ => rfl) (by decide +kernel) (by decide +kernel) (by decide +kernel) fun base cdv A outer s H E B Z =>
    db_cons (v_set B 3 (de_lst (v_cons (v_xnew (c := 1) Z B (T.rz_BadPart _) T.g_BadPart (v_cons (v_var B 1) (da_nil))) (v_cons (v_xnew (c := 2) Z B (T.rz_BadLine _) T.g_BadLine (v_cons (v_var B 0) (v_cons (v_var B 1) (da_nil)))) (v_cons (v_xnew (c := 3) Z B (T.rz_NoSuch _) T.g_NoSuch (v_cons (v_var B 2) (da_nil))) (v_cons (v_xnew0 (c := 4) B T.x0_Unlike T.k0_Unlike T.g_Unlike) (v_cons (v_xnew (c := 5) Z B (T.rz_BadPath _) T.g_BadPath (v_cons (v_var B 0) (da_nil))) (v_cons (v_xnew (c := 6) Z B (T.rz_BadMove _) T.g_BadMove (v_cons (v_var B 0) (da_nil))) (da_nil))))))))) (db_cons (v_set B 3 (v_add (v_var B 3) (de_lst (v_cons (v_xnew (c := 7) Z B (T.rz_BadPlace _) T.g_BadPlace (v_cons (v_var B 2) (da_nil))) (v_cons (v_xnew (c := 8) Z B (T.rz_BadRun _) T.g_BadRun (v_cons (v_var B 0) (da_nil))) (v_cons (v_xnew (c := 9) Z B (T.rz_BadPoint _) T.g_BadPoint (v_cons (v_var B 2) (da_nil))) (v_cons (v_xnew (c := 10) Z B (T.rz_TooLarge _) T.g_TooLarge (v_cons (v_var B 1) (da_nil))) (v_cons (v_xnew (c := 18) Z B (T.rz_NoRow _) T.g_NoRow (v_cons (v_var B 2) (da_nil))) (v_cons (v_xnew (c := 19) Z B (T.rz_NoTag _) T.g_NoTag (v_cons (v_var B 1) (da_nil))) (da_nil)))))))))) (db_cons (v_set B 3 (v_add (v_var B 3) (de_lst (v_cons (v_xnew (c := 20) Z B (T.rz_NoNode _) T.g_NoNode (v_cons (v_var B 2) (da_nil))) (v_cons (v_xnew (c := 11) Z B (T.rz_NoFirst _) T.g_NoFirst (v_cons (v_var B 1) (da_nil))) (v_cons (v_xnew (c := 12) Z B (T.rz_WrongFirst _) T.g_WrongFirst (v_cons (v_var B 0) (da_nil))) (v_cons (v_xnew (c := 13) Z B (T.rz_NoHand _) T.g_NoHand (v_cons (v_var B 2) (da_nil))) (v_cons (v_xnew (c := 14) Z B (T.rz_WrongMove _) T.g_WrongMove (v_cons (v_var B 2) (v_cons (v_var B 1) (da_nil)))) (da_nil))))))))) (db_cons (v_set B 3 (v_add (v_var B 3) (de_lst (v_cons (v_xnew (c := 15) Z B (T.rz_MustWait _) T.g_MustWait (v_cons (v_var B 1) (v_cons (v_var B 0) (da_nil)))) (v_cons (v_xnew (c := 16) Z B (T.rz_Refused _) T.g_Refused (v_cons (v_var B 0) (da_nil))) (v_cons (v_xnew (c := 17) Z B (T.rz_Unfinished _) T.g_Unfinished (v_cons (v_var B 2) (v_cons (v_var B 0) (da_nil)))) (v_cons (v_xnew (c := 21) Z B (T.rz_NoRequest _) T.g_NoRequest (v_cons (v_var B 2) (da_nil))) (da_nil)))))))) (db_one (ds_ret (v_add (v_var B 3) (de_lst (v_cons (v_xnew (c := 22) Z B (T.rz_NoLockOrder _) T.g_NoLockOrder (v_cons (v_var B 2) (da_nil))) (v_cons (v_xnew (c := 23) Z B (T.rz_BadStand _) T.g_BadStand (v_cons (v_var B 2) (da_nil))) (v_cons (v_xnew (c := 24) Z B (T.rz_Unnested _) T.g_Unnested (v_cons (v_var B 1) (v_cons (v_var B 2) (da_nil)))) (v_cons (v_xnew (c := 25) Z B (T.rz_Clash _) T.g_Clash (v_cons (v_var B 2) (da_nil))) (v_cons (v_xnew (c := 26) Z B (T.rz_NoState _) T.g_NoState (v_cons (v_var B 2) (da_nil))) (v_cons (v_xnew (c := 27) Z B (T.rz_NotFit _) T.g_NotFit (v_cons (v_var B 1) (da_nil))) (da_nil))))))))))))))
theorem ok_law_errors (T : Tx P w K mg) : Df P w K mg base (CA K) "_law_errors" 3 f_law_errors := df_of (o_law_errors T)
def N_law_fields_hold : List Str := ["_law_made", "_law_number", "_law_word", "_law_rest", "_law_told", "_law_due_here"]
theorem sc_law_fields_hold : FnScope N_law_fields_hold ["_law_made", "_law_number", "_law_word", "_law_rest"] (defScope s_law_fields_hold) := ⟨rfl, rfl, rfl, by decide +kernel, rfl, by decide +kernel, by decide +kernel⟩
theorem o_law_fields_hold (T : Tx P w K mg) : ∃ fd, (∀ base : Heap, FnOk P w K mg base (L2.CX P w) 1 (He.ga K "_law_fields_hold") fd ["_law_made", "_law_number", "_law_word", "_law_rest"] (spF ⟨K, CA K⟩ f_law_fields_hold)) ∧ mg "_law_fields_hold" = some (.ref (He.ga K "_law_fields_hold")) ∧ PySem.W.keepIn K (.ref (He.ga K "_law_fields_hold")) = true ∧ Binds K fd ["_law_made", "_law_number", "_law_word", "_law_rest"] [] ∧ ∀ (s : Shared) (us : List Value), us.length = (["_law_made", "_law_number", "_law_word", "_law_rest"] : List Str).length → BindsTo s fd ⟨us, []⟩ ((["_law_made", "_law_number", "_law_word", "_law_rest"] : List Str).zip us) :=
  df_mk (k := 0) (vi := [0, 1, 2, 3, 4, 5]) (li := [0, 1, 2, 3, 4, 5]) (ug := []) (nt := 6) (b := b_law_fields_hold) T.F_law_fields_hold.1 T.F_law_fields_hold.2 sc_law_fields_hold rfl rfl (fun _ _ _ _ _ _ us hl => match us, hl with | [_, _, _, _], _ => rfl) (by decide +kernel) (by decide +kernel) (by decide +kernel) fun base cdv A outer s H E B Z =>
    db_cons (v_set B 4 (de_lst (v_cons (v_xfv T.xf T.n_rule (v_ix (v_var B 0) (de_int))) (v_cons (v_xfv T.xf T.n_line (v_ix (v_var B 0) (de_int))) (v_cons (v_xfv T.xf T.n_rule (v_ix (v_var B 0) (de_int))) (v_cons (v_xfv T.xf T.n_name (v_ix (v_var B 0) (de_int))) (v_cons (v_xfv T.xf T.n_position (v_ix (v_var B 0) (de_int))) (v_cons (v_xfv T.xf T.n_position (v_ix (v_var B 0) (de_int))) (da_nil))))))))) (db_cons (v_set B 4 (v_add (v_var B 4) (de_lst (v_cons (v_xfv T.xf T.n_place (v_ix (v_var B 0) (de_int))) (v_cons (v_xfv T.xf T.n_position (v_ix (v_var B 0) (de_int))) (v_cons (v_xfv T.xf T.n_point (v_ix (v_var B 0) (de_int))) (v_cons (v_xfv T.xf T.n_what (v_ix (v_var B 0) (de_int))) (v_cons (v_xfv T.xf T.n_row (v_ix (v_var B 0) (de_int))) (v_cons (v_xfv T.xf T.n_tag (v_ix (v_var B 0) (de_int))) (da_nil)))))))))) (db_cons (v_set B 4 (v_add (v_var B 4) (de_lst (v_cons (v_xfv T.xf T.n_node (v_ix (v_var B 0) (de_int))) (v_cons (v_xfv T.xf T.n_kind (v_ix (v_var B 0) (de_int))) (v_cons (v_xfv T.xf T.n_position (v_ix (v_var B 0) (de_int))) (v_cons (v_xfv T.xf T.n_hand (v_ix (v_var B 0) (de_int))) (v_cons (v_xfv T.xf T.n_move (v_ix (v_var B 0) (de_int))) (v_cons (v_xfv T.xf T.n_rule (v_ix (v_var B 0) (de_int))) (da_nil)))))))))) (db_cons (v_set B 4 (v_add (v_var B 4) (de_lst (v_cons (v_xfv T.xf T.n_lock (v_ix (v_var B 0) (de_int))) (v_cons (v_xfv T.xf T.n_hand (v_ix (v_var B 0) (de_int))) (v_cons (v_xfv T.xf T.n_position (v_ix (v_var B 0) (de_int))) (v_cons (v_xfv T.xf T.n_cycle (v_ix (v_var B 0) (de_int))) (v_cons (v_xfv T.xf T.n_short (v_ix (v_var B 0) (de_int))) (da_nil))))))))) (db_cons (v_set B 4 (v_add (v_var B 4) (de_lst (v_cons (v_xfv T.xf T.n_request (v_ix (v_var B 0) (de_int))) (v_cons (v_xfv T.xf T.n_cycle (v_ix (v_var B 0) (de_int))) (v_cons (v_xfv T.xf T.n_part (v_ix (v_var B 0) (de_int))) (v_cons (v_xfv T.xf T.n_routine (v_ix (v_var B 0) (de_int))) (v_cons (v_xfv T.xf T.n_nodes (v_ix (v_var B 0) (de_int))) (da_nil))))))))) (db_cons (v_set B 4 (v_add (v_var B 4) (de_lst (v_cons (v_xfv T.xf T.n_cycle (v_ix (v_var B 0) (de_int))) (v_cons (v_xfv T.xf T.n_state (v_ix (v_var B 0) (de_int))) (v_cons (v_xfv T.xf T.n_rule (v_ix (v_var B 0) (de_int))) (da_nil))))))) (db_cons (v_set B 5 (de_lst (v_cons (v_var B 2) (v_cons (v_var B 1) (v_cons (v_var B 2) (v_cons (v_var B 3) (v_cons (v_var B 1) (v_cons (v_var B 1) (v_cons (v_var B 3) (v_cons (v_var B 1) (v_cons (v_var B 3) (v_cons (v_var B 2) (v_cons (v_var B 3) (v_cons (v_var B 2) (da_nil))))))))))))))) (db_cons (v_set B 5 (v_add (v_var B 5) (de_lst (v_cons (v_var B 3) (v_cons (v_var B 2) (v_cons (v_var B 1) (v_cons (v_var B 3) (v_cons (v_var B 3) (v_cons (v_var B 2) (v_cons (v_var B 2) (v_cons (v_var B 1) (v_cons (v_var B 1) (v_cons (v_var B 3) (v_cons (v_var B 1) (da_nil))))))))))))))) (db_one (ds_ret (v_eq B (v_var B 4) (v_add (v_var B 5) (de_lst (v_cons (v_var B 3) (v_cons (v_var B 3) (v_cons (v_var B 3) (v_cons (v_var B 2) (v_cons (v_var B 3) (v_cons (v_var B 3) (v_cons (v_var B 3) (v_cons (v_var B 2) (da_nil)))))))))))))))))))))
theorem ok_law_fields_hold (T : Tx P w K mg) : Df P w K mg base (CA K) "_law_fields_hold" 1 f_law_fields_hold := df_of (o_law_fields_hold T)
def N_law : List Str := ["_law_script", "_law_draws_here", "_law_words_here", "_law_rules", "_law_turn", "_law_value_here", "_law_actual", "_law_word", "_law_number", "_law_rest", "_law_made", "_law_at", "_law_e", "_law_k", "_law_one"]
theorem sc_law : FnScope N_law ["_law_script"] (defScope s_law) := ⟨rfl, rfl, rfl, by decide +kernel, rfl, by decide +kernel, by decide +kernel⟩
theorem o_law (T : Tx P w K mg) : ∃ fd, (∀ base : Heap, FnOk P w K mg base (L2.CX P w) 4 (He.ga K "law") fd ["_law_script"] (spF ⟨K, CA K⟩ f_law)) ∧ mg "law" = some (.ref (He.ga K "law")) ∧ PySem.W.keepIn K (.ref (He.ga K "law")) = true ∧ Binds K fd ["_law_script"] [] ∧ ∀ (s : Shared) (us : List Value), us.length = (["_law_script"] : List Str).length → BindsTo s fd ⟨us, []⟩ ((["_law_script"] : List Str).zip us) :=
  df_mk (k := 3) (vi := [0, 1, 2, 3, 4, 5, 6, 7, 8, 9, 10, 11, 12]) (li := [0, 1, 2, 3, 4, 5, 6, 7, 8, 9, 10, 11, 12]) (ug := ["HandsError", "RESERVED", "RULES", "ValueError", "_law_classes", "_law_draws", "_law_due", "_law_errors", "_law_fields_hold", "_law_next", "_law_value", "_law_words", "bool", "enumerate", "is_name", "isinstance", "list", "range", "tuple"]) (nt := 15) (b := b_law) T.F_law.1 T.F_law.2 sc_law rfl rfl (fun _ _ _ _ _ _ us hl => match us, hl with | [_], _ => rfl) (by decide +kernel) (by decide +kernel) (by decide +kernel) fun base cdv A outer s H E B Z =>
    db_cons (v_set B 1 (v_callV Z B (ok_law_draws T) (v_cons (v_var B 0) (da_nil)))) (db_cons (v_set B 2 (v_call0 Z B (ok_law_words T))) (db_cons (v_set B 3 (de_lst (v_cons (v_str) (v_cons (v_str) (v_cons (v_str) (v_cons (v_str) (v_cons (v_str) (v_cons (v_str) (v_cons (v_str) (v_cons (v_str) (v_cons (v_str) (v_cons (v_str) (v_cons (v_str) (da_nil)))))))))))))) (db_cons (ds_if (dt_w (dw_or (dt_not (t_val (v_isi B "tuple" T.n_isinstance T.n_tuple (v_cst B T.c_RESERVED)))) (dw_or1 (t_ne B (v_list B T.n_list (v_cons (v_cst B T.c_RESERVED) (da_nil))) (v_var B 2))))) (db_one (ds_ret (de_bl))) (db_nil)) (db_cons (ds_if (dt_w (dw_or (dt_not (t_val (v_isi B "tuple" T.n_isinstance T.n_tuple (v_cst B T.c_RULES)))) (dw_or1 (t_ne B (v_list B T.n_list (v_cons (v_cst B T.c_RULES) (da_nil))) (v_var B 3))))) (db_one (ds_ret (de_bl))) (db_nil)) (db_cons (v_for Z (v_range1 B T.n_range (v_cons (de_int) (da_nil))) (v_name B 4) (db_cons (v_set B 5 (v_callR Z B (ok_law_value T) (v_cons (v_var B 1) (v_cons (v_var B 2) (da_nil))))) (db_cons (v_set B 6 (v_callV Z B (ok_is_name T) (v_cons (v_var B 5) (da_nil)))) (db_one (ds_if (dt_w (dw_or (dt_not (t_val (v_isi B "bool" T.n_isinstance T.n_bool (v_var B 6)))) (dw_or1 (t_ne B (v_var B 6) (v_callV Z B (ok_law_due T) (v_cons (v_var B 5) (v_cons (v_var B 2) (da_nil)))))))) (db_one (ds_ret (de_bl))) (db_nil)))))) (db_cons (v_for Z (di_seq (v_var B 2)) (v_name B 7) (db_cons (v_set B 6 (v_callV Z B (ok_is_name T) (v_cons (v_var B 7) (da_nil)))) (db_one (ds_if (dt_w (dw_or (dt_not (t_val (v_isi B "bool" T.n_isinstance T.n_bool (v_var B 6)))) (dw_or1 (t_val (v_var B 6))))) (db_one (ds_ret (de_bl))) (db_nil))))) (db_cons (v_set B 8 (v_sub (v_callR Z B (ok_law_next T) (v_cons (v_var B 1) (v_cons (de_int) (da_nil)))) (de_int))) (db_cons (v_set B 7 (v_ix (v_var B 3) (v_callR Z B (ok_law_next T) (v_cons (v_var B 1) (v_cons (de_int) (da_nil)))))) (db_cons (v_set B 9 (de_tup (v_cons (v_var B 7) (v_cons (v_var B 8) (v_cons (v_callR Z B (ok_law_next T) (v_cons (v_var B 1) (v_cons (de_int) (da_nil)))) (da_nil)))))) (db_cons (v_set B 10 (v_callV Z B (ok_law_errors T) (v_cons (v_var B 8) (v_cons (v_var B 7) (v_cons (v_var B 9) (da_nil)))))) (db_cons (v_for Z (v_enum2 B T.n_enumerate (v_cons (v_var B 10) (da_nil))) (v_ttup Z (v_tcons (v_name B 11) (v_tcons (v_name B 12) (dgs_nil)))) (db_cons (ds_if (dt_w (dw_or (dt_not (t_val (v_isV (sub := subC) B 0 T.xc (fun c' => T.kit c' 0) T.n_isinstance T.g_HandsError (v_var B 12)))) (dw_or1 (dt_not (t_val (v_isVT B "ValueError" T.xc T.kve T.n_isinstance T.n_ValueError (v_var B 12))))))) (db_one (ds_ret (de_bl))) (db_nil)) (db_one (ds_if (t_ne B (v_lc2 Z B [("_law_k", 13), ("_law_one", 14)] [13, 14] [13, 14] [] (t := gTup K 2 (gCons (gName 13) (gCons (gName 14) (gNil)))) (blkOk_by (by kernel_rfl)) (v_enum2 B T.n_enumerate (v_cons (v_callV Z B (ok_law_classes T) (v_cons (v_var B 12) (da_nil))) (da_nil))) (by kernel_rfl) (by kernel_rfl) (by kernel_rfl) (fun s H C cl fp b z => go_tup z.calm (gos_cons (go_name b 13 (vs := [13, 14])) (gos_cons (go_name b 14 (vs := [13, 14])) (gos_nil)))) (fun s H C cl fp b z => ifs1 (t_val (v_var b 14))) (fun s H C cl fp b z => v_var b 13)) (de_lst (v_cons (v_var B 11) (da_nil)))) (db_one (ds_ret (de_bl))) (db_nil))))) (db_one (ds_ret (v_callV Z B (ok_law_fields_hold T) (v_cons (v_var B 10) (v_cons (v_var B 8) (v_cons (v_var B 7) (v_cons (v_var B 9) (da_nil)))))))))))))))))))
theorem ok_law (T : Tx P w K mg) : Df P w K mg base (CA K) "law" 4 f_law := df_of (o_law T)
end
end K00
set_option Elab.async false
set_option linter.all false
set_option maxRecDepth 100000
set_option maxHeartbeats 8000000
namespace K00
open PySem L2 PM
def dv_RESERVED : List He.Dv := [.str "lock", .str "kind", .str "body", .str "routine", .str "done", .str "do", .str "with", .str "block", .str "either", .str "or", .str "repeat", .str "close", .str "drop", .str "give", .str "skip", .str "make", .str "copy", .str "fetch", .str "read", .str "keep", .str "write", .str "put", .str "call", .str "take", .str "as"]
def dv_RULES : List He.Dv := [.str "form", .str "place", .str "many", .str "pair", .str "twice", .str "scope", .str "unknown", .str "fit", .str "needs", .str "order", .str "end"]
def fa : List He.Fa := [.glo "is_name", .glo "_law_draws", .glo "_law_next", .glo "_law_words", .glo "_law_value", .glo "_law_due", .glo "_law_classes", .glo "_law_errors", .glo "_law_fields_hold", .glo "law", .glo "HandsError", .glo "BadPart", .glo "BadLine", .glo "NoSuch", .glo "Unlike", .glo "BadPath", .glo "BadMove", .glo "BadPlace", .glo "BadRun", .glo "BadPoint", .glo "TooLarge", .glo "NoFirst", .glo "WrongFirst", .glo "NoHand", .glo "WrongMove", .glo "MustWait", .glo "Refused", .glo "Unfinished", .glo "NoRow", .glo "NoTag", .glo "NoNode", .glo "NoRequest", .glo "NoLockOrder", .glo "BadStand", .glo "Unnested", .glo "Clash", .glo "NoState", .glo "NotFit", .free "ValueError", .free "abs", .free "bool", .free "enumerate", .free "int", .free "isinstance", .free "len", .free "list", .free "range", .free "str", .free "super", .free "tuple", .glo "RESERVED", .str "LETTERS" "abcdefghijklmnopqrstuvwxyz", .str "DIGITS" "0123456789", .int "MOST_CHARACTERS" 8, .glo "RULES"]
def d_is_name : He.DefD := ⟨("is_name", none), "is_name", "is_name", defArgs s_is_name, defBody s_is_name, defScope s_is_name, [], []⟩
def d_law_draws : He.DefD := ⟨("_law_draws", none), "_law_draws", "_law_draws", defArgs s_law_draws, defBody s_law_draws, defScope s_law_draws, [], []⟩
def d_law_next : He.DefD := ⟨("_law_next", none), "_law_next", "_law_next", defArgs s_law_next, defBody s_law_next, defScope s_law_next, [], []⟩
def d_law_words : He.DefD := ⟨("_law_words", none), "_law_words", "_law_words", defArgs s_law_words, defBody s_law_words, defScope s_law_words, [], []⟩
def d_law_value : He.DefD := ⟨("_law_value", none), "_law_value", "_law_value", defArgs s_law_value, defBody s_law_value, defScope s_law_value, [], []⟩
def d_law_due : He.DefD := ⟨("_law_due", none), "_law_due", "_law_due", defArgs s_law_due, defBody s_law_due, defScope s_law_due, [], []⟩
def d_law_classes : He.DefD := ⟨("_law_classes", none), "_law_classes", "_law_classes", defArgs s_law_classes, defBody s_law_classes, defScope s_law_classes, [], []⟩
def d_law_errors : He.DefD := ⟨("_law_errors", none), "_law_errors", "_law_errors", defArgs s_law_errors, defBody s_law_errors, defScope s_law_errors, [], []⟩
def d_law_fields_hold : He.DefD := ⟨("_law_fields_hold", none), "_law_fields_hold", "_law_fields_hold", defArgs s_law_fields_hold, defBody s_law_fields_hold, defScope s_law_fields_hold, [], []⟩
def d_law : He.DefD := ⟨("law", none), "law", "law", defArgs s_law, defBody s_law, defScope s_law, [], []⟩
def fn : List He.DefD := [d_is_name, d_law_draws, d_law_next, d_law_words, d_law_value, d_law_due, d_law_classes, d_law_errors, d_law_fields_hold, d_law]
def ts : List He.Tab := []
abbrev s_BadPart_init : Stmt := inClass (top 9) 0
def i_BadPart : InD := ⟨("BadPart", some "__init__"), "BadPart.__init__", defArgs s_BadPart_init, defBody s_BadPart_init, defScope s_BadPart_init⟩
abbrev s_BadLine_init : Stmt := inClass (top 10) 0
def i_BadLine : InD := ⟨("BadLine", some "__init__"), "BadLine.__init__", defArgs s_BadLine_init, defBody s_BadLine_init, defScope s_BadLine_init⟩
abbrev s_NoSuch_init : Stmt := inClass (top 11) 0
def i_NoSuch : InD := ⟨("NoSuch", some "__init__"), "NoSuch.__init__", defArgs s_NoSuch_init, defBody s_NoSuch_init, defScope s_NoSuch_init⟩
abbrev s_BadPath_init : Stmt := inClass (top 13) 0
def i_BadPath : InD := ⟨("BadPath", some "__init__"), "BadPath.__init__", defArgs s_BadPath_init, defBody s_BadPath_init, defScope s_BadPath_init⟩
abbrev s_BadMove_init : Stmt := inClass (top 14) 0
def i_BadMove : InD := ⟨("BadMove", some "__init__"), "BadMove.__init__", defArgs s_BadMove_init, defBody s_BadMove_init, defScope s_BadMove_init⟩
abbrev s_BadPlace_init : Stmt := inClass (top 15) 0
def i_BadPlace : InD := ⟨("BadPlace", some "__init__"), "BadPlace.__init__", defArgs s_BadPlace_init, defBody s_BadPlace_init, defScope s_BadPlace_init⟩
abbrev s_BadRun_init : Stmt := inClass (top 16) 0
def i_BadRun : InD := ⟨("BadRun", some "__init__"), "BadRun.__init__", defArgs s_BadRun_init, defBody s_BadRun_init, defScope s_BadRun_init⟩
abbrev s_BadPoint_init : Stmt := inClass (top 17) 0
def i_BadPoint : InD := ⟨("BadPoint", some "__init__"), "BadPoint.__init__", defArgs s_BadPoint_init, defBody s_BadPoint_init, defScope s_BadPoint_init⟩
abbrev s_TooLarge_init : Stmt := inClass (top 18) 0
def i_TooLarge : InD := ⟨("TooLarge", some "__init__"), "TooLarge.__init__", defArgs s_TooLarge_init, defBody s_TooLarge_init, defScope s_TooLarge_init⟩
abbrev s_NoFirst_init : Stmt := inClass (top 19) 0
def i_NoFirst : InD := ⟨("NoFirst", some "__init__"), "NoFirst.__init__", defArgs s_NoFirst_init, defBody s_NoFirst_init, defScope s_NoFirst_init⟩
abbrev s_WrongFirst_init : Stmt := inClass (top 20) 0
def i_WrongFirst : InD := ⟨("WrongFirst", some "__init__"), "WrongFirst.__init__", defArgs s_WrongFirst_init, defBody s_WrongFirst_init, defScope s_WrongFirst_init⟩
abbrev s_NoHand_init : Stmt := inClass (top 21) 0
def i_NoHand : InD := ⟨("NoHand", some "__init__"), "NoHand.__init__", defArgs s_NoHand_init, defBody s_NoHand_init, defScope s_NoHand_init⟩
abbrev s_WrongMove_init : Stmt := inClass (top 22) 0
def i_WrongMove : InD := ⟨("WrongMove", some "__init__"), "WrongMove.__init__", defArgs s_WrongMove_init, defBody s_WrongMove_init, defScope s_WrongMove_init⟩
abbrev s_MustWait_init : Stmt := inClass (top 23) 0
def i_MustWait : InD := ⟨("MustWait", some "__init__"), "MustWait.__init__", defArgs s_MustWait_init, defBody s_MustWait_init, defScope s_MustWait_init⟩
abbrev s_Refused_init : Stmt := inClass (top 24) 0
def i_Refused : InD := ⟨("Refused", some "__init__"), "Refused.__init__", defArgs s_Refused_init, defBody s_Refused_init, defScope s_Refused_init⟩
abbrev s_Unfinished_init : Stmt := inClass (top 25) 0
def i_Unfinished : InD := ⟨("Unfinished", some "__init__"), "Unfinished.__init__", defArgs s_Unfinished_init, defBody s_Unfinished_init, defScope s_Unfinished_init⟩
abbrev s_NoRow_init : Stmt := inClass (top 26) 0
def i_NoRow : InD := ⟨("NoRow", some "__init__"), "NoRow.__init__", defArgs s_NoRow_init, defBody s_NoRow_init, defScope s_NoRow_init⟩
abbrev s_NoTag_init : Stmt := inClass (top 27) 0
def i_NoTag : InD := ⟨("NoTag", some "__init__"), "NoTag.__init__", defArgs s_NoTag_init, defBody s_NoTag_init, defScope s_NoTag_init⟩
abbrev s_NoNode_init : Stmt := inClass (top 28) 0
def i_NoNode : InD := ⟨("NoNode", some "__init__"), "NoNode.__init__", defArgs s_NoNode_init, defBody s_NoNode_init, defScope s_NoNode_init⟩
abbrev s_NoRequest_init : Stmt := inClass (top 29) 0
def i_NoRequest : InD := ⟨("NoRequest", some "__init__"), "NoRequest.__init__", defArgs s_NoRequest_init, defBody s_NoRequest_init, defScope s_NoRequest_init⟩
abbrev s_NoLockOrder_init : Stmt := inClass (top 30) 0
def i_NoLockOrder : InD := ⟨("NoLockOrder", some "__init__"), "NoLockOrder.__init__", defArgs s_NoLockOrder_init, defBody s_NoLockOrder_init, defScope s_NoLockOrder_init⟩
abbrev s_BadStand_init : Stmt := inClass (top 31) 0
def i_BadStand : InD := ⟨("BadStand", some "__init__"), "BadStand.__init__", defArgs s_BadStand_init, defBody s_BadStand_init, defScope s_BadStand_init⟩
abbrev s_Unnested_init : Stmt := inClass (top 32) 0
def i_Unnested : InD := ⟨("Unnested", some "__init__"), "Unnested.__init__", defArgs s_Unnested_init, defBody s_Unnested_init, defScope s_Unnested_init⟩
abbrev s_Clash_init : Stmt := inClass (top 33) 0
def i_Clash : InD := ⟨("Clash", some "__init__"), "Clash.__init__", defArgs s_Clash_init, defBody s_Clash_init, defScope s_Clash_init⟩
abbrev s_NoState_init : Stmt := inClass (top 34) 0
def i_NoState : InD := ⟨("NoState", some "__init__"), "NoState.__init__", defArgs s_NoState_init, defBody s_NoState_init, defScope s_NoState_init⟩
abbrev s_NotFit_init : Stmt := inClass (top 35) 0
def i_NotFit : InD := ⟨("NotFit", some "__init__"), "NotFit.__init__", defArgs s_NotFit_init, defBody s_NotFit_init, defScope s_NotFit_init⟩
def e_tup_RESERVED (K : PySem.W.Frag) : Bool := He.tupB K "RESERVED" dv_RESERVED
def e_tup_RULES (K : PySem.W.Frag) : Bool := He.tupB K "RULES" dv_RULES
def e_kit (K : PySem.W.Frag) : Bool := (List.range 28).all fun j => (List.range 28).all fun k => decide (PySem.W.kitOne K (.ref (He.ga K (clsN j))) (.ref (He.ga K (clsN k))) = some (subC j k))
def e_exc (K : PySem.W.Frag) : Bool := (List.range 28).all fun j => excCB K (He.ga K (clsN j))
def e_no_cycle (K : PySem.W.Frag) : Bool := (List.range 28).all fun j => decide (PySem.W.findIn K (.ref (He.ga K (clsN j))) "cycle" = some none)
def e_no_hand (K : PySem.W.Frag) : Bool := (List.range 28).all fun j => decide (PySem.W.findIn K (.ref (He.ga K (clsN j))) "hand" = some none)
def e_no_kind (K : PySem.W.Frag) : Bool := (List.range 28).all fun j => decide (PySem.W.findIn K (.ref (He.ga K (clsN j))) "kind" = some none)
def e_no_line (K : PySem.W.Frag) : Bool := (List.range 28).all fun j => decide (PySem.W.findIn K (.ref (He.ga K (clsN j))) "line" = some none)
def e_no_lock (K : PySem.W.Frag) : Bool := (List.range 28).all fun j => decide (PySem.W.findIn K (.ref (He.ga K (clsN j))) "lock" = some none)
def e_no_move (K : PySem.W.Frag) : Bool := (List.range 28).all fun j => decide (PySem.W.findIn K (.ref (He.ga K (clsN j))) "move" = some none)
def e_no_name (K : PySem.W.Frag) : Bool := (List.range 28).all fun j => decide (PySem.W.findIn K (.ref (He.ga K (clsN j))) "name" = some none)
def e_no_node (K : PySem.W.Frag) : Bool := (List.range 28).all fun j => decide (PySem.W.findIn K (.ref (He.ga K (clsN j))) "node" = some none)
def e_no_nodes (K : PySem.W.Frag) : Bool := (List.range 28).all fun j => decide (PySem.W.findIn K (.ref (He.ga K (clsN j))) "nodes" = some none)
def e_no_part (K : PySem.W.Frag) : Bool := (List.range 28).all fun j => decide (PySem.W.findIn K (.ref (He.ga K (clsN j))) "part" = some none)
def e_no_place (K : PySem.W.Frag) : Bool := (List.range 28).all fun j => decide (PySem.W.findIn K (.ref (He.ga K (clsN j))) "place" = some none)
def e_no_point (K : PySem.W.Frag) : Bool := (List.range 28).all fun j => decide (PySem.W.findIn K (.ref (He.ga K (clsN j))) "point" = some none)
def e_no_position (K : PySem.W.Frag) : Bool := (List.range 28).all fun j => decide (PySem.W.findIn K (.ref (He.ga K (clsN j))) "position" = some none)
def e_no_request (K : PySem.W.Frag) : Bool := (List.range 28).all fun j => decide (PySem.W.findIn K (.ref (He.ga K (clsN j))) "request" = some none)
def e_no_routine (K : PySem.W.Frag) : Bool := (List.range 28).all fun j => decide (PySem.W.findIn K (.ref (He.ga K (clsN j))) "routine" = some none)
def e_no_row (K : PySem.W.Frag) : Bool := (List.range 28).all fun j => decide (PySem.W.findIn K (.ref (He.ga K (clsN j))) "row" = some none)
def e_no_rule (K : PySem.W.Frag) : Bool := (List.range 28).all fun j => decide (PySem.W.findIn K (.ref (He.ga K (clsN j))) "rule" = some none)
def e_no_short (K : PySem.W.Frag) : Bool := (List.range 28).all fun j => decide (PySem.W.findIn K (.ref (He.ga K (clsN j))) "short" = some none)
def e_no_state (K : PySem.W.Frag) : Bool := (List.range 28).all fun j => decide (PySem.W.findIn K (.ref (He.ga K (clsN j))) "state" = some none)
def e_no_tag (K : PySem.W.Frag) : Bool := (List.range 28).all fun j => decide (PySem.W.findIn K (.ref (He.ga K (clsN j))) "tag" = some none)
def e_no_what (K : PySem.W.Frag) : Bool := (List.range 28).all fun j => decide (PySem.W.findIn K (.ref (He.ga K (clsN j))) "what" = some none)
def e_kve (K : PySem.W.Frag) : Bool := (List.range 28).all fun j => decide (PySem.W.kitOne K (.ref (He.ga K (clsN j))) (.type "ValueError") = some true)
def e_x0_Unlike (K : PySem.W.Frag) : Bool := PySem.W.excIn K (He.ga K (clsN 4)) [.type "ValueError", .type "Exception", .type "BaseException", .type "object"] "ValueError.__new__"
def e_k0_Unlike (K : PySem.W.Frag) : Bool := PySem.W.keepIn K (.ref (He.ga K (clsN 4)))
def e_oex_HandsError (K : PySem.W.Frag) : Bool := oexB K (He.ga K (clsN 0))
def e_oex_BadPart (K : PySem.W.Frag) : Bool := oexB K (He.ga K (clsN 1))
def e_sup_BadPart (K : PySem.W.Frag) : Bool := supB K (He.ga K (clsN 1))
def e_ini_BadPart (K : PySem.W.Frag) : Bool := iniB PySem.Challenge.pw_handsroom_k00_names_and_words.main.file K (He.ga K (clsN 1)) (He.fAd K ("BadPart", some "__init__")) "BadPart.__init__"
def e_oex_BadLine (K : PySem.W.Frag) : Bool := oexB K (He.ga K (clsN 2))
def e_sup_BadLine (K : PySem.W.Frag) : Bool := supB K (He.ga K (clsN 2))
def e_ini_BadLine (K : PySem.W.Frag) : Bool := iniB PySem.Challenge.pw_handsroom_k00_names_and_words.main.file K (He.ga K (clsN 2)) (He.fAd K ("BadLine", some "__init__")) "BadLine.__init__"
def e_oex_NoSuch (K : PySem.W.Frag) : Bool := oexB K (He.ga K (clsN 3))
def e_sup_NoSuch (K : PySem.W.Frag) : Bool := supB K (He.ga K (clsN 3))
def e_ini_NoSuch (K : PySem.W.Frag) : Bool := iniB PySem.Challenge.pw_handsroom_k00_names_and_words.main.file K (He.ga K (clsN 3)) (He.fAd K ("NoSuch", some "__init__")) "NoSuch.__init__"
def e_oex_Unlike (K : PySem.W.Frag) : Bool := oexB K (He.ga K (clsN 4))
def e_oex_BadPath (K : PySem.W.Frag) : Bool := oexB K (He.ga K (clsN 5))
def e_sup_BadPath (K : PySem.W.Frag) : Bool := supB K (He.ga K (clsN 5))
def e_ini_BadPath (K : PySem.W.Frag) : Bool := iniB PySem.Challenge.pw_handsroom_k00_names_and_words.main.file K (He.ga K (clsN 5)) (He.fAd K ("BadPath", some "__init__")) "BadPath.__init__"
def e_oex_BadMove (K : PySem.W.Frag) : Bool := oexB K (He.ga K (clsN 6))
def e_sup_BadMove (K : PySem.W.Frag) : Bool := supB K (He.ga K (clsN 6))
def e_ini_BadMove (K : PySem.W.Frag) : Bool := iniB PySem.Challenge.pw_handsroom_k00_names_and_words.main.file K (He.ga K (clsN 6)) (He.fAd K ("BadMove", some "__init__")) "BadMove.__init__"
def e_oex_BadPlace (K : PySem.W.Frag) : Bool := oexB K (He.ga K (clsN 7))
def e_sup_BadPlace (K : PySem.W.Frag) : Bool := supB K (He.ga K (clsN 7))
def e_ini_BadPlace (K : PySem.W.Frag) : Bool := iniB PySem.Challenge.pw_handsroom_k00_names_and_words.main.file K (He.ga K (clsN 7)) (He.fAd K ("BadPlace", some "__init__")) "BadPlace.__init__"
def e_oex_BadRun (K : PySem.W.Frag) : Bool := oexB K (He.ga K (clsN 8))
def e_sup_BadRun (K : PySem.W.Frag) : Bool := supB K (He.ga K (clsN 8))
def e_ini_BadRun (K : PySem.W.Frag) : Bool := iniB PySem.Challenge.pw_handsroom_k00_names_and_words.main.file K (He.ga K (clsN 8)) (He.fAd K ("BadRun", some "__init__")) "BadRun.__init__"
def e_oex_BadPoint (K : PySem.W.Frag) : Bool := oexB K (He.ga K (clsN 9))
def e_sup_BadPoint (K : PySem.W.Frag) : Bool := supB K (He.ga K (clsN 9))
def e_ini_BadPoint (K : PySem.W.Frag) : Bool := iniB PySem.Challenge.pw_handsroom_k00_names_and_words.main.file K (He.ga K (clsN 9)) (He.fAd K ("BadPoint", some "__init__")) "BadPoint.__init__"
def e_oex_TooLarge (K : PySem.W.Frag) : Bool := oexB K (He.ga K (clsN 10))
def e_sup_TooLarge (K : PySem.W.Frag) : Bool := supB K (He.ga K (clsN 10))
def e_ini_TooLarge (K : PySem.W.Frag) : Bool := iniB PySem.Challenge.pw_handsroom_k00_names_and_words.main.file K (He.ga K (clsN 10)) (He.fAd K ("TooLarge", some "__init__")) "TooLarge.__init__"
def e_oex_NoFirst (K : PySem.W.Frag) : Bool := oexB K (He.ga K (clsN 11))
def e_sup_NoFirst (K : PySem.W.Frag) : Bool := supB K (He.ga K (clsN 11))
def e_ini_NoFirst (K : PySem.W.Frag) : Bool := iniB PySem.Challenge.pw_handsroom_k00_names_and_words.main.file K (He.ga K (clsN 11)) (He.fAd K ("NoFirst", some "__init__")) "NoFirst.__init__"
def e_oex_WrongFirst (K : PySem.W.Frag) : Bool := oexB K (He.ga K (clsN 12))
def e_sup_WrongFirst (K : PySem.W.Frag) : Bool := supB K (He.ga K (clsN 12))
def e_ini_WrongFirst (K : PySem.W.Frag) : Bool := iniB PySem.Challenge.pw_handsroom_k00_names_and_words.main.file K (He.ga K (clsN 12)) (He.fAd K ("WrongFirst", some "__init__")) "WrongFirst.__init__"
def e_oex_NoHand (K : PySem.W.Frag) : Bool := oexB K (He.ga K (clsN 13))
def e_sup_NoHand (K : PySem.W.Frag) : Bool := supB K (He.ga K (clsN 13))
def e_ini_NoHand (K : PySem.W.Frag) : Bool := iniB PySem.Challenge.pw_handsroom_k00_names_and_words.main.file K (He.ga K (clsN 13)) (He.fAd K ("NoHand", some "__init__")) "NoHand.__init__"
def e_oex_WrongMove (K : PySem.W.Frag) : Bool := oexB K (He.ga K (clsN 14))
def e_sup_WrongMove (K : PySem.W.Frag) : Bool := supB K (He.ga K (clsN 14))
def e_ini_WrongMove (K : PySem.W.Frag) : Bool := iniB PySem.Challenge.pw_handsroom_k00_names_and_words.main.file K (He.ga K (clsN 14)) (He.fAd K ("WrongMove", some "__init__")) "WrongMove.__init__"
def e_oex_MustWait (K : PySem.W.Frag) : Bool := oexB K (He.ga K (clsN 15))
def e_sup_MustWait (K : PySem.W.Frag) : Bool := supB K (He.ga K (clsN 15))
def e_ini_MustWait (K : PySem.W.Frag) : Bool := iniB PySem.Challenge.pw_handsroom_k00_names_and_words.main.file K (He.ga K (clsN 15)) (He.fAd K ("MustWait", some "__init__")) "MustWait.__init__"
def e_oex_Refused (K : PySem.W.Frag) : Bool := oexB K (He.ga K (clsN 16))
def e_sup_Refused (K : PySem.W.Frag) : Bool := supB K (He.ga K (clsN 16))
def e_ini_Refused (K : PySem.W.Frag) : Bool := iniB PySem.Challenge.pw_handsroom_k00_names_and_words.main.file K (He.ga K (clsN 16)) (He.fAd K ("Refused", some "__init__")) "Refused.__init__"
def e_oex_Unfinished (K : PySem.W.Frag) : Bool := oexB K (He.ga K (clsN 17))
def e_sup_Unfinished (K : PySem.W.Frag) : Bool := supB K (He.ga K (clsN 17))
def e_ini_Unfinished (K : PySem.W.Frag) : Bool := iniB PySem.Challenge.pw_handsroom_k00_names_and_words.main.file K (He.ga K (clsN 17)) (He.fAd K ("Unfinished", some "__init__")) "Unfinished.__init__"
def e_oex_NoRow (K : PySem.W.Frag) : Bool := oexB K (He.ga K (clsN 18))
def e_sup_NoRow (K : PySem.W.Frag) : Bool := supB K (He.ga K (clsN 18))
def e_ini_NoRow (K : PySem.W.Frag) : Bool := iniB PySem.Challenge.pw_handsroom_k00_names_and_words.main.file K (He.ga K (clsN 18)) (He.fAd K ("NoRow", some "__init__")) "NoRow.__init__"
def e_oex_NoTag (K : PySem.W.Frag) : Bool := oexB K (He.ga K (clsN 19))
def e_sup_NoTag (K : PySem.W.Frag) : Bool := supB K (He.ga K (clsN 19))
def e_ini_NoTag (K : PySem.W.Frag) : Bool := iniB PySem.Challenge.pw_handsroom_k00_names_and_words.main.file K (He.ga K (clsN 19)) (He.fAd K ("NoTag", some "__init__")) "NoTag.__init__"
def e_oex_NoNode (K : PySem.W.Frag) : Bool := oexB K (He.ga K (clsN 20))
def e_sup_NoNode (K : PySem.W.Frag) : Bool := supB K (He.ga K (clsN 20))
def e_ini_NoNode (K : PySem.W.Frag) : Bool := iniB PySem.Challenge.pw_handsroom_k00_names_and_words.main.file K (He.ga K (clsN 20)) (He.fAd K ("NoNode", some "__init__")) "NoNode.__init__"
def e_oex_NoRequest (K : PySem.W.Frag) : Bool := oexB K (He.ga K (clsN 21))
def e_sup_NoRequest (K : PySem.W.Frag) : Bool := supB K (He.ga K (clsN 21))
def e_ini_NoRequest (K : PySem.W.Frag) : Bool := iniB PySem.Challenge.pw_handsroom_k00_names_and_words.main.file K (He.ga K (clsN 21)) (He.fAd K ("NoRequest", some "__init__")) "NoRequest.__init__"
def e_oex_NoLockOrder (K : PySem.W.Frag) : Bool := oexB K (He.ga K (clsN 22))
def e_sup_NoLockOrder (K : PySem.W.Frag) : Bool := supB K (He.ga K (clsN 22))
def e_ini_NoLockOrder (K : PySem.W.Frag) : Bool := iniB PySem.Challenge.pw_handsroom_k00_names_and_words.main.file K (He.ga K (clsN 22)) (He.fAd K ("NoLockOrder", some "__init__")) "NoLockOrder.__init__"
def e_oex_BadStand (K : PySem.W.Frag) : Bool := oexB K (He.ga K (clsN 23))
def e_sup_BadStand (K : PySem.W.Frag) : Bool := supB K (He.ga K (clsN 23))
def e_ini_BadStand (K : PySem.W.Frag) : Bool := iniB PySem.Challenge.pw_handsroom_k00_names_and_words.main.file K (He.ga K (clsN 23)) (He.fAd K ("BadStand", some "__init__")) "BadStand.__init__"
def e_oex_Unnested (K : PySem.W.Frag) : Bool := oexB K (He.ga K (clsN 24))
def e_sup_Unnested (K : PySem.W.Frag) : Bool := supB K (He.ga K (clsN 24))
def e_ini_Unnested (K : PySem.W.Frag) : Bool := iniB PySem.Challenge.pw_handsroom_k00_names_and_words.main.file K (He.ga K (clsN 24)) (He.fAd K ("Unnested", some "__init__")) "Unnested.__init__"
def e_oex_Clash (K : PySem.W.Frag) : Bool := oexB K (He.ga K (clsN 25))
def e_sup_Clash (K : PySem.W.Frag) : Bool := supB K (He.ga K (clsN 25))
def e_ini_Clash (K : PySem.W.Frag) : Bool := iniB PySem.Challenge.pw_handsroom_k00_names_and_words.main.file K (He.ga K (clsN 25)) (He.fAd K ("Clash", some "__init__")) "Clash.__init__"
def e_oex_NoState (K : PySem.W.Frag) : Bool := oexB K (He.ga K (clsN 26))
def e_sup_NoState (K : PySem.W.Frag) : Bool := supB K (He.ga K (clsN 26))
def e_ini_NoState (K : PySem.W.Frag) : Bool := iniB PySem.Challenge.pw_handsroom_k00_names_and_words.main.file K (He.ga K (clsN 26)) (He.fAd K ("NoState", some "__init__")) "NoState.__init__"
def e_oex_NotFit (K : PySem.W.Frag) : Bool := oexB K (He.ga K (clsN 27))
def e_sup_NotFit (K : PySem.W.Frag) : Bool := supB K (He.ga K (clsN 27))
def e_ini_NotFit (K : PySem.W.Frag) : Bool := iniB PySem.Challenge.pw_handsroom_k00_names_and_words.main.file K (He.ga K (clsN 27)) (He.fAd K ("NotFit", some "__init__")) "NotFit.__init__"
def exs : List (PySem.W.Frag → Bool) := [e_tup_RESERVED, e_tup_RULES, e_kit, e_exc, e_no_cycle, e_no_hand, e_no_kind, e_no_line, e_no_lock, e_no_move, e_no_name, e_no_node, e_no_nodes, e_no_part, e_no_place, e_no_point, e_no_position, e_no_request, e_no_routine, e_no_row, e_no_rule, e_no_short, e_no_state, e_no_tag, e_no_what, e_kve, e_x0_Unlike, e_k0_Unlike, e_oex_HandsError, e_oex_BadPart, e_sup_BadPart, e_ini_BadPart, e_oex_BadLine, e_sup_BadLine, e_ini_BadLine, e_oex_NoSuch, e_sup_NoSuch, e_ini_NoSuch, e_oex_Unlike, e_oex_BadPath, e_sup_BadPath, e_ini_BadPath, e_oex_BadMove, e_sup_BadMove, e_ini_BadMove, e_oex_BadPlace, e_sup_BadPlace, e_ini_BadPlace, e_oex_BadRun, e_sup_BadRun, e_ini_BadRun, e_oex_BadPoint, e_sup_BadPoint, e_ini_BadPoint, e_oex_TooLarge, e_sup_TooLarge, e_ini_TooLarge, e_oex_NoFirst, e_sup_NoFirst, e_ini_NoFirst, e_oex_WrongFirst, e_sup_WrongFirst, e_ini_WrongFirst, e_oex_NoHand, e_sup_NoHand, e_ini_NoHand, e_oex_WrongMove, e_sup_WrongMove, e_ini_WrongMove, e_oex_MustWait, e_sup_MustWait, e_ini_MustWait, e_oex_Refused, e_sup_Refused, e_ini_Refused, e_oex_Unfinished, e_sup_Unfinished, e_ini_Unfinished, e_oex_NoRow, e_sup_NoRow, e_ini_NoRow, e_oex_NoTag, e_sup_NoTag, e_ini_NoTag, e_oex_NoNode, e_sup_NoNode, e_ini_NoNode, e_oex_NoRequest, e_sup_NoRequest, e_ini_NoRequest, e_oex_NoLockOrder, e_sup_NoLockOrder, e_ini_NoLockOrder, e_oex_BadStand, e_sup_BadStand, e_ini_BadStand, e_oex_Unnested, e_sup_Unnested, e_ini_Unnested, e_oex_Clash, e_sup_Clash, e_ini_Clash, e_oex_NoState, e_sup_NoState, e_ini_NoState, e_oex_NotFit, e_sup_NotFit, e_ini_NotFit]
def ex (K : PySem.W.Frag) : Bool := exs.all fun f => f K
def ins : List InD := [i_BadPart, i_BadLine, i_NoSuch, i_BadPath, i_BadMove, i_BadPlace, i_BadRun, i_BadPoint, i_TooLarge, i_NoFirst, i_WrongFirst, i_NoHand, i_WrongMove, i_MustWait, i_Refused, i_Unfinished, i_NoRow, i_NoTag, i_NoNode, i_NoRequest, i_NoLockOrder, i_BadStand, i_Unnested, i_Clash, i_NoState, i_NotFit]
theorem ex_at {K : PySem.W.Frag} (h : ex K = true) (i : Nat) {f : PySem.W.Frag → Bool} (e : exs[i]? = some f) : f K = true := List.all_eq_true.mp h f (List.mem_of_getElem? e)
section
variable {w : World} {K : PySem.W.Frag} {mg : Str → Option Value} {h : Heap}
theorem nrm_lt (c : Nat) : nrm c < 28 := by unfold nrm; split <;> omega
theorem clsN_nrm (c : Nat) : clsN c = clsN (nrm c) := by
  unfold nrm
  split
  · rfl
  · rename_i h
    unfold clsN
    rw [List.getD_eq_getElem?_getD, List.getElem?_eq_none (by simp; omega)]
    rfl
theorem nrm_nrm (c : Nat) : nrm (nrm c) = nrm c := if_pos (nrm_lt c)
theorem subC_nrm (c k : Nat) : subC c k = subC (nrm c) (nrm k) := by unfold subC; rw [nrm_nrm, nrm_nrm]
theorem at_nrm (K : PySem.W.Frag) (c : Nat) : (CA K).at_ c = He.ga K (clsN (nrm c)) := by show He.ga K (clsN c) = _; rw [clsN_nrm]
theorem rg_at {p : Nat → Bool} {n : Nat} (h : (List.range n).all p = true) (i : Nat) (hi : i < n) : p i = true := List.all_eq_true.mp h i (List.mem_range.mpr hi)
theorem no_at {K : PySem.W.Frag} {f : Str} (h : ((List.range 28).all fun j => decide (PySem.W.findIn K (.ref (He.ga K (clsN j))) f = some none)) = true) (c : Nat) : PySem.W.findIn K (.ref ((CA K).at_ c)) f = some none := by rw [at_nrm]; exact of_decide_eq_true (rg_at h (nrm c) (nrm_lt c))
theorem rz_BadPart (X : K.In h) (G : h.Ns mainGlobals mg) (c : SaysP fa fn ts ex ins w K) (base : Heap) : Rz PySem.Challenge.pw_handsroom_k00_names_and_words w K mg base ((CA K).at_ 1) ks_BadPart := by
  have cl : XCls PySem.Challenge.pw_handsroom_k00_names_and_words K mg (He.ga K (clsN 1)) := supB_ok (ex_at c.more 29 (f := e_oex_BadPart) rfl) (ex_at c.more 30 (f := e_sup_BadPart) rfl) (by kernel_rfl) (He.free_ok X G (c.fact (f := .free "super") (List.mem_of_getElem? (i := 48) (l := fa) rfl)))
  have hi : iniB PySem.Challenge.pw_handsroom_k00_names_and_words.main.file K (He.ga K (clsN 1)) (He.fAd K ("BadPart", some "__init__")) "BadPart.__init__" = true := (ex_at c.more 31 (f := e_ini_BadPart) rfl)
  obtain ⟨fd, I, hb⟩ := xinit_of (N := ["self", "rule", "__class__"]) (ps := ["self", "rule"]) (ks := ks_BadPart) (d := i_BadPart) cl (c.ini 0) hi (fun k m => by
    simp only [ks_BadPart, List.mem_cons, List.not_mem_nil, or_false] at m
    subst m
    exact no_at (ex_at c.more 20 (f := e_no_rule) rfl) 1)
    rfl (by decide +kernel) rfl rfl rfl rfl rfl (fun env e => ⟨by unfold interactive; rw [e]; rfl, rfl, _, rfl⟩) (fun _ _ _ _ _ _ _ us hl => match us, hl with | [_, _], _ => rfl)
  exact ⟨_, fd, ["self", "rule"], oexB_ok (ex_at c.more 29 (f := e_oex_BadPart) rfl), I.fi, I.ti, xinit1 I ⟨by decide, by decide⟩ ⟨by decide, by decide⟩ , hb⟩
theorem rz_BadLine (X : K.In h) (G : h.Ns mainGlobals mg) (c : SaysP fa fn ts ex ins w K) (base : Heap) : Rz PySem.Challenge.pw_handsroom_k00_names_and_words w K mg base ((CA K).at_ 2) ks_BadLine := by
  have cl : XCls PySem.Challenge.pw_handsroom_k00_names_and_words K mg (He.ga K (clsN 2)) := supB_ok (ex_at c.more 32 (f := e_oex_BadLine) rfl) (ex_at c.more 33 (f := e_sup_BadLine) rfl) (by kernel_rfl) (He.free_ok X G (c.fact (f := .free "super") (List.mem_of_getElem? (i := 48) (l := fa) rfl)))
  have hi : iniB PySem.Challenge.pw_handsroom_k00_names_and_words.main.file K (He.ga K (clsN 2)) (He.fAd K ("BadLine", some "__init__")) "BadLine.__init__" = true := (ex_at c.more 34 (f := e_ini_BadLine) rfl)
  obtain ⟨fd, I, hb⟩ := xinit_of (N := ["self", "line", "rule", "__class__"]) (ps := ["self", "line", "rule"]) (ks := ks_BadLine) (d := i_BadLine) cl (c.ini 1) hi (fun k m => by
    simp only [ks_BadLine, List.mem_cons, List.not_mem_nil, or_false] at m
    rcases m with rfl | rfl
    · exact no_at (ex_at c.more 7 (f := e_no_line) rfl) 2
    · exact no_at (ex_at c.more 20 (f := e_no_rule) rfl) 2)
    rfl (by decide +kernel) rfl rfl rfl rfl rfl (fun env e => ⟨by unfold interactive; rw [e]; rfl, rfl, _, rfl⟩) (fun _ _ _ _ _ _ _ us hl => match us, hl with | [_, _, _], _ => rfl)
  exact ⟨_, fd, ["self", "line", "rule"], oexB_ok (ex_at c.more 32 (f := e_oex_BadLine) rfl), I.fi, I.ti, xinit2 I ⟨by decide, by decide⟩ ⟨by decide, by decide⟩ ⟨by decide, by decide⟩ , hb⟩
theorem rz_NoSuch (X : K.In h) (G : h.Ns mainGlobals mg) (c : SaysP fa fn ts ex ins w K) (base : Heap) : Rz PySem.Challenge.pw_handsroom_k00_names_and_words w K mg base ((CA K).at_ 3) ks_NoSuch := by
  have cl : XCls PySem.Challenge.pw_handsroom_k00_names_and_words K mg (He.ga K (clsN 3)) := supB_ok (ex_at c.more 35 (f := e_oex_NoSuch) rfl) (ex_at c.more 36 (f := e_sup_NoSuch) rfl) (by kernel_rfl) (He.free_ok X G (c.fact (f := .free "super") (List.mem_of_getElem? (i := 48) (l := fa) rfl)))
  have hi : iniB PySem.Challenge.pw_handsroom_k00_names_and_words.main.file K (He.ga K (clsN 3)) (He.fAd K ("NoSuch", some "__init__")) "NoSuch.__init__" = true := (ex_at c.more 37 (f := e_ini_NoSuch) rfl)
  obtain ⟨fd, I, hb⟩ := xinit_of (N := ["self", "name", "__class__"]) (ps := ["self", "name"]) (ks := ks_NoSuch) (d := i_NoSuch) cl (c.ini 2) hi (fun k m => by
    simp only [ks_NoSuch, List.mem_cons, List.not_mem_nil, or_false] at m
    subst m
    exact no_at (ex_at c.more 10 (f := e_no_name) rfl) 3)
    rfl (by decide +kernel) rfl rfl rfl rfl rfl (fun env e => ⟨by unfold interactive; rw [e]; rfl, rfl, _, rfl⟩) (fun _ _ _ _ _ _ _ us hl => match us, hl with | [_, _], _ => rfl)
  exact ⟨_, fd, ["self", "name"], oexB_ok (ex_at c.more 35 (f := e_oex_NoSuch) rfl), I.fi, I.ti, xinit1 I ⟨by decide, by decide⟩ ⟨by decide, by decide⟩ , hb⟩
theorem rz_BadPath (X : K.In h) (G : h.Ns mainGlobals mg) (c : SaysP fa fn ts ex ins w K) (base : Heap) : Rz PySem.Challenge.pw_handsroom_k00_names_and_words w K mg base ((CA K).at_ 5) ks_BadPath := by
  have cl : XCls PySem.Challenge.pw_handsroom_k00_names_and_words K mg (He.ga K (clsN 5)) := supB_ok (ex_at c.more 39 (f := e_oex_BadPath) rfl) (ex_at c.more 40 (f := e_sup_BadPath) rfl) (by kernel_rfl) (He.free_ok X G (c.fact (f := .free "super") (List.mem_of_getElem? (i := 48) (l := fa) rfl)))
  have hi : iniB PySem.Challenge.pw_handsroom_k00_names_and_words.main.file K (He.ga K (clsN 5)) (He.fAd K ("BadPath", some "__init__")) "BadPath.__init__" = true := (ex_at c.more 41 (f := e_ini_BadPath) rfl)
  obtain ⟨fd, I, hb⟩ := xinit_of (N := ["self", "position", "__class__"]) (ps := ["self", "position"]) (ks := ks_BadPath) (d := i_BadPath) cl (c.ini 3) hi (fun k m => by
    simp only [ks_BadPath, List.mem_cons, List.not_mem_nil, or_false] at m
    subst m
    exact no_at (ex_at c.more 16 (f := e_no_position) rfl) 5)
    rfl (by decide +kernel) rfl rfl rfl rfl rfl (fun env e => ⟨by unfold interactive; rw [e]; rfl, rfl, _, rfl⟩) (fun _ _ _ _ _ _ _ us hl => match us, hl with | [_, _], _ => rfl)
  exact ⟨_, fd, ["self", "position"], oexB_ok (ex_at c.more 39 (f := e_oex_BadPath) rfl), I.fi, I.ti, xinit1 I ⟨by decide, by decide⟩ ⟨by decide, by decide⟩ , hb⟩
theorem rz_BadMove (X : K.In h) (G : h.Ns mainGlobals mg) (c : SaysP fa fn ts ex ins w K) (base : Heap) : Rz PySem.Challenge.pw_handsroom_k00_names_and_words w K mg base ((CA K).at_ 6) ks_BadMove := by
  have cl : XCls PySem.Challenge.pw_handsroom_k00_names_and_words K mg (He.ga K (clsN 6)) := supB_ok (ex_at c.more 42 (f := e_oex_BadMove) rfl) (ex_at c.more 43 (f := e_sup_BadMove) rfl) (by kernel_rfl) (He.free_ok X G (c.fact (f := .free "super") (List.mem_of_getElem? (i := 48) (l := fa) rfl)))
  have hi : iniB PySem.Challenge.pw_handsroom_k00_names_and_words.main.file K (He.ga K (clsN 6)) (He.fAd K ("BadMove", some "__init__")) "BadMove.__init__" = true := (ex_at c.more 44 (f := e_ini_BadMove) rfl)
  obtain ⟨fd, I, hb⟩ := xinit_of (N := ["self", "position", "__class__"]) (ps := ["self", "position"]) (ks := ks_BadMove) (d := i_BadMove) cl (c.ini 4) hi (fun k m => by
    simp only [ks_BadMove, List.mem_cons, List.not_mem_nil, or_false] at m
    subst m
    exact no_at (ex_at c.more 16 (f := e_no_position) rfl) 6)
    rfl (by decide +kernel) rfl rfl rfl rfl rfl (fun env e => ⟨by unfold interactive; rw [e]; rfl, rfl, _, rfl⟩) (fun _ _ _ _ _ _ _ us hl => match us, hl with | [_, _], _ => rfl)
  exact ⟨_, fd, ["self", "position"], oexB_ok (ex_at c.more 42 (f := e_oex_BadMove) rfl), I.fi, I.ti, xinit1 I ⟨by decide, by decide⟩ ⟨by decide, by decide⟩ , hb⟩
theorem rz_BadPlace (X : K.In h) (G : h.Ns mainGlobals mg) (c : SaysP fa fn ts ex ins w K) (base : Heap) : Rz PySem.Challenge.pw_handsroom_k00_names_and_words w K mg base ((CA K).at_ 7) ks_BadPlace := by
  have cl : XCls PySem.Challenge.pw_handsroom_k00_names_and_words K mg (He.ga K (clsN 7)) := supB_ok (ex_at c.more 45 (f := e_oex_BadPlace) rfl) (ex_at c.more 46 (f := e_sup_BadPlace) rfl) (by kernel_rfl) (He.free_ok X G (c.fact (f := .free "super") (List.mem_of_getElem? (i := 48) (l := fa) rfl)))
  have hi : iniB PySem.Challenge.pw_handsroom_k00_names_and_words.main.file K (He.ga K (clsN 7)) (He.fAd K ("BadPlace", some "__init__")) "BadPlace.__init__" = true := (ex_at c.more 47 (f := e_ini_BadPlace) rfl)
  obtain ⟨fd, I, hb⟩ := xinit_of (N := ["self", "place", "__class__"]) (ps := ["self", "place"]) (ks := ks_BadPlace) (d := i_BadPlace) cl (c.ini 5) hi (fun k m => by
    simp only [ks_BadPlace, List.mem_cons, List.not_mem_nil, or_false] at m
    subst m
    exact no_at (ex_at c.more 14 (f := e_no_place) rfl) 7)
    rfl (by decide +kernel) rfl rfl rfl rfl rfl (fun env e => ⟨by unfold interactive; rw [e]; rfl, rfl, _, rfl⟩) (fun _ _ _ _ _ _ _ us hl => match us, hl with | [_, _], _ => rfl)
  exact ⟨_, fd, ["self", "place"], oexB_ok (ex_at c.more 45 (f := e_oex_BadPlace) rfl), I.fi, I.ti, xinit1 I ⟨by decide, by decide⟩ ⟨by decide, by decide⟩ , hb⟩
theorem rz_BadRun (X : K.In h) (G : h.Ns mainGlobals mg) (c : SaysP fa fn ts ex ins w K) (base : Heap) : Rz PySem.Challenge.pw_handsroom_k00_names_and_words w K mg base ((CA K).at_ 8) ks_BadRun := by
  have cl : XCls PySem.Challenge.pw_handsroom_k00_names_and_words K mg (He.ga K (clsN 8)) := supB_ok (ex_at c.more 48 (f := e_oex_BadRun) rfl) (ex_at c.more 49 (f := e_sup_BadRun) rfl) (by kernel_rfl) (He.free_ok X G (c.fact (f := .free "super") (List.mem_of_getElem? (i := 48) (l := fa) rfl)))
  have hi : iniB PySem.Challenge.pw_handsroom_k00_names_and_words.main.file K (He.ga K (clsN 8)) (He.fAd K ("BadRun", some "__init__")) "BadRun.__init__" = true := (ex_at c.more 50 (f := e_ini_BadRun) rfl)
  obtain ⟨fd, I, hb⟩ := xinit_of (N := ["self", "position", "__class__"]) (ps := ["self", "position"]) (ks := ks_BadRun) (d := i_BadRun) cl (c.ini 6) hi (fun k m => by
    simp only [ks_BadRun, List.mem_cons, List.not_mem_nil, or_false] at m
    subst m
    exact no_at (ex_at c.more 16 (f := e_no_position) rfl) 8)
    rfl (by decide +kernel) rfl rfl rfl rfl rfl (fun env e => ⟨by unfold interactive; rw [e]; rfl, rfl, _, rfl⟩) (fun _ _ _ _ _ _ _ us hl => match us, hl with | [_, _], _ => rfl)
  exact ⟨_, fd, ["self", "position"], oexB_ok (ex_at c.more 48 (f := e_oex_BadRun) rfl), I.fi, I.ti, xinit1 I ⟨by decide, by decide⟩ ⟨by decide, by decide⟩ , hb⟩
theorem rz_BadPoint (X : K.In h) (G : h.Ns mainGlobals mg) (c : SaysP fa fn ts ex ins w K) (base : Heap) : Rz PySem.Challenge.pw_handsroom_k00_names_and_words w K mg base ((CA K).at_ 9) ks_BadPoint := by
  have cl : XCls PySem.Challenge.pw_handsroom_k00_names_and_words K mg (He.ga K (clsN 9)) := supB_ok (ex_at c.more 51 (f := e_oex_BadPoint) rfl) (ex_at c.more 52 (f := e_sup_BadPoint) rfl) (by kernel_rfl) (He.free_ok X G (c.fact (f := .free "super") (List.mem_of_getElem? (i := 48) (l := fa) rfl)))
  have hi : iniB PySem.Challenge.pw_handsroom_k00_names_and_words.main.file K (He.ga K (clsN 9)) (He.fAd K ("BadPoint", some "__init__")) "BadPoint.__init__" = true := (ex_at c.more 53 (f := e_ini_BadPoint) rfl)
  obtain ⟨fd, I, hb⟩ := xinit_of (N := ["self", "point", "__class__"]) (ps := ["self", "point"]) (ks := ks_BadPoint) (d := i_BadPoint) cl (c.ini 7) hi (fun k m => by
    simp only [ks_BadPoint, List.mem_cons, List.not_mem_nil, or_false] at m
    subst m
    exact no_at (ex_at c.more 15 (f := e_no_point) rfl) 9)
    rfl (by decide +kernel) rfl rfl rfl rfl rfl (fun env e => ⟨by unfold interactive; rw [e]; rfl, rfl, _, rfl⟩) (fun _ _ _ _ _ _ _ us hl => match us, hl with | [_, _], _ => rfl)
  exact ⟨_, fd, ["self", "point"], oexB_ok (ex_at c.more 51 (f := e_oex_BadPoint) rfl), I.fi, I.ti, xinit1 I ⟨by decide, by decide⟩ ⟨by decide, by decide⟩ , hb⟩
theorem rz_TooLarge (X : K.In h) (G : h.Ns mainGlobals mg) (c : SaysP fa fn ts ex ins w K) (base : Heap) : Rz PySem.Challenge.pw_handsroom_k00_names_and_words w K mg base ((CA K).at_ 10) ks_TooLarge := by
  have cl : XCls PySem.Challenge.pw_handsroom_k00_names_and_words K mg (He.ga K (clsN 10)) := supB_ok (ex_at c.more 54 (f := e_oex_TooLarge) rfl) (ex_at c.more 55 (f := e_sup_TooLarge) rfl) (by kernel_rfl) (He.free_ok X G (c.fact (f := .free "super") (List.mem_of_getElem? (i := 48) (l := fa) rfl)))
  have hi : iniB PySem.Challenge.pw_handsroom_k00_names_and_words.main.file K (He.ga K (clsN 10)) (He.fAd K ("TooLarge", some "__init__")) "TooLarge.__init__" = true := (ex_at c.more 56 (f := e_ini_TooLarge) rfl)
  obtain ⟨fd, I, hb⟩ := xinit_of (N := ["self", "what", "__class__"]) (ps := ["self", "what"]) (ks := ks_TooLarge) (d := i_TooLarge) cl (c.ini 8) hi (fun k m => by
    simp only [ks_TooLarge, List.mem_cons, List.not_mem_nil, or_false] at m
    subst m
    exact no_at (ex_at c.more 24 (f := e_no_what) rfl) 10)
    rfl (by decide +kernel) rfl rfl rfl rfl rfl (fun env e => ⟨by unfold interactive; rw [e]; rfl, rfl, _, rfl⟩) (fun _ _ _ _ _ _ _ us hl => match us, hl with | [_, _], _ => rfl)
  exact ⟨_, fd, ["self", "what"], oexB_ok (ex_at c.more 54 (f := e_oex_TooLarge) rfl), I.fi, I.ti, xinit1 I ⟨by decide, by decide⟩ ⟨by decide, by decide⟩ , hb⟩
theorem rz_NoFirst (X : K.In h) (G : h.Ns mainGlobals mg) (c : SaysP fa fn ts ex ins w K) (base : Heap) : Rz PySem.Challenge.pw_handsroom_k00_names_and_words w K mg base ((CA K).at_ 11) ks_NoFirst := by
  have cl : XCls PySem.Challenge.pw_handsroom_k00_names_and_words K mg (He.ga K (clsN 11)) := supB_ok (ex_at c.more 57 (f := e_oex_NoFirst) rfl) (ex_at c.more 58 (f := e_sup_NoFirst) rfl) (by kernel_rfl) (He.free_ok X G (c.fact (f := .free "super") (List.mem_of_getElem? (i := 48) (l := fa) rfl)))
  have hi : iniB PySem.Challenge.pw_handsroom_k00_names_and_words.main.file K (He.ga K (clsN 11)) (He.fAd K ("NoFirst", some "__init__")) "NoFirst.__init__" = true := (ex_at c.more 59 (f := e_ini_NoFirst) rfl)
  obtain ⟨fd, I, hb⟩ := xinit_of (N := ["self", "kind", "__class__"]) (ps := ["self", "kind"]) (ks := ks_NoFirst) (d := i_NoFirst) cl (c.ini 9) hi (fun k m => by
    simp only [ks_NoFirst, List.mem_cons, List.not_mem_nil, or_false] at m
    subst m
    exact no_at (ex_at c.more 6 (f := e_no_kind) rfl) 11)
    rfl (by decide +kernel) rfl rfl rfl rfl rfl (fun env e => ⟨by unfold interactive; rw [e]; rfl, rfl, _, rfl⟩) (fun _ _ _ _ _ _ _ us hl => match us, hl with | [_, _], _ => rfl)
  exact ⟨_, fd, ["self", "kind"], oexB_ok (ex_at c.more 57 (f := e_oex_NoFirst) rfl), I.fi, I.ti, xinit1 I ⟨by decide, by decide⟩ ⟨by decide, by decide⟩ , hb⟩
theorem rz_WrongFirst (X : K.In h) (G : h.Ns mainGlobals mg) (c : SaysP fa fn ts ex ins w K) (base : Heap) : Rz PySem.Challenge.pw_handsroom_k00_names_and_words w K mg base ((CA K).at_ 12) ks_WrongFirst := by
  have cl : XCls PySem.Challenge.pw_handsroom_k00_names_and_words K mg (He.ga K (clsN 12)) := supB_ok (ex_at c.more 60 (f := e_oex_WrongFirst) rfl) (ex_at c.more 61 (f := e_sup_WrongFirst) rfl) (by kernel_rfl) (He.free_ok X G (c.fact (f := .free "super") (List.mem_of_getElem? (i := 48) (l := fa) rfl)))
  have hi : iniB PySem.Challenge.pw_handsroom_k00_names_and_words.main.file K (He.ga K (clsN 12)) (He.fAd K ("WrongFirst", some "__init__")) "WrongFirst.__init__" = true := (ex_at c.more 62 (f := e_ini_WrongFirst) rfl)
  obtain ⟨fd, I, hb⟩ := xinit_of (N := ["self", "position", "__class__"]) (ps := ["self", "position"]) (ks := ks_WrongFirst) (d := i_WrongFirst) cl (c.ini 10) hi (fun k m => by
    simp only [ks_WrongFirst, List.mem_cons, List.not_mem_nil, or_false] at m
    subst m
    exact no_at (ex_at c.more 16 (f := e_no_position) rfl) 12)
    rfl (by decide +kernel) rfl rfl rfl rfl rfl (fun env e => ⟨by unfold interactive; rw [e]; rfl, rfl, _, rfl⟩) (fun _ _ _ _ _ _ _ us hl => match us, hl with | [_, _], _ => rfl)
  exact ⟨_, fd, ["self", "position"], oexB_ok (ex_at c.more 60 (f := e_oex_WrongFirst) rfl), I.fi, I.ti, xinit1 I ⟨by decide, by decide⟩ ⟨by decide, by decide⟩ , hb⟩
theorem rz_NoHand (X : K.In h) (G : h.Ns mainGlobals mg) (c : SaysP fa fn ts ex ins w K) (base : Heap) : Rz PySem.Challenge.pw_handsroom_k00_names_and_words w K mg base ((CA K).at_ 13) ks_NoHand := by
  have cl : XCls PySem.Challenge.pw_handsroom_k00_names_and_words K mg (He.ga K (clsN 13)) := supB_ok (ex_at c.more 63 (f := e_oex_NoHand) rfl) (ex_at c.more 64 (f := e_sup_NoHand) rfl) (by kernel_rfl) (He.free_ok X G (c.fact (f := .free "super") (List.mem_of_getElem? (i := 48) (l := fa) rfl)))
  have hi : iniB PySem.Challenge.pw_handsroom_k00_names_and_words.main.file K (He.ga K (clsN 13)) (He.fAd K ("NoHand", some "__init__")) "NoHand.__init__" = true := (ex_at c.more 65 (f := e_ini_NoHand) rfl)
  obtain ⟨fd, I, hb⟩ := xinit_of (N := ["self", "hand", "__class__"]) (ps := ["self", "hand"]) (ks := ks_NoHand) (d := i_NoHand) cl (c.ini 11) hi (fun k m => by
    simp only [ks_NoHand, List.mem_cons, List.not_mem_nil, or_false] at m
    subst m
    exact no_at (ex_at c.more 5 (f := e_no_hand) rfl) 13)
    rfl (by decide +kernel) rfl rfl rfl rfl rfl (fun env e => ⟨by unfold interactive; rw [e]; rfl, rfl, _, rfl⟩) (fun _ _ _ _ _ _ _ us hl => match us, hl with | [_, _], _ => rfl)
  exact ⟨_, fd, ["self", "hand"], oexB_ok (ex_at c.more 63 (f := e_oex_NoHand) rfl), I.fi, I.ti, xinit1 I ⟨by decide, by decide⟩ ⟨by decide, by decide⟩ , hb⟩
theorem rz_WrongMove (X : K.In h) (G : h.Ns mainGlobals mg) (c : SaysP fa fn ts ex ins w K) (base : Heap) : Rz PySem.Challenge.pw_handsroom_k00_names_and_words w K mg base ((CA K).at_ 14) ks_WrongMove := by
  have cl : XCls PySem.Challenge.pw_handsroom_k00_names_and_words K mg (He.ga K (clsN 14)) := supB_ok (ex_at c.more 66 (f := e_oex_WrongMove) rfl) (ex_at c.more 67 (f := e_sup_WrongMove) rfl) (by kernel_rfl) (He.free_ok X G (c.fact (f := .free "super") (List.mem_of_getElem? (i := 48) (l := fa) rfl)))
  have hi : iniB PySem.Challenge.pw_handsroom_k00_names_and_words.main.file K (He.ga K (clsN 14)) (He.fAd K ("WrongMove", some "__init__")) "WrongMove.__init__" = true := (ex_at c.more 68 (f := e_ini_WrongMove) rfl)
  obtain ⟨fd, I, hb⟩ := xinit_of (N := ["self", "move", "rule", "__class__"]) (ps := ["self", "move", "rule"]) (ks := ks_WrongMove) (d := i_WrongMove) cl (c.ini 12) hi (fun k m => by
    simp only [ks_WrongMove, List.mem_cons, List.not_mem_nil, or_false] at m
    rcases m with rfl | rfl
    · exact no_at (ex_at c.more 9 (f := e_no_move) rfl) 14
    · exact no_at (ex_at c.more 20 (f := e_no_rule) rfl) 14)
    rfl (by decide +kernel) rfl rfl rfl rfl rfl (fun env e => ⟨by unfold interactive; rw [e]; rfl, rfl, _, rfl⟩) (fun _ _ _ _ _ _ _ us hl => match us, hl with | [_, _, _], _ => rfl)
  exact ⟨_, fd, ["self", "move", "rule"], oexB_ok (ex_at c.more 66 (f := e_oex_WrongMove) rfl), I.fi, I.ti, xinit2 I ⟨by decide, by decide⟩ ⟨by decide, by decide⟩ ⟨by decide, by decide⟩ , hb⟩
theorem rz_MustWait (X : K.In h) (G : h.Ns mainGlobals mg) (c : SaysP fa fn ts ex ins w K) (base : Heap) : Rz PySem.Challenge.pw_handsroom_k00_names_and_words w K mg base ((CA K).at_ 15) ks_MustWait := by
  have cl : XCls PySem.Challenge.pw_handsroom_k00_names_and_words K mg (He.ga K (clsN 15)) := supB_ok (ex_at c.more 69 (f := e_oex_MustWait) rfl) (ex_at c.more 70 (f := e_sup_MustWait) rfl) (by kernel_rfl) (He.free_ok X G (c.fact (f := .free "super") (List.mem_of_getElem? (i := 48) (l := fa) rfl)))
  have hi : iniB PySem.Challenge.pw_handsroom_k00_names_and_words.main.file K (He.ga K (clsN 15)) (He.fAd K ("MustWait", some "__init__")) "MustWait.__init__" = true := (ex_at c.more 71 (f := e_ini_MustWait) rfl)
  obtain ⟨fd, I, hb⟩ := xinit_of (N := ["self", "lock", "hand", "__class__"]) (ps := ["self", "lock", "hand"]) (ks := ks_MustWait) (d := i_MustWait) cl (c.ini 13) hi (fun k m => by
    simp only [ks_MustWait, List.mem_cons, List.not_mem_nil, or_false] at m
    rcases m with rfl | rfl
    · exact no_at (ex_at c.more 8 (f := e_no_lock) rfl) 15
    · exact no_at (ex_at c.more 5 (f := e_no_hand) rfl) 15)
    rfl (by decide +kernel) rfl rfl rfl rfl rfl (fun env e => ⟨by unfold interactive; rw [e]; rfl, rfl, _, rfl⟩) (fun _ _ _ _ _ _ _ us hl => match us, hl with | [_, _, _], _ => rfl)
  exact ⟨_, fd, ["self", "lock", "hand"], oexB_ok (ex_at c.more 69 (f := e_oex_MustWait) rfl), I.fi, I.ti, xinit2 I ⟨by decide, by decide⟩ ⟨by decide, by decide⟩ ⟨by decide, by decide⟩ , hb⟩
theorem rz_Refused (X : K.In h) (G : h.Ns mainGlobals mg) (c : SaysP fa fn ts ex ins w K) (base : Heap) : Rz PySem.Challenge.pw_handsroom_k00_names_and_words w K mg base ((CA K).at_ 16) ks_Refused := by
  have cl : XCls PySem.Challenge.pw_handsroom_k00_names_and_words K mg (He.ga K (clsN 16)) := supB_ok (ex_at c.more 72 (f := e_oex_Refused) rfl) (ex_at c.more 73 (f := e_sup_Refused) rfl) (by kernel_rfl) (He.free_ok X G (c.fact (f := .free "super") (List.mem_of_getElem? (i := 48) (l := fa) rfl)))
  have hi : iniB PySem.Challenge.pw_handsroom_k00_names_and_words.main.file K (He.ga K (clsN 16)) (He.fAd K ("Refused", some "__init__")) "Refused.__init__" = true := (ex_at c.more 74 (f := e_ini_Refused) rfl)
  obtain ⟨fd, I, hb⟩ := xinit_of (N := ["self", "position", "__class__"]) (ps := ["self", "position"]) (ks := ks_Refused) (d := i_Refused) cl (c.ini 14) hi (fun k m => by
    simp only [ks_Refused, List.mem_cons, List.not_mem_nil, or_false] at m
    subst m
    exact no_at (ex_at c.more 16 (f := e_no_position) rfl) 16)
    rfl (by decide +kernel) rfl rfl rfl rfl rfl (fun env e => ⟨by unfold interactive; rw [e]; rfl, rfl, _, rfl⟩) (fun _ _ _ _ _ _ _ us hl => match us, hl with | [_, _], _ => rfl)
  exact ⟨_, fd, ["self", "position"], oexB_ok (ex_at c.more 72 (f := e_oex_Refused) rfl), I.fi, I.ti, xinit1 I ⟨by decide, by decide⟩ ⟨by decide, by decide⟩ , hb⟩
theorem rz_Unfinished (X : K.In h) (G : h.Ns mainGlobals mg) (c : SaysP fa fn ts ex ins w K) (base : Heap) : Rz PySem.Challenge.pw_handsroom_k00_names_and_words w K mg base ((CA K).at_ 17) ks_Unfinished := by
  have cl : XCls PySem.Challenge.pw_handsroom_k00_names_and_words K mg (He.ga K (clsN 17)) := supB_ok (ex_at c.more 75 (f := e_oex_Unfinished) rfl) (ex_at c.more 76 (f := e_sup_Unfinished) rfl) (by kernel_rfl) (He.free_ok X G (c.fact (f := .free "super") (List.mem_of_getElem? (i := 48) (l := fa) rfl)))
  have hi : iniB PySem.Challenge.pw_handsroom_k00_names_and_words.main.file K (He.ga K (clsN 17)) (He.fAd K ("Unfinished", some "__init__")) "Unfinished.__init__" = true := (ex_at c.more 77 (f := e_ini_Unfinished) rfl)
  obtain ⟨fd, I, hb⟩ := xinit_of (N := ["self", "cycle", "short", "__class__"]) (ps := ["self", "cycle", "short"]) (ks := ks_Unfinished) (d := i_Unfinished) cl (c.ini 15) hi (fun k m => by
    simp only [ks_Unfinished, List.mem_cons, List.not_mem_nil, or_false] at m
    rcases m with rfl | rfl
    · exact no_at (ex_at c.more 4 (f := e_no_cycle) rfl) 17
    · exact no_at (ex_at c.more 21 (f := e_no_short) rfl) 17)
    rfl (by decide +kernel) rfl rfl rfl rfl rfl (fun env e => ⟨by unfold interactive; rw [e]; rfl, rfl, _, rfl⟩) (fun _ _ _ _ _ _ _ us hl => match us, hl with | [_, _, _], _ => rfl)
  exact ⟨_, fd, ["self", "cycle", "short"], oexB_ok (ex_at c.more 75 (f := e_oex_Unfinished) rfl), I.fi, I.ti, xinit2 I ⟨by decide, by decide⟩ ⟨by decide, by decide⟩ ⟨by decide, by decide⟩ , hb⟩
theorem rz_NoRow (X : K.In h) (G : h.Ns mainGlobals mg) (c : SaysP fa fn ts ex ins w K) (base : Heap) : Rz PySem.Challenge.pw_handsroom_k00_names_and_words w K mg base ((CA K).at_ 18) ks_NoRow := by
  have cl : XCls PySem.Challenge.pw_handsroom_k00_names_and_words K mg (He.ga K (clsN 18)) := supB_ok (ex_at c.more 78 (f := e_oex_NoRow) rfl) (ex_at c.more 79 (f := e_sup_NoRow) rfl) (by kernel_rfl) (He.free_ok X G (c.fact (f := .free "super") (List.mem_of_getElem? (i := 48) (l := fa) rfl)))
  have hi : iniB PySem.Challenge.pw_handsroom_k00_names_and_words.main.file K (He.ga K (clsN 18)) (He.fAd K ("NoRow", some "__init__")) "NoRow.__init__" = true := (ex_at c.more 80 (f := e_ini_NoRow) rfl)
  obtain ⟨fd, I, hb⟩ := xinit_of (N := ["self", "row", "__class__"]) (ps := ["self", "row"]) (ks := ks_NoRow) (d := i_NoRow) cl (c.ini 16) hi (fun k m => by
    simp only [ks_NoRow, List.mem_cons, List.not_mem_nil, or_false] at m
    subst m
    exact no_at (ex_at c.more 19 (f := e_no_row) rfl) 18)
    rfl (by decide +kernel) rfl rfl rfl rfl rfl (fun env e => ⟨by unfold interactive; rw [e]; rfl, rfl, _, rfl⟩) (fun _ _ _ _ _ _ _ us hl => match us, hl with | [_, _], _ => rfl)
  exact ⟨_, fd, ["self", "row"], oexB_ok (ex_at c.more 78 (f := e_oex_NoRow) rfl), I.fi, I.ti, xinit1 I ⟨by decide, by decide⟩ ⟨by decide, by decide⟩ , hb⟩
theorem rz_NoTag (X : K.In h) (G : h.Ns mainGlobals mg) (c : SaysP fa fn ts ex ins w K) (base : Heap) : Rz PySem.Challenge.pw_handsroom_k00_names_and_words w K mg base ((CA K).at_ 19) ks_NoTag := by
  have cl : XCls PySem.Challenge.pw_handsroom_k00_names_and_words K mg (He.ga K (clsN 19)) := supB_ok (ex_at c.more 81 (f := e_oex_NoTag) rfl) (ex_at c.more 82 (f := e_sup_NoTag) rfl) (by kernel_rfl) (He.free_ok X G (c.fact (f := .free "super") (List.mem_of_getElem? (i := 48) (l := fa) rfl)))
  have hi : iniB PySem.Challenge.pw_handsroom_k00_names_and_words.main.file K (He.ga K (clsN 19)) (He.fAd K ("NoTag", some "__init__")) "NoTag.__init__" = true := (ex_at c.more 83 (f := e_ini_NoTag) rfl)
  obtain ⟨fd, I, hb⟩ := xinit_of (N := ["self", "tag", "__class__"]) (ps := ["self", "tag"]) (ks := ks_NoTag) (d := i_NoTag) cl (c.ini 17) hi (fun k m => by
    simp only [ks_NoTag, List.mem_cons, List.not_mem_nil, or_false] at m
    subst m
    exact no_at (ex_at c.more 23 (f := e_no_tag) rfl) 19)
    rfl (by decide +kernel) rfl rfl rfl rfl rfl (fun env e => ⟨by unfold interactive; rw [e]; rfl, rfl, _, rfl⟩) (fun _ _ _ _ _ _ _ us hl => match us, hl with | [_, _], _ => rfl)
  exact ⟨_, fd, ["self", "tag"], oexB_ok (ex_at c.more 81 (f := e_oex_NoTag) rfl), I.fi, I.ti, xinit1 I ⟨by decide, by decide⟩ ⟨by decide, by decide⟩ , hb⟩
theorem rz_NoNode (X : K.In h) (G : h.Ns mainGlobals mg) (c : SaysP fa fn ts ex ins w K) (base : Heap) : Rz PySem.Challenge.pw_handsroom_k00_names_and_words w K mg base ((CA K).at_ 20) ks_NoNode := by
  have cl : XCls PySem.Challenge.pw_handsroom_k00_names_and_words K mg (He.ga K (clsN 20)) := supB_ok (ex_at c.more 84 (f := e_oex_NoNode) rfl) (ex_at c.more 85 (f := e_sup_NoNode) rfl) (by kernel_rfl) (He.free_ok X G (c.fact (f := .free "super") (List.mem_of_getElem? (i := 48) (l := fa) rfl)))
  have hi : iniB PySem.Challenge.pw_handsroom_k00_names_and_words.main.file K (He.ga K (clsN 20)) (He.fAd K ("NoNode", some "__init__")) "NoNode.__init__" = true := (ex_at c.more 86 (f := e_ini_NoNode) rfl)
  obtain ⟨fd, I, hb⟩ := xinit_of (N := ["self", "node", "__class__"]) (ps := ["self", "node"]) (ks := ks_NoNode) (d := i_NoNode) cl (c.ini 18) hi (fun k m => by
    simp only [ks_NoNode, List.mem_cons, List.not_mem_nil, or_false] at m
    subst m
    exact no_at (ex_at c.more 11 (f := e_no_node) rfl) 20)
    rfl (by decide +kernel) rfl rfl rfl rfl rfl (fun env e => ⟨by unfold interactive; rw [e]; rfl, rfl, _, rfl⟩) (fun _ _ _ _ _ _ _ us hl => match us, hl with | [_, _], _ => rfl)
  exact ⟨_, fd, ["self", "node"], oexB_ok (ex_at c.more 84 (f := e_oex_NoNode) rfl), I.fi, I.ti, xinit1 I ⟨by decide, by decide⟩ ⟨by decide, by decide⟩ , hb⟩
theorem rz_NoRequest (X : K.In h) (G : h.Ns mainGlobals mg) (c : SaysP fa fn ts ex ins w K) (base : Heap) : Rz PySem.Challenge.pw_handsroom_k00_names_and_words w K mg base ((CA K).at_ 21) ks_NoRequest := by
  have cl : XCls PySem.Challenge.pw_handsroom_k00_names_and_words K mg (He.ga K (clsN 21)) := supB_ok (ex_at c.more 87 (f := e_oex_NoRequest) rfl) (ex_at c.more 88 (f := e_sup_NoRequest) rfl) (by kernel_rfl) (He.free_ok X G (c.fact (f := .free "super") (List.mem_of_getElem? (i := 48) (l := fa) rfl)))
  have hi : iniB PySem.Challenge.pw_handsroom_k00_names_and_words.main.file K (He.ga K (clsN 21)) (He.fAd K ("NoRequest", some "__init__")) "NoRequest.__init__" = true := (ex_at c.more 89 (f := e_ini_NoRequest) rfl)
  obtain ⟨fd, I, hb⟩ := xinit_of (N := ["self", "request", "__class__"]) (ps := ["self", "request"]) (ks := ks_NoRequest) (d := i_NoRequest) cl (c.ini 19) hi (fun k m => by
    simp only [ks_NoRequest, List.mem_cons, List.not_mem_nil, or_false] at m
    subst m
    exact no_at (ex_at c.more 17 (f := e_no_request) rfl) 21)
    rfl (by decide +kernel) rfl rfl rfl rfl rfl (fun env e => ⟨by unfold interactive; rw [e]; rfl, rfl, _, rfl⟩) (fun _ _ _ _ _ _ _ us hl => match us, hl with | [_, _], _ => rfl)
  exact ⟨_, fd, ["self", "request"], oexB_ok (ex_at c.more 87 (f := e_oex_NoRequest) rfl), I.fi, I.ti, xinit1 I ⟨by decide, by decide⟩ ⟨by decide, by decide⟩ , hb⟩
theorem rz_NoLockOrder (X : K.In h) (G : h.Ns mainGlobals mg) (c : SaysP fa fn ts ex ins w K) (base : Heap) : Rz PySem.Challenge.pw_handsroom_k00_names_and_words w K mg base ((CA K).at_ 22) ks_NoLockOrder := by
  have cl : XCls PySem.Challenge.pw_handsroom_k00_names_and_words K mg (He.ga K (clsN 22)) := supB_ok (ex_at c.more 90 (f := e_oex_NoLockOrder) rfl) (ex_at c.more 91 (f := e_sup_NoLockOrder) rfl) (by kernel_rfl) (He.free_ok X G (c.fact (f := .free "super") (List.mem_of_getElem? (i := 48) (l := fa) rfl)))
  have hi : iniB PySem.Challenge.pw_handsroom_k00_names_and_words.main.file K (He.ga K (clsN 22)) (He.fAd K ("NoLockOrder", some "__init__")) "NoLockOrder.__init__" = true := (ex_at c.more 92 (f := e_ini_NoLockOrder) rfl)
  obtain ⟨fd, I, hb⟩ := xinit_of (N := ["self", "cycle", "__class__"]) (ps := ["self", "cycle"]) (ks := ks_NoLockOrder) (d := i_NoLockOrder) cl (c.ini 20) hi (fun k m => by
    simp only [ks_NoLockOrder, List.mem_cons, List.not_mem_nil, or_false] at m
    subst m
    exact no_at (ex_at c.more 4 (f := e_no_cycle) rfl) 22)
    rfl (by decide +kernel) rfl rfl rfl rfl rfl (fun env e => ⟨by unfold interactive; rw [e]; rfl, rfl, _, rfl⟩) (fun _ _ _ _ _ _ _ us hl => match us, hl with | [_, _], _ => rfl)
  exact ⟨_, fd, ["self", "cycle"], oexB_ok (ex_at c.more 90 (f := e_oex_NoLockOrder) rfl), I.fi, I.ti, xinit1 I ⟨by decide, by decide⟩ ⟨by decide, by decide⟩ , hb⟩
theorem rz_BadStand (X : K.In h) (G : h.Ns mainGlobals mg) (c : SaysP fa fn ts ex ins w K) (base : Heap) : Rz PySem.Challenge.pw_handsroom_k00_names_and_words w K mg base ((CA K).at_ 23) ks_BadStand := by
  have cl : XCls PySem.Challenge.pw_handsroom_k00_names_and_words K mg (He.ga K (clsN 23)) := supB_ok (ex_at c.more 93 (f := e_oex_BadStand) rfl) (ex_at c.more 94 (f := e_sup_BadStand) rfl) (by kernel_rfl) (He.free_ok X G (c.fact (f := .free "super") (List.mem_of_getElem? (i := 48) (l := fa) rfl)))
  have hi : iniB PySem.Challenge.pw_handsroom_k00_names_and_words.main.file K (He.ga K (clsN 23)) (He.fAd K ("BadStand", some "__init__")) "BadStand.__init__" = true := (ex_at c.more 95 (f := e_ini_BadStand) rfl)
  obtain ⟨fd, I, hb⟩ := xinit_of (N := ["self", "part", "__class__"]) (ps := ["self", "part"]) (ks := ks_BadStand) (d := i_BadStand) cl (c.ini 21) hi (fun k m => by
    simp only [ks_BadStand, List.mem_cons, List.not_mem_nil, or_false] at m
    subst m
    exact no_at (ex_at c.more 13 (f := e_no_part) rfl) 23)
    rfl (by decide +kernel) rfl rfl rfl rfl rfl (fun env e => ⟨by unfold interactive; rw [e]; rfl, rfl, _, rfl⟩) (fun _ _ _ _ _ _ _ us hl => match us, hl with | [_, _], _ => rfl)
  exact ⟨_, fd, ["self", "part"], oexB_ok (ex_at c.more 93 (f := e_oex_BadStand) rfl), I.fi, I.ti, xinit1 I ⟨by decide, by decide⟩ ⟨by decide, by decide⟩ , hb⟩
theorem rz_Unnested (X : K.In h) (G : h.Ns mainGlobals mg) (c : SaysP fa fn ts ex ins w K) (base : Heap) : Rz PySem.Challenge.pw_handsroom_k00_names_and_words w K mg base ((CA K).at_ 24) ks_Unnested := by
  have cl : XCls PySem.Challenge.pw_handsroom_k00_names_and_words K mg (He.ga K (clsN 24)) := supB_ok (ex_at c.more 96 (f := e_oex_Unnested) rfl) (ex_at c.more 97 (f := e_sup_Unnested) rfl) (by kernel_rfl) (He.free_ok X G (c.fact (f := .free "super") (List.mem_of_getElem? (i := 48) (l := fa) rfl)))
  have hi : iniB PySem.Challenge.pw_handsroom_k00_names_and_words.main.file K (He.ga K (clsN 24)) (He.fAd K ("Unnested", some "__init__")) "Unnested.__init__" = true := (ex_at c.more 98 (f := e_ini_Unnested) rfl)
  obtain ⟨fd, I, hb⟩ := xinit_of (N := ["self", "routine", "nodes", "__class__"]) (ps := ["self", "routine", "nodes"]) (ks := ks_Unnested) (d := i_Unnested) cl (c.ini 22) hi (fun k m => by
    simp only [ks_Unnested, List.mem_cons, List.not_mem_nil, or_false] at m
    rcases m with rfl | rfl
    · exact no_at (ex_at c.more 18 (f := e_no_routine) rfl) 24
    · exact no_at (ex_at c.more 12 (f := e_no_nodes) rfl) 24)
    rfl (by decide +kernel) rfl rfl rfl rfl rfl (fun env e => ⟨by unfold interactive; rw [e]; rfl, rfl, _, rfl⟩) (fun _ _ _ _ _ _ _ us hl => match us, hl with | [_, _, _], _ => rfl)
  exact ⟨_, fd, ["self", "routine", "nodes"], oexB_ok (ex_at c.more 96 (f := e_oex_Unnested) rfl), I.fi, I.ti, xinit2 I ⟨by decide, by decide⟩ ⟨by decide, by decide⟩ ⟨by decide, by decide⟩ , hb⟩
theorem rz_Clash (X : K.In h) (G : h.Ns mainGlobals mg) (c : SaysP fa fn ts ex ins w K) (base : Heap) : Rz PySem.Challenge.pw_handsroom_k00_names_and_words w K mg base ((CA K).at_ 25) ks_Clash := by
  have cl : XCls PySem.Challenge.pw_handsroom_k00_names_and_words K mg (He.ga K (clsN 25)) := supB_ok (ex_at c.more 99 (f := e_oex_Clash) rfl) (ex_at c.more 100 (f := e_sup_Clash) rfl) (by kernel_rfl) (He.free_ok X G (c.fact (f := .free "super") (List.mem_of_getElem? (i := 48) (l := fa) rfl)))
  have hi : iniB PySem.Challenge.pw_handsroom_k00_names_and_words.main.file K (He.ga K (clsN 25)) (He.fAd K ("Clash", some "__init__")) "Clash.__init__" = true := (ex_at c.more 101 (f := e_ini_Clash) rfl)
  obtain ⟨fd, I, hb⟩ := xinit_of (N := ["self", "cycle", "__class__"]) (ps := ["self", "cycle"]) (ks := ks_Clash) (d := i_Clash) cl (c.ini 23) hi (fun k m => by
    simp only [ks_Clash, List.mem_cons, List.not_mem_nil, or_false] at m
    subst m
    exact no_at (ex_at c.more 4 (f := e_no_cycle) rfl) 25)
    rfl (by decide +kernel) rfl rfl rfl rfl rfl (fun env e => ⟨by unfold interactive; rw [e]; rfl, rfl, _, rfl⟩) (fun _ _ _ _ _ _ _ us hl => match us, hl with | [_, _], _ => rfl)
  exact ⟨_, fd, ["self", "cycle"], oexB_ok (ex_at c.more 99 (f := e_oex_Clash) rfl), I.fi, I.ti, xinit1 I ⟨by decide, by decide⟩ ⟨by decide, by decide⟩ , hb⟩
theorem rz_NoState (X : K.In h) (G : h.Ns mainGlobals mg) (c : SaysP fa fn ts ex ins w K) (base : Heap) : Rz PySem.Challenge.pw_handsroom_k00_names_and_words w K mg base ((CA K).at_ 26) ks_NoState := by
  have cl : XCls PySem.Challenge.pw_handsroom_k00_names_and_words K mg (He.ga K (clsN 26)) := supB_ok (ex_at c.more 102 (f := e_oex_NoState) rfl) (ex_at c.more 103 (f := e_sup_NoState) rfl) (by kernel_rfl) (He.free_ok X G (c.fact (f := .free "super") (List.mem_of_getElem? (i := 48) (l := fa) rfl)))
  have hi : iniB PySem.Challenge.pw_handsroom_k00_names_and_words.main.file K (He.ga K (clsN 26)) (He.fAd K ("NoState", some "__init__")) "NoState.__init__" = true := (ex_at c.more 104 (f := e_ini_NoState) rfl)
  obtain ⟨fd, I, hb⟩ := xinit_of (N := ["self", "state", "__class__"]) (ps := ["self", "state"]) (ks := ks_NoState) (d := i_NoState) cl (c.ini 24) hi (fun k m => by
    simp only [ks_NoState, List.mem_cons, List.not_mem_nil, or_false] at m
    subst m
    exact no_at (ex_at c.more 22 (f := e_no_state) rfl) 26)
    rfl (by decide +kernel) rfl rfl rfl rfl rfl (fun env e => ⟨by unfold interactive; rw [e]; rfl, rfl, _, rfl⟩) (fun _ _ _ _ _ _ _ us hl => match us, hl with | [_, _], _ => rfl)
  exact ⟨_, fd, ["self", "state"], oexB_ok (ex_at c.more 102 (f := e_oex_NoState) rfl), I.fi, I.ti, xinit1 I ⟨by decide, by decide⟩ ⟨by decide, by decide⟩ , hb⟩
theorem rz_NotFit (X : K.In h) (G : h.Ns mainGlobals mg) (c : SaysP fa fn ts ex ins w K) (base : Heap) : Rz PySem.Challenge.pw_handsroom_k00_names_and_words w K mg base ((CA K).at_ 27) ks_NotFit := by
  have cl : XCls PySem.Challenge.pw_handsroom_k00_names_and_words K mg (He.ga K (clsN 27)) := supB_ok (ex_at c.more 105 (f := e_oex_NotFit) rfl) (ex_at c.more 106 (f := e_sup_NotFit) rfl) (by kernel_rfl) (He.free_ok X G (c.fact (f := .free "super") (List.mem_of_getElem? (i := 48) (l := fa) rfl)))
  have hi : iniB PySem.Challenge.pw_handsroom_k00_names_and_words.main.file K (He.ga K (clsN 27)) (He.fAd K ("NotFit", some "__init__")) "NotFit.__init__" = true := (ex_at c.more 107 (f := e_ini_NotFit) rfl)
  obtain ⟨fd, I, hb⟩ := xinit_of (N := ["self", "rule", "__class__"]) (ps := ["self", "rule"]) (ks := ks_NotFit) (d := i_NotFit) cl (c.ini 25) hi (fun k m => by
    simp only [ks_NotFit, List.mem_cons, List.not_mem_nil, or_false] at m
    subst m
    exact no_at (ex_at c.more 20 (f := e_no_rule) rfl) 27)
    rfl (by decide +kernel) rfl rfl rfl rfl rfl (fun env e => ⟨by unfold interactive; rw [e]; rfl, rfl, _, rfl⟩) (fun _ _ _ _ _ _ _ us hl => match us, hl with | [_, _], _ => rfl)
  exact ⟨_, fd, ["self", "rule"], oexB_ok (ex_at c.more 105 (f := e_oex_NotFit) rfl), I.fi, I.ti, xinit1 I ⟨by decide, by decide⟩ ⟨by decide, by decide⟩ , hb⟩
theorem tx_of (X : K.In h) (G : h.Ns mainGlobals mg) (c : SaysP fa fn ts ex ins w K) : Tx PySem.Challenge.pw_handsroom_k00_names_and_words w K mg where
  n_ValueError := He.free_ok X G (c.fact (f := .free "ValueError") (List.mem_of_getElem? (i := 38) (l := fa) rfl))
  n_abs := He.free_ok X G (c.fact (f := .free "abs") (List.mem_of_getElem? (i := 39) (l := fa) rfl))
  n_bool := He.free_ok X G (c.fact (f := .free "bool") (List.mem_of_getElem? (i := 40) (l := fa) rfl))
  n_enumerate := He.free_ok X G (c.fact (f := .free "enumerate") (List.mem_of_getElem? (i := 41) (l := fa) rfl))
  n_int := He.free_ok X G (c.fact (f := .free "int") (List.mem_of_getElem? (i := 42) (l := fa) rfl))
  n_isinstance := He.free_ok X G (c.fact (f := .free "isinstance") (List.mem_of_getElem? (i := 43) (l := fa) rfl))
  n_len := He.free_ok X G (c.fact (f := .free "len") (List.mem_of_getElem? (i := 44) (l := fa) rfl))
  n_list := He.free_ok X G (c.fact (f := .free "list") (List.mem_of_getElem? (i := 45) (l := fa) rfl))
  n_range := He.free_ok X G (c.fact (f := .free "range") (List.mem_of_getElem? (i := 46) (l := fa) rfl))
  n_str := He.free_ok X G (c.fact (f := .free "str") (List.mem_of_getElem? (i := 47) (l := fa) rfl))
  n_tuple := He.free_ok X G (c.fact (f := .free "tuple") (List.mem_of_getElem? (i := 49) (l := fa) rfl))
  c_RESERVED := ⟨.ref (He.ga K "RESERVED"), _, He.glo_ok X G (c.fact (f := .glo "RESERVED") (List.mem_of_getElem? (i := 50) (l := fa) rfl)), rfl, fun F => .tup (He.tupB_ok (ex_at c.more 0 (f := e_tup_RESERVED) rfl) F) (dpS_ok (by decide +kernel))⟩
  c_LETTERS := let ⟨t, e⟩ := He.str_ok X G (c.fact (f := .str "LETTERS" "abcdefghijklmnopqrstuvwxyz") (List.mem_of_getElem? (i := 51) (l := fa) rfl)); ⟨.str "abcdefghijklmnopqrstuvwxyz", _, e, ⟨t, rfl⟩, fun F => .str _ (by decide +kernel)⟩
  c_DIGITS := let ⟨t, e⟩ := He.str_ok X G (c.fact (f := .str "DIGITS" "0123456789") (List.mem_of_getElem? (i := 52) (l := fa) rfl)); ⟨.str "0123456789", _, e, ⟨t, rfl⟩, fun F => .str _ (by decide +kernel)⟩
  c_MOST_CHARACTERS := let ⟨t, e⟩ := He.int_ok X G (c.fact (f := .int "MOST_CHARACTERS" 8) (List.mem_of_getElem? (i := 53) (l := fa) rfl)); ⟨.int 8, _, e, ⟨t, rfl⟩, fun F => .int _⟩
  c_RULES := ⟨.ref (He.ga K "RULES"), _, He.glo_ok X G (c.fact (f := .glo "RULES") (List.mem_of_getElem? (i := 54) (l := fa) rfl)), rfl, fun F => .tup (He.tupB_ok (ex_at c.more 1 (f := e_tup_RULES) rfl) F) (dpS_ok (by decide +kernel))⟩
  g_HandsError := He.glo_ok X G (c.fact (f := .glo "HandsError") (List.mem_of_getElem? (i := 10) (l := fa) rfl))
  g_BadPart := He.glo_ok X G (c.fact (f := .glo "BadPart") (List.mem_of_getElem? (i := 11) (l := fa) rfl))
  rz_BadPart := rz_BadPart X G c
  g_BadLine := He.glo_ok X G (c.fact (f := .glo "BadLine") (List.mem_of_getElem? (i := 12) (l := fa) rfl))
  rz_BadLine := rz_BadLine X G c
  g_NoSuch := He.glo_ok X G (c.fact (f := .glo "NoSuch") (List.mem_of_getElem? (i := 13) (l := fa) rfl))
  rz_NoSuch := rz_NoSuch X G c
  g_Unlike := He.glo_ok X G (c.fact (f := .glo "Unlike") (List.mem_of_getElem? (i := 14) (l := fa) rfl))
  g_BadPath := He.glo_ok X G (c.fact (f := .glo "BadPath") (List.mem_of_getElem? (i := 15) (l := fa) rfl))
  rz_BadPath := rz_BadPath X G c
  g_BadMove := He.glo_ok X G (c.fact (f := .glo "BadMove") (List.mem_of_getElem? (i := 16) (l := fa) rfl))
  rz_BadMove := rz_BadMove X G c
  g_BadPlace := He.glo_ok X G (c.fact (f := .glo "BadPlace") (List.mem_of_getElem? (i := 17) (l := fa) rfl))
  rz_BadPlace := rz_BadPlace X G c
  g_BadRun := He.glo_ok X G (c.fact (f := .glo "BadRun") (List.mem_of_getElem? (i := 18) (l := fa) rfl))
  rz_BadRun := rz_BadRun X G c
  g_BadPoint := He.glo_ok X G (c.fact (f := .glo "BadPoint") (List.mem_of_getElem? (i := 19) (l := fa) rfl))
  rz_BadPoint := rz_BadPoint X G c
  g_TooLarge := He.glo_ok X G (c.fact (f := .glo "TooLarge") (List.mem_of_getElem? (i := 20) (l := fa) rfl))
  rz_TooLarge := rz_TooLarge X G c
  g_NoFirst := He.glo_ok X G (c.fact (f := .glo "NoFirst") (List.mem_of_getElem? (i := 21) (l := fa) rfl))
  rz_NoFirst := rz_NoFirst X G c
  g_WrongFirst := He.glo_ok X G (c.fact (f := .glo "WrongFirst") (List.mem_of_getElem? (i := 22) (l := fa) rfl))
  rz_WrongFirst := rz_WrongFirst X G c
  g_NoHand := He.glo_ok X G (c.fact (f := .glo "NoHand") (List.mem_of_getElem? (i := 23) (l := fa) rfl))
  rz_NoHand := rz_NoHand X G c
  g_WrongMove := He.glo_ok X G (c.fact (f := .glo "WrongMove") (List.mem_of_getElem? (i := 24) (l := fa) rfl))
  rz_WrongMove := rz_WrongMove X G c
  g_MustWait := He.glo_ok X G (c.fact (f := .glo "MustWait") (List.mem_of_getElem? (i := 25) (l := fa) rfl))
  rz_MustWait := rz_MustWait X G c
  g_Refused := He.glo_ok X G (c.fact (f := .glo "Refused") (List.mem_of_getElem? (i := 26) (l := fa) rfl))
  rz_Refused := rz_Refused X G c
  g_Unfinished := He.glo_ok X G (c.fact (f := .glo "Unfinished") (List.mem_of_getElem? (i := 27) (l := fa) rfl))
  rz_Unfinished := rz_Unfinished X G c
  g_NoRow := He.glo_ok X G (c.fact (f := .glo "NoRow") (List.mem_of_getElem? (i := 28) (l := fa) rfl))
  rz_NoRow := rz_NoRow X G c
  g_NoTag := He.glo_ok X G (c.fact (f := .glo "NoTag") (List.mem_of_getElem? (i := 29) (l := fa) rfl))
  rz_NoTag := rz_NoTag X G c
  g_NoNode := He.glo_ok X G (c.fact (f := .glo "NoNode") (List.mem_of_getElem? (i := 30) (l := fa) rfl))
  rz_NoNode := rz_NoNode X G c
  g_NoRequest := He.glo_ok X G (c.fact (f := .glo "NoRequest") (List.mem_of_getElem? (i := 31) (l := fa) rfl))
  rz_NoRequest := rz_NoRequest X G c
  g_NoLockOrder := He.glo_ok X G (c.fact (f := .glo "NoLockOrder") (List.mem_of_getElem? (i := 32) (l := fa) rfl))
  rz_NoLockOrder := rz_NoLockOrder X G c
  g_BadStand := He.glo_ok X G (c.fact (f := .glo "BadStand") (List.mem_of_getElem? (i := 33) (l := fa) rfl))
  rz_BadStand := rz_BadStand X G c
  g_Unnested := He.glo_ok X G (c.fact (f := .glo "Unnested") (List.mem_of_getElem? (i := 34) (l := fa) rfl))
  rz_Unnested := rz_Unnested X G c
  g_Clash := He.glo_ok X G (c.fact (f := .glo "Clash") (List.mem_of_getElem? (i := 35) (l := fa) rfl))
  rz_Clash := rz_Clash X G c
  g_NoState := He.glo_ok X G (c.fact (f := .glo "NoState") (List.mem_of_getElem? (i := 36) (l := fa) rfl))
  rz_NoState := rz_NoState X G c
  g_NotFit := He.glo_ok X G (c.fact (f := .glo "NotFit") (List.mem_of_getElem? (i := 37) (l := fa) rfl))
  rz_NotFit := rz_NotFit X G c
  xf := fun k => by rw [at_nrm]; exact (excCB_ok (rg_at (ex_at c.more 3 (f := e_exc) rfl) (nrm k) (nrm_lt k))).2
  xc := fun k => by rw [at_nrm]; exact (excCB_ok (rg_at (ex_at c.more 3 (f := e_exc) rfl) (nrm k) (nrm_lt k))).1
  kit := fun j k => by rw [at_nrm, at_nrm, subC_nrm]; exact of_decide_eq_true (rg_at (rg_at (ex_at c.more 2 (f := e_kit) rfl) (nrm j) (nrm_lt j)) (nrm k) (nrm_lt k))
  kve := fun k => by rw [at_nrm]; exact of_decide_eq_true (rg_at (ex_at c.more 25 (f := e_kve) rfl) (nrm k) (nrm_lt k))
  x0_Unlike := (ex_at c.more 26 (f := e_x0_Unlike) rfl)
  k0_Unlike := (ex_at c.more 27 (f := e_k0_Unlike) rfl)
  n_cycle := no_at (ex_at c.more 4 (f := e_no_cycle) rfl)
  n_hand := no_at (ex_at c.more 5 (f := e_no_hand) rfl)
  n_kind := no_at (ex_at c.more 6 (f := e_no_kind) rfl)
  n_line := no_at (ex_at c.more 7 (f := e_no_line) rfl)
  n_lock := no_at (ex_at c.more 8 (f := e_no_lock) rfl)
  n_move := no_at (ex_at c.more 9 (f := e_no_move) rfl)
  n_name := no_at (ex_at c.more 10 (f := e_no_name) rfl)
  n_node := no_at (ex_at c.more 11 (f := e_no_node) rfl)
  n_nodes := no_at (ex_at c.more 12 (f := e_no_nodes) rfl)
  n_part := no_at (ex_at c.more 13 (f := e_no_part) rfl)
  n_place := no_at (ex_at c.more 14 (f := e_no_place) rfl)
  n_point := no_at (ex_at c.more 15 (f := e_no_point) rfl)
  n_position := no_at (ex_at c.more 16 (f := e_no_position) rfl)
  n_request := no_at (ex_at c.more 17 (f := e_no_request) rfl)
  n_routine := no_at (ex_at c.more 18 (f := e_no_routine) rfl)
  n_row := no_at (ex_at c.more 19 (f := e_no_row) rfl)
  n_rule := no_at (ex_at c.more 20 (f := e_no_rule) rfl)
  n_short := no_at (ex_at c.more 21 (f := e_no_short) rfl)
  n_state := no_at (ex_at c.more 22 (f := e_no_state) rfl)
  n_tag := no_at (ex_at c.more 23 (f := e_no_tag) rfl)
  n_what := no_at (ex_at c.more 24 (f := e_no_what) rfl)
  F_is_name := ⟨c.def_ (d := d_is_name) (List.mem_of_getElem? (i := 0) (l := fn) rfl), He.glo_ok X G (c.fact (f := .glo "is_name") (List.mem_of_getElem? (i := 0) (l := fa) rfl))⟩
  F_law_draws := ⟨c.def_ (d := d_law_draws) (List.mem_of_getElem? (i := 1) (l := fn) rfl), He.glo_ok X G (c.fact (f := .glo "_law_draws") (List.mem_of_getElem? (i := 1) (l := fa) rfl))⟩
  F_law_next := ⟨c.def_ (d := d_law_next) (List.mem_of_getElem? (i := 2) (l := fn) rfl), He.glo_ok X G (c.fact (f := .glo "_law_next") (List.mem_of_getElem? (i := 2) (l := fa) rfl))⟩
  F_law_words := ⟨c.def_ (d := d_law_words) (List.mem_of_getElem? (i := 3) (l := fn) rfl), He.glo_ok X G (c.fact (f := .glo "_law_words") (List.mem_of_getElem? (i := 3) (l := fa) rfl))⟩
  F_law_value := ⟨c.def_ (d := d_law_value) (List.mem_of_getElem? (i := 4) (l := fn) rfl), He.glo_ok X G (c.fact (f := .glo "_law_value") (List.mem_of_getElem? (i := 4) (l := fa) rfl))⟩
  F_law_due := ⟨c.def_ (d := d_law_due) (List.mem_of_getElem? (i := 5) (l := fn) rfl), He.glo_ok X G (c.fact (f := .glo "_law_due") (List.mem_of_getElem? (i := 5) (l := fa) rfl))⟩
  F_law_classes := ⟨c.def_ (d := d_law_classes) (List.mem_of_getElem? (i := 6) (l := fn) rfl), He.glo_ok X G (c.fact (f := .glo "_law_classes") (List.mem_of_getElem? (i := 6) (l := fa) rfl))⟩
  F_law_errors := ⟨c.def_ (d := d_law_errors) (List.mem_of_getElem? (i := 7) (l := fn) rfl), He.glo_ok X G (c.fact (f := .glo "_law_errors") (List.mem_of_getElem? (i := 7) (l := fa) rfl))⟩
  F_law_fields_hold := ⟨c.def_ (d := d_law_fields_hold) (List.mem_of_getElem? (i := 8) (l := fn) rfl), He.glo_ok X G (c.fact (f := .glo "_law_fields_hold") (List.mem_of_getElem? (i := 8) (l := fa) rfl))⟩
  F_law := ⟨c.def_ (d := d_law) (List.mem_of_getElem? (i := 9) (l := fn) rfl), He.glo_ok X G (c.fact (f := .glo "law") (List.mem_of_getElem? (i := 9) (l := fa) rfl))⟩
end
abbrev R : PySem.W.OpenRow := PySem.W.OpenLaw.row PySem.Challenge.rw_handsroom_k00_names_and_words
abbrev hk : PySem.W.Hook := hookP 6 fa fn ts ex ins
def ob (s : PySem.W.SharedT) : AlP := obsPG 6 fa fn ts ex ins (HandSHeadRun.getT s)
theorem ob_eq (s : PySem.W.SharedT) : ob s = hk.obs s.abs := obsPG_eq (HandSHeadRun.getT_eq s)
def loose : List Str := (["__name__", "RESERVED", "LETTERS", "DIGITS", "MOST_CHARACTERS", "RULES", "is_name", "HandsError", "BadPart", "BadLine", "NoSuch", "Unlike", "BadPath", "BadMove", "BadPlace", "BadRun", "BadPoint", "TooLarge", "NoFirst", "WrongFirst", "NoHand", "WrongMove", "MustWait", "Refused", "Unfinished"] : List Str) ++ (["NoRow", "NoTag", "NoNode", "NoRequest", "NoLockOrder", "BadStand", "Unnested", "Clash", "NoState", "NotFit", "_law_draws", "_law_next", "_law_words", "_law_value", "_law_due", "_law_classes", "_law_errors", "_law_fields_hold"] : List Str)
theorem run0 (w : World) : HandSHeadRun.RunEq R (PySem.W.view R.prog [45]) hk ob 8000 loose (w.withFollow "special-get-raises" false) := by
  intro os
  kernel_rfl
theorem run1 (w : World) : HandSHeadRun.RunEq R (PySem.W.view R.prog [45]) hk ob 8000 loose (w.withFollow "special-get-raises" true) := by
  intro os
  kernel_rfl
theorem run (w : World) : HandSHeadRun.RunEq R (PySem.W.view R.prog [45]) hk ob 8000 loose w := PySem.W.byRow2 "special-get-raises" (P := fun w => HandSHeadRun.RunEq R (PySem.W.view R.prog [45]) hk ob 8000 loose w) run0 run1 w
end K00
set_option Elab.async false
set_option linter.all false
set_option maxRecDepth 100000
set_option maxHeartbeats 8000000
namespace K00
open PySem L2 PM
end K00
open PySem PySem.W PySem.Calls PyProof.Rows
theorem PySem.Challenge.cw_handsroom_k00_names_and_words_holds : PySem.Challenge.rw_handsroom_k00_names_and_words.Holds := by
  w_on; o_law
  refine HandSHeadRun.head_any (r := OpenLaw.row PySem.Challenge.rw_handsroom_k00_names_and_words) (q := view (OpenLaw.row PySem.Challenge.rw_handsroom_k00_names_and_words).prog [45]) (H := K00.hk) (ob := K00.ob) (M := 8000) (loose := K00.loose) (d := HandSHeadRun.topDef (OpenLaw.row PySem.Challenge.rw_handsroom_k00_names_and_words).prog 45) (kwd := []) K00.ob_eq
    (by kernel_rfl) (fun s => by kernel_rfl) K00.run (by kernel_rfl) (by kernel_rfl) (by kernel_rfl) (by rfl) (by first | assumption | decide +kernel) (by decide +kernel) ⟨rfl, rfl, rfl, rfl, rfl, by decide +kernel⟩ ?hw ?hc
  case hw => w_witness2
  case hc =>
    refine L2.walk_ofE (l := PySem.Challenge.rw_handsroom_k00_names_and_words) (n := 63) (k := 4) (x := "_law_script") (CX := PM.CXany PySem.Challenge.rw_handsroom_k00_names_and_words.prog) rfl (by decide) (by kernel_rfl) ⟨rfl, by decide, by decide⟩ ?F ?G
    case F =>
      intro w mg fa h Y G hmg0
      obtain ⟨K, KX, c⟩ := Y
      have hmg : mg ("law" : PySem.Str) = some (.ref fa) := by
        have e : (HandSHeadRun.topDef (OpenLaw.row PySem.Challenge.rw_handsroom_k00_names_and_words).prog 45).name = ("law" : PySem.Str) := by kernel_rfl
        rw [← e]
        exact hmg0
      have T := K00.tx_of KX G c
      have ea : fa = He.ga K "law" := by
        have z := hmg.symm.trans T.F_law.2
        cases z
        rfl
      subst ea
      obtain ⟨fd, h1, _, _, _, hb⟩ := K00.o_law T
      refine ⟨K, fd, PM.spF ⟨K, K00.CA K⟩ K00.f_law, KX, fun s u => hb s [u] rfl, fun H a ns hl _ hS => ?_, fun base hK hG => PM.fn_any (h1 base)⟩
      obtain ⟨ρ, e⟩ := K00.plain ns hl
      exact PM.sp_law e hS
    case G => exact fun H s e s' z => PM.cxany_false H s e s' z
namespace K00
end K00
