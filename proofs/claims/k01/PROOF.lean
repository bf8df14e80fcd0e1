import PyProof.Rows.All
import Wide.All
import OpenK.AllK
import Wide.FinOn
import HandS.ForMost
import HandS.ForExc
import HandS.Flow
import HandS.StrMore
import HandS.Deep
import HandS.Replace
import HandS.IsInst
import HandS.TupAny
import HandS.TryMany
import HandS.WordsExc
import HandS.Defaults
import HandS.Walk
import HandS.Codes
import HandS.Style
import HandS.HeadHook1
import HandS.HeadHook2
import HandS.Conv
import KE.IntTextLaws
import PyProof.TupleOfStr
import HandS.Head0
import HandS.Head1
import HandS.Head2
import HandS.HeadEnd
import PySem.Challenge.RW_indentbook_k01_words
set_option Elab.async false
set_option linter.all false
set_option maxRecDepth 100000
set_option maxHeartbeats 4000000
/-! Values without a heap (PV), how they lie in the heap (Rep), what an expression, a statement, a def does to them (SE, ST, SS, FnS). -/
namespace Sm
open PySem PySem.Spec PyProof.Rows L2
open SX (S S_len S_inj S_tl)

/-- a key of a dict: a number or a text -/
inductive KP where
  | i (n : Int)
  | s (x : List Nat)
  deriving DecidableEq
/-- a value, immutable; scr: the law's script -/
inductive PV where
  | non
  | bl (b : Bool)
  | int (i : Int)
  | str (s : List Nat)
  | tup (xs : List PV)
  | lst (xs : List PV)
  | dct (kps : List (KP × PV))
  | scr (ns : List Int)
instance : Inhabited PV := ⟨.non⟩

def bnd : Nat := 1000000
/-- a text that the proof is told: not long, plain signs -/
def okS (l : List Nat) : Bool := decide (l.length < bnd) && l.all (· < 128)
def kk : KP → Key
  | .i n => .inl n
  | .s x => .inr (S x)
theorem kk_inj {a b : KP} (h : kk a = kk b) : a = b := by
  cases a <;> cases b <;> simp [kk] at h <;> first | rw [h] | rw [S_inj h]

mutual
inductive Rep (K : PySem.W.Frag) (G : Hp) : V → PV → Prop
  | non : Rep K G .non .non
  | bl (b : Bool) : Rep K G (.bl b) (.bl b)
  | int (i : Int) : Rep K G (.int i) (.int i)
  | str (s : List Nat) (h : okS s = true) : Rep K G (.str (S s)) (.str s)
  | tup {a : Addr} {vs : List V} {ps : List PV} (h : SqT K G a vs) (r : Reps K G vs ps) (hl : ps.length ≤ bnd) : Rep K G (.ref a) (.tup ps)
  | lst {a : Addr} {vs : List V} {ps : List PV} (h : G a = some (.lst vs)) (r : Reps K G vs ps) (hl : ps.length ≤ bnd) : Rep K G (.ref a) (.lst ps)
  | dct {a : Addr} {kvs : List (Key × V)} {kps : List (KP × PV)} (h : G a = some (.dK kvs)) (hk : kvs.map (·.1) = kps.map (fun q => kk q.1)) (r : Reps K G (kvs.map (·.2)) (kps.map (·.2))) (hl : kps.length ≤ bnd) : Rep K G (.ref a) (.dct kps)
  | scr {a : Addr} {ns : List Int} (h : SqL K G a (ns.map V.int)) (hl : ns.length ≤ bnd) : Rep K G (.ref a) (.scr ns)
inductive Reps (K : PySem.W.Frag) (G : Hp) : List V → List PV → Prop
  | nil : Reps K G [] []
  | cons {v : V} {p : PV} {vs : List V} {ps : List PV} (h : Rep K G v p) (r : Reps K G vs ps) : Reps K G (v :: vs) (p :: ps)
end

/-- all that was there is there -/
def Ex (H H' : Hp) : Prop := ∀ a o, H a = some o → H' a = some o
theorem Ex.refl (H : Hp) : Ex H H := fun _ _ h => h
theorem Ex.trans {H H1 H2 : Hp} (a : Ex H H1) (b : Ex H1 H2) : Ex H H2 := fun x o h => b x o (a x o h)
theorem Ex.free {H H' : Hp} (e : Ex H H') {p : Addr} (h : H' p = none) : H p = none := by
  cases q : H p with
  | none => rfl
  | some o => rw [e p o q] at h; cases h
theorem Ex.rd {H H' : Hp} {a : Addr} {u : HO} (e : Ex H H') (h : Rd H a u) : Rd H' a u := by
  rcases h with h | ⟨o, h⟩
  · exact .inl (e a _ h)
  · exact .inr ⟨o, e a _ h⟩
theorem Ex.sqt {K : PySem.W.Frag} {H H' : Hp} {a : Addr} {xs : List V} (e : Ex H H') (h : SqT K H a xs) : SqT K H' a xs := by
  rcases h with h | h
  · exact .inl (e.rd h)
  · exact .inr h
theorem Ex.sql {K : PySem.W.Frag} {H H' : Hp} {a : Addr} {xs : List V} (e : Ex H H') (h : SqL K H a xs) : SqL K H' a xs := by
  rcases h with h | h
  · exact .inl (e.rd h)
  · exact .inr h
theorem ex_new {H : Hp} {p : Addr} {o : HO} (h : H p = none) : Ex H (upd H p o) := fun a u e => by
  rw [upd_ne (ne_of_none e h)]; exact e

mutual
theorem Rep.mono {K : PySem.W.Frag} {G G' : Hp} (e : Ex G G') {v : V} {p : PV} (h : Rep K G v p) : Rep K G' v p :=
  match h with
  | .non => .non
  | .bl b => .bl b
  | .int i => .int i
  | .str s h => .str s h
  | .tup h r hl => .tup (e.sqt h) (Reps.mono e r) hl
  | .lst h r hl => .lst (e _ _ h) (Reps.mono e r) hl
  | .dct h hk r hl => .dct (e _ _ h) hk (Reps.mono e r) hl
  | .scr h hl => .scr (e.sql h) hl
theorem Reps.mono {K : PySem.W.Frag} {G G' : Hp} (e : Ex G G') {vs : List V} {ps : List PV} (h : Reps K G vs ps) : Reps K G' vs ps :=
  match h with
  | .nil => .nil
  | .cons h r => .cons (Rep.mono e h) (Reps.mono e r)
end
section
variable {K : PySem.W.Frag} {G : Hp}
theorem Reps.length : ∀ {vs : List V} {ps : List PV}, Reps K G vs ps → vs.length = ps.length
  | _, _, .nil => rfl
  | _, _, .cons _ r => by simp [r.length]
theorem Reps.append : ∀ {vs ws : List V} {ps qs : List PV}, Reps K G vs ps → Reps K G ws qs → Reps K G (vs ++ ws) (ps ++ qs)
  | _, _, _, _, .nil, s => s
  | _, _, _, _, .cons h r, s => .cons h (r.append s)
theorem Reps.get : ∀ {vs : List V} {ps : List PV} {i : Nat} {p : PV}, Reps K G vs ps → ps[i]? = some p → ∃ v, vs[i]? = some v ∧ Rep K G v p
  | _, _, i, _, .nil, e => by simp at e
  | _, _, 0, _, .cons h _, e => by simp at e; subst e; exact ⟨_, by simp, h⟩
  | _, _, i + 1, p, .cons _ r, e => by
    obtain ⟨v, h1, h2⟩ := Reps.get (i := i) (p := p) r (by simpa using e)
    exact ⟨v, by simpa using h1, h2⟩
theorem Reps.get' : ∀ {vs : List V} {ps : List PV} {i : Nat} {v : V}, Reps K G vs ps → vs[i]? = some v → ∃ p, ps[i]? = some p ∧ Rep K G v p
  | _, _, i, _, .nil, e => by simp at e
  | _, _, 0, _, .cons h _, e => by simp at e; subst e; exact ⟨_, by simp, h⟩
  | _, _, i + 1, p, .cons _ r, e => by
    obtain ⟨v, h1, h2⟩ := Reps.get' (i := i) (v := p) r (by simpa using e)
    exact ⟨v, by simpa using h1, h2⟩
theorem Reps.take : ∀ {vs : List V} {ps : List PV} (n : Nat), Reps K G vs ps → Reps K G (vs.take n) (ps.take n)
  | _, _, 0, _ => .nil
  | _, _, _ + 1, .nil => .nil
  | _, _, n + 1, .cons h r => .cons h (Reps.take n r)
theorem Reps.drop : ∀ {vs : List V} {ps : List PV} (n : Nat), Reps K G vs ps → Reps K G (vs.drop n) (ps.drop n)
  | _, _, 0, r => r
  | _, _, _ + 1, .nil => .nil
  | _, _, n + 1, .cons _ r => Reps.drop n r
theorem Reps.dropLast {vs : List V} {ps : List PV} (h : Reps K G vs ps) : Reps K G vs.dropLast ps.dropLast := by
  rw [List.dropLast_eq_take, List.dropLast_eq_take, h.length]; exact h.take _
theorem Reps.set : ∀ {vs : List V} {ps : List PV} {v : V} {p : PV} (i : Nat), Reps K G vs ps → Rep K G v p → Reps K G (vs.set i v) (ps.set i p)
  | _, _, _, _, _, .nil, _ => .nil
  | _, _, _, _, 0, .cons _ r, h => .cons h r
  | _, _, _, _, i + 1, .cons h' r, h => .cons h' (Reps.set i r h)
theorem Reps.ints : ∀ (ns : List Int), Reps K G (ns.map V.int) (ns.map PV.int)
  | [] => .nil
  | n :: r => .cons (.int n) (Reps.ints r)
theorem Reps.one {v : V} {p : PV} (h : Rep K G v p) : Reps K G [v] [p] := .cons h .nil
end

/-! ### growth of the heap H and its shared part G -/
structure Grow (G H G' H' : Hp) : Prop where
  eH : Ex H H'
  eG : Ex G G'
  sub : Ex G' H'
  new : ∀ a, G' a ≠ none → G a ≠ none ∨ H a = none
theorem Grow.refl {G H : Hp} (s : Ex G H) : Grow G H G H := ⟨.refl _, .refl _, s, fun _ h => .inl h⟩
theorem Grow.trans {G H G1 H1 G2 H2 : Hp} (a : Grow G H G1 H1) (b : Grow G1 H1 G2 H2) : Grow G H G2 H2 :=
  ⟨a.eH.trans b.eH, a.eG.trans b.eG, b.sub, fun x h => by
    rcases b.new x h with q | q
    · exact a.new x q
    · exact .inr (a.eH.free q)⟩
/-- a new shared thing -/
theorem Grow.alloc {G H : Hp} (s : Ex G H) {p : Addr} (h : H p = none) (o : HO) : Grow G H (upd G p o) (upd H p o) := by
  have hg : G p = none := s.free h
  refine ⟨ex_new h, ex_new hg, fun a u e => ?_, fun a q => ?_⟩
  · by_cases z : a = p
    · subst z; rw [upd_same] at e ⊢; exact e
    · rw [upd_ne z] at e ⊢; exact s a u e
  · by_cases z : a = p
    · subst z; exact .inr h
    · rw [upd_ne z] at q; exact .inl q
/-- a new thing that stays apart -/
theorem Grow.apart {G H : Hp} (s : Ex G H) {p : Addr} (h : H p = none) (o : HO) : Grow G H G (upd H p o) :=
  ⟨ex_new h, .refl _, fun a u e => by rw [upd_ne (ne_of_none (s a u e) h)]; exact s a u e, fun _ q => .inl q⟩

/-! ### environments -/
inductive Sl where
  | val (p : PV)
  /-- a list or dict of the def's own, nowhere else -/
  | own (p : PV)
abbrev En := List (Option Sl)
/-- the content of a cell -/
inductive Cell (K : PySem.W.Frag) (G H : Hp) (a : Addr) : PV → Prop
  | lst {vs : List V} {ps : List PV} (h : H a = some (.lst vs)) (r : Reps K G vs ps) (hl : ps.length ≤ bnd) : Cell K G H a (.lst ps)
  | dct {kvs : List (Key × V)} {kps : List (KP × PV)} (h : H a = some (.dK kvs)) (hk : kvs.map (·.1) = kps.map (fun q => kk q.1)) (r : Reps K G (kvs.map (·.2)) (kps.map (·.2))) (hl : kps.length ≤ bnd) : Cell K G H a (.dct kps)
theorem Cell.mono {K : PySem.W.Frag} {G G' H H' : Hp} {a : Addr} {p : PV} (c : Cell K G H a p) (e : Ex G G') (h : ∀ o, H a = some o → H' a = some o) : Cell K G' H' a p := by
  cases c with
  | lst q r hl => exact .lst (h _ q) (r.mono e) hl
  | dct q hk r hl => exact .dct (h _ q) hk (r.mono e) hl
theorem Cell.rep {K : PySem.W.Frag} {G : Hp} {a : Addr} {p : PV} (c : Cell K G G a p) : Rep K G (.ref a) p := by
  cases c with
  | lst q r hl => exact .lst q r hl
  | dct q hk r hl => exact .dct q hk r hl
def SlRel (K : PySem.W.Frag) (G H : Hp) : Sl → V → Prop
  | .val p, v => Rep K G v p
  | .own p, v => ∃ a, v = .ref a ∧ Cell K G H a p
/-- what an expression knows of the slots -/
structure ER (K : PySem.W.Frag) (E : En) (σ : L2.St) (G H : Hp) : Prop where
  len : E.length = σ.length
  at_ : ∀ (i : Nat) (s : Sl), E[i]? = some (some s) → ∃ v, σ[i]? = some (some v) ∧ SlRel K G H s v
theorem SlRel.mono {K : PySem.W.Frag} {G H G' H' : Hp} {s : Sl} {v : V} (r : SlRel K G H s v) (g : Grow G H G' H') : SlRel K G' H' s v := by
  cases s with
  | val p => exact Rep.mono g.eG r
  | own p =>
    obtain ⟨a, e, c⟩ := r
    exact ⟨a, e, c.mono g.eG (fun o q => g.eH a o q)⟩
theorem ER.mono {K : PySem.W.Frag} {E : En} {σ : L2.St} {G H G' H' : Hp} (r : ER K E σ G H) (g : Grow G H G' H') : ER K E σ G' H' :=
  ⟨r.len, fun i s e => by
    obtain ⟨v, h1, h2⟩ := r.at_ i s e
    exact ⟨v, h1, h2.mono g⟩⟩

/-! ### results -/
inductive R (α : Type) where
  | stk
  | ok (a : α)
  | ex (c : Str)
def R.bind {α β : Type} : R α → (α → R β) → R β
  | .stk, _ => .stk
  | .ok a, f => f a
  | .ex c, _ => .ex c
@[simp] theorem R.bind_ok {α β : Type} (a : α) (f : α → R β) : (R.ok a).bind f = f a := rfl
@[simp] theorem R.bind_stk {α β : Type} (f : α → R β) : (R.stk : R α).bind f = .stk := rfl
@[simp] theorem R.bind_ex {α β : Type} (c : Str) (f : α → R β) : (R.ex c : R α).bind f = .ex c := rfl
def R.of {α : Type} : Option α → R α
  | none => .stk
  | some a => .ok a
@[simp] theorem R.of_some {α : Type} (a : α) : R.of (some a) = .ok a := rfl
@[simp] theorem R.of_none {α : Type} : R.of (none : Option α) = .stk := rfl

/-- the address of the exception's class -/
abbrev excA (K : PySem.W.Frag) (c : Str) : Value := .ref (He.ga K c)
/-- what must be shown behind an expression, a test, arguments -/
def PostE (K : PySem.W.Frag) (W : WX) (σ : L2.St) (G H : Hp) (Q : VK) : R PV → Prop
  | .stk => False
  | .ok p => ∀ v G' H', Grow G H G' H' → Rep K G' v p → Q v H'
  | .ex c => ∀ G' H', Grow G H G' H' → W (excA K c) none σ H'
def PostT (K : PySem.W.Frag) (W : WX) (σ : L2.St) (G H : Hp) (Q : Bool → Hp → Prop) : R Bool → Prop
  | .stk => False
  | .ok b => ∀ G' H', Grow G H G' H' → Q b H'
  | .ex c => ∀ G' H', Grow G H G' H' → W (excA K c) none σ H'
def PostA (K : PySem.W.Frag) (W : WX) (σ : L2.St) (G H : Hp) (Q : List V → Hp → Prop) : R (List PV) → Prop
  | .stk => False
  | .ok ps => ∀ vs G' H', Grow G H G' H' → Reps K G' vs ps → Q vs H'
  | .ex c => ∀ G' H', Grow G H G' H' → W (excA K c) none σ H'
def CorrE (K : PySem.W.Frag) (W : WX) (t : TE) (m : En → R PV) : Prop :=
  ∀ E σ G H Q, ER K E σ G H → Ex G H → PostE K W σ G H Q (m E) → t σ H Q
def CorrT (K : PySem.W.Frag) (W : WX) (t : TT) (m : En → R Bool) : Prop :=
  ∀ E σ G H Q, ER K E σ G H → Ex G H → PostT K W σ G H Q (m E) → t σ H Q
def CorrA (K : PySem.W.Frag) (W : WX) (t : TA) (m : En → R (List PV)) : Prop :=
  ∀ E σ G H Q, ER K E σ G H → Ex G H → PostA K W σ G H Q (m E) → t σ H Q
/-- an expression does m -/
structure SE (X : Cx) (W : WX) (e : Expr) (m : En → R PV) : Prop where
  ex : ∃ t, PE X e t ∧ CorrE X.K W t m
structure ST (X : Cx) (W : WX) (e : Expr) (m : En → R Bool) : Prop where
  ex : ∃ t, PT X e t ∧ CorrT X.K W t m
structure SW (X : Cx) (W : WX) (e : Expr) (m : En → R Bool) : Prop where
  ex : ∃ t, PW X e t ∧ CorrT X.K W t m
structure SA (X : Cx) (W : WX) (es : List Expr) (m : En → R (List PV)) : Prop where
  ex : ∃ t, PA X es t ∧ CorrA X.K W t m
end Sm
set_option Elab.async false
set_option linter.all false
set_option maxRecDepth 100000
set_option maxHeartbeats 4000000
namespace Sm
open PySem PySem.Spec PyProof.Rows L2
open SX (S S_len S_inj S_tl)

/-! ### results, put together -/
def PostR {α : Type} (K : PySem.W.Frag) (W : WX) (σ : L2.St) (G H : Hp) (k : α → Prop) : R α → Prop
  | .stk => False
  | .ok a => k a
  | .ex c => ∀ G' H', Grow G H G' H' → W (excA K c) none σ H'
section
variable {α β : Type} {K : PySem.W.Frag} {W : WX} {σ : L2.St} {G H G1 H1 : Hp}
theorem PostR.imp {k k' : α → Prop} : ∀ {r : R α}, PostR K W σ G H k r → (∀ a, r = .ok a → k a → k' a) → PostR K W σ G H k' r
  | .stk, h, _ => h
  | .ok a, h, f => f a rfl h
  | .ex _, h, _ => h
theorem PostR.bind {k : β → Prop} {f : α → R β} : ∀ {r : R α}, PostR K W σ G H k (r.bind f) → PostR K W σ G H (fun a => PostR K W σ G H k (f a)) r
  | .stk, h => h
  | .ok _, h => h
  | .ex _, h => h
theorem PostR.grow {k : α → Prop} (g : Grow G H G1 H1) : ∀ {r : R α}, PostR K W σ G H k r → PostR K W σ G1 H1 k r
  | .stk, h => h
  | .ok _, h => h
  | .ex _, h => fun G' H' g' => h G' H' (g.trans g')
theorem postE_iff {Q : VK} : ∀ {r : R PV}, PostE K W σ G H Q r ↔ PostR K W σ G H (fun p => ∀ v G' H', Grow G H G' H' → Rep K G' v p → Q v H') r
  | .stk => Iff.rfl
  | .ok _ => Iff.rfl
  | .ex _ => Iff.rfl
theorem postT_iff {Q : Bool → Hp → Prop} : ∀ {r : R Bool}, PostT K W σ G H Q r ↔ PostR K W σ G H (fun b => ∀ G' H', Grow G H G' H' → Q b H') r
  | .stk => Iff.rfl
  | .ok _ => Iff.rfl
  | .ex _ => Iff.rfl
theorem postA_iff {Q : List V → Hp → Prop} : ∀ {r : R (List PV)}, PostA K W σ G H Q r ↔ PostR K W σ G H (fun ps => ∀ vs G' H', Grow G H G' H' → Reps K G' vs ps → Q vs H') r
  | .stk => Iff.rfl
  | .ok _ => Iff.rfl
  | .ex _ => Iff.rfl
/-- e is run, then the rest -/
theorem CorrE.then {ta : TE} {ma : En → R PV} (ha : CorrE K W ta ma) {E : En} (er : ER K E σ G H) (s : Ex G H) {f : PV → R β} {k : β → Prop} (post : PostR K W σ G H k ((ma E).bind f)) {Q : VK}
    (h : ∀ p v G1 H1, Grow G H G1 H1 → Rep K G1 v p → PostR K W σ G1 H1 k (f p) → Q v H1) : ta σ H Q :=
  ha E σ G H Q er s (postE_iff.mpr (post.bind.imp fun p _ hp v G1 H1 g rv => h p v G1 H1 g rv (hp.grow g)))
theorem CorrT.then {ta : TT} {ma : En → R Bool} (ha : CorrT K W ta ma) {E : En} (er : ER K E σ G H) (s : Ex G H) {f : Bool → R β} {k : β → Prop} (post : PostR K W σ G H k ((ma E).bind f)) {Q : Bool → Hp → Prop}
    (h : ∀ b G1 H1, Grow G H G1 H1 → PostR K W σ G1 H1 k (f b) → Q b H1) : ta σ H Q :=
  ha E σ G H Q er s (postT_iff.mpr (post.bind.imp fun p _ hp G1 H1 g => h p G1 H1 g (hp.grow g)))
theorem CorrA.then {ta : TA} {ma : En → R (List PV)} (ha : CorrA K W ta ma) {E : En} (er : ER K E σ G H) (s : Ex G H) {f : List PV → R β} {k : β → Prop} (post : PostR K W σ G H k ((ma E).bind f)) {Q : List V → Hp → Prop}
    (h : ∀ ps vs G1 H1, Grow G H G1 H1 → Reps K G1 vs ps → PostR K W σ G1 H1 k (f ps) → Q vs H1) : ta σ H Q :=
  ha E σ G H Q er s (postA_iff.mpr (post.bind.imp fun p _ hp vs G1 H1 g r => h p vs G1 H1 g r (hp.grow g)))
end

/-! ### what expressions do: the words -/
def slv : Option (Option Sl) → R PV
  | some (some (.val p)) => .ok p
  | _ => .stk
def ev (i : Nat) : En → R PV := fun E => slv E[i]?
def ec (p : PV) : En → R PV := fun _ => .ok p
def e1 (f : PV → Option PV) (a : En → R PV) : En → R PV := fun E => (a E).bind fun p => R.of (f p)
def e2 (f : PV → PV → Option PV) (a b : En → R PV) : En → R PV := fun E => (a E).bind fun p => (b E).bind fun q => R.of (f p q)
def aN : En → R (List PV) := fun _ => .ok []
def aC (a : En → R PV) (r : En → R (List PV)) : En → R (List PV) := fun E => (a E).bind fun p => (r E).bind fun ps => .ok (p :: ps)
def eA (f : List PV → Option PV) (a : En → R (List PV)) : En → R PV := fun E => (a E).bind fun ps => R.of (f ps)
def eF (F : List PV → R PV) (a : En → R (List PV)) : En → R PV := fun E => (a E).bind F
def eT (t : En → R Bool) : En → R PV := fun E => (t E).bind fun b => .ok (.bl b)
def eIf (t : En → R Bool) (a b : En → R PV) : En → R PV := fun E => (t E).bind fun k => if k = true then a E else b E
def truth : PV → Option Bool
  | .non => some false
  | .bl b => some b
  | .int i => some (i != 0)
  | .str s => some (!s.isEmpty)
  | .tup xs => some (!xs.isEmpty)
  | .lst xs => some (!xs.isEmpty)
  | .dct kps => some (!kps.isEmpty)
  | .scr ns => some (!ns.isEmpty)
def tV (a : En → R PV) : En → R Bool := fun E => (a E).bind fun p => R.of (truth p)
def tB' : PV → Option Bool
  | .bl b => some b
  | _ => none
/-- a value that is a truth, as a test -/
def tE (a : En → R PV) : En → R Bool := fun E => (a E).bind fun p => R.of (tB' p)
def tN (t : En → R Bool) : En → R Bool := fun E => (t E).bind fun b => .ok (!b)
def tA (t u : En → R Bool) : En → R Bool := fun E => (t E).bind fun b => if b = true then u E else .ok false
def tO (t u : En → R Bool) : En → R Bool := fun E => (t E).bind fun b => if b = true then .ok true else u E
def eAnd (a b : En → R PV) : En → R PV := fun E => (a E).bind fun p => (R.of (truth p)).bind fun k => if k = true then b E else .ok p
def eOr (a b : En → R PV) : En → R PV := fun E => (a E).bind fun p => (R.of (truth p)).bind fun k => if k = true then .ok p else b E
def eNot (a : En → R PV) : En → R PV := fun E => (a E).bind fun p => (R.of (truth p)).bind fun k => .ok (.bl (!k))
/-- a op b op' c -/
def eCh (f g : PV → PV → Option PV) (a b c : En → R PV) : En → R PV := fun E => (a E).bind fun p => (b E).bind fun q => (R.of (f p q)).bind fun z => match z with
  | .bl true => (c E).bind fun r => R.of (g q r)
  | .bl false => .ok (.bl false)
  | _ => .stk

/-- an operation on values does f -/
def RelOp (K : PySem.W.Frag) (r : R2) (f : PV → PV → Option PV) : Prop :=
  ∀ x y p q z G H Q, Ex G H → Rep K G x p → Rep K G y q → f p q = some z → (∀ v G' H', Grow G H G' H' → Rep K G' v z → Q v H') → r x y H Q
def RelU (K : PySem.W.Frag) (r : V → Hp → VK → Prop) (f : PV → Option PV) : Prop :=
  ∀ x p z G H Q, Ex G H → Rep K G x p → f p = some z → (∀ v G' H', Grow G H G' H' → Rep K G' v z → Q v H') → r x H Q
def RelN (K : PySem.W.Frag) (r : List V → Hp → VK → Prop) (f : List PV → Option PV) : Prop :=
  ∀ xs ps z G H Q, Ex G H → Reps K G xs ps → f ps = some z → (∀ v G' H', Grow G H G' H' → Rep K G' v z → Q v H') → r xs H Q
theorem of_some {α : Type} {K : PySem.W.Frag} {W : WX} {σ : L2.St} {G H : Hp} {k : α → Prop} {o : Option α} (h : PostR K W σ G H k (R.of o)) : ∃ z, o = some z ∧ k z := by
  cases o with
  | none => exact h.elim
  | some z => exact ⟨z, rfl, h⟩
section
variable {K : PySem.W.Frag} {W : WX} {ta tb tc : TE} {ma mb mc : En → R PV} {tt tu : TT} {mt mu : En → R Bool} {tl : TA} {ml : En → R (List PV)}
theorem corr_var {i : Nat} : CorrE K W (tVar i) (ev i) := by
  intro E σ G H Q er s post
  unfold ev at post
  cases h : E[i]? with
  | none => rw [h] at post; exact post.elim
  | some o =>
    cases o with
    | none => rw [h] at post; exact post.elim
    | some sl =>
      cases sl with
      | own p => rw [h] at post; exact post.elim
      | val p =>
        rw [h] at post
        obtain ⟨v, h1, h2⟩ := er.at_ i _ h
        exact ⟨v, h1, post v G H (.refl s) h2⟩
theorem corr_c {v : V} {p : PV} (h : ∀ G, Rep K G v p) : CorrE K W (tC v) (ec p) := fun _ _ G H _ _ s post => post v G H (.refl s) (h G)
theorem corr_op {r : R2} {f : PV → PV → Option PV} (hr : RelOp K r f) (ha : CorrE K W ta ma) (hb : CorrE K W tb mb) : CorrE K W (tOp r ta tb) (e2 f ma mb) := by
  intro E σ G H Q er s post
  refine ha.then er s (postE_iff.mp post) fun p v G1 H1 g1 rv post => ?_
  refine hb.then (er.mono g1) g1.sub post fun q u G2 H2 g2 ru post => ?_
  obtain ⟨z, hz, k⟩ := of_some post
  exact hr v u p q z G2 H2 Q g2.sub (rv.mono g2.eG) ru hz fun w G' H' g r => k w G' H' ((g1.trans g2).trans g) r
theorem corr_un {r : V → Hp → VK → Prop} {f : PV → Option PV} (hr : RelU K r f) (ha : CorrE K W ta ma) : CorrE K W (tUn r ta) (e1 f ma) := by
  intro E σ G H Q er s post
  refine ha.then er s (postE_iff.mp post) fun p v G1 H1 g1 rv post => ?_
  obtain ⟨z, hz, k⟩ := of_some post
  exact hr v p z G1 H1 Q g1.sub rv hz fun w G' H' g r => k w G' H' (g1.trans g) r
theorem corr_nil : CorrA K W tNil aN := fun _ _ G H _ _ s post => post [] G H (.refl s) .nil
theorem corr_cons (ha : CorrE K W ta ma) (hl : CorrA K W tl ml) : CorrA K W (tCons ta tl) (aC ma ml) := by
  intro E σ G H Q er s post
  refine ha.then er s (postA_iff.mp post) fun p v G1 H1 g1 rv post => ?_
  refine hl.then (er.mono g1) g1.sub post fun ps vs G2 H2 g2 rvs post => ?_
  exact post (v :: vs) G2 H2 (g1.trans g2) (.cons (rv.mono g2.eG) rvs)
theorem corr_cb {r : List V → Hp → VK → Prop} {f : List PV → Option PV} (hr : RelN K r f) (hl : CorrA K W tl ml) : CorrE K W (tCB r tl) (eA f ml) := by
  intro E σ G H Q er s post
  refine hl.then er s (postE_iff.mp post) fun ps vs G1 H1 g1 rvs post => ?_
  obtain ⟨z, hz, k⟩ := of_some post
  exact hr vs ps z G1 H1 Q g1.sub rvs hz fun w G' H' g r => k w G' H' (g1.trans g) r
theorem corr_if (ht : CorrT K W tt mt) (ha : CorrE K W ta ma) (hb : CorrE K W tb mb) : CorrE K W (tIf tt ta tb) (eIf mt ma mb) := by
  intro E σ G H Q er s post
  refine ht.then er s (postE_iff.mp post) fun k G1 H1 g1 post => ?_
  cases k with
  | true => exact iteT (ha E σ G1 H1 Q (er.mono g1) g1.sub (postE_iff.mpr (post.imp fun p _ h v G' H' g r => h v G' H' (g1.trans g) r)))
  | false => exact iteF (hb E σ G1 H1 Q (er.mono g1) g1.sub (postE_iff.mpr (post.imp fun p _ h v G' H' g r => h v G' H' (g1.trans g) r)))
/-! ### tests -/
theorem corr_test (ha : CorrE K W ta ma) : CorrT K W (tTest ta) (tE ma) := by
  intro E σ G H Q er s post
  refine ha.then er s (postT_iff.mp post) fun p v G1 H1 g1 rv post => ?_
  obtain ⟨z, hz, k⟩ := of_some post
  cases rv with
  | bl b => cases hz; exact ⟨_, rfl, k G1 H1 g1⟩
  | _ => cases hz
theorem corr_tB (ha : CorrE K W ta ma) : CorrT K W (tB ta) (tE ma) := corr_test ha
theorem corr_not (ht : CorrT K W tt mt) : CorrT K W (tNot tt) (tN mt) := by
  intro E σ G H Q er s post
  exact ht.then er s (postT_iff.mp post) fun b G1 H1 g1 post => post G1 H1 g1
theorem corr_and (ht : CorrT K W tt mt) (hu : CorrT K W tu mu) : CorrT K W (tAnd tt tu) (tA mt mu) := by
  intro E σ G H Q er s post
  refine ht.then er s (postT_iff.mp post) fun b G1 H1 g1 post => ?_
  cases b with
  | true => exact iteT (hu E σ G1 H1 Q (er.mono g1) g1.sub (postT_iff.mpr (post.imp fun p _ h G' H' g => h G' H' (g1.trans g))))
  | false => exact iteF (post G1 H1 g1)
theorem corr_or (ht : CorrT K W tt mt) (hu : CorrT K W tu mu) : CorrT K W (tOr tt tu) (tO mt mu) := by
  intro E σ G H Q er s post
  refine ht.then er s (postT_iff.mp post) fun b G1 H1 g1 post => ?_
  cases b with
  | true => exact iteT (post G1 H1 g1)
  | false => exact iteF (hu E σ G1 H1 Q (er.mono g1) g1.sub (postT_iff.mpr (post.imp fun p _ h G' H' g => h G' H' (g1.trans g))))
theorem okS_lt1 {s : List Nat} (h : okS s = true) : s.length < bnd := of_decide_eq_true (Bool.and_eq_true_iff.mp h).1
theorem okS_len {s : List Nat} (h : okS s = true) : s.length ≤ bnd := Nat.le_of_lt (okS_lt1 h)
theorem okS_asc {s : List Nat} (h : okS s = true) : s.all (· < 128) = true := (Bool.and_eq_true_iff.mp h).2
theorem okS_of {s : List Nat} (h1 : s.length < bnd) (h2 : s.all (· < 128) = true) : okS s = true := Bool.and_eq_true_iff.mpr ⟨decide_eq_true h1, h2⟩
theorem bnd_line {n : Nat} (h : n ≤ bnd) : n ≤ sizeLine := by rw [sizeLine_eq]; unfold bnd at h; omega
theorem bnd_lt {n : Nat} (h : n ≤ bnd) : n < sizeLine := by rw [sizeLine_eq]; unfold bnd at h; omega
theorem isEmpty_reps {G : Hp} {vs : List V} {ps : List PV} (r : Reps K G vs ps) : vs.isEmpty = ps.isEmpty := by cases r <;> rfl
theorem tru_rep {G H : Hp} (s : Ex G H) {v : V} {p : PV} (r : Rep K G v p) {b : Bool} (h : truth p = some b) : TruV K v H b := by
  cases r with
  | non => cases h; rfl
  | bl b => cases h; rfl
  | int i => cases h; rfl
  | str x hx =>
    cases h
    refine ⟨by rw [S_len]; exact bnd_line (okS_len hx), ?_⟩
    cases x <;> simp [S_len]
    omega
  | tup h' r' hl => cases h; exact .inr (.inl ⟨_, s.sqt h', by rw [isEmpty_reps r']⟩)
  | lst h' r' hl => cases h; exact .inl ⟨_, SqL.of (s _ _ h'), by rw [isEmpty_reps r']⟩
  | @dct a kvs kps h' hk r' hl =>
    cases h
    refine .inr (.inr ⟨_, s _ _ h', ?_⟩)
    have := r'.length
    cases kvs <;> cases kps <;> simp at this ⊢
  | @scr a ns h' hl => cases h; exact .inl ⟨_, s.sql h', by cases ns <;> rfl⟩
theorem corr_truth (ha : CorrE K W ta ma) : CorrT K W (fun σ H Q => ta σ H fun x H' => ∃ k, TruV K x H' k ∧ Q k H') (tV ma) := by
  intro E σ G H Q er s post
  refine ha.then er s (postT_iff.mp post) fun p v G1 H1 g1 rv post => ?_
  obtain ⟨z, hz, k⟩ := of_some post
  exact ⟨z, tru_rep g1.sub rv hz, k G1 H1 g1⟩
theorem corr_andT (ha : CorrE K W ta ma) (hb : CorrE K W tb mb) : CorrE K W (tAndT K ta tb) (eAnd ma mb) := by
  intro E σ G H Q er s post
  refine ha.then er s (postE_iff.mp post) fun p v G1 H1 g1 rv post => ?_
  obtain ⟨z, hz, post⟩ := of_some post.bind
  refine ⟨z, tru_rep g1.sub rv hz, ?_⟩
  cases z with
  | true => exact iteT (hb E σ G1 H1 Q (er.mono g1) g1.sub (postE_iff.mpr (post.imp fun p _ h v G' H' g r => h v G' H' (g1.trans g) r)))
  | false => exact iteF (post v G1 H1 g1 rv)
theorem corr_orT (ha : CorrE K W ta ma) (hb : CorrE K W tb mb) : CorrE K W (tOrT K ta tb) (eOr ma mb) := by
  intro E σ G H Q er s post
  refine ha.then er s (postE_iff.mp post) fun p v G1 H1 g1 rv post => ?_
  obtain ⟨z, hz, post⟩ := of_some post.bind
  refine ⟨z, tru_rep g1.sub rv hz, ?_⟩
  cases z with
  | false => exact iteF (hb E σ G1 H1 Q (er.mono g1) g1.sub (postE_iff.mpr (post.imp fun p _ h v G' H' g r => h v G' H' (g1.trans g) r)))
  | true => exact iteT (post v G1 H1 g1 rv)
theorem corr_notT (ha : CorrE K W ta ma) : CorrE K W (tNotT K ta) (eNot ma) := by
  intro E σ G H Q er s post
  refine ha.then er s (postE_iff.mp post) fun p v G1 H1 g1 rv post => ?_
  obtain ⟨z, hz, post⟩ := of_some post.bind
  exact ⟨z, tru_rep g1.sub rv hz, post _ G1 H1 g1 (.bl _)⟩
theorem corr_chain {r r' : R2} {f f' : PV → PV → Option PV} (hr : RelOp K r f) (hr' : RelOp K r' f') (ha : CorrE K W ta ma) (hb : CorrE K W tb mb) (hc : CorrE K W tc mc) : CorrE K W (tChain r r' ta tb tc) (eCh f f' ma mb mc) := by
  intro E σ G H Q er s post
  refine ha.then er s (postE_iff.mp post) fun p v G1 H1 g1 rv post => ?_
  refine hb.then (er.mono g1) g1.sub post fun q u G2 H2 g2 ru post => ?_
  obtain ⟨z, hz, post⟩ := of_some post.bind
  refine hr v u p q z G2 H2 _ g2.sub (rv.mono g2.eG) ru hz fun w G3 H3 g3 rw' => ?_
  cases rw' with
  | bl b =>
    refine ⟨b, rfl, ?_⟩
    cases b with
    | true =>
      refine iteT (hc.then (er.mono ((g1.trans g2).trans g3)) g3.sub (PostR.grow g3 post) fun o x G4 H4 g4 rx post => ?_)
      obtain ⟨z', hz', k⟩ := of_some post
      exact hr' u x q o z' G4 H4 Q g4.sub (ru.mono (g3.eG.trans g4.eG)) rx hz' fun w G' H' g r => k w G' H' (((g1.trans g2).trans (g3.trans g4)).trans g) r
    | false => exact iteF (post (.bl false) G3 H3 ((g1.trans g2).trans g3) (.bl false))
  | _ => exact post.elim
end
end Sm
set_option Elab.async false
set_option linter.all false
set_option maxRecDepth 100000
set_option maxHeartbeats 4000000
namespace Sm
open PySem PySem.Spec PyProof.Rows L2
open SX (S S_len S_inj S_tl S_cat)

theorem RelOp.or {K : PySem.W.Frag} {r r' : R2} {f g : PV → PV → Option PV} (h : RelOp K r f) (h' : RelOp K r' g) : RelOp K (fun x y H Q => r x y H Q ∨ r' x y H Q) (fun p q => (f p q).orElse fun _ => g p q) := by
  intro x y p q z G H Q s rx ry hz k
  dsimp only at hz
  cases e : f p q with
  | some w => rw [e] at hz; cases hz; exact .inl (h x y p q _ G H Q s rx ry e k)
  | none => rw [e] at hz; exact .inr (h' x y p q z G H Q s rx ry hz k)
theorem RelOp.orL {K : PySem.W.Frag} {r r' : R2} {f : PV → PV → Option PV} (h : RelOp K r f) : RelOp K (fun x y H Q => r x y H Q ∨ r' x y H Q) f := fun x y p q z G H Q s rx ry hz k => .inl (h x y p q z G H Q s rx ry hz k)

/-! ### numbers -/
def subP : PV → PV → Option PV
  | .int i, .int j => some (.int (i - j))
  | _, _ => none
def mulP : PV → PV → Option PV
  | .int i, .int j => if (-(2 ^ 64) < i ∧ i < 2 ^ 64) ∨ (-(2 ^ 64) < j ∧ j < 2 ^ 64) then some (.int (i * j)) else none
  | _, _ => none
def divP : PV → PV → Option PV
  | .int i, .int j => if 0 < j ∧ j < 1073741824 then some (.int (i / j)) else none
  | _, _ => none
def modP : PV → PV → Option PV
  | .int i, .int j => if 0 < j then some (.int (i % j)) else none
  | _, _ => none
def powP : PV → PV → Option PV
  | .int i, .int j => if 0 ≤ j ∧ j ≤ 1000000 ∧ i.natAbs < 2 ^ 64 then some (.int (i ^ j.toNat)) else none
  | _, _ => none
def negP : PV → Option PV
  | .int i => some (.int (-i))
  | _ => none
def ltP : PV → PV → Option PV
  | .int i, .int j => some (.bl (decide (i < j)))
  | _, _ => none
def leP : PV → PV → Option PV
  | .int i, .int j => some (.bl (decide (i ≤ j)))
  | _, _ => none
def gtP : PV → PV → Option PV
  | .int i, .int j => some (.bl (decide (j < i)))
  | _, _ => none
def geP : PV → PV → Option PV
  | .int i, .int j => some (.bl (decide (j ≤ i)))
  | _, _ => none
section
variable {K : PySem.W.Frag}
theorem rel_sub : RelOp K (rI0 fun i j => .int (i - j)) subP := by
  intro x y p q z G H Q s rx ry hz k
  cases rx <;> cases ry <;> simp only [subP] at hz <;> first | (cases hz; done) | skip
  cases hz; exact ⟨_, _, rfl, rfl, k _ G H (.refl s) (.int _)⟩
theorem rel_mul : RelOp K (rI CMul fun i j => .int (i * j)) mulP := by
  intro x y p q z G H Q s rx ry hz k
  cases rx <;> cases ry <;> simp only [mulP] at hz <;> first | (cases hz; done) | skip
  split at hz
  · rename_i c; cases hz; exact ⟨_, _, rfl, rfl, c, k _ G H (.refl s) (.int _)⟩
  · cases hz
theorem rel_div : RelOp K (rI CDiv fun i j => .int (i / j)) divP := by
  intro x y p q z G H Q s rx ry hz k
  cases rx <;> cases ry <;> simp only [divP] at hz <;> first | (cases hz; done) | skip
  split at hz
  · rename_i c; cases hz; exact ⟨_, _, rfl, rfl, c, k _ G H (.refl s) (.int _)⟩
  · cases hz
theorem rel_mod : RelOp K (rI (fun _ j => 0 < j) fun i j => .int (i % j)) modP := by
  intro x y p q z G H Q s rx ry hz k
  cases rx <;> cases ry <;> simp only [modP] at hz <;> first | (cases hz; done) | skip
  split at hz
  · rename_i c; cases hz; exact ⟨_, _, rfl, rfl, c, k _ G H (.refl s) (.int _)⟩
  · cases hz
theorem rel_pow : RelOp K (rI CPow fun i j => .int (i ^ j.toNat)) powP := by
  intro x y p q z G H Q s rx ry hz k
  cases rx <;> cases ry <;> simp only [powP] at hz <;> first | (cases hz; done) | skip
  split at hz
  · rename_i c; cases hz; exact ⟨_, _, rfl, rfl, c, k _ G H (.refl s) (.int _)⟩
  · cases hz
theorem rel_neg : RelU K (rU fun i => .int (-i)) negP := by
  intro x p z G H Q s rx hz k
  cases rx <;> simp only [negP] at hz <;> first | (cases hz; done) | skip
  cases hz; exact ⟨_, rfl, k _ G H (.refl s) (.int _)⟩
theorem rel_lt : RelOp K (rI0 fun i j => .bl (decide (i < j))) ltP := by
  intro x y p q z G H Q s rx ry hz k
  cases rx <;> cases ry <;> simp only [ltP] at hz <;> first | (cases hz; done) | skip
  cases hz; exact ⟨_, _, rfl, rfl, k _ G H (.refl s) (.bl _)⟩
theorem rel_le : RelOp K (rI0 fun i j => .bl (decide (i ≤ j))) leP := by
  intro x y p q z G H Q s rx ry hz k
  cases rx <;> cases ry <;> simp only [leP] at hz <;> first | (cases hz; done) | skip
  cases hz; exact ⟨_, _, rfl, rfl, k _ G H (.refl s) (.bl _)⟩
theorem rel_gt : RelOp K (rI0 fun i j => .bl (decide (j < i))) gtP := by
  intro x y p q z G H Q s rx ry hz k
  cases rx <;> cases ry <;> simp only [gtP] at hz <;> first | (cases hz; done) | skip
  cases hz; exact ⟨_, _, rfl, rfl, k _ G H (.refl s) (.bl _)⟩
theorem rel_ge : RelOp K (rI0 fun i j => .bl (decide (j ≤ i))) geP := by
  intro x y p q z G H Q s rx ry hz k
  cases rx <;> cases ry <;> simp only [geP] at hz <;> first | (cases hz; done) | skip
  cases hz; exact ⟨_, _, rfl, rfl, k _ G H (.refl s) (.bl _)⟩

/-! ### + -/
def addP : PV → PV → Option PV
  | .int i, .int j => some (.int (i + j))
  | .str a, .str b => if (a ++ b).length < bnd then some (.str (a ++ b)) else none
  | .tup a, .tup b => if (a ++ b).length ≤ bnd then some (.tup (a ++ b)) else none
  | .lst a, .lst b => if (a ++ b).length ≤ bnd then some (.lst (a ++ b)) else none
  | _, _ => none
def rAddS : R2 := fun x y H Q => ∃ i j, x = .str i ∧ y = .str j ∧ i.length + j.length ≤ sizeLine ∧ Q (.str (i ++ j)) H
def rAddA (K : PySem.W.Frag) : R2 := fun x y H Q => rI0 (fun i j => .int (i + j)) x y H Q ∨ (rAddS x y H Q ∨ (rCatA K x y H Q ∨ rCat x y H Q))
theorem op_addA {X : Cx} : OpR X (binaryOp .Add) (rAddA X.K) := op_add.or (op_add_str.or (op_catA.or op_cat))
theorem okS_app {a b : List Nat} (ha : okS a = true) (hb : okS b = true) (h : (a ++ b).length < bnd) : okS (a ++ b) = true :=
  okS_of h (by rw [List.all_append, okS_asc ha, okS_asc hb]; rfl)
theorem rel_add : RelOp K (rAddA K) addP := by
  intro x y p q z G H Q s rx ry hz k
  cases rx <;> cases ry <;> simp only [addP] at hz <;> first | (cases hz; done) | skip
  case int.int i j => cases hz; exact .inl ⟨_, _, rfl, rfl, k _ G H (.refl s) (.int _)⟩
  case str.str a ha b hb =>
    split at hz
    · rename_i c; cases hz
      refine .inr (.inl ⟨_, _, rfl, rfl, ?_, ?_⟩)
      · rw [S_len, S_len, ← List.length_append]; exact bnd_line (Nat.le_of_lt c)
      · rw [S_cat]; exact k _ G H (.refl s) (.str _ (okS_app ha hb c))
    · cases hz
  case tup.tup a vs ps h1 r1 hl1 b ws qs h2 r2 hl2 =>
    split at hz
    · rename_i c; cases hz
      have l1 := r1.length
      have l2 := r2.length
      refine .inr (.inr (.inl ⟨a, b, vs, ws, rfl, rfl, s.sqt h1, s.sqt h2, ?_, fun e => ?_, fun _ e => ?_, fun _ _ p' hp => ?_⟩))
      · rw [l1, l2, ← List.length_append]; exact bnd_line c
      · subst e; cases r1; exact k _ G H (.refl s) (.tup h2 r2 hl2)
      · subst e; cases r2; exact k _ G H (.refl s) (.tup h1 (by rw [List.append_nil]; exact r1) c)
      · have g := Grow.alloc s hp (.tup (vs ++ ws))
        exact k _ _ _ g (.tup (.inl (.inl upd_same)) ((r1.append r2).mono g.eG) c)
    · cases hz
  case lst.lst a vs ps h1 r1 hl1 b ws qs h2 r2 hl2 =>
    split at hz
    · rename_i c; cases hz
      refine .inr (.inr (.inr ⟨a, b, vs, ws, rfl, rfl, s _ _ h1, s _ _ h2, ?_, fun p' hp => ?_⟩))
      · rw [r1.length, r2.length, ← List.length_append]; exact bnd_line c
      · have g := Grow.alloc s hp (.lst (vs ++ ws))
        exact k _ _ _ g (.lst upd_same ((r1.append r2).mono g.eG) c)
    · cases hz

/-! ### == -/
mutual
def eqb : PV → PV → Bool
  | .non, .non => true
  | .bl a, .bl b => a == b
  | .bl a, .int j => (if a then 1 else 0) == j
  | .int i, .bl b => i == (if b then 1 else 0)
  | .int i, .int j => i == j
  | .str x, .str y => x == y
  | .lst xs, .lst ys => eqbs xs ys
  | .tup xs, .tup ys => eqbs xs ys
  | _, _ => false
def eqbs : List PV → List PV → Bool
  | [], [] => true
  | x :: xs, y :: ys => eqb x y && eqbs xs ys
  | _, _ => false
end
mutual
def toD : PV → PyData
  | .non => .none
  | .bl b => .bool b
  | .int i => .int i
  | .str x => .str (S x)
  | .lst xs => .list (toDs xs)
  | .tup xs => .tuple (toDs xs)
  | .dct _ => .none
  | .scr _ => .none
def toDs : List PV → List PyData
  | [] => []
  | x :: xs => toD x :: toDs xs
end
mutual
/-- no dict within -/
def data : PV → Bool
  | .lst xs => datas xs
  | .tup xs => datas xs
  | .dct _ => false
  | .scr _ => false
  | _ => true
def datas : List PV → Bool
  | [] => true
  | x :: xs => data x && datas xs
end
mutual
def dep : PV → Nat
  | .lst xs => deps xs + 1
  | .tup xs => deps xs + 1
  | _ => 0
def deps : List PV → Nat
  | [] => 0
  | x :: xs => max (dep x) (deps xs)
end
def eqOk (p : PV) : Bool := data p && decide (dep p ≤ 64)
def eqP (p q : PV) : Option PV := if (eqOk p && eqOk q) = true then some (.bl (eqb p q)) else none
def neP (p q : PV) : Option PV := if (eqOk p && eqOk q) = true then some (.bl (!eqb p q)) else none
mutual
theorem eqv_toD : ∀ p q : PV, data p = true → data q = true → PyData.eqv (toD p) (toD q) = eqb p q
  | p, q, hp, hq => by
    cases p <;> cases q <;> simp [data] at hp hq <;> simp only [toD, PyData.eqv, eqb, SX.S_beq]
    case tup.tup xs ys => exact eqvAll_toDs xs ys hp hq
    case lst.lst xs ys => exact eqvAll_toDs xs ys hp hq
theorem eqvAll_toDs : ∀ xs ys : List PV, datas xs = true → datas ys = true → PyData.eqvAll (toDs xs) (toDs ys) = eqbs xs ys
  | [], [], _, _ => rfl
  | x :: xs, y :: ys, hp, hq => by
    simp only [datas, Bool.and_eq_true] at hp hq
    simp only [toDs, PyData.eqvAll, eqbs, eqv_toD x y hp.1 hq.1, eqvAll_toDs xs ys hp.2 hq.2]
  | [], _ :: _, _, _ => rfl
  | _ :: _, [], _, _ => rfl
end
mutual
theorem depth_toD : ∀ p : PV, data p = true → (toD p).depth = dep p
  | p, hp => by
    cases p <;> simp [data] at hp <;> simp only [toD, PyData.depth, dep]
    case tup xs => rw [depthAll_toDs xs hp]
    case lst xs => rw [depthAll_toDs xs hp]
theorem depthAll_toDs : ∀ xs : List PV, datas xs = true → PyData.depthAll (toDs xs) = deps xs
  | [], _ => rfl
  | x :: xs, hp => by
    simp only [datas, Bool.and_eq_true] at hp
    simp only [toDs, PyData.depthAll, deps, depth_toD x hp.1, depthAll_toDs xs hp.2]
end
theorem strOk_S {x : List Nat} (h : okS x = true) : PyData.strOk (S x) = true := by
  unfold PyData.strOk
  rw [← Array.all_toList]
  exact List.all_eq_true.mpr fun c hc => by
    have := List.all_eq_true.mp (okS_asc h) c hc
    simp at this ⊢
    omega
mutual
theorem dp_rep {G H : Hp} (s : Ex G H) : ∀ (p : PV) (v : V), Rep K G v p → data p = true → Dp K H v (toD p) ∧ (toD p).canLay0 = true
  | .non, _, r, _ => by cases r; exact ⟨.non, rfl⟩
  | .bl b, _, r, _ => by cases r; exact ⟨.bl b, rfl⟩
  | .int i, _, r, _ => by cases r; exact ⟨.int i, rfl⟩
  | .str x, _, r, _ => by
    cases r with
    | str _ h => exact ⟨.str _, by simp only [toD, PyData.canLay0]; exact strOk_S h⟩
  | .lst xs, _, r, d => by
    cases r with
    | lst h r' hl =>
      obtain ⟨q1, q2⟩ := dps_rep s xs _ r' (by simpa [data] using d)
      exact ⟨.lst (SqL.of (s _ _ h)) q1, by simpa only [toD, PyData.canLay0] using q2⟩
  | .tup xs, _, r, d => by
    cases r with
    | tup h r' hl =>
      obtain ⟨q1, q2⟩ := dps_rep s xs _ r' (by simpa [data] using d)
      exact ⟨.tup (s.sqt h) q1, by simpa only [toD, PyData.canLay0] using q2⟩
  | .dct _, _, _, d => by simp [data] at d
  | .scr _, _, _, d => by simp [data] at d
theorem dps_rep {G H : Hp} (s : Ex G H) : ∀ (ps : List PV) (vs : List V), Reps K G vs ps → datas ps = true → DpAll K H vs (toDs ps) ∧ PyData.canLayAll0 (toDs ps) = true
  | [], _, r, _ => by cases r; exact ⟨.nil, rfl⟩
  | p :: ps, _, r, d => by
    cases r with
    | cons h r' =>
      simp only [datas, Bool.and_eq_true] at d
      obtain ⟨a1, a2⟩ := dp_rep s p _ h d.1
      obtain ⟨b1, b2⟩ := dps_rep s ps _ r' d.2
      exact ⟨.cons a1 b1, by simp only [toDs, PyData.canLayAll0, a2, b2]; rfl⟩
end
theorem shaped_rep {G H : Hp} (s : Ex G H) {p : PV} {v : V} (r : Rep K G v p) (h : eqOk p = true) : Dp K H v (toD p) ∧ SeqAt.shaped (toD p) = true ∧ data p = true := by
  obtain ⟨d, e⟩ := Bool.and_eq_true_iff.mp h
  obtain ⟨q1, q2⟩ := dp_rep s p v r d
  refine ⟨q1, ?_, d⟩
  unfold SeqAt.shaped
  rw [q2, depth_toD p d, e]; rfl
theorem rel_eq : RelOp K (rEqD K) eqP := by
  intro x y p q z G H Q s rx ry hz k
  unfold eqP at hz
  split at hz
  · rename_i c; cases hz
    obtain ⟨c1, c2⟩ := Bool.and_eq_true_iff.mp c
    obtain ⟨d1, s1, t1⟩ := shaped_rep s rx c1
    obtain ⟨d2, s2, t2⟩ := shaped_rep s ry c2
    refine ⟨_, _, d1, d2, s1, s2, ?_⟩
    rw [eqv_toD p q t1 t2]
    exact k _ G H (.refl s) (.bl _)
  · cases hz
theorem rel_ne : RelOp K (rNeD K) neP := by
  intro x y p q z G H Q s rx ry hz k
  unfold neP at hz
  split at hz
  · rename_i c; cases hz
    obtain ⟨c1, c2⟩ := Bool.and_eq_true_iff.mp c
    obtain ⟨d1, s1, t1⟩ := shaped_rep s rx c1
    obtain ⟨d2, s2, t2⟩ := shaped_rep s ry c2
    refine ⟨_, _, d1, d2, s1, s2, ?_⟩
    rw [eqv_toD p q t1 t2]
    exact k _ G H (.refl s) (.bl _)
  · cases hz

/-! ### is -/
def isP : PV → PV → Option PV
  | .non, .non => some (.bl true)
  | _, .non => some (.bl false)
  | .bl a, .bl b => some (.bl (a == b))
  | _, _ => none
def isnP : PV → PV → Option PV
  | .non, .non => some (.bl false)
  | _, .non => some (.bl true)
  | .bl a, .bl b => some (.bl (!(a == b)))
  | _, _ => none
def rIsA : R2 := fun x y H Q => (y = .non ∧ Q (.bl (decide (x = .non))) H) ∨ rIsB x y H Q
def rIsnA : R2 := fun x y H Q => (y = .non ∧ Q (.bl (!decide (x = .non))) H) ∨ rNotB x y H Q
theorem op_isA {X : Cx} : OpR X (compareOp .Is) rIsA := OpR.or op_isN op_isBl
theorem op_isnA {X : Cx} : OpR X (compareOp .IsNot) rIsnA := OpR.or op_notN op_notBl
theorem dec_beq (a b : Bool) : (a == b) = decide (a = b) := by cases a <;> cases b <;> rfl
theorem rel_is : RelOp K rIsA isP := by
  intro x y p q z G H Q s rx ry hz k
  cases ry <;> cases rx <;> simp only [isP] at hz <;> first | (cases hz; done) | skip
  all_goals cases hz
  all_goals first
    | exact .inl ⟨rfl, by simpa using k _ G H (.refl s) (.bl _)⟩
    | exact .inr ⟨_, _, rfl, rfl, by rw [← dec_beq]; exact k _ G H (.refl s) (.bl _)⟩
theorem rel_isn : RelOp K rIsnA isnP := by
  intro x y p q z G H Q s rx ry hz k
  cases ry <;> cases rx <;> simp only [isnP] at hz <;> first | (cases hz; done) | skip
  all_goals cases hz
  all_goals first
    | exact .inl ⟨rfl, by simpa using k _ G H (.refl s) (.bl _)⟩
    | exact .inr ⟨_, _, rfl, rfl, by rw [← dec_beq]; exact k _ G H (.refl s) (.bl _)⟩
end
end Sm
set_option Elab.async false
set_option linter.all false
set_option maxRecDepth 100000
set_option maxHeartbeats 4000000
namespace Sm
open PySem PySem.Spec PyProof.Rows L2
open SX (S S_len S_inj S_tl S_cat)

/-! ### in -/
/-- y stands somewhere in the text -/
def infx (y : List Nat) : List Nat → Bool
  | [] => y.isEmpty
  | c :: r => y.isPrefixOf (c :: r) || infx y r
theorem infx_iff {y : List Nat} : ∀ {x : List Nat}, infx y x = true ↔ ∃ i, i ≤ x.length ∧ y.isPrefixOf (x.drop i) = true
  | [] => by
    constructor
    · intro h; exact ⟨0, Nat.le_refl _, by cases y <;> simp_all [infx]⟩
    · rintro ⟨i, _, h⟩; cases y <;> simp_all [infx]
  | c :: r => by
    simp only [infx, Bool.or_eq_true, infx_iff (x := r)]
    constructor
    · rintro (h | ⟨i, h1, h2⟩)
      · exact ⟨0, Nat.zero_le _, h⟩
      · exact ⟨i + 1, by simp; omega, h2⟩
    · rintro ⟨i, h1, h2⟩
      cases i with
      | zero => exact .inl h2
      | succ i => exact .inr ⟨i, by simp at h1; omega, h2⟩
theorem pre_prefix (y l : List Nat) : TL.pre y l = y.isPrefixOf l := by
  unfold TL.pre
  by_cases h : y <+: l
  · rw [List.isPrefixOf_iff_prefix.mpr h]
    obtain ⟨t, rfl⟩ := h
    simp
  · have e : y.isPrefixOf l = false := by
      cases q : y.isPrefixOf l
      · rfl
      · exact absurd (List.isPrefixOf_iff_prefix.mp q) h
    rw [e]
    cases q : l.take y.length == y
    · rfl
    · exact absurd ⟨l.drop y.length, by have e2 := eq_of_beq q; have e3 := List.take_append_drop y.length l; rw [e2] at e3; exact e3⟩ h
theorem occ_infx {x y : List Nat} (hy : y ≠ []) : (!(Builtin.Str.occurrences (S x) (S y) 0 (S x).length 1).isEmpty) = infx y x := by
  have key : (!(Builtin.Str.occurrences (S x) (S y) 0 (S x).length 1).isEmpty) = true ↔ infx y x = true := by
    rw [StrLaws.found_iff, infx_iff]
    constructor
    · rintro ⟨i, h1, h2⟩
      have q := (TL.at_iff (x := S x) (y := S y) hy i).mp ⟨h1, h2⟩
      rw [pre_prefix] at q
      exact ⟨i, by rw [S_len, S_len] at h1; omega, q⟩
    · rintro ⟨i, h1, h2⟩
      have q := (TL.at_iff (x := S x) (y := S y) hy i).mpr (by rw [pre_prefix]; exact h2)
      exact ⟨i, q.1, q.2⟩
  cases h1 : (!(Builtin.Str.occurrences (S x) (S y) 0 (S x).length 1).isEmpty) <;> cases h2 : infx y x <;> simp_all
/-- flat things -/
def flat : PV → Bool
  | .non => true
  | .bl _ => true
  | .int _ => true
  | .str _ => true
  | _ => false
def keyOf : PV → Option KP
  | .int i => some (.i i)
  | .str s => some (.s s)
  | _ => none
def hasK (kps : List (KP × PV)) (k : KP) : Bool := kps.any fun q => q.1 == k
def getK (kps : List (KP × PV)) (k : KP) : Option PV := (kps.find? fun q => q.1 == k).map (·.2)
def inB : PV → PV → Option Bool
  | .str a, .str b => if a.isEmpty then none else some (infx a b)
  | p, .tup xs => if flat p && xs.all flat then some (xs.any fun q => eqb q p) else none
  | p, .lst xs => if flat p && xs.all flat then some (xs.any fun q => eqb q p) else none
  | p, .dct kps => (keyOf p).map fun k => (getK kps k).isSome
  | _, _ => none
def inP (p q : PV) : Option PV := (inB p q).map .bl
def ninP (p q : PV) : Option PV := (inB p q).map fun b => .bl (!b)
def rInS (neg : Bool) : R2 := fun x y H Q => ∃ i j, x = .str i ∧ y = .str j ∧ Q (.bl (if neg then (!(!(Builtin.Str.occurrences j i 0 j.length 1).isEmpty)) else (!(Builtin.Str.occurrences j i 0 j.length 1).isEmpty))) H
def rInD (neg : Bool) : R2 := fun x y H Q => ∃ a o, y = .ref a ∧ DGet H a x o ∧ Q (.bl (if neg then !o.isSome else o.isSome)) H
def rInA (K : PySem.W.Frag) (neg : Bool) : R2 := fun x y H Q => rInS neg x y H Q ∨ (rIn K neg x y H Q ∨ rInD neg x y H Q)
theorem op_inD {X : Cx} (hu : X.A.units + 1 < cLine) : OpR X (compareOp .In) (rInD false) := by
  intro pins s σ H x y v u Q I rx ry h
  obtain ⟨a, o, rfl, g, q⟩ := h
  cases (show u = Value.ref a from ry)
  exact d_in hu I g rx fun s' I' => ⟨.bl _, H, I', rfl, q⟩
theorem op_ninD {X : Cx} (hu : X.A.units + 1 < cLine) : OpR X (compareOp .NotIn) (rInD true) := by
  intro pins s σ H x y v u Q I rx ry h
  obtain ⟨a, o, rfl, g, q⟩ := h
  cases (show u = Value.ref a from ry)
  exact d_notIn hu I g rx fun s' I' => ⟨.bl _, H, I', rfl, q⟩
theorem op_inA {X : Cx} (hu : X.A.units + 1 < cLine) : OpR X (compareOp .In) (rInA X.K false) := OpR.or op_in_str (OpR.or op_in_seq (op_inD hu))
theorem op_ninA {X : Cx} (hu : X.A.units + 1 < cLine) : OpR X (compareOp .NotIn) (rInA X.K true) := OpR.or op_notin_str (OpR.or op_notIn_seq (op_ninD hu))
section
variable {K : PySem.W.Frag} {G H : Hp}
theorem flat_rep {v : V} {p : PV} (r : Rep K G v p) (h : flat p = true) : flatV v = true := by
  cases r <;> first | rfl | cases h
theorem eqV_rep {v w : V} {p q : PV} (r : Rep K G v p) (r' : Rep K G w q) (h : flat p = true) (h' : flat q = true) : eqV v w = eqb p q := by
  cases r <;> cases r' <;> first | (cases h; done) | (cases h'; done) | simp [eqV, eqb, SX.S_beq]
theorem flats_rep : ∀ {vs : List V} {ps : List PV}, Reps K G vs ps → ps.all flat = true → vs.all flatV = true
  | _, _, .nil, _ => rfl
  | _, _, .cons h r, a => by
    rw [List.all_cons, Bool.and_eq_true] at a ⊢
    exact ⟨flat_rep h a.1, flats_rep r a.2⟩
theorem inV_rep {v : V} {p : PV} (rp : Rep K G v p) (hp : flat p = true) : ∀ {vs : List V} {ps : List PV}, Reps K G vs ps → ps.all flat = true → inV v vs = ps.any fun q => eqb q p
  | _, _, .nil, _ => rfl
  | _, _, .cons h r, a => by
    rw [List.all_cons, Bool.and_eq_true] at a
    show (eqV _ v || inV v _) = _
    rw [List.any_cons, eqV_rep h rp a.1 hp, inV_rep rp hp r a.2]
theorem rep_key {v : V} {p : PV} {k : KP} (r : Rep K G v p) (h : keyOf p = some k) : v = kV (kk k) := by
  cases r <;> simp [keyOf] at h <;> subst h <;> rfl
theorem getK_rep {k : KP} : ∀ {kvs : List (Key × V)} {kps : List (KP × PV)}, kvs.map (·.1) = kps.map (fun q => kk q.1) → Reps K G (kvs.map (·.2)) (kps.map (·.2)) →
    (∃ v p, valV kvs (kk k) = some v ∧ getK kps k = some p ∧ Rep K G v p) ∨ (valV kvs (kk k) = none ∧ getK kps k = none)
  | [], [], _, _ => .inr ⟨rfl, rfl⟩
  | (a, v) :: kvs, (b, p) :: kps, h, r => by
    simp only [List.map_cons, List.cons.injEq] at h
    obtain ⟨h1, h2⟩ := h
    cases r with
    | cons rv r' =>
      by_cases e : b = k
      · subst e
        refine .inl ⟨v, p, valV_pos (by simpa using h1), by simp [getK], rv⟩
      · have e' : ¬ a = kk k := fun z => e (kk_inj (by rw [← h1, z]))
        rcases getK_rep (k := k) h2 r' with ⟨w, q, q1, q2, q3⟩ | ⟨q1, q2⟩
        · refine .inl ⟨w, q, by rw [valV_neg (by simpa using e')]; exact q1, ?_, q3⟩
          simpa [getK, List.find?_cons, e] using q2
        · refine .inr ⟨by rw [valV_neg (by simpa using e')]; exact q1, ?_⟩
          simpa [getK, List.find?_cons, e] using q2
  | [], _ :: _, h, _ => by simp at h
  | _ :: _, [], h, _ => by simp at h
theorem getK_some {k : KP} {kvs : List (Key × V)} {kps : List (KP × PV)} (h : kvs.map (·.1) = kps.map (fun q => kk q.1)) (r : Reps K G (kvs.map (·.2)) (kps.map (·.2))) : (valV kvs (kk k)).isSome = (getK kps k).isSome := by
  rcases getK_rep (k := k) h r with ⟨_, _, q1, q2, _⟩ | ⟨q1, q2⟩ <;> rw [q1, q2] <;> rfl
theorem rel_inB {x y : V} {p q : PV} {b : Bool} (s : Ex G H) (rx : Rep K G x p) (ry : Rep K G y q) (hz : inB p q = some b) (neg : Bool) {Q : VK} (k : Q (.bl (if neg then !b else b)) H) : rInA K neg x y H Q := by
  cases ry with
  | str c hc =>
    cases rx with
    | str a ha =>
      simp only [inB] at hz
      split at hz
      · cases hz
      · rename_i hne
        cases hz
        refine .inl ⟨_, _, rfl, rfl, ?_⟩
        rw [occ_infx (by rintro rfl; exact hne rfl)]
        exact k
    | _ => simp [inB] at hz
  | @tup a vs ps h r hl =>
    have hz' : (if flat p && ps.all flat then some (ps.any fun q => eqb q p) else none) = some b := by
      cases rx <;> simpa only [inB] using hz
    split at hz'
    · rename_i c; cases hz'
      obtain ⟨c1, c2⟩ := Bool.and_eq_true_iff.mp c
      refine .inr (.inl ⟨a, vs, rfl, .inr (s.sqt h), flat_rep rx c1, flats_rep r c2, ?_⟩)
      rw [inV_rep rx c1 r c2]
      exact k
    · cases hz'
  | @lst a vs ps h r hl =>
    have hz' : (if flat p && ps.all flat then some (ps.any fun q => eqb q p) else none) = some b := by
      cases rx <;> simpa only [inB] using hz
    split at hz'
    · rename_i c; cases hz'
      obtain ⟨c1, c2⟩ := Bool.and_eq_true_iff.mp c
      refine .inr (.inl ⟨a, vs, rfl, .inl (SqL.of (s _ _ h)), flat_rep rx c1, flats_rep r c2, ?_⟩)
      rw [inV_rep rx c1 r c2]
      exact k
    · cases hz'
  | @dct a kvs kps h hk r hl =>
    have hz' : (keyOf p).map (fun k => (getK kps k).isSome) = some b := by
      cases rx <;> simpa only [inB] using hz
    cases e : keyOf p with
    | none => rw [e] at hz'; cases hz'
    | some kx =>
      rw [e] at hz'
      cases hz'
      have ex := rep_key rx e
      subst ex
      refine .inr (.inr ⟨a, _, rfl, DGet.k (s _ _ h), ?_⟩)
      rw [getK_some hk r]
      exact k
  | _ => cases rx <;> simp [inB] at hz
theorem rel_in : RelOp K (rInA K false) inP := by
  intro x y p q z G H Q s rx ry hz k
  unfold inP at hz
  obtain ⟨b, hb, rfl⟩ := Option.map_eq_some_iff.mp hz
  exact rel_inB s rx ry hb false (k _ G H (.refl s) (.bl _))
theorem rel_nin : RelOp K (rInA K true) ninP := by
  intro x y p q z G H Q s rx ry hz k
  unfold ninP at hz
  obtain ⟨b, hb, rfl⟩ := Option.map_eq_some_iff.mp hz
  exact rel_inB s rx ry hb true (k _ G H (.refl s) (.bl _))
end

/-! ### a[i] -/
def ixP : PV → PV → Option PV
  | .lst xs, .int i => atI xs i
  | .tup xs, .int i => atI xs i
  | .str s, .int i => (atI s i).map fun c => .str [c]
  | .scr ns, .int i => (atI ns i).map .int
  | .dct kps, .int i => getK kps (.i i)
  | .dct kps, .str s => getK kps (.s s)
  | _, _ => none
theorem Reps.atI {K : PySem.W.Frag} {G : Hp} {vs : List V} {ps : List PV} {i : Int} {p : PV} (r : Reps K G vs ps) (h : atI ps i = some p) : ∃ v, L2.atI vs i = some v ∧ Rep K G v p := by
  unfold L2.atI at h ⊢
  rw [r.length]
  cases e : ixN ps.length i with
  | none => rw [e] at h; cases h
  | some j =>
    rw [e] at h
    obtain ⟨v, h1, h2⟩ := r.get (i := j) h
    exact ⟨v, h1, h2⟩
theorem ix_dict {X : Cx} (hu : X.A.units + 1 < cLine) : IxR X (fun x y H Q => ∃ a v, x = .ref a ∧ DGet H a y (some v) ∧ Q v H) := by
  intro value slice pins s σ H x y v u Q I rx ry h hs
  obtain ⟨a, w, rfl, g, q⟩ := h
  cases (show v = Value.ref a from rx)
  exact PyProof.Rows.tail_any (dict_typeIs I g) PySem.F.slot_dict_getitem.lookup (d_getItem hu I g ry fun w' s' I' rw' => ⟨w, H, I', rw', q⟩) hs
def rIxA (K : PySem.W.Frag) : R2 := fun x y H Q => rIx K x y H Q ∨ (∃ a v, x = .ref a ∧ DGet H a y (some v) ∧ Q v H)
theorem ix_A {X : Cx} (hu : X.A.units + 1 < cLine) : IxR X (rIxA X.K) := ix_seq.or (ix_dict hu)
theorem okS_one {s : List Nat} (h : okS s = true) {c : Nat} (hc : c ∈ s) : okS [c] = true := by
  refine okS_of (by show 1 < bnd; decide) ?_
  have := List.all_eq_true.mp (okS_asc h) c hc
  simpa using this
theorem mem_atI {α : Type} {xs : List α} {i : Int} {c : α} (h : atI xs i = some c) : c ∈ xs := by
  obtain ⟨j, _, h2, _⟩ := atI_get h
  exact List.mem_of_getElem? h2
theorem rel_ix {K : PySem.W.Frag} : RelOp K (rIxA K) ixP := by
  intro x y p q z G H Q s rx ry hz k
  cases rx <;> cases ry <;> simp only [ixP] at hz <;> first | (cases hz; done) | skip
  case str.int a ha i =>
    obtain ⟨c, hc, rfl⟩ := Option.map_eq_some_iff.mp hz
    refine .inl (.inr (.inr ⟨_, i, c, rfl, rfl, ?_, hc, k _ G H (.refl s) (.str [c] (okS_one ha (mem_atI hc)))⟩))
    rw [S_len]; exact bnd_line (okS_len ha)
  case tup.int a vs ps h r hl i =>
    obtain ⟨v, h1, h2⟩ := r.atI hz
    exact .inl (.inr (.inl ⟨a, vs, i, v, rfl, rfl, s.sqt h, h1, k v G H (.refl s) h2⟩))
  case lst.int a vs ps h r hl i =>
    obtain ⟨v, h1, h2⟩ := r.atI hz
    exact .inl (.inl ⟨a, vs, i, v, rfl, rfl, SqL.of (s _ _ h), h1, k v G H (.refl s) h2⟩)
  case scr.int a ns h hl i =>
    obtain ⟨n, hn, rfl⟩ := Option.map_eq_some_iff.mp hz
    refine .inl (.inl ⟨a, _, i, .int n, rfl, rfl, s.sql h, ?_, k _ G H (.refl s) (.int n)⟩)
    unfold L2.atI at hn ⊢
    rw [List.length_map]
    cases e : ixN ns.length i with
    | none => rw [e] at hn; cases hn
    | some j =>
      rw [e] at hn
      show (ns.map V.int)[j]? = _
      rw [List.getElem?_map, show ns[j]? = some n from hn]; rfl
  case dct.int a kvs kps h hk r hl i =>
    rcases getK_rep (k := .i i) hk r with ⟨v, p, q1, q2, q3⟩ | ⟨q1, q2⟩
    · rw [q2] at hz; cases hz
      exact .inr ⟨a, v, rfl, by rw [← q1]; exact DGet.k (k := kk (.i i)) (s _ _ h), k v G H (.refl s) q3⟩
    · rw [q2] at hz; cases hz
  case dct.str a kvs kps h hk r hl x hx =>
    rcases getK_rep (k := .s x) hk r with ⟨v, p, q1, q2, q3⟩ | ⟨q1, q2⟩
    · rw [q2] at hz; cases hz
      exact .inr ⟨a, v, rfl, by rw [← q1]; exact DGet.k (k := kk (.s x)) (s _ _ h), k v G H (.refl s) q3⟩
    · rw [q2] at hz; cases hz
end Sm
set_option Elab.async false
set_option linter.all false
set_option maxRecDepth 100000
set_option maxHeartbeats 4000000
namespace Sm
open PySem PySem.Spec PyProof.Rows L2
open SX (S S_len S_inj S_tl S_cat)

/-! ### a[i:j] -/
def cut {α : Type} (xs : List α) (lo hi : Option Int) : List α := (xs.drop (HT.sIx xs.length 0 lo)).take (HT.sIx xs.length xs.length hi - HT.sIx xs.length 0 lo)
theorem cut_len {α : Type} (xs : List α) (lo hi : Option Int) : (cut xs lo hi).length ≤ xs.length := by
  unfold cut; rw [List.length_take, List.length_drop]; omega
theorem cut_mem {α : Type} {xs : List α} {lo hi : Option Int} {x : α} (h : x ∈ cut xs lo hi) : x ∈ xs := List.mem_of_mem_drop (List.mem_of_mem_take h)
theorem okS_sub {a b : List Nat} (h : okS a = true) (hl : b.length ≤ a.length) (hm : ∀ c ∈ b, c ∈ a) : okS b = true :=
  okS_of (Nat.lt_of_le_of_lt hl (okS_lt1 h)) (List.all_eq_true.mpr fun c hc => List.all_eq_true.mp (okS_asc h) c (hm c hc))
def slP (lo hi : Option Int) : PV → Option PV
  | .str s => some (.str (cut s lo hi))
  | .lst xs => some (.lst (cut xs lo hi))
  | .tup xs => some (.tup (cut xs lo hi))
  | _ => none
def rSlA3 (K : PySem.W.Frag) : V → Option Int → Option Int → Hp → VK → Prop := fun x lo hi H Q => rSlS x lo hi H Q ∨ (rSlA K x lo hi H Q ∨ rSlL K x lo hi H Q)
theorem sl_A {X : Cx} : SlR X (rSlA3 X.K) := sl_str.or (sl_tupA.or sl_list)
section
variable {K : PySem.W.Frag} {G H : Hp}
theorem cutS_S (z : List Nat) (lo hi : Option Int) : cutS (S z) lo hi = S (cut z lo hi) := by
  unfold cutS cut; rw [S_len]
theorem Reps.cut {vs : List V} {ps : List PV} (r : Reps K G vs ps) (lo hi : Option Int) : Reps K G (cutV vs lo hi) (Sm.cut ps lo hi) := by
  unfold cutV Sm.cut; rw [r.length]; exact (r.drop _).take _
theorem rel_sl {lo hi : Option Int} {x : V} {p z : PV} {Q : VK} (s : Ex G H) (rx : Rep K G x p) (hz : slP lo hi p = some z) (k : ∀ v G' H', Grow G H G' H' → Rep K G' v z → Q v H') : rSlA3 K x lo hi H Q := by
  cases rx <;> simp only [slP] at hz <;> first | (cases hz; done) | skip
  case str a ha =>
    cases hz
    refine .inl ⟨_, rfl, by rw [S_len]; exact bnd_line (okS_len ha), ?_⟩
    rw [cutS_S]
    exact k _ G H (.refl s) (.str _ (okS_sub ha (cut_len _ _ _) fun c hc => cut_mem hc))
  case tup a vs ps h r hl =>
    cases hz
    refine .inr (.inl ⟨a, vs, rfl, s.sqt h, fun hw => ?_, fun hw p hp => ?_⟩)
    · have e : Sm.cut ps lo hi = ps := by
        rw [r.length] at hw
        unfold Sm.cut; rw [hw.1, hw.2, List.drop_zero, Nat.sub_zero, List.take_length]
      rw [e] at k
      exact k _ G H (.refl s) (.tup h r hl)
    · have g := Grow.alloc s hp (.tup (cutV vs lo hi))
      exact k _ _ _ g (.tup (.inl (.inl upd_same)) ((r.cut lo hi).mono g.eG) (Nat.le_trans (cut_len _ _ _) hl))
  case lst a vs ps h r hl =>
    cases hz
    refine .inr (.inr ⟨a, vs, rfl, SqL.of (s _ _ h), fun p hp => ?_⟩)
    have g := Grow.alloc s hp (.lst (cutV vs lo hi))
    exact k _ _ _ g (.lst upd_same ((r.cut lo hi).mono g.eG) (Nat.le_trans (cut_len _ _ _) hl))
end
/-- a slice's part -/
structure SO (X : Cx) (W : WX) (e : Option Expr) (m : En → R (Option Int)) : Prop where
  ex : ∃ t, PO X e t ∧ ∀ E σ G H (Q : Option Int → Hp → Prop), ER X.K E σ G H → Ex G H → PostR X.K W σ G H (fun o => ∀ G' H', Grow G H G' H' → Q o H') (m E) → t σ H Q
def oN : En → R (Option Int) := fun _ => .ok none
def asI : PV → Option (Option Int)
  | .int i => some (some i)
  | _ => none
def oS (a : En → R PV) : En → R (Option Int) := fun E => (a E).bind fun p => R.of (asI p)
def eSl (a : En → R PV) (lo hi : En → R (Option Int)) : En → R PV := fun E => (a E).bind fun p => (lo E).bind fun l => (hi E).bind fun u => R.of (slP l u p)
section
variable {X : Cx} {W : WX} {e a b c : Expr} {es : List Expr} {lo hi : Option Expr} {ma mb mc : En → R PV} {ml mh : En → R (Option Int)} {mes : En → R (List PV)} {mt mu : En → R Bool} {pos p2 : Pos}
theorem so_none : SO X W none oN := ⟨_, po_none, fun E σ G H Q er s post => post G H (.refl s)⟩
theorem so_some (h : SE X W e ma) : SO X W (some e) (oS ma) := by
  obtain ⟨t, h1, h2⟩ := h.ex
  refine ⟨_, po_some h1, fun E σ G H Q er s post => ?_⟩
  refine h2.then er s post fun p v G1 H1 g1 rv post => ?_
  obtain ⟨z, hz, k⟩ := of_some post
  cases rv <;> simp only [asI] at hz <;> first | (cases hz; done) | skip
  cases hz; exact ⟨_, rfl, k G1 H1 g1⟩
theorem se_slice (he : SE X W e ma) (hl : SO X W lo ml) (hu : SO X W hi mh) : SE X W (.Subscript e (.Slice lo hi none p2) pos) (eSl ma ml mh) := by
  obtain ⟨t, h1, h2⟩ := he.ex
  obtain ⟨tl, h3, h4⟩ := hl.ex
  obtain ⟨th, h5, h6⟩ := hu.ex
  refine ⟨_, pe_slice sl_A h1 h3 h5, fun E σ G H Q er s post => ?_⟩
  refine h2.then er s (postE_iff.mp post) fun p v G1 H1 g1 rv post => ?_
  refine h4 E σ G1 H1 _ (er.mono g1) g1.sub (post.bind.imp fun l _ post G2 H2 g2 => ?_)
  have post := PostR.grow g2 post
  refine h6 E σ G2 H2 _ (er.mono (g1.trans g2)) g2.sub (post.bind.imp fun u _ post G3 H3 g3 => ?_)
  have post := PostR.grow g3 post
  obtain ⟨z, hz, k⟩ := of_some post
  exact rel_sl g3.sub (rv.mono (g2.eG.trans g3.eG)) hz fun w G' H' g r => k w G' H' (((g1.trans g2).trans g3).trans g) r

/-! ### the words for expressions -/
theorem se_var {i : Nat} {x : Str} (hN : X.N[i]? = some x) (hv : Vis X.env.scope x) (hd : (x == ("__debug__" : Str)) = false := by decide) (hcd : (x == ("__classdict__" : Str)) = false := by decide) : SE X W (.Name x pos) (ev i) := ⟨_, pe_var hN hv hd hcd, corr_var⟩
theorem se_int {i : Int} {j : Nat} : SE X W (.Constant (.int i) j pos) (ec (.int i)) := ⟨_, pe_int, corr_c fun _ => .int i⟩
theorem se_bl {b : Bool} {j : Nat} : SE X W (.Constant (.bool b) j pos) (ec (.bl b)) := ⟨_, pe_bl, corr_c fun _ => .bl b⟩
theorem se_non {j : Nat} : SE X W (.Constant .none j pos) (ec .non) := ⟨_, pe_non, corr_c fun _ => .non⟩
theorem se_str {x : Str} {s : List Nat} {j : Nat} (e : x = S s) (h : okS s = true) : SE X W (.Constant (.str x) j pos) (ec (.str s)) := by
  subst e; exact ⟨_, pe_str, corr_c fun _ => .str s h⟩
/-- a module's constant -/
theorem se_glob {x : Str} {v : V} {u : Value} {p : PV} (hg : Gl X x) (hm : X.mg x = some u) (r : RelV v u) (h : ∀ G, Rep X.K G v p) (hd : (x == ("__debug__" : Str)) = false := by decide) : SE X W (.Name x pos) (ec p) := ⟨_, pe_glob hg hm r hd, corr_c h⟩
theorem se_op {op : Operator} {r : R2} {f : PV → PV → Option PV} (ho : OpR X (binaryOp op) r) (hr : RelOp X.K r f) (ha : SE X W a ma) (hb : SE X W b mb) : SE X W (.BinOp a op b pos) (e2 f ma mb) := by
  obtain ⟨ta, a1, a2⟩ := ha.ex
  obtain ⟨tb, b1, b2⟩ := hb.ex
  exact ⟨_, pe_op ho a1 b1, corr_op hr a2 b2⟩
theorem se_add (ha : SE X W a ma) (hb : SE X W b mb) : SE X W (.BinOp a .Add b pos) (e2 addP ma mb) := se_op op_addA rel_add ha hb
theorem se_sub (ha : SE X W a ma) (hb : SE X W b mb) : SE X W (.BinOp a .Sub b pos) (e2 subP ma mb) := se_op op_sub rel_sub ha hb
theorem se_mul (ha : SE X W a ma) (hb : SE X W b mb) : SE X W (.BinOp a .Mult b pos) (e2 mulP ma mb) := se_op op_mul rel_mul ha hb
theorem se_div (ha : SE X W a ma) (hb : SE X W b mb) : SE X W (.BinOp a .FloorDiv b pos) (e2 divP ma mb) := se_op op_fdiv rel_div ha hb
theorem se_mod (ha : SE X W a ma) (hb : SE X W b mb) : SE X W (.BinOp a .Mod b pos) (e2 modP ma mb) := se_op op_mod rel_mod ha hb
theorem se_pow (ha : SE X W a ma) (hb : SE X W b mb) : SE X W (.BinOp a .Pow b pos) (e2 powP ma mb) := se_op op_pow rel_pow ha hb
theorem se_neg (ha : SE X W a ma) : SE X W (.UnaryOp .USub a pos) (e1 negP ma) := by
  obtain ⟨ta, a1, a2⟩ := ha.ex
  exact ⟨_, pe_un un_neg a1, corr_un rel_neg a2⟩
theorem se_ix (hu : X.A.units + 1 < cLine) (ha : SE X W a ma) (hb : SE X W b mb) (hs : PlainIx b := by exact fun _ _ => rfl) : SE X W (.Subscript a b pos) (e2 ixP ma mb) := by
  obtain ⟨ta, a1, a2⟩ := ha.ex
  obtain ⟨tb, b1, b2⟩ := hb.ex
  exact ⟨_, pe_ix (ix_A hu) a1 b1 hs, corr_op rel_ix a2 b2⟩
/-- a comparison -/
structure CP (X : Cx) (op : CmpOp) (f : PV → PV → Option PV) : Prop where
  ex : ∃ r, OpR X (compareOp op) r ∧ RelOp X.K r f
theorem cp_eq (hu : X.A.units + 64 < cLine) : CP X .Eq eqP := ⟨_, op_eqD hu, rel_eq⟩
theorem cp_ne (hu : X.A.units + 64 < cLine) : CP X .NotEq neP := ⟨_, op_neD hu, rel_ne⟩
theorem cp_lt : CP X .Lt ltP := ⟨_, op_lt, rel_lt⟩
theorem cp_le : CP X .LtE leP := ⟨_, op_le, rel_le⟩
theorem cp_gt : CP X .Gt gtP := ⟨_, op_gt, rel_gt⟩
theorem cp_ge : CP X .GtE geP := ⟨_, op_ge, rel_ge⟩
theorem cp_in (hu : X.A.units + 1 < cLine) : CP X .In inP := ⟨_, op_inA hu, rel_in⟩
theorem cp_nin (hu : X.A.units + 1 < cLine) : CP X .NotIn ninP := ⟨_, op_ninA hu, rel_nin⟩
theorem cp_is : CP X .Is isP := ⟨_, op_isA, rel_is⟩
theorem cp_isn : CP X .IsNot isnP := ⟨_, op_isnA, rel_isn⟩
theorem se_cmp {op : CmpOp} {f : PV → PV → Option PV} (c : CP X op f) (ha : SE X W a ma) (hb : SE X W b mb) (hm : behindInMarks op b = false) : SE X W (.Compare a [op] [b] pos) (e2 f ma mb) := by
  obtain ⟨r, o1, o2⟩ := c.ex
  obtain ⟨ta, a1, a2⟩ := ha.ex
  obtain ⟨tb, b1, b2⟩ := hb.ex
  exact ⟨_, pe_cmpR o1 a1 b1 hm, corr_op o2 a2 b2⟩
theorem se_chain {op op' : CmpOp} {f g : PV → PV → Option PV} (cp : CP X op f) (cq : CP X op' g) (ha : SE X W a ma) (hb : SE X W b mb) (hc : SE X W c mc) (hm : lastMarks [op, op'] [b, c] = false := by with_unfolding_all rfl) :
    SE X W (.Compare a [op, op'] [b, c] pos) (eCh f g ma mb mc) := by
  obtain ⟨r, o1, o2⟩ := cp.ex
  obtain ⟨r', o3, o4⟩ := cq.ex
  obtain ⟨ta, a1, a2⟩ := ha.ex
  obtain ⟨tb, b1, b2⟩ := hb.ex
  obtain ⟨tc, c1, c2⟩ := hc.ex
  exact ⟨_, pe_chain o1 o3 a1 b1 c1 hm, corr_chain o2 o4 a2 b2 c2⟩
theorem se_ifExp (ht : ST X W c mt) (ha : SE X W a ma) (hb : SE X W b mb) : SE X W (.IfExp c a b pos) (eIf mt ma mb) := by
  obtain ⟨tt, t1, t2⟩ := ht.ex
  obtain ⟨ta, a1, a2⟩ := ha.ex
  obtain ⟨tb, b1, b2⟩ := hb.ex
  exact ⟨_, pe_ifExp t1 a1 b1, corr_if t2 a2 b2⟩
theorem se_one {op : BoolOp} (h : SE X W a ma) : SE X W (.BoolOp op [a] pos) ma := by
  obtain ⟨ta, a1, a2⟩ := h.ex
  exact ⟨_, pe_one a1, a2⟩
theorem se_and (ha : SE X W a ma) (hb : SE X W (.BoolOp .And (b :: es) pos) mb) : SE X W (.BoolOp .And (a :: b :: es) pos) (eAnd ma mb) := by
  obtain ⟨ta, a1, a2⟩ := ha.ex
  obtain ⟨tb, b1, b2⟩ := hb.ex
  exact ⟨_, pe_andT a1 b1, corr_andT a2 b2⟩
theorem se_or (ha : SE X W a ma) (hb : SE X W (.BoolOp .Or (b :: es) pos) mb) : SE X W (.BoolOp .Or (a :: b :: es) pos) (eOr ma mb) := by
  obtain ⟨ta, a1, a2⟩ := ha.ex
  obtain ⟨tb, b1, b2⟩ := hb.ex
  exact ⟨_, pe_orT a1 b1, corr_orT a2 b2⟩
theorem se_not (ha : SE X W a ma) : SE X W (.UnaryOp .Not a pos) (eNot ma) := by
  obtain ⟨ta, a1, a2⟩ := ha.ex
  exact ⟨_, pe_notT a1, corr_notT a2⟩
/-! ### tests -/
theorem st_cmp {op : CmpOp} {f : PV → PV → Option PV} (c : CP X op f) (ha : SE X W a ma) (hb : SE X W b mb) (hm : behindInMarks op b = false) : ST X W (.Compare a [op] [b] pos) (tE (e2 f ma mb)) := by
  obtain ⟨r, o1, o2⟩ := c.ex
  obtain ⟨ta, a1, a2⟩ := ha.ex
  obtain ⟨tb, b1, b2⟩ := hb.ex
  exact ⟨_, pt_cmpR o1 a1 b1 hm, corr_test (corr_op o2 a2 b2)⟩
theorem st_chain {op op' : CmpOp} {f g : PV → PV → Option PV} (cp : CP X op f) (cq : CP X op' g) (ha : SE X W a ma) (hb : SE X W b mb) (hc : SE X W c mc) (hm : lastMarks [op, op'] [b, c] = false := by with_unfolding_all rfl) :
    ST X W (.Compare a [op, op'] [b, c] pos) (tE (eCh f g ma mb mc)) := by
  obtain ⟨r, o1, o2⟩ := cp.ex
  obtain ⟨r', o3, o4⟩ := cq.ex
  obtain ⟨ta, a1, a2⟩ := ha.ex
  obtain ⟨tb, b1, b2⟩ := hb.ex
  obtain ⟨tc, c1, c2⟩ := hc.ex
  exact ⟨_, pt_chain o1 o3 a1 b1 c1 hm, corr_test (corr_chain o2 o4 a2 b2 c2)⟩
theorem st_truth (ha : SE X W a ma) (he : ∀ whole, isTrue a X.env whole = (do let v ← whole; standAt a.pos; holding [v] (truthy v)) := by intro _; rfl) : ST X W a (tV ma) := by
  obtain ⟨ta, a1, a2⟩ := ha.ex
  exact ⟨_, pt_truth a1 he, corr_truth a2⟩
theorem st_not (ha : ST X W a mt) : ST X W (.UnaryOp .Not a pos) (tN mt) := by
  obtain ⟨ta, a1, a2⟩ := ha.ex
  exact ⟨_, pt_not a1, corr_not a2⟩
theorem st_of (ha : SW X W a mt) : ST X W a mt := by
  obtain ⟨ta, a1, a2⟩ := ha.ex
  exact ⟨_, a1.pt, a2⟩
theorem sw_and1 (ha : ST X W a mt) : SW X W (.BoolOp .And [a] pos) mt := by
  obtain ⟨ta, a1, a2⟩ := ha.ex
  exact ⟨_, pw_and1 a1, a2⟩
theorem sw_or1 (ha : ST X W a mt) : SW X W (.BoolOp .Or [a] pos) mt := by
  obtain ⟨ta, a1, a2⟩ := ha.ex
  exact ⟨_, pw_or1 a1, a2⟩
theorem sw_and (ha : ST X W a mt) (hb : SW X W (.BoolOp .And (b :: es) pos) mu) : SW X W (.BoolOp .And (a :: b :: es) pos) (tA mt mu) := by
  obtain ⟨ta, a1, a2⟩ := ha.ex
  obtain ⟨tb, b1, b2⟩ := hb.ex
  exact ⟨_, pw_and a1 b1, corr_and a2 b2⟩
theorem sw_or (ha : ST X W a mt) (hb : SW X W (.BoolOp .Or (b :: es) pos) mu) : SW X W (.BoolOp .Or (a :: b :: es) pos) (tO mt mu) := by
  obtain ⟨ta, a1, a2⟩ := ha.ex
  obtain ⟨tb, b1, b2⟩ := hb.ex
  exact ⟨_, pw_or a1 b1, corr_or a2 b2⟩
/-! ### arguments, displays -/
theorem sa_nil : SA X W [] aN := ⟨_, pa_nil, corr_nil⟩
theorem sa_cons (ha : SE X W e ma) (hr : SA X W es mes) (hs : starEach (e :: es) X.env = (false, eval e X.env) :: starEach es X.env := by rfl) : SA X W (e :: es) (aC ma mes) := by
  obtain ⟨ta, a1, a2⟩ := ha.ex
  obtain ⟨tr, r1, r2⟩ := hr.ex
  exact ⟨_, pa_cons a1 r1 hs, corr_cons a2 r2⟩
def tupP (ps : List PV) : Option PV := if ps.length ≤ bnd then some (.tup ps) else none
def lstP (ps : List PV) : Option PV := if ps.length ≤ bnd then some (.lst ps) else none
theorem se_tup {k : Nat} (h : SA X W es mes) : SE X W (.Tuple es k pos) (eA tupP mes) := by
  obtain ⟨t, a1, a2⟩ := h.ex
  refine ⟨_, pe_tup a1, fun E σ G H Q er s post => ?_⟩
  refine a2.then er s (postE_iff.mp post) fun ps vs G1 H1 g1 rvs post => ?_
  obtain ⟨z, hz, k⟩ := of_some post
  unfold tupP at hz
  split at hz
  · rename_i c; cases hz
    refine ⟨by rw [rvs.length]; exact bnd_line c, fun p hp => ?_⟩
    have g := Grow.alloc g1.sub hp (.tup vs)
    exact k _ _ _ (g1.trans g) (.tup (.inl (.inl upd_same)) (rvs.mono g.eG) c)
  · cases hz
end
end Sm
set_option Elab.async false
set_option linter.all false
set_option maxRecDepth 100000
set_option maxHeartbeats 4000000
namespace Sm
open PySem PySem.Spec PyProof.Rows L2
open SX (S S_len S_inj S_tl S_cat)

/-! ### new lists -/
def CorrL (K : PySem.W.Frag) (W : WX) (t : TE) (m : En → R PV) : Prop :=
  ∀ E σ G H (Q : VK), ER K E σ G H → Ex G H → PostR K W σ G H (fun p => ∀ a G' H', Grow G H G' H' → H a = none → G' a = none → Cell K G' H' a p → Q (.ref a) H') (m E) → t σ H Q
/-- an expression that makes a new list or dict -/
structure SL (X : Cx) (W : WX) (e : Expr) (m : En → R PV) : Prop where
  ex : ∃ t, PE X e t ∧ CorrL X.K W t m
/-- a thing apart becomes shared -/
theorem Grow.share {G H G' H' : Hp} {a : Addr} {o : HO} (g : Grow G H G' H') (h0 : H a = none) (h1 : G' a = none) (h : H' a = some o) : Grow G H (upd G' a o) H' := by
  refine ⟨g.eH, g.eG.trans (ex_new h1), fun b u e => ?_, fun b q => ?_⟩
  · by_cases z : b = a
    · subst z; rw [upd_same] at e; rw [h, ← e]
    · rw [upd_ne z] at e; exact g.sub b u e
  · by_cases z : b = a
    · subst z; exact .inr h0
    · rw [upd_ne z] at q; exact g.new b q
theorem Cell.share {K : PySem.W.Frag} {G H : Hp} {a : Addr} {p : PV} (c : Cell K G H a p) (h1 : G a = none) : ∃ o, H a = some o ∧ Rep K (upd G a o) (.ref a) p := by
  cases c with
  | @lst vs ps h r hl => exact ⟨_, h, .lst upd_same (r.mono (ex_new h1)) hl⟩
  | @dct kvs kps h hk r hl => exact ⟨_, h, .dct upd_same hk (r.mono (ex_new h1)) hl⟩
theorem CorrL.e {K : PySem.W.Frag} {W : WX} {t : TE} {m : En → R PV} (h : CorrL K W t m) : CorrE K W t m := by
  intro E σ G H Q er s post
  refine h E σ G H Q er s ((postE_iff.mp post).imp fun p _ k a G' H' g h0 h1 c => ?_)
  obtain ⟨o, ho, r⟩ := c.share h1
  exact k _ _ _ (g.share h0 h1 ho) r
theorem SL.e {X : Cx} {W : WX} {e : Expr} {m : En → R PV} (h : SL X W e m) : SE X W e m := by
  obtain ⟨t, h1, h2⟩ := h.ex
  exact ⟨t, h1, h2.e⟩
section
variable {X : Cx} {W : WX} {e a b c : Expr} {es : List Expr} {ma mb mc : En → R PV} {mes : En → R (List PV)} {mt mu : En → R Bool} {pos p2 p apos cpos : Pos}
theorem sl_list' (h : SA X W es mes) : SL X W (.List es pos) (eA lstP mes) := by
  obtain ⟨t, a1, a2⟩ := h.ex
  refine ⟨_, pe_lst a1, fun E σ G H Q er s post => ?_⟩
  refine a2.then er s post fun ps vs G1 H1 g1 rvs post => ?_
  obtain ⟨z, hz, k⟩ := of_some post
  unfold lstP at hz
  split at hz
  · rename_i c; cases hz
    refine ⟨by rw [rvs.length]; exact bnd_line c, fun p hp => ?_⟩
    have g := Grow.apart g1.sub hp (.lst vs)
    exact k p _ _ (g1.trans g) (g1.eH.free hp) (g1.sub.free hp) (.lst upd_same rvs c)
  · cases hz

/-! ### built-ins by their names -/
theorem se_callB {x : Str} {id : String} {r : List V → Hp → VK → Prop} {f : List PV → Option PV} (hc : CallR X (.builtin id) r) (hr : RelN X.K r f) (hg : Gl X x) (hm : X.mg x = none) (hv : bootBuiltins x = some (.builtin id)) (ha : SA X W (e :: es) mes) (hn : x ≠ "__name__" := by decide) (hdb : (x == ("__debug__" : Str)) = false := by decide)
    (he : starEach (e :: es) X.env = (false, eval e X.env) :: starEach es X.env := by rfl) (hpl : (backTo pos (starEach es X.env)).any (·.1) = false := by rfl) : SE X W (.Call (.Name x p) (e :: es) [] pos) (eA f mes) := by
  obtain ⟨t, a1, a2⟩ := ha.ex
  exact ⟨_, pe_callB hc hg hm hv a1 hn hdb he hpl, corr_cb hr a2⟩
theorem se_callT {x : Str} {T : String} {r : List V → Hp → VK → Prop} {f : List PV → Option PV} (hc : CallR X (.type T) r) (hr : RelN X.K r f) (hg : Gl X x) (hm : X.mg x = none) (hv : bootBuiltins x = some (.type T)) (ha : SA X W (e :: es) mes) (hn : x ≠ "__name__" := by decide) (hdb : (x == ("__debug__" : Str)) = false := by decide)
    (he : starEach (e :: es) X.env = (false, eval e X.env) :: starEach es X.env := by rfl) (hpl : (backTo pos (starEach es X.env)).any (·.1) = false := by rfl) : SE X W (.Call (.Name x p) (e :: es) [] pos) (eA f mes) := by
  obtain ⟨t, a1, a2⟩ := ha.ex
  exact ⟨_, pe_callTy hc hg hm hv a1 hn hdb he hpl, corr_cb hr a2⟩
end
def lenP : List PV → Option PV
  | [.str s] => some (.int s.length)
  | [.tup xs] => some (.int xs.length)
  | [.lst xs] => some (.int xs.length)
  | [.scr ns] => some (.int ns.length)
  | _ => none
theorem Reps.one' {K : PySem.W.Frag} {G : Hp} {vs : List V} {p : PV} (r : Reps K G vs [p]) : ∃ v, vs = [v] ∧ Rep K G v p := by
  cases r with
  | cons h r' => cases r'; exact ⟨_, rfl, h⟩
theorem rel_len {K : PySem.W.Frag} : RelN K (fun xs H Q => ∃ x n, xs = [x] ∧ LenV K x H n ∧ Q (.int n) H) lenP := by
  intro xs ps z G H Q s r hz k
  match ps, hz with
  | [p], hz =>
    obtain ⟨v, rfl, rv⟩ := r.one'
    cases rv <;> simp only [lenP] at hz <;> first | (cases hz; done) | skip
    case str a ha => cases hz; exact ⟨_, a.length, rfl, ⟨by rw [S_len]; exact bnd_line (okS_len ha), (S_len a).symm⟩, k _ G H (.refl s) (.int _)⟩
    case tup a vs qs h r' hl => cases hz; exact ⟨_, qs.length, rfl, .inr ⟨_, s.sqt h, r'.length.symm⟩, k _ G H (.refl s) (.int _)⟩
    case lst a vs qs h r' hl => cases hz; exact ⟨_, qs.length, rfl, .inl ⟨_, SqL.of (s _ _ h), r'.length.symm⟩, k _ G H (.refl s) (.int _)⟩
    case scr a ns h hl => cases hz; exact ⟨_, ns.length, rfl, .inl ⟨_, s.sql h, by rw [List.length_map]⟩, k _ G H (.refl s) (.int _)⟩
  | [], hz => cases hz
  | p :: q :: r', hz => simp [lenP] at hz
theorem sumL_map (ns : List Int) : True := trivial
/-- the ints of a list -/
def intsOf : List PV → Option (List Int)
  | [] => some []
  | .int i :: r => (intsOf r).map (i :: ·)
  | _ :: _ => none
theorem intsOf_rep {K : PySem.W.Frag} {G : Hp} : ∀ {vs : List V} {ps : List PV} {ns : List Int}, Reps K G vs ps → intsOf ps = some ns → vs = ns.map V.int
  | _, _, _, .nil, h => by cases h; rfl
  | _, _, ns, .cons rv r, h => by
    cases rv <;> simp only [intsOf] at h <;> first | (cases h; done) | skip
    obtain ⟨ms, hm, rfl⟩ := Option.map_eq_some_iff.mp h
    rw [intsOf_rep r hm]; rfl
def sumP : List PV → Option PV
  | [.lst xs] => (intsOf xs).map fun ns => .int ns.sum
  | _ => none
theorem rel_sum {K : PySem.W.Frag} : RelN K (rSum K) sumP := by
  intro xs ps z G H Q s r hz k
  match ps, hz with
  | [p], hz =>
    obtain ⟨v, rfl, rv⟩ := r.one'
    cases rv <;> simp only [sumP] at hz <;> first | (cases hz; done) | skip
    case lst a vs qs h r' hl =>
      obtain ⟨ns, hn, rfl⟩ := Option.map_eq_some_iff.mp hz
      have e := intsOf_rep r' hn
      subst e
      exact ⟨a, ns, rfl, SqL.of (s _ _ h), k _ G H (.refl s) (.int _)⟩
  | [], hz => cases hz
  | p :: q :: r', hz => simp [sumP] at hz
def maxL : List Int → Int
  | [] => 0
  | [a] => a
  | a :: r => max a (maxL r)
theorem maxL_mem : ∀ {l : List Int}, l ≠ [] → maxL l ∈ l
  | [], h => absurd rfl h
  | [a], _ => by simp [maxL]
  | a :: b :: r, _ => by
    have ih := maxL_mem (l := b :: r) (by simp)
    show max a (maxL (b :: r)) ∈ _
    rcases Int.le_total a (maxL (b :: r)) with h | h
    · rw [Int.max_eq_right h]; exact List.mem_cons_of_mem _ ih
    · rw [Int.max_eq_left h]; exact List.mem_cons_self
theorem maxL_le : ∀ {l : List Int} {y : Int}, y ∈ l → y ≤ maxL l
  | [a], y, h => by simp at h; subst h; exact Int.le_refl _
  | a :: b :: r, y, h => by
    show y ≤ max a (maxL (b :: r))
    rcases List.mem_cons.mp h with rfl | h
    · exact Int.le_max_left _ _
    · exact Int.le_trans (maxL_le h) (Int.le_max_right _ _)
def maxP : List PV → Option PV
  | [.lst xs] => (intsOf xs).bind fun ns => if ns.length = 0 then none else some (.int (maxL ns))
  | [.int i, .int j] => some (.int (if j > i then j else i))
  | _ => none
theorem cr_maxA {X : Cx} (hc : X.calm = true) : CallR X (.builtin "max") (fun xs H Q => rMax X.K xs H Q ∨ (∃ i j, xs = [.int i, .int j] ∧ Q (.int (if j > i then j else i)) H)) := (cr_max hc).or (call_max2 hc)
theorem rel_max {K : PySem.W.Frag} : RelN K (fun xs H Q => rMax K xs H Q ∨ (∃ i j, xs = [.int i, .int j] ∧ Q (.int (if j > i then j else i)) H)) maxP := by
  intro xs ps z G H Q s r hz k
  match ps, hz with
  | [p], hz =>
    obtain ⟨v, rfl, rv⟩ := r.one'
    cases rv <;> simp only [maxP] at hz <;> first | (cases hz; done) | skip
    case lst a vs qs h r' hl =>
      obtain ⟨ns, hn, hz⟩ := Option.bind_eq_some_iff.mp hz
      split at hz
      · cases hz
      · rename_i c; cases hz
        have e := intsOf_rep r' hn
        subst e
        refine .inl ⟨a, ns, rfl, SqL.of (s _ _ h), by omega, fun m hm hle => ?_⟩
        have e : m = maxL ns := Int.le_antisymm (maxL_le hm) (hle _ (maxL_mem (by rintro rfl; exact c rfl)))
        subst e
        exact k _ G H (.refl s) (.int _)
  | [p, q], hz =>
    cases r with
    | cons r1 r' =>
      obtain ⟨v, rfl, r2⟩ := r'.one'
      cases r1 <;> cases r2 <;> simp only [maxP] at hz <;> first | (cases hz; done) | skip
      cases hz; exact .inr ⟨_, _, rfl, k _ G H (.refl s) (.int _)⟩
  | [], hz => cases hz
  | p :: q :: o :: r', hz => simp [maxP] at hz
/-- the number that figures write -/
def figs (s : List Nat) : Bool := !s.isEmpty && s.all fun c => decide (48 ≤ c) && decide (c ≤ 57)
def numS (s : List Nat) : Option Int := if s.length ≤ 600 then (if figs s then some (NumText.digitsVal s : Int) else match s with
  | 45 :: r => if figs r then some (-(NumText.digitsVal r : Int)) else none
  | _ => none) else none
def intP : List PV → Option PV
  | [.int i] => some (.int i)
  | [.bl b] => some (.int (if b then 1 else 0))
  | [.str s] => (numS s).map .int
  | _ => none
theorem figs_all {s : List Nat} (h : figs s = true) : NumText.AllDigits s ∧ s ≠ [] := by
  unfold figs at h
  rw [Bool.and_eq_true] at h
  refine ⟨fun c hc => ?_, fun e => by subst e; simp at h⟩
  have z := List.all_eq_true.mp h.2 c hc
  rw [Bool.and_eq_true, decide_eq_true_eq, decide_eq_true_eq] at z
  exact z
theorem numS_int {s : List Nat} {n : Int} (h : numS s = some n) : intText? (S s) = some n ∧ (S s).length ≤ 640 := by
  unfold numS at h
  split at h
  · rename_i hl
    refine ⟨?_, by rw [S_len]; omega⟩
    split at h
    · rename_i c
      cases h
      exact intText_digits (x := S s) (figs_all c).1 (figs_all c).2 (by rw [S_len]; omega)
    · split at h
      · rename_i r _
        split at h
        · rename_i c
          cases h
          exact intText_neg (x := S (45 :: r)) rfl (figs_all c).1 (figs_all c).2 (by rw [S_len]; omega)
        · cases h
      · cases h
  · cases h
def rIntA : List V → Hp → VK → Prop := fun xs H Q => ((∃ i, xs = [.int i] ∧ Q (.int i) H) ∨ ∃ k, xs = [.bl k] ∧ Q (.int (if k then 1 else 0)) H) ∨ (∃ a n, xs = [.str a] ∧ PySem.intText? a = some n ∧ a.length ≤ 640 ∧ Q (.int n) H)
theorem cr_int {X : Cx} : CallR X (.type "int") rIntA := call_int1.or call_int_str
theorem rel_int {K : PySem.W.Frag} : RelN K rIntA intP := by
  intro xs ps z G H Q s r hz k
  match ps, hz with
  | [p], hz =>
    obtain ⟨v, rfl, rv⟩ := r.one'
    cases rv <;> simp only [intP] at hz <;> first | (cases hz; done) | skip
    case bl b => cases hz; exact .inl (.inr ⟨_, rfl, k _ G H (.refl s) (.int _)⟩)
    case int i => cases hz; exact .inl (.inl ⟨_, rfl, k _ G H (.refl s) (.int _)⟩)
    case str a ha =>
      obtain ⟨n, hn, rfl⟩ := Option.map_eq_some_iff.mp hz
      obtain ⟨q1, q2⟩ := numS_int hn
      exact .inr ⟨_, n, rfl, q1, q2, k _ G H (.refl s) (.int _)⟩
  | [], hz => cases hz
  | p :: q :: r', hz => simp [intP] at hz
/-! ### tuple, list -/
def tupOf : List PV → Option PV
  | [.lst xs] => some (.tup xs)
  | [.tup xs] => some (.tup xs)
  | [.str s] => some (.tup (s.map fun c => .str [c]))
  | _ => none
def rTupS : List V → Hp → VK → Prop := fun xs H Q => ∃ z, xs = [.str z] ∧ z.length ≤ sizeLine ∧ ∀ p, H p = none → Q (.ref p) (upd H p (.tup (z.cps.toList.map fun c => .str ⟨#[c]⟩)))
theorem vals_signs {x : Str} {acc : Array Value} (h : ItemsOf (SignAt x) acc x.cps.size) : Vals (x.cps.toList.map fun c => V.str ⟨#[c]⟩) acc.toList := by
  refine vals_of_at ?_ fun j y u hy hu => ?_
  · rw [List.length_map, Array.length_toList, Array.length_toList]; exact h.1.symm
  · rw [List.getElem?_map] at hy
    cases e : x.cps.toList[j]? with
    | none => rw [e] at hy; cases hy
    | some c =>
      rw [e] at hy; cases hy
      have hj : j < x.cps.size := by
        have := (List.getElem?_eq_some_iff.mp e).1
        rwa [Array.length_toList] at this
      obtain ⟨c', t, h1, h2⟩ := h.2 j u (by rw [← Array.getElem?_toList]; exact hu)
      rw [Array.getElem?_toList] at e
      rw [e] at h1; cases h1
      exact ⟨t, h2⟩
theorem cr_tupS {X : Cx} (hc : X.calm = true) : CallR X (.type "tuple") rTupS := by
  intro pins s σ H xs us Q I r h
  obtain ⟨z, rfl, hz, q⟩ := h
  obtain ⟨u, rfl, rx⟩ := vals1 r
  obtain ⟨t, rfl⟩ := rx
  refine call_tuple_str (I.ok.hd hc) z t (fun h' tk acc hk hacc => ?_) hz
  have I1 : Inv X pins σ H { s with heap := h', toks := tk } := I.kept hk
  refine ⟨.ref h'.objs.size, _, I1.laid (t' := tk) (fun b o e => Heap.get?_push_of_some _ e) (Nat.le_refl _) (show ObjOk X.prog X.w _ _ _ (.tup _) from ⟨?_, acc.toList, vals_signs hacc, ⟨_, Heap.get?_push_size _ rfl, rfl, _, rfl⟩⟩), rfl, q _ (I1.hok.fresh (Nat.le_refl _))⟩
  rw [List.length_map, Array.length_toList]; exact hz
def rTupA (K : PySem.W.Frag) : List V → Hp → VK → Prop := fun xs H Q => (∃ p ys, xs = [.ref p] ∧ ((SqL K H p ys ∧ ∀ l, H l = none → Q (.ref l) (upd H l (.tup ys))) ∨ (SqT K H p ys ∧ Q (.ref p) H))) ∨ rTupS xs H Q
theorem cr_tup {X : Cx} (hc : X.calm = true) : CallR X (.type "tuple") (rTupA X.K) := call_tuple_of.or (cr_tupS hc)
theorem reps_signs {K : PySem.W.Frag} {G : Hp} : ∀ {s : List Nat}, (∀ c ∈ s, c < 128) → Reps K G (s.map fun c => V.str ⟨#[c]⟩) (s.map fun c => PV.str [c])
  | [], _ => .nil
  | c :: r, h => .cons (.str [c] (okS_of (by show 1 < bnd; decide) (by simpa using h c (by simp)))) (reps_signs fun d hd => h d (by simp [hd]))
theorem okS_lt {s : List Nat} (h : okS s = true) : ∀ c ∈ s, c < 128 := fun c hc => by simpa using List.all_eq_true.mp (okS_asc h) c hc
theorem rel_tup {K : PySem.W.Frag} : RelN K (rTupA K) tupOf := by
  intro xs ps z G H Q s r hz k
  match ps, hz with
  | [p], hz =>
    obtain ⟨v, rfl, rv⟩ := r.one'
    cases rv <;> simp only [tupOf] at hz <;> first | (cases hz; done) | skip
    case str a ha =>
      cases hz
      refine .inr ⟨_, rfl, by rw [S_len]; exact bnd_line (okS_len ha), fun p hp => ?_⟩
      have g := Grow.alloc s hp (.tup ((S a).cps.toList.map fun c => V.str ⟨#[c]⟩))
      exact k _ _ _ g (.tup (.inl (.inl upd_same)) (reps_signs (okS_lt ha)) (by rw [List.length_map]; exact okS_len ha))
    case tup a vs qs h r' hl => cases hz; exact .inl ⟨a, vs, rfl, .inr ⟨s.sqt h, k _ G H (.refl s) (.tup h r' hl)⟩⟩
    case lst a vs qs h r' hl =>
      cases hz
      refine .inl ⟨a, vs, rfl, .inl ⟨SqL.of (s _ _ h), fun p hp => ?_⟩⟩
      have g := Grow.alloc s hp (.tup vs)
      exact k _ _ _ g (.tup (.inl (.inl upd_same)) (r'.mono g.eG) hl)
  | [], hz => cases hz
  | p :: q :: r', hz => simp [tupOf] at hz
section
variable {X : Cx} {W : WX} {e : Expr} {es : List Expr} {mes : En → R (List PV)} {pos p : Pos}
theorem se_len (hg : Gl X "len") (hm : X.mg "len" = none) (ha : SA X W [e] mes) (he : starEach [e] X.env = [(false, eval e X.env)] := by rfl) : SE X W (.Call (.Name "len" p) [e] [] pos) (eA lenP mes) := se_callB call_len rel_len hg hm boot_len ha (he := he)
theorem se_sum (hc : X.calm = true) (hg : Gl X "sum") (hm : X.mg "sum" = none) (ha : SA X W [e] mes) (he : starEach [e] X.env = [(false, eval e X.env)] := by rfl) : SE X W (.Call (.Name "sum" p) [e] [] pos) (eA sumP mes) := se_callB (cr_sum hc) rel_sum hg hm (by decide +kernel) ha (he := he)
theorem se_max (hc : X.calm = true) (hg : Gl X "max") (hm : X.mg "max" = none) (ha : SA X W (e :: es) mes) (he : starEach (e :: es) X.env = (false, eval e X.env) :: starEach es X.env := by rfl) (hpl : (backTo pos (starEach es X.env)).any (·.1) = false := by rfl) : SE X W (.Call (.Name "max" p) (e :: es) [] pos) (eA maxP mes) := se_callB (cr_maxA hc) rel_max hg hm (by decide +kernel) ha (he := he) (hpl := hpl)
theorem se_intF (hg : Gl X "int") (hm : X.mg "int" = none) (ha : SA X W [e] mes) (he : starEach [e] X.env = [(false, eval e X.env)] := by rfl) : SE X W (.Call (.Name "int" p) [e] [] pos) (eA intP mes) := se_callT cr_int rel_int hg hm boot_int ha (he := he)
theorem se_tuple (hc : X.calm = true) (hg : Gl X "tuple") (hm : X.mg "tuple" = none) (ha : SA X W [e] mes) (he : starEach [e] X.env = [(false, eval e X.env)] := by rfl) : SE X W (.Call (.Name "tuple" p) [e] [] pos) (eA tupOf mes) := se_callT (cr_tup hc) rel_tup hg hm boot_tuple ha (he := he)
end
end Sm
set_option Elab.async false
set_option linter.all false
set_option maxRecDepth 100000
set_option maxHeartbeats 4000000
namespace Sm
open PySem PySem.Spec PyProof.Rows L2
open SX (S S_len S_inj S_tl S_cat)
open PySem.Builtin.Str (strSub)

/-! ### methods of texts -/
def eM (f : List Nat → List PV → Option PV) (a : En → R PV) (r : En → R (List PV)) : En → R PV := fun E => (a E).bind fun p => match p with
  | .str s => (r E).bind fun ps => R.of (f s ps)
  | _ => .stk
def RelM (K : PySem.W.Frag) (r : V → List V → Hp → VK → Prop) (f : List Nat → List PV → Option PV) : Prop :=
  ∀ s xs ps z G H Q, Ex G H → okS s = true → Reps K G xs ps → f s ps = some z → (∀ v G' H', Grow G H G' H' → Rep K G' v z → Q v H') → r (.str (S s)) xs H Q
/-- .. a new list -/
def RelML (K : PySem.W.Frag) (r : V → List V → Hp → VK → Prop) (f : List Nat → List PV → Option PV) : Prop :=
  ∀ s xs ps z G H (Q : VK), Ex G H → okS s = true → Reps K G xs ps → f s ps = some z → (∀ a G' H', Grow G H G' H' → H a = none → G' a = none → Cell K G' H' a z → Q (.ref a) H') → r (.str (S s)) xs H Q
section
variable {X : Cx} {W : WX} {o e : Expr} {es : List Expr} {mo : En → R PV} {mes : En → R (List PV)} {name : Str} {id : String} {r : V → List V → Hp → VK → Prop} {f : List Nat → List PV → Option PV} {apos cpos : Pos}
theorem se_meth (slot : Slot "str" name id) (hty : typeOf (.builtin id) = pure (.type "method_descriptor")) (hm : MtR X id r) (hr : RelM X.K r f) (ho : SE X W o mo) (ha : SA X W (e :: es) mes)
    (hbase : attributeBase o name X.env (eval o X.env) = eval o X.env := by rfl)
    (hfew : ((backTo cpos (starEach (e :: es) X.env)).all (fun x => !x.1) && (backToKw cpos (keywordEach [] X.env)).all (fun x => x.1.isSome)
      && decide ((e :: es).length + ([] : List Keyword).length + (if ([] : List Keyword).isEmpty then 0 else 1) < 30)) = true := by rfl)
    (hline : (apos.endLine == cpos.line) = true := by rfl) (hs : starEach (e :: es) X.env = (false, eval e X.env) :: starEach es X.env := by rfl) (hplain : (backTo cpos (starEach es X.env)).any (·.1) = false := by rfl) :
    SE X W (.Call (.Attribute o name apos) (e :: es) [] cpos) (eM f mo mes) := by
  obtain ⟨to, o1, o2⟩ := ho.ex
  obtain ⟨ta, a1, a2⟩ := ha.ex
  refine ⟨_, pe_bm PySem.F.plainAttrs_str slot hty hm o1 a1 hbase hfew hline hs hplain, fun E σ G H Q er s post => ?_⟩
  refine o2.then er s (postE_iff.mp post) fun p v G1 H1 g1 rv post => ?_
  cases rv with
  | str z hz =>
    refine ⟨rfl, a2.then (er.mono g1) g1.sub post fun ps vs G2 H2 g2 rvs post => ?_⟩
    obtain ⟨w, hw, k⟩ := of_some post
    exact hr z vs ps w G2 H2 Q g2.sub hz rvs hw fun u G' H' g q => k u G' H' ((g1.trans g2).trans g) q
  | _ => exact post.elim
theorem sl_meth (slot : Slot "str" name id) (hty : typeOf (.builtin id) = pure (.type "method_descriptor")) (hm : MtR X id r) (hr : RelML X.K r f) (ho : SE X W o mo) (ha : SA X W (e :: es) mes)
    (hbase : attributeBase o name X.env (eval o X.env) = eval o X.env := by rfl)
    (hfew : ((backTo cpos (starEach (e :: es) X.env)).all (fun x => !x.1) && (backToKw cpos (keywordEach [] X.env)).all (fun x => x.1.isSome)
      && decide ((e :: es).length + ([] : List Keyword).length + (if ([] : List Keyword).isEmpty then 0 else 1) < 30)) = true := by rfl)
    (hline : (apos.endLine == cpos.line) = true := by rfl) (hs : starEach (e :: es) X.env = (false, eval e X.env) :: starEach es X.env := by rfl) (hplain : (backTo cpos (starEach es X.env)).any (·.1) = false := by rfl) :
    SL X W (.Call (.Attribute o name apos) (e :: es) [] cpos) (eM f mo mes) := by
  obtain ⟨to, o1, o2⟩ := ho.ex
  obtain ⟨ta, a1, a2⟩ := ha.ex
  refine ⟨_, pe_bm PySem.F.plainAttrs_str slot hty hm o1 a1 hbase hfew hline hs hplain, fun E σ G H Q er s post => ?_⟩
  refine o2.then er s post fun p v G1 H1 g1 rv post => ?_
  cases rv with
  | str z hz =>
    refine ⟨rfl, a2.then (er.mono g1) g1.sub post fun ps vs G2 H2 g2 rvs post => ?_⟩
    obtain ⟨w, hw, k⟩ := of_some post
    exact hr z vs ps w G2 H2 Q g2.sub hz rvs hw fun u G' H' g q0 q1 q2 => k u G' H' ((g1.trans g2).trans g) ((g1.trans g2).eH.free q0) q1 q2
  | _ => exact post.elim
theorem se_meth0 (slot : Slot "str" name id) (hty : typeOf (.builtin id) = pure (.type "method_descriptor")) (hm : MtR X id r) (hr : RelM X.K r f) (ho : SE X W o mo)
    (hbase : attributeBase o name X.env (eval o X.env) = eval o X.env := by rfl) (hline : (apos.endLine == cpos.line) = true := by rfl) : SE X W (.Call (.Attribute o name apos) [] [] cpos) (eM f mo aN) := by
  obtain ⟨to, o1, o2⟩ := ho.ex
  refine ⟨_, pe_bm0 PySem.F.plainAttrs_str slot hty hm o1 hbase hline, fun E σ G H Q er s post => ?_⟩
  refine o2.then er s (postE_iff.mp post) fun p v G1 H1 g1 rv post => ?_
  cases rv with
  | str z hz =>
    obtain ⟨w, hw, k⟩ := of_some (o := f z []) post
    exact ⟨rfl, hr z [] [] w G1 H1 Q g1.sub hz .nil hw fun u G' H' g q => k u G' H' (g1.trans g) q⟩
  | _ => exact post.elim
end
/-! strip and its like -/
def lstripL (cs l : List Nat) : List Nat := l.dropWhile fun c => cs.contains c
def rstripL (cs l : List Nat) : List Nat := (l.reverse.dropWhile fun c => cs.contains c).reverse
def stripL (cs l : List Nat) : List Nat := rstripL cs (lstripL cs l)
theorem drop_tw {α : Type} (p : α → Bool) : ∀ l : List α, l.drop (l.takeWhile p).length = l.dropWhile p
  | [] => rfl
  | a :: l => by
    by_cases h : p a = true
    · rw [List.takeWhile_cons, if_pos h, List.dropWhile_cons, if_pos h, List.length_cons, List.drop_succ_cons, drop_tw p l]
    · rw [List.takeWhile_cons, if_neg h, List.dropWhile_cons, if_neg h]; rfl
theorem take_rtw {α : Type} (p : α → Bool) (l : List α) : l.take (l.length - (l.reverse.takeWhile p).length) = (l.reverse.dropWhile p).reverse := by
  have h := drop_tw p l.reverse
  rw [List.drop_reverse] at h
  have h2 := congrArg List.reverse h
  rw [List.reverse_reverse] at h2
  exact h2
theorem tw_len {α : Type} (p : α → Bool) : ∀ l : List α, (l.takeWhile p).length ≤ l.length
  | [] => Nat.le_refl _
  | a :: l => by
    rw [List.takeWhile_cons]; split
    · simp; exact tw_len p l
    · simp
theorem strip_list (g : Nat → Bool) (l r : Bool) (x : List Nat) : Txt.stripBy g l r (S x) =
    S (let y := if l = true then x.dropWhile g else x; if r = true then (y.reverse.dropWhile g).reverse else y) := by
  have key : ∀ lo hi : Nat, TL.tl (strSub (S x) lo hi) = (x.drop lo).take (hi - lo) := fun lo hi => TL.tl_strSub (S x) lo hi
  have main : TL.tl (stripped g l r (S x)) = (let y := if l = true then x.dropWhile g else x; if r = true then (y.reverse.dropWhile g).reverse else y) := by
    unfold stripped
    rw [key]
    have hlo : stripLo g l (S x) = if l = true then (x.takeWhile g).length else 0 := rfl
    have hx : (S x).length = x.length := S_len x
    cases l with
    | true =>
      have e1 : stripLo g true (S x) = (x.takeWhile g).length := rfl
      rw [e1, drop_tw]
      have hl : (x.dropWhile g).length = x.length - (x.takeWhile g).length := by rw [← drop_tw g x, List.length_drop]
      cases r with
      | true =>
        have e2 : stripHi g true (S x) (x.takeWhile g).length = x.length - ((x.drop (x.takeWhile g).length).reverse.takeWhile g).length := by
          show (if true = true then (S x).length - _ else (S x).length) = _
          rw [if_pos rfl, hx]
        rw [e2, drop_tw]
        simp only [if_true]
        rw [← take_rtw, hl]
        congr 1
        omega
      | false =>
        have e2 : stripHi g false (S x) (x.takeWhile g).length = x.length := by
          show (if false = true then _ else (S x).length) = _
          rw [if_neg (by decide), hx]
        rw [e2]
        simp only [if_true, Bool.false_eq_true, if_false]
        exact List.take_of_length_le (by rw [hl]; exact Nat.le_refl _)
    | false =>
      have e1 : stripLo g false (S x) = 0 := rfl
      rw [e1, List.drop_zero]
      cases r with
      | true =>
        have e2 : stripHi g true (S x) 0 = x.length - ((x.drop 0).reverse.takeWhile g).length := by
          show (if true = true then (S x).length - _ else (S x).length) = _
          rw [if_pos rfl, hx]
        rw [e2, List.drop_zero]
        simp only [Bool.false_eq_true, if_false, if_true]
        rw [← take_rtw, Nat.sub_zero]
      | false =>
        have e2 : stripHi g false (S x) 0 = x.length := by
          show (if false = true then _ else (S x).length) = _
          rw [if_neg (by decide), hx]
        rw [e2]
        simp only [Bool.false_eq_true, if_false]
        exact List.take_of_length_le (Nat.le_refl _)
  unfold Txt.stripBy
  split
  · rename_i hs
    unfold stripSame at hs
    rw [Bool.and_eq_true, beq_iff_eq, beq_iff_eq] at hs
    refine TL.ext_tl ?_
    rw [← main]
    unfold stripped
    rw [hs.2, hs.1, key, List.drop_zero, S_len, Nat.sub_zero, List.take_length]
  · exact TL.ext_tl main
theorem cont_S (y : List Nat) : (fun c => (S y).cps.contains c) = fun c => y.contains c := by
  funext c
  show y.toArray.contains c = y.contains c
  simp
theorem strip_S (x y : List Nat) : Txt.stripChars (S x) (S y) = S (stripL y x) := by
  have h := strip_list (S y).cps.contains true true x
  unfold Txt.stripChars
  rw [h]
  have e := cont_S y
  simp only [if_true]
  unfold stripL rstripL lstripL
  rw [show (S y).cps.contains = fun c => y.contains c from e]
theorem lstrip_S (x y : List Nat) : Txt.lstripChars (S x) (S y) = S (lstripL y x) := by
  have h := strip_list (S y).cps.contains true false x
  unfold Txt.lstripChars
  rw [h]
  have e := cont_S y
  simp only [if_true, Bool.false_eq_true, if_false]
  unfold lstripL
  rw [show (S y).cps.contains = fun c => y.contains c from e]
theorem rstrip_S (x y : List Nat) : Txt.rstripChars (S x) (S y) = S (rstripL y x) := by
  have h := strip_list (S y).cps.contains false true x
  unfold Txt.rstripChars
  rw [h]
  have e := cont_S y
  simp only [if_true, Bool.false_eq_true, if_false]
  unfold rstripL
  rw [show (S y).cps.contains = fun c => y.contains c from e]
theorem dw_sub {p : Nat → Bool} {l : List Nat} : (l.dropWhile p).length ≤ l.length ∧ ∀ c ∈ l.dropWhile p, c ∈ l :=
  ⟨List.Sublist.length_le (List.dropWhile_sublist p), fun c hc => List.Sublist.subset (List.dropWhile_sublist p) hc⟩
theorem okS_lstrip {cs l : List Nat} (h : okS l = true) : okS (lstripL cs l) = true := okS_sub h dw_sub.1 dw_sub.2
theorem okS_rev {l : List Nat} (h : okS l = true) : okS l.reverse = true := okS_sub h (by simp) (by simp)
theorem okS_rstrip {cs l : List Nat} (h : okS l = true) : okS (rstripL cs l) = true := okS_rev (okS_sub (okS_rev h) dw_sub.1 dw_sub.2)
theorem okS_strip {cs l : List Nat} (h : okS l = true) : okS (stripL cs l) = true := okS_rstrip (okS_lstrip h)
def strF (g : List Nat → List Nat → List Nat) : List Nat → List PV → Option PV
  | s, [.str y] => some (.str (g y s))
  | _, _ => none
section
variable {K : PySem.W.Frag}
theorem rel_strF {g : List Nat → List Nat → List Nat} {T : Str → Str → Str} (hT : ∀ x y, T (S x) (S y) = S (g y x)) (hg : ∀ x y, okS x = true → okS (g y x) = true) :
    RelM K (fun x xs H Q => ∃ a b, x = .str a ∧ xs = [.str b] ∧ a.length ≤ sizeLine ∧ Q (.str (T a b)) H) (strF g) := by
  intro s xs ps z G H Q se hs r hz k
  match ps, hz with
  | [p], hz =>
    obtain ⟨v, rfl, rv⟩ := r.one'
    cases rv <;> simp only [strF] at hz <;> first | (cases hz; done) | skip
    case str y hy =>
      cases hz
      refine ⟨_, _, rfl, rfl, by rw [S_len]; exact bnd_line (okS_len hs), ?_⟩
      rw [hT]
      exact k _ G H (.refl se) (.str _ (hg s y hs))
  | [], hz => cases hz
  | p :: q :: r', hz => simp [strF] at hz
theorem rel_strip : RelM K (fun x xs H Q => ∃ a b, x = .str a ∧ xs = [.str b] ∧ a.length ≤ sizeLine ∧ Q (.str (Txt.stripChars a b)) H) (strF stripL) := rel_strF strip_S fun _ _ h => okS_strip h
theorem rel_lstrip : RelM K (fun x xs H Q => ∃ a b, x = .str a ∧ xs = [.str b] ∧ a.length ≤ sizeLine ∧ Q (.str (Txt.lstripChars a b)) H) (strF lstripL) := rel_strF lstrip_S fun _ _ h => okS_lstrip h
theorem rel_rstrip : RelM K (fun x xs H Q => ∃ a b, x = .str a ∧ xs = [.str b] ∧ a.length ≤ sizeLine ∧ Q (.str (Txt.rstripChars a b)) H) (strF rstripL) := rel_strF rstrip_S fun _ _ h => okS_rstrip h
/-- small letters -/
def lowF : List Nat → List PV → Option PV
  | s, [] => some (.str (s.map lo1))
  | _, _ => none
theorem lo1_lt {c : Nat} (h : c < 128) : lo1 c < 128 := by
  have : ∀ c, c < 128 → lo1 c < 128 := by decide +kernel
  exact this c h
theorem okS_low {s : List Nat} (h : okS s = true) : okS (s.map lo1) = true :=
  okS_of (by rw [List.length_map]; exact okS_lt1 h) (List.all_eq_true.mpr fun c hc => by
    obtain ⟨d, hd, rfl⟩ := List.mem_map.mp hc
    exact decide_eq_true (lo1_lt (okS_lt h d hd)))
theorem rel_low : RelM K (fun x xs H Q => ∃ a, x = .str a ∧ xs = [] ∧ a.length ≤ 5592405 ∧ Q (.str (Txt.lower a)) H) lowF := by
  intro s xs ps z G H Q se hs r hz k
  match ps, hz with
  | [], hz =>
    cases r; cases hz
    refine ⟨_, rfl, rfl, by rw [S_len]; have := okS_len hs; unfold bnd at this; omega, ?_⟩
    rw [SX.lower_S (okS_asc hs)]
    exact k _ G H (.refl se) (.str _ (okS_low hs))
  | p :: r', hz => simp [lowF] at hz
/-! split, join, partition -/
def splF : List Nat → List PV → Option PV
  | s, [.str y] => if y.isEmpty then none else some (.lst ((TL.spl y 0 [] s).map .str))
  | _, _ => none
theorem spl_sub (y : List Nat) : ∀ (l : List Nat) (k : Nat) (acc : List Nat), (TL.spl y k acc l).length ≤ l.length + 1 ∧ ∀ p ∈ TL.spl y k acc l, p.length ≤ acc.length + l.length ∧ ∀ c ∈ p, c ∈ acc ∨ c ∈ l
  | [], k, acc => by
    rw [TL.spl_nil]
    refine ⟨by simp, fun p hp => ?_⟩
    simp at hp; subst hp; exact ⟨by simp, fun c hc => .inl hc⟩
  | c :: r, 0, acc => by
    by_cases h : TL.pre y (c :: r) = true
    · rw [TL.spl_hit h]
      obtain ⟨i1, i2⟩ := spl_sub y r (y.length - 1) []
      refine ⟨by simp; omega, fun p hp => ?_⟩
      rcases List.mem_cons.mp hp with rfl | hp
      · exact ⟨by simp, fun c hc => .inl hc⟩
      · obtain ⟨j1, j2⟩ := i2 p hp
        refine ⟨by simp at j1 ⊢; omega, fun d hd => ?_⟩
        rcases j2 d hd with q | q
        · simp at q
        · exact .inr (List.mem_cons_of_mem _ q)
    · rw [TL.spl_miss (by simpa using h)]
      obtain ⟨i1, i2⟩ := spl_sub y r 0 (acc ++ [c])
      refine ⟨by simp; omega, fun p hp => ?_⟩
      obtain ⟨j1, j2⟩ := i2 p hp
      refine ⟨by simp at j1 ⊢; omega, fun d hd => ?_⟩
      rcases j2 d hd with q | q
      · rcases List.mem_append.mp q with q | q
        · exact .inl q
        · exact .inr (by simp at q; subst q; exact List.mem_cons_self)
      · exact .inr (List.mem_cons_of_mem _ q)
  | c :: r, k + 1, acc => by
    obtain ⟨i1, i2⟩ := spl_sub y r k acc
    show (TL.spl y k acc r).length ≤ _ ∧ ∀ p ∈ TL.spl y k acc r, _
    refine ⟨by simp; omega, fun p hp => ?_⟩
    obtain ⟨j1, j2⟩ := i2 p hp
    refine ⟨by simp; omega, fun d hd => ?_⟩
    rcases j2 d hd with q | q
    · exact .inl q
    · exact .inr (List.mem_cons_of_mem _ q)
theorem okS_spl {y s p : List Nat} (h : okS s = true) (hp : p ∈ TL.spl y 0 [] s) : okS p = true := by
  obtain ⟨j1, j2⟩ := (spl_sub y s 0 []).2 p hp
  exact okS_sub h (by simpa using j1) fun c hc => by rcases j2 c hc with q | q; simp at q; exact q
theorem reps_strs {G : Hp} : ∀ {l : List (List Nat)}, (∀ p ∈ l, okS p = true) → Reps K G ((l.map S).map V.str) (l.map PV.str)
  | [], _ => .nil
  | p :: l, h => .cons (.str p (h p (by simp))) (reps_strs fun q hq => h q (by simp [hq]))
theorem asc256 {y : List Nat} (h : okS y = true) : y.all (· < 256) = true := List.all_eq_true.mpr fun c hc => by have := okS_lt h c hc; exact decide_eq_true (by omega)
theorem rel_spl : RelML K (fun x xs H Q => ∃ a b, x = .str a ∧ xs = [.str b] ∧ (b.length == 0) = false ∧ a.length + 2 ≤ sizeLine ∧ rNewStrs (Txt.split a b) H Q) splF := by
  intro s xs ps z G H Q se hs r hz k
  match ps, hz with
  | [p], hz =>
    obtain ⟨v, rfl, rv⟩ := r.one'
    cases rv <;> simp only [splF] at hz <;> first | (cases hz; done) | skip
    case str y hy =>
      split at hz
      · cases hz
      · rename_i hne
        cases hz
        have hy0 : y ≠ [] := by rintro rfl; exact hne rfl
        refine ⟨_, _, rfl, rfl, ?_, by rw [S_len, sizeLine_eq]; have := okS_len hs; unfold bnd at this; omega, fun p hp => ?_⟩
        · rw [S_len]; cases y with
          | nil => exact absurd rfl hy0
          | cons c t => rfl
        · rw [SX.split_S hy0 (asc256 hy)]
          refine k p G _ (Grow.apart se hp _) hp (se.free hp) (.lst upd_same (reps_strs fun q hq => okS_spl hs hq) ?_)
          rw [List.length_map]
          have := (spl_sub y s 0 []).1
          have := okS_lt1 hs
          omega
  | [], hz => cases hz
  | p :: q :: r', hz => simp [splF] at hz
/-- the texts of a list -/
def strsOf : List PV → Option (List (List Nat))
  | [] => some []
  | .str s :: r => (strsOf r).map (s :: ·)
  | _ :: _ => none
theorem strsOf_rep {G : Hp} : ∀ {vs : List V} {ps : List PV} {l : List (List Nat)}, Reps K G vs ps → strsOf ps = some l → vs = (l.map S).map V.str ∧ ∀ p ∈ l, okS p = true
  | _, _, _, .nil, h => by cases h; exact ⟨rfl, by simp⟩
  | _, _, l, .cons rv r, h => by
    cases rv <;> simp only [strsOf] at h <;> first | (cases h; done) | skip
    case str s hs =>
      obtain ⟨ms, hm, rfl⟩ := Option.map_eq_some_iff.mp h
      obtain ⟨q1, q2⟩ := strsOf_rep r hm
      subst q1
      exact ⟨rfl, fun p hp => by rcases List.mem_cons.mp hp with rfl | hp; exact hs; exact q2 p hp⟩
def joinF : List Nat → List PV → Option PV
  | s, [.lst xs] => (strsOf xs).bind fun l => if (TL.joinL s l).length < bnd ∧ (l.map (·.length)).sum + l.length * s.length ≤ 16777216 then some (.str (TL.joinL s l)) else none
  | _, _ => none
theorem joinL_mem {s : List Nat} : ∀ {l : List (List Nat)} {c : Nat}, c ∈ TL.joinL s l → c ∈ s ∨ ∃ p ∈ l, c ∈ p
  | [], c, h => by simp [TL.joinL] at h
  | [p], c, h => .inr ⟨p, by simp, h⟩
  | p :: q :: r, c, h => by
    have h : c ∈ p ++ (s ++ TL.joinL s (q :: r)) := h
    rcases List.mem_append.mp h with h | h
    · exact .inr ⟨p, by simp, h⟩
    · rcases List.mem_append.mp h with h | h
      · exact .inl h
      · rcases joinL_mem h with h | ⟨p', h1, h2⟩
        · exact .inl h
        · exact .inr ⟨p', by simp at h1 ⊢; exact .inr h1, h2⟩
theorem rel_join : RelM K (fun x xs H Q => ∃ a p, ∃ ys : List Str, x = .str a ∧ xs = [.ref p] ∧ (SqL K H p (ys.map V.str) ∨ SqT K H p (ys.map V.str)) ∧ (ys.map (·.length)).sum + ys.length * a.length ≤ 16777216 ∧ Q (.str (Txt.join a ys)) H) joinF := by
  intro s xs ps z G H Q se hs r hz k
  match ps, hz with
  | [p], hz =>
    obtain ⟨v, rfl, rv⟩ := r.one'
    cases rv <;> simp only [joinF] at hz <;> first | (cases hz; done) | skip
    case lst a vs qs h r' hl =>
      obtain ⟨l, e, hz⟩ := Option.bind_eq_some_iff.mp hz
      split at hz
      · rename_i c; cases hz
        obtain ⟨q1, q2⟩ := strsOf_rep r' e
        subst q1
        refine ⟨_, a, l.map S, rfl, rfl, .inl (SqL.of (se _ _ h)), ?_, ?_⟩
        · rw [SX.lens, List.length_map, S_len]; exact c.2
        · rw [SX.join_S]
          refine k _ G H (.refl se) (.str _ (okS_of c.1 (List.all_eq_true.mpr fun d hd => decide_eq_true ?_)))
          rcases joinL_mem hd with q | ⟨p', h1, h2⟩
          · exact okS_lt hs d q
          · exact okS_lt (q2 p' h1) d h2
      · cases hz
  | [], hz => cases hz
  | p :: q :: r', hz => simp [joinF] at hz
def parF : List Nat → List PV → Option PV
  | s, [.str y] => if y.isEmpty then none else match TL.par y [] s with
    | some (a, b) => some (.tup [.str a, .str y, .str b])
    | none => some (.tup [.str s, .str [], .str []])
  | _, _ => none
theorem par_sub (y : List Nat) : ∀ (l acc a b : List Nat), TL.par y acc l = some (a, b) → (a.length ≤ acc.length + l.length ∧ ∀ c ∈ a, c ∈ acc ∨ c ∈ l) ∧ (b.length ≤ l.length ∧ ∀ c ∈ b, c ∈ l)
  | [], acc, a, b, h => by simp [TL.par] at h
  | c :: r, acc, a, b, h => by
    by_cases hp : TL.pre y (c :: r) = true
    · rw [TL.par_hit hp] at h
      cases h
      refine ⟨⟨by simp, fun c hc => .inl hc⟩, by rw [List.length_drop]; omega, fun d hd => List.mem_of_mem_drop hd⟩
    · rw [TL.par_miss (by simpa using hp)] at h
      obtain ⟨⟨i1, i2⟩, i3, i4⟩ := par_sub y r (acc ++ [c]) a b h
      refine ⟨⟨by simp at i1 ⊢; omega, fun d hd => ?_⟩, by simp; omega, fun d hd => List.mem_cons_of_mem _ (i4 d hd)⟩
      rcases i2 d hd with q | q
      · rcases List.mem_append.mp q with q | q
        · exact .inl q
        · exact .inr (by simp at q; subst q; exact List.mem_cons_self)
      · exact .inr (List.mem_cons_of_mem _ q)
theorem rel_par : RelM K (fun x xs H Q => ∃ a b, x = .str a ∧ xs = [.str b] ∧ (b.length == 0) = false ∧ a.length ≤ sizeLine ∧
    ∀ p, H p = none → Q (.ref p) (upd H p (.tup [.str (Txt.partition a b).1, .str (Txt.partition a b).2.1, .str (Txt.partition a b).2.2]))) parF := by
  intro s xs ps z G H Q se hs r hz k
  match ps, hz with
  | [p], hz =>
    obtain ⟨v, rfl, rv⟩ := r.one'
    cases rv <;> simp only [parF] at hz <;> first | (cases hz; done) | skip
    case str y hy =>
      split at hz
      · cases hz
      · rename_i hne
        have hy0 : y ≠ [] := by rintro rfl; exact hne rfl
        refine ⟨_, _, rfl, rfl, ?_, by rw [S_len]; exact bnd_line (okS_len hs), fun p hp => ?_⟩
        · rw [S_len]; cases y with
          | nil => exact absurd rfl hy0
          | cons c t => rfl
        · split at hz
          · rename_i a b e
            cases hz
            obtain ⟨⟨i1, i2⟩, i3, i4⟩ := par_sub y s [] a b e
            rw [SX.partition_some hy0 e]
            refine k _ _ _ (Grow.alloc se hp _) (.tup (.inl (.inl upd_same)) (.cons (.str a (okS_sub hs (by simpa using i1) fun c hc => ?_)) (.cons (.str y hy) (.cons (.str b (okS_sub hs i3 i4)) .nil))) (by show 3 ≤ bnd; decide))
            rcases i2 c hc with q | q
            · simp at q
            · exact q
          · rename_i e
            cases hz
            rw [SX.partition_none hy0 e]
            exact k _ _ _ (Grow.alloc se hp _) (.tup (.inl (.inl upd_same)) (.cons (.str s hs) (.cons (.str [] rfl) (.cons (.str [] rfl) .nil))) (by show 3 ≤ bnd; decide))
  | [], hz => cases hz
  | p :: q :: r', hz => simp [parF] at hz
end
section
variable {X : Cx} {W : WX} {o e : Expr} {mo : En → R PV} {mes : En → R (List PV)} {apos cpos : Pos}
theorem se_strip (ho : SE X W o mo) (ha : SA X W [e] mes) (hs : starEach [e] X.env = [(false, eval e X.env)] := by rfl) (hbase : attributeBase o "strip" X.env (eval o X.env) = eval o X.env := by rfl) (hline : (apos.endLine == cpos.line) = true := by rfl) : SE X W (.Call (.Attribute o "strip" apos) [e] [] cpos) (eM (strF stripL) mo mes) :=
  se_meth PySem.F.slot_str_strip PySem.F.type_str_strip mt_stripChars rel_strip ho ha hbase (by rw [hs]; rfl) hline hs rfl
theorem se_lstrip (ho : SE X W o mo) (ha : SA X W [e] mes) (hs : starEach [e] X.env = [(false, eval e X.env)] := by rfl) (hbase : attributeBase o "lstrip" X.env (eval o X.env) = eval o X.env := by rfl) (hline : (apos.endLine == cpos.line) = true := by rfl) : SE X W (.Call (.Attribute o "lstrip" apos) [e] [] cpos) (eM (strF lstripL) mo mes) :=
  se_meth PySem.F.slot_str_lstrip PySem.F.type_str_lstrip mt_lstripChars rel_lstrip ho ha hbase (by rw [hs]; rfl) hline hs rfl
theorem se_rstrip (ho : SE X W o mo) (ha : SA X W [e] mes) (hs : starEach [e] X.env = [(false, eval e X.env)] := by rfl) (hbase : attributeBase o "rstrip" X.env (eval o X.env) = eval o X.env := by rfl) (hline : (apos.endLine == cpos.line) = true := by rfl) : SE X W (.Call (.Attribute o "rstrip" apos) [e] [] cpos) (eM (strF rstripL) mo mes) :=
  se_meth PySem.F.slot_str_rstrip PySem.F.type_str_rstrip mt_rstripChars rel_rstrip ho ha hbase (by rw [hs]; rfl) hline hs rfl
theorem se_lower (ho : SE X W o mo) (hbase : attributeBase o "lower" X.env (eval o X.env) = eval o X.env := by rfl) (hline : (apos.endLine == cpos.line) = true := by rfl) : SE X W (.Call (.Attribute o "lower" apos) [] [] cpos) (eM lowF mo aN) :=
  se_meth0 PySem.F.slot_str_lower PySem.F.type_str_lower mt_lower rel_low ho hbase hline
theorem sl_split (ho : SE X W o mo) (ha : SA X W [e] mes) (hs : starEach [e] X.env = [(false, eval e X.env)] := by rfl) (hbase : attributeBase o "split" X.env (eval o X.env) = eval o X.env := by rfl) (hline : (apos.endLine == cpos.line) = true := by rfl) : SL X W (.Call (.Attribute o "split" apos) [e] [] cpos) (eM splF mo mes) :=
  sl_meth PySem.F.slot_str_split PySem.F.type_str_split mt_split rel_spl ho ha hbase (by rw [hs]; rfl) hline hs rfl
theorem se_join (ho : SE X W o mo) (ha : SA X W [e] mes) (hs : starEach [e] X.env = [(false, eval e X.env)] := by rfl) (hbase : attributeBase o "join" X.env (eval o X.env) = eval o X.env := by rfl) (hline : (apos.endLine == cpos.line) = true := by rfl) : SE X W (.Call (.Attribute o "join" apos) [e] [] cpos) (eM joinF mo mes) :=
  se_meth PySem.F.slot_str_join PySem.F.type_str_join mt_join rel_join ho ha hbase (by rw [hs]; rfl) hline hs rfl
theorem se_partition (ho : SE X W o mo) (ha : SA X W [e] mes) (hs : starEach [e] X.env = [(false, eval e X.env)] := by rfl) (hbase : attributeBase o "partition" X.env (eval o X.env) = eval o X.env := by rfl) (hline : (apos.endLine == cpos.line) = true := by rfl) : SE X W (.Call (.Attribute o "partition" apos) [e] [] cpos) (eM parF mo mes) :=
  se_meth PySem.F.slot_str_partition PySem.F.type_str_partition mt_partition rel_par ho ha hbase (by rw [hs]; rfl) hline hs rfl
end
end Sm
set_option Elab.async false
set_option linter.all false
set_option maxRecDepth 100000
set_option maxHeartbeats 4000000
namespace Sm
open PySem PySem.Spec PyProof.Rows L2
open SX (S S_len S_inj S_tl S_cat)

/-! ### one reading for all -/
def tOf (K : PySem.W.Frag) (W : WX) (m : En → R PV) : TE := fun σ H Q => ∃ E G, ER K E σ G H ∧ Ex G H ∧ PostE K W σ G H Q (m E)
def ttOf (K : PySem.W.Frag) (W : WX) (m : En → R Bool) : TT := fun σ H Q => ∃ E G, ER K E σ G H ∧ Ex G H ∧ PostT K W σ G H Q (m E)
theorem SE.canon {X : Cx} {W : WX} {e : Expr} {m : En → R PV} (h : SE X W e m) : PE X e (tOf X.K W m) := by
  obtain ⟨t, h1, h2⟩ := h.ex
  exact ⟨fun pins s σ H Q I ⟨E, G, er, sb, post⟩ => h1.run pins s σ H Q I (h2 E σ G H Q er sb post)⟩
theorem ST.canon {X : Cx} {W : WX} {e : Expr} {m : En → R Bool} (h : ST X W e m) : PT X e (ttOf X.K W m) := by
  obtain ⟨t, h1, h2⟩ := h.ex
  exact ⟨fun pins s σ H Q I ⟨E, G, er, sb, post⟩ => h1.run pins s σ H Q I (h2 E σ G H Q er sb post)⟩
/-! ### targets -/
def SameOff (ws : List Nat) (σ σ2 : L2.St) : Prop := σ2.length = σ.length ∧ ∀ i, i ∉ ws → σ2[i]? = σ[i]?
def Binds' (ws : List Nat) (E E2 : En) : Prop := ∀ i, (i ∉ ws → E2[i]? = E[i]?) ∧ (i ∈ ws → ∀ p, E2[i]? ≠ some (some (.own p)))
def CorrG (K : PySem.W.Frag) (g : TG) (b : PV → En → Option En) (ws : List Nat) : Prop :=
  ∀ E E2 σ G H (Q : L2.St → Hp → Prop) x p, ER K E σ G H → Ex G H → Rep K G x p → b p E = some E2 → (∀ σ2, ER K E2 σ2 G H → SameOff ws σ σ2 → Binds' ws E E2 → Q σ2 H) → g x σ H Q
structure SG (X : Cx) (tg : Expr) (b : PV → En → Option En) (ws : List Nat) : Prop where
  ex : ∃ g, PG X tg g ∧ CorrG X.K g b ws
def gOf (K : PySem.W.Frag) (b : PV → En → Option En) (ws : List Nat) : TG := fun x σ H Q => ∃ E E2 G p, ER K E σ G H ∧ Ex G H ∧ Rep K G x p ∧ b p E = some E2 ∧ ∀ σ2, ER K E2 σ2 G H → SameOff ws σ σ2 → Binds' ws E E2 → Q σ2 H
theorem SG.canon {X : Cx} {tg : Expr} {b : PV → En → Option En} {ws : List Nat} (h : SG X tg b ws) : PG X tg (gOf X.K b ws) := by
  obtain ⟨g, h1, h2⟩ := h.ex
  exact ⟨fun pins s σ H v u Q I r ⟨E, E2, G, p, er, sb, rp, e, k⟩ => h1.run pins s σ H v u Q I r (h2 E E2 σ G H Q v p er sb rp e k)⟩
def bN (i : Nat) : PV → En → Option En := fun p E => some (E.set i (some (.val p)))
theorem ER.set {K : PySem.W.Frag} {E : En} {σ : L2.St} {G H : Hp} {v : V} {p : PV} (er : ER K E σ G H) (r : Rep K G v p) (i : Nat) : ER K (E.set i (some (.val p))) (σ.set i (some v)) G H := by
  refine ⟨by simp [er.len], fun j s e => ?_⟩
  by_cases hj : i = j
  · subst hj
    by_cases hl : i < E.length
    · rw [List.getElem?_set_self hl] at e
      cases e
      exact ⟨v, by rw [List.getElem?_set_self (by rw [← er.len]; exact hl)], r⟩
    · rw [List.getElem?_eq_none (by simpa using hl)] at e; cases e
  · rw [List.getElem?_set_ne hj] at e ⊢
    exact er.at_ j s e
theorem sg_name {X : Cx} {i : Nat} {x : Str} {pos : Pos} (hN : X.N.Nodup) (hi : X.N[i]? = some x) (hx : Loc X.env.scope x) (hf : X.fn x = true ∨ X.env.scope.names.lookup x = some .local := by first | exact .inl rfl | exact .inr rfl) : SG X (.Name x pos) (bN i) [i] := by
  refine ⟨_, pg_name hN hi hx hf, fun E E2 σ G H Q x p er sb rp e k => ?_⟩
  cases e
  refine k _ (er.set rp i) ⟨by simp, fun j hj => ?_⟩ fun j => ⟨fun hj => ?_, fun hj q => ?_⟩
  · rw [List.getElem?_set_ne (by rintro rfl; simp at hj)]
  · rw [List.getElem?_set_ne (by rintro rfl; simp at hj)]
  · simp at hj; subst hj
    by_cases hl : j < E.length
    · rw [List.getElem?_set_self hl]; simp
    · rw [List.getElem?_eq_none (by simpa using hl)]; simp
/-- several targets, one after the other -/
def CorrGs (K : PySem.W.Frag) (g : TGs) (b : List PV → En → Option En) (ws : List Nat) : Prop :=
  ∀ E E2 σ G H (Q : L2.St → Hp → Prop) xs ps, ER K E σ G H → Ex G H → Reps K G xs ps → b ps E = some E2 → (∀ σ2, ER K E2 σ2 G H → SameOff ws σ σ2 → Binds' ws E E2 → Q σ2 H) → g xs σ H Q
structure SGs (X : Cx) (ts : List Expr) (b : List PV → En → Option En) (ws : List Nat) : Prop where
  ex : ∃ g, PGs X ts g ∧ CorrGs X.K g b ws
def bNil : List PV → En → Option En
  | [], E => some E
  | _, _ => none
def bCons (b : PV → En → Option En) (bs : List PV → En → Option En) : List PV → En → Option En
  | p :: ps, E => (b p E).bind fun E2 => bs ps E2
  | [], _ => none
theorem sgs_nil {X : Cx} : SGs X [] bNil [] := ⟨_, pgs_nil, fun E E2 σ G H Q xs ps er sb r e k => by
  cases r with
  | nil => cases e; exact ⟨rfl, k σ er ⟨rfl, fun _ _ => rfl⟩ fun i => ⟨fun _ => rfl, fun h => by simp at h⟩⟩
  | cons h r => cases e⟩
theorem sgs_cons {X : Cx} {e : Expr} {es : List Expr} {b : PV → En → Option En} {bs : List PV → En → Option En} {ws us : List Nat} (h1 : SG X e b ws) (h2 : SGs X es bs us)
    (hs : (assignEach (e :: es) X.env).map (·.2) = assign e X.env :: (assignEach es X.env).map (·.2) := by rfl) : SGs X (e :: es) (bCons b bs) (ws ++ us) := by
  obtain ⟨g, g1, g2⟩ := h1.ex
  obtain ⟨t, t1, t2⟩ := h2.ex
  refine ⟨_, pgs_cons g1 t1 hs, fun E E2 σ G H Q xs ps er sb r e k => ?_⟩
  cases r with
  | nil => cases e
  | @cons v p vs ps' hv r =>
    obtain ⟨E1, e1, e2⟩ := Option.bind_eq_some_iff.mp (show (b p E).bind (fun E2 => bs ps' E2) = some E2 from e)
    refine ⟨v, vs, rfl, g2 E E1 σ G H _ v p er sb hv e1 fun σ1 er1 so1 bo1 => ?_⟩
    refine t2 E1 E2 σ1 G H Q vs ps' er1 sb r e2 fun σ2 er2 so2 bo2 => k σ2 er2 ⟨so2.1.trans so1.1, fun i hi => ?_⟩ fun i => ⟨fun hi => ?_, fun hi q => ?_⟩
    · simp only [List.mem_append, not_or] at hi
      rw [so2.2 i hi.2, so1.2 i hi.1]
    · simp only [List.mem_append, not_or] at hi
      rw [(bo2 i).1 hi.2, (bo1 i).1 hi.1]
    · by_cases hu : i ∈ us
      · exact (bo2 i).2 hu q
      · rw [(bo2 i).1 hu]
        exact (bo1 i).2 ((List.mem_append.mp hi).resolve_right hu) q
/-- a, b = a tuple -/
def bT (n : Nat) (bs : List PV → En → Option En) : PV → En → Option En
  | .tup ps, E => if ps.length = n then bs ps E else none
  | _, _ => none
theorem sg_tup {X : Cx} {es : List Expr} {k : Nat} {pos : Pos} {bs : List PV → En → Option En} {ws : List Nat} {n : Nat} (hc : X.calm = true) (h : SGs X es bs ws) (hn : (assignEach es X.env).length = n := by rfl) (hst : (assignEach es X.env).findIdx? (·.1) = none := by rfl) :
    SG X (.Tuple es k pos) (bT n bs) ws := by
  obtain ⟨g, g1, g2⟩ := h.ex
  refine ⟨_, pg_tup hc g1 hn hst, fun E E2 σ G H Q x p er sb rp e kk => ?_⟩
  cases rp with
  | @tup a vs ps h1 r hl =>
    have e' : (if ps.length = n then bs ps E else none) = some E2 := e
    split at e'
    · rename_i c
      exact ⟨a, vs, rfl, sb.sqt h1, r.length.trans c, g2 E E2 σ G H Q vs ps er sb r e' kk⟩
    · cases e'
  | _ => cases e

/-! ### what is walked -/
structure Goes (K : PySem.W.Frag) (G1 : Hp) (J : It) (items : List PV) : Prop where
  few : items.length ≤ bnd
  goes : ∀ i G' H', i < items.length → Ex G1 G' → Ex G' H' → J.go i H'
  stops : ∀ G' H', Ex G1 G' → Ex G' H' → J.stop items.length H'
  yields : ∀ i G' H' x H2, i < items.length → Ex G1 G' → Ex G' H' → J.yld i H' x H2 → ∃ G2 p, Grow G' H' G2 H2 ∧ items[i]? = some p ∧ Rep K G2 x p
structure SI (X : Cx) (W : WX) (tg e : Expr) (m : En → R (List PV)) : Prop where
  ex : ∃ wi, PI X tg e wi ∧ ∀ E σ G H (Rr : It → Hp → Prop), ER X.K E σ G H → Ex G H →
    PostR X.K W σ G H (fun items => ∀ J G1 H1, Grow G H G1 H1 → Goes X.K G1 J items → Rr J H1) (m E) → wi σ H Rr
def itemsOf : PV → Option (List PV)
  | .lst xs => some xs
  | .tup xs => some xs
  | .str s => some (s.map fun c => .str [c])
  | .scr ns => some (ns.map .int)
  | _ => none
/-- over a list, a tuple, a text -/
def iAny (K : PySem.W.Frag) (tl : TE) : TI := fun σ H R => tl σ H fun x H1 => (∃ a xs, x = .ref a ∧ SqL K H1 a xs ∧ R (Itl K a) H1) ∨ (∃ a xs, x = .ref a ∧ SqT K H1 a xs ∧ R (Itt K a) H1) ∨ (∃ z, x = .str z ∧ R (Its z) H1)
theorem pi_any {X : Cx} {tg l : Expr} {tl : TE} (hl : PE X l tl) : PI X tg l (iAny X.K tl) := by
  refine ⟨fun pins s σ H R I h => ?_⟩
  refine thn (hl.run pins s σ H _ I h) fun v s1 ⟨x, H1, I1, r1, q1⟩ => ?_
  rcases q1 with ⟨a, xs, rfl, hq, q⟩ | ⟨a, xs, rfl, hq, q⟩ | ⟨z, rfl, q⟩
  · cases r1
    obtain ⟨its, rv, p, hz⟩ := I1.list hq
    refine wpAny_pyIter_list p.isList ?_
    refine ⟨s1.heap.objs.size, [s1.heap.objs.size], _, _, H1, rfl, I1.kept (t' := s1.toks) fun b o e => Heap.get?_push_of_some _ e, turn_list a _, ⟨_, Heap.get?_push_size _ rfl, rfl, rfl⟩, fun b hb => ?_, q⟩
    have e : b = s1.heap.objs.size := by simpa using hb
    subst e
    exact I1.fpOk (Nat.le_refl _) (I1.hok.fresh (Nat.le_refl _))
  · cases r1
    obtain ⟨its, rv, p, hz⟩ := I1.tuple hq
    refine wpAny_pyIter_tuple (show s1.heap.IsTuple a its.toArray from p) ?_
    refine ⟨s1.heap.objs.size, [s1.heap.objs.size], _, _, H1, rfl, I1.kept (t' := s1.toks) fun b o e => Heap.get?_push_of_some _ e, turn_tuple a _, ⟨_, Heap.get?_push_size _ rfl, rfl, rfl⟩, fun b hb => ?_, q⟩
    have e : b = s1.heap.objs.size := by simpa using hb
    subst e
    exact I1.fpOk (Nat.le_refl _) (I1.hok.fresh (Nat.le_refl _))
  · obtain ⟨t, rfl⟩ := r1
    cases ha : z.cps.all (· < 128)
    · exact wpAny_pyIter_wide ha (pi_one (tk := s1.toks) I1 _ (turn_str _ z t "str_iterator" (.inr rfl)) ⟨_, Heap.get?_push_size _ rfl, rfl, rfl⟩ q)
    · exact wpAny_pyIter_ascii ha (pi_one (tk := s1.toks) I1 _ (turn_str _ z t "str_ascii_iterator" (.inl rfl)) ⟨_, Heap.get?_push_size _ rfl, rfl, rfl⟩ q)
section
variable {K : PySem.W.Frag} {G : Hp}
theorem goes_list {a : Addr} {vs : List V} {ps : List PV} (h : SqL K G a vs) (r : Reps K G vs ps) (hl : ps.length ≤ bnd) : Goes K G (Itl K a) ps where
  few := hl
  goes := fun i G' H' hi e e' => by
    obtain ⟨v, h1, _⟩ := r.get (i := i) (List.getElem?_eq_getElem hi)
    exact ⟨vs, v, (e.trans e').sql h, h1⟩
  stops := fun G' H' e e' => ⟨vs, (e.trans e').sql h, by rw [r.length]; exact Nat.le_refl _⟩
  yields := fun i G' H' x H2 hi e e' y => by
    obtain ⟨rfl, y⟩ := y
    obtain ⟨p, h1, h2⟩ := r.get' (y vs ((e.trans e').sql h))
    exact ⟨G', p, .refl e', h1, h2.mono e⟩
theorem goes_tup {a : Addr} {vs : List V} {ps : List PV} (h : SqT K G a vs) (r : Reps K G vs ps) (hl : ps.length ≤ bnd) : Goes K G (Itt K a) ps where
  few := hl
  goes := fun i G' H' hi e e' => by
    obtain ⟨v, h1, _⟩ := r.get (i := i) (List.getElem?_eq_getElem hi)
    exact ⟨vs, v, (e.trans e').sqt h, h1⟩
  stops := fun G' H' e e' => ⟨vs, (e.trans e').sqt h, by rw [r.length]; exact Nat.le_refl _⟩
  yields := fun i G' H' x H2 hi e e' y => by
    obtain ⟨rfl, y⟩ := y
    obtain ⟨p, h1, h2⟩ := r.get' (y vs ((e.trans e').sqt h))
    exact ⟨G', p, .refl e', h1, h2.mono e⟩
theorem goes_str {s : List Nat} (h : okS s = true) : Goes K G (Its (S s)) (s.map fun c => .str [c]) where
  few := by rw [List.length_map]; exact okS_len h
  goes := fun i G' H' hi e e' => by rw [List.length_map] at hi; exact hi
  stops := fun G' H' e e' => by rw [List.length_map]; exact Nat.le_refl _
  yields := fun i G' H' x H2 hi e e' y => by
    obtain ⟨rfl, c, hc, rfl⟩ := y
    have hc' : s[i]? = some c := by simpa using hc
    exact ⟨G', .str [c], .refl e', by rw [List.getElem?_map, hc']; rfl, .str [c] (okS_one h (List.mem_of_getElem? hc'))⟩
theorem goes_range {lo : Int} {n : Nat} (h : n ≤ bnd) : Goes K G (Itr lo n) ((List.range n).map fun i => .int (lo + (i : Nat))) where
  few := by simpa using h
  goes := fun i G' H' hi e e' => by rw [List.length_map, List.length_range] at hi; exact hi
  stops := fun G' H' e e' => by
    show n ≤ _
    simp
  yields := fun i G' H' x H2 hi e e' y => by
    obtain ⟨rfl, rfl⟩ := y
    have hi' : i < n := by simpa using hi
    exact ⟨G', .int (lo + (i : Nat)), .refl e', by simp [hi'], .int _⟩
end
def iV (a : En → R PV) : En → R (List PV) := fun E => (a E).bind fun p => R.of (itemsOf p)
section
variable {X : Cx} {W : WX} {tg e a b : Expr} {ma mb : En → R PV} {mes : En → R (List PV)} {pos p : Pos}
theorem si_any (h : SE X W e ma) : SI X W tg e (iV ma) := by
  obtain ⟨t, h1, h2⟩ := h.ex
  refine ⟨_, pi_any h1, fun E σ G H Rr er s post => ?_⟩
  refine h2.then er s post fun p v G1 H1 g1 rv post => ?_
  obtain ⟨z, hz, k⟩ := of_some post
  cases rv <;> simp only [itemsOf] at hz <;> first | (cases hz; done) | skip
  case str s hs => cases hz; exact .inr (.inr ⟨_, rfl, k _ G1 H1 g1 (goes_str hs)⟩)
  case tup a vs ps h r hl => cases hz; exact .inr (.inl ⟨a, vs, rfl, g1.sub.sqt h, k _ G1 H1 g1 (goes_tup h r hl)⟩)
  case lst a vs ps h r hl => cases hz; exact .inl ⟨a, vs, rfl, SqL.of (g1.sub _ _ h), k _ G1 H1 g1 (goes_list (SqL.of h) r hl)⟩
  case scr a ns h hl => cases hz; exact .inl ⟨a, _, rfl, g1.sub.sql h, k _ G1 H1 g1 (goes_list h (Reps.ints ns) (by rw [List.length_map]; exact hl))⟩
def rangeI1 : List PV → Option (List PV)
  | [.int n] => if -1000000 ≤ n ∧ n ≤ 1000000 then some ((List.range n.toNat).map fun i => .int (0 + (i : Nat))) else none
  | _ => none
def rangeI2 : List PV → Option (List PV)
  | [.int a, .int b] => if -1000000 ≤ a ∧ a ≤ 1000000 ∧ -1000000 ≤ b ∧ b ≤ 1000000 ∧ (b - a).toNat ≤ 1000000 then some ((List.range (b - a).toNat).map fun i => .int (a + (i : Nat))) else none
  | _ => none
def iR1 (r : En → R (List PV)) : En → R (List PV) := fun E => (r E).bind fun ps => R.of (rangeI1 ps)
def iR2 (r : En → R (List PV)) : En → R (List PV) := fun E => (r E).bind fun ps => R.of (rangeI2 ps)
theorem si_range1 (hg : Gl X "range") (hm : X.mg "range" = none) (ha : SA X W [a] mes) (hs : starEach [a] X.env = [(false, eval a X.env)] := by rfl) : SI X W tg (.Call (.Name "range" p) [a] [] pos) (iR1 mes) := by
  obtain ⟨t, h1, h2⟩ := ha.ex
  refine ⟨_, pi_range1 hg hm h1 hs, fun E σ G H Rr er s post => ?_⟩
  refine h2.then er s post fun ps vs G1 H1 g1 rvs post => ?_
  obtain ⟨z, hz, k⟩ := of_some post
  match ps, hz with
  | [p], hz =>
    obtain ⟨v, rfl, rv⟩ := rvs.one'
    cases rv <;> simp only [rangeI1] at hz <;> first | (cases hz; done) | skip
    case int n =>
      split at hz
      · rename_i c; cases hz
        exact ⟨n, rfl, by omega, by omega, k _ G1 H1 g1 (goes_range (by unfold bnd; omega))⟩
      · cases hz
  | [], hz => cases hz
  | p :: q :: r', hz => simp [rangeI1] at hz
theorem si_range2 (hg : Gl X "range") (hm : X.mg "range" = none) (ha : SA X W [a, b] mes) (hs : starEach [a, b] X.env = [(false, eval a X.env), (false, eval b X.env)] := by rfl) (hs2 : starEach [b] X.env = [(false, eval b X.env)] := by rfl) : SI X W tg (.Call (.Name "range" p) [a, b] [] pos) (iR2 mes) := by
  obtain ⟨t, h1, h2⟩ := ha.ex
  refine ⟨_, pi_range2 hg hm h1 hs hs2, fun E σ G H Rr er s post => ?_⟩
  refine h2.then er s post fun ps vs G1 H1 g1 rvs post => ?_
  obtain ⟨z, hz, k⟩ := of_some post
  match ps, hz with
  | [p, q], hz =>
    cases rvs with
    | cons r1 r2 =>
      obtain ⟨v, rfl, rq⟩ := r2.one'
      cases r1 <;> cases rq <;> simp only [rangeI2] at hz <;> first | (cases hz; done) | skip
      rename_i a' b'
      by_cases c : -1000000 ≤ a' ∧ a' ≤ 1000000 ∧ -1000000 ≤ b' ∧ b' ≤ 1000000 ∧ (b' - a').toNat ≤ 1000000
      · rw [if_pos c] at hz
        injection hz with hz
        subst hz
        exact ⟨_, _, rfl, ⟨by omega, by omega, by omega, by omega⟩, k _ G1 H1 g1 (goes_range (by unfold bnd; omega))⟩
      · rw [if_neg c] at hz; exact absurd hz (by simp)
  | [], hz => cases hz
  | [p], hz => cases p <;> simp [rangeI2] at hz
  | p :: q :: o :: r', hz => cases p <;> cases q <;> simp [rangeI2] at hz
end
end Sm
set_option Elab.async false
set_option linter.all false
set_option maxRecDepth 100000
set_option maxHeartbeats 4000000
namespace Sm
open PySem PySem.Spec PyProof.Rows L2
open SX (S S_len S_inj S_tl S_cat)

def W0 : WX := fun _ _ _ _ => False
/-! ### comprehensions -/
structure STs (X : Cx) (W : WX) (ifs : List Expr) (m : En → R Bool) : Prop where
  ex : ∃ t, PTs X ifs t ∧ CorrT X.K W t m
def tY : En → R Bool := fun _ => .ok true
theorem sts_nil {X : Cx} {W : WX} : STs X W [] tY := ⟨_, pts_nil, fun E σ G H Q er s post => post G H (.refl s)⟩
theorem sts_one {X : Cx} {W : WX} {c : Expr} {m : En → R Bool} (h : ST X W c m) : STs X W [c] m := by
  obtain ⟨t, h1, h2⟩ := h.ex
  exact ⟨_, pts_one h1, h2⟩
theorem STs.canon {X : Cx} {W : WX} {ifs : List Expr} {m : En → R Bool} (h : STs X W ifs m) : PTs X ifs (ttOf X.K W m) := by
  obtain ⟨t, h1, h2⟩ := h.ex
  exact ⟨fun pins s σ H Q I ⟨E, G, er, sb, post⟩ => h1.run pins s σ H Q I (h2 E σ G H Q er sb post)⟩
def wipeE (E : En) : List Nat → En
  | [] => E
  | v :: vs => (wipeE E vs).set v none
def noEx {α : Type} : R α → R α
  | .ex _ => .stk
  | r => r
@[simp] theorem noEx_ok {α : Type} (a : α) : noEx (R.ok a) = .ok a := rfl
@[simp] theorem noEx_stk {α : Type} : noEx (R.stk : R α) = .stk := rfl
def consO : Option PV → List PV → List PV
  | some p, l => p :: l
  | none, l => l
@[simp] theorem consO_some (p : PV) (l : List PV) : consO (some p) l = p :: l := rfl
@[simp] theorem consO_none (l : List PV) : consO none l = l := rfl
def compM (f : PV → R (Option PV)) : List PV → R (List PV)
  | [] => .ok []
  | x :: xs => (f x).bind fun o => (compM f xs).bind fun r => .ok (consO o r)
def lcB (b : PV → En → Option En) (mt : En → R Bool) (me : En → R PV) (E0 : En) (x : PV) : R (Option PV) :=
  (R.of (b x E0)).bind fun E2 => (noEx (mt E2)).bind fun k => if k = true then (noEx (me E2)).bind fun p => .ok (some p) else .ok none
def eLc (mi : En → R (List PV)) (b : PV → En → Option En) (mt : En → R Bool) (me : En → R PV) (vs : List Nat) : En → R PV :=
  fun E => (mi E).bind fun items => (compM (lcB b mt me (wipeE E vs)) items).bind fun l => .ok (.lst l)
theorem ER.wipe {K : PySem.W.Frag} {E : En} {σ : L2.St} {G H : Hp} (er : ER K E σ G H) : ∀ vs : List Nat, ER K (wipeE E vs) (L2.wipe σ vs) G H
  | [] => er
  | v :: vs => by
    have ih := er.wipe vs
    unfold wipeE L2.wipe
    refine ⟨by simp [ih.len], fun i s e => ?_⟩
    by_cases hi : v = i
    · subst hi
      by_cases hl : v < (wipeE E vs).length
      · rw [List.getElem?_set_self hl] at e; cases e
      · rw [List.getElem?_eq_none (by simpa using hl)] at e; cases e
    · rw [List.getElem?_set_ne hi] at e ⊢
      exact ih.at_ i s e
theorem wipe_get {σ : L2.St} {i : Nat} : ∀ {vs : List Nat}, (wipe σ vs)[i]? = if i ∈ vs then (if i < σ.length then some none else none) else σ[i]?
  | [] => by simp [wipe]
  | v :: vs => by
    unfold wipe
    by_cases h : v = i
    · subst h
      rw [if_pos List.mem_cons_self, List.getElem?_set, if_pos rfl, wipe_length]
    · rw [List.getElem?_set_ne h, wipe_get (vs := vs)]
      have : (i ∈ v :: vs) ↔ i ∈ vs := by simp [Ne.symm h]
      simp only [this]
theorem wipe_same {σ σ2 : L2.St} {ws vs : List Nat} (so : SameOff ws (wipe σ vs) σ2) (hw : ∀ w ∈ ws, w ∈ vs) : wipe σ2 vs = wipe σ vs := by
  have hl : σ2.length = σ.length := so.1.trans (wipe_length σ vs)
  refine List.ext_getElem? fun i => ?_
  rw [wipe_get, wipe_get, hl]
  by_cases h : i ∈ vs
  · rw [if_pos h, if_pos h]
  · rw [if_neg h, if_neg h, so.2 i fun hm => h (hw i hm), wipe_get, if_neg h]
theorem Grow.mut {G H G' H' : Hp} {D : Addr} {o : HO} (g : Grow G H G' H') (h : H D = none) (h' : G' D = none) : Grow G H G' (upd H' D o) :=
  ⟨fun a u e => by rw [upd_ne (ne_of_none e h)]; exact g.eH a u e, g.eG, fun a u e => by rw [upd_ne (ne_of_none e h')]; exact g.sub a u e, g.new⟩
theorem Grow.stays {G H G' H' : Hp} (g : Grow G H G' H') {D : Addr} {o : HO} (h : G D = none) (h' : H D = some o) : G' D = none := by
  cases e : G' D with
  | none => rfl
  | some u =>
    rcases g.new D (by rw [e]; simp) with q | q
    · exact absurd h q
    · rw [h'] at q; cases q
theorem bind_ok {α β : Type} {r : R α} {f : α → R β} {b : β} (h : r.bind f = .ok b) : ∃ a, r = .ok a ∧ f a = .ok b := by
  cases r with
  | stk => cases h
  | ok a => exact ⟨a, rfl, h⟩
  | ex c => cases h
theorem of_ok {α : Type} {o : Option α} {a : α} (h : R.of o = .ok a) : o = some a := by
  cases o with
  | none => cases h
  | some b => cases h; rfl
theorem noEx_eq {α : Type} {r : R α} {a : α} (h : noEx r = .ok a) : r = .ok a := by
  cases r with
  | ex c => cases h
  | _ => exact h
theorem compM_noex {f : PV → R (Option PV)} (hf : ∀ x c, f x ≠ .ex c) : ∀ (l : List PV) (c : Str), compM f l ≠ .ex c
  | [], c, h => by cases h
  | x :: xs, c, h => by
    unfold compM at h
    cases e : f x with
    | stk => rw [e] at h; cases h
    | ex d => exact hf x d e
    | ok o =>
      rw [e] at h
      have h : (compM f xs).bind _ = R.ex c := h
      cases e2 : compM f xs with
      | stk => rw [e2] at h; cases h
      | ok r => rw [e2] at h; cases h
      | ex d => exact compM_noex hf xs d e2
theorem lcB_noex {b : PV → En → Option En} {mt : En → R Bool} {me : En → R PV} {E0 : En} (x : PV) (c : Str) : lcB b mt me E0 x ≠ .ex c := by
  intro h
  unfold lcB at h
  cases e : b x E0 with
  | none => rw [e] at h; cases h
  | some E2 =>
    rw [e] at h
    have h : (noEx (mt E2)).bind _ = R.ex c := h
    cases e1 : mt E2 with
    | stk => rw [e1] at h; cases h
    | ex d => rw [e1] at h; cases h
    | ok k =>
      rw [e1] at h
      cases k with
      | false => cases h
      | true =>
        have h : (noEx (me E2)).bind _ = R.ex c := h
        cases e2 : me E2 with
        | stk => rw [e2] at h; cases h
        | ex d => rw [e2] at h; cases h
        | ok p => rw [e2] at h; cases h
theorem corr_lc {K : PySem.W.Frag} {W : WX} {wi : TI} {mi : En → R (List PV)} {b : PV → En → Option En} {ws vs : List Nat} {mt : En → R Bool} {me : En → R PV}
    (hi : ∀ E σ G H (Rr : It → Hp → Prop), ER K E σ G H → Ex G H → PostR K W σ G H (fun items => ∀ J G1 H1, Grow G H G1 H1 → Goes K G1 J items → Rr J H1) (mi E) → wi σ H Rr) (hw : ∀ w ∈ ws, w ∈ vs) :
    CorrL K W (tLc wi (gOf K b ws) (ttOf K W0 mt) (tOf K W0 me) vs) (eLc mi b mt me vs) := by
  intro E σ G H Q er s post
  refine hi E σ G H _ er s (post.bind.imp fun items _ post J G1 H1 g0 go => ?_)
  intro D hD
  -- the list that comes out
  cases hc : compM (lcB b mt me (wipeE E vs)) items with
  | stk => rw [hc] at post; exact post.elim
  | ex c => exact absurd hc (compM_noex lcB_noex items c)
  | ok l =>
  rw [hc] at post
  have post : ∀ a G' H', Grow G H G' H' → H a = none → G' a = none → Cell K G' H' a (.lst l) → Q (.ref a) H' := post
  have hD1 : G1 D = none := g0.sub.free hD
  let Pv : Nat → Hp → Prop := fun i Hh => ∃ Gi acc ps r, Grow G1 H1 Gi Hh ∧ Gi D = none ∧ Hh D = some (.lst acc) ∧ Reps K Gi acc ps ∧ ps.length ≤ i ∧ compM (lcB b mt me (wipeE E vs)) (items.drop i) = .ok r ∧ l = ps ++ r
  refine ⟨fun i m Hh => m = items.length - i ∧ i ≤ items.length ∧ Pv i Hh, ⟨items.length, by simp, Nat.zero_le _, G1, [], [], l, (Grow.refl g0.sub).mut hD hD1, hD1, upd_same, .nil, Nat.le_refl _, hc, rfl⟩, ?_⟩
  rintro i m Hh ⟨rfl, hil, Gi, acc, ps, r, g, hGD, hHD, rs, hpl, hcr, el⟩
  by_cases hlt : i < items.length
  · refine .inr ⟨go.goes i Gi Hh hlt g.eG g.sub, Pv (i + 1), fun H' p' => ⟨items.length - (i + 1), by omega, rfl, hlt, p'⟩, fun x H' y => ?_⟩
    obtain ⟨G2, p, g2, hp, rp⟩ := go.yields i Gi Hh x H' hlt g.eG g.sub y
    have hd : items.drop i = p :: items.drop (i + 1) := by
      rw [List.drop_eq_getElem_cons hlt]
      rw [List.getElem?_eq_getElem hlt] at hp
      cases hp; rfl
    rw [hd] at hcr
    obtain ⟨o, ho, hcr⟩ := bind_ok (show (lcB b mt me (wipeE E vs) p).bind _ = _ from hcr)
    obtain ⟨r', hr', hcr⟩ := bind_ok hcr
    injection hcr with hcr
    obtain ⟨E2, hE2, ho⟩ := bind_ok (show (R.of (b p (wipeE E vs))).bind _ = _ from ho)
    have hE2 := of_ok hE2
    obtain ⟨k, hk, ho⟩ := bind_ok ho
    have hk := noEx_eq hk
    have gg : Grow G1 H1 G2 H' := g.trans g2
    have hG2D : G2 D = none := g2.stays hGD hHD
    have hH'D : H' D = some (.lst acc) := g2.eH D _ hHD
    refine ⟨wipeE E vs, E2, G2, p, (er.mono (g0.trans gg)).wipe vs, gg.sub, rp, hE2, fun σ2 er2 so bo => ⟨wipe_same so hw, E2, G2, er2, gg.sub, ?_⟩⟩
    rw [hk]
    intro G3 H3 g3
    have hG3D := g3.stays hG2D hH'D
    have hH3D := g3.eH D _ hH'D
    cases k with
    | false =>
      refine iteF ?_
      have ho : R.ok none = R.ok o := ho
      cases ho
      exact ⟨G3, acc, ps, r', gg.trans g3, hG3D, hH3D, (rs.mono (g2.eG.trans g3.eG)), by omega, hr', by rw [el, ← hcr]; rfl⟩
    | true =>
      refine iteT ?_
      obtain ⟨q, hq, ho⟩ := bind_ok (show (noEx (me E2)).bind _ = _ from ho)
      have hq := noEx_eq hq
      cases ho
      refine ⟨E2, G3, er2.mono g3, g3.sub, ?_⟩
      rw [hq]
      intro v G4 H4 g4 rv
      have hG4D := g4.stays hG3D hH3D
      have hH4D := g4.eH D _ hH3D
      refine ⟨acc, hH4D, bnd_lt (by have := go.few; rw [rs.length]; omega), G4, acc ++ [v], ps ++ [q], r', ((gg.trans g3).trans g4).mut hD hG4D, hG4D, upd_same, (rs.mono ((g2.eG.trans g3.eG).trans g4.eG)).append (.one rv), by simp; omega, hr', by rw [el, ← hcr]; simp⟩
  · have e : i = items.length := by omega
    subst e
    rw [List.drop_length] at hcr
    cases hcr
    rw [List.append_nil] at el
    subst el
    exact .inl ⟨go.stops Gi Hh g.eG g.sub, post D Gi Hh (g0.trans g) (g0.eH.free hD) hGD (.lst hHD rs (Nat.le_trans hpl go.few))⟩
section
variable {X : Cx} {W : WX} {tg elt iter : Expr} {ifs : List Expr} {scope : Scope} {own : List (Str × Nat)} {pos spos py : Pos} {mi : En → R (List PV)} {b : PV → En → Option En} {ws : List Nat} {mt : En → R Bool} {me : En → R PV} {i : Nat} {y : Str} {vs : List Nat}
theorem sl_lc (hc : X.calm = true) (hN : X.N.Nodup) (hi : SI X W tg iter mi) (ok : BlkOk X.N X.env.scope scope own) (hvs : own.map (·.2) = vs) (hw : ∀ w ∈ ws, w ∈ vs)
    (hg : ∀ (s : Shared) (H : Hp) (C : Addr) (cl : List (Str × Addr)) (fp : List Addr), SG (X.blk s H scope (compEnvC scope cl C X.env) fp) tg b ws)
    (ht : ∀ (s : Shared) (H : Hp) (C : Addr) (cl : List (Str × Addr)) (fp : List Addr), STs (X.blk s H scope (compEnvC scope cl C X.env) fp) W0 ifs mt)
    (he : ∀ (s : Shared) (H : Hp) (C : Addr) (cl : List (Str × Addr)) (fp : List Addr), SE (X.blk s H scope (compEnvC scope cl C X.env) fp) W0 elt me)
    (hs : ∀ x, foldedSetIterable iter X.env x = pure x := by intro _; rfl) : SL X W (.ListComp elt [⟨tg, iter, ifs, 0⟩] scope pos) (eLc mi b mt me vs) := by
  subst hvs
  obtain ⟨wi, i1, i2⟩ := hi.ex
  exact ⟨_, pe_lc hc hN i1 ok (fun s H C cl fp => (hg s H C cl fp).canon) (fun s H C cl fp => (ht s H C cl fp).canon) (fun s H C cl fp => (he s H C cl fp).canon) hs, corr_lc i2 hw⟩
/-- name = [..]: the statement and its list -/
structure PLc (X : Cx) (W : WX) (st : Stmt) (i : Nat) (m : En → R PV) : Prop where
  ex : ∃ t, PS X st (tAsg t (gName i)) ∧ CorrL X.K W t m
theorem plc_set (hc : X.calm = true) (hN : X.N.Nodup) (hy : X.N[i]? = some y) (hyl : X.env.scope.names.lookup y = some .local) (hsw : swapsWith (.ListComp elt [⟨tg, iter, ifs, 0⟩] scope pos) (some (.Name y py)) spos.line X.env = pure true)
    (hi : SI X W tg iter mi) (ok : BlkOk X.N X.env.scope scope own) (hvs : own.map (·.2) = vs) (hw : ∀ w ∈ ws, w ∈ vs)
    (hg : ∀ (s : Shared) (H : Hp) (C : Addr) (cl : List (Str × Addr)) (fp : List Addr), SG (X.blk s H scope (compEnvC scope cl C X.env) fp) tg b ws)
    (ht : ∀ (s : Shared) (H : Hp) (C : Addr) (cl : List (Str × Addr)) (fp : List Addr), STs (X.blk s H scope (compEnvC scope cl C X.env) fp) W0 ifs mt)
    (he : ∀ (s : Shared) (H : Hp) (C : Addr) (cl : List (Str × Addr)) (fp : List Addr), SE (X.blk s H scope (compEnvC scope cl C X.env) fp) W0 elt me)
    (hs : ∀ x, foldedSetIterable iter X.env x = pure x := by intro _; rfl) : PLc X W (.Assign [.Name y py] (.ListComp elt [⟨tg, iter, ifs, 0⟩] scope pos) spos) i (eLc mi b mt me vs) := by
  subst hvs
  obtain ⟨wi, i1, i2⟩ := hi.ex
  exact ⟨_, ps_setLc hc hN hy hyl hsw i1 ok (fun s H C cl fp => (hg s H C cl fp).canon) (fun s H C cl fp => (ht s H C cl fp).canon) (fun s H C cl fp => (he s H C cl fp).canon) hs, corr_lc i2 hw⟩
theorem plc_of {e : Expr} {m : En → R PV} (hN : X.N.Nodup) (hi : X.N[i]? = some y) (hx : Loc X.env.scope y) (h : SL X W e m) (hs : swapsWith e (some (.Name y py)) pos.line X.env = pure false := by rfl) (hf : X.fn y = true ∨ X.env.scope.names.lookup y = some .local := by first | exact .inl rfl | exact .inr rfl) :
    PLc X W (.Assign [.Name y py] e pos) i m := by
  obtain ⟨t, h1, h2⟩ := h.ex
  exact ⟨t, ps_set hN hi hx h1 hs hf, h2⟩
end
end Sm
set_option Elab.async false
set_option linter.all false
set_option maxRecDepth 100000
set_option maxHeartbeats 4000000
namespace Sm
open PySem PySem.Spec PyProof.Rows L2
open SX (S S_len S_inj S_tl S_cat)

/-! ### defs -/
def spF (K : PySem.W.Frag) (F : List PV → R PV) : Sp := fun vs H Q E => ∃ G ps, Ex G H ∧ Reps K G vs ps ∧ (match F ps with
  | .stk => False
  | .ok p => ∀ v G' H', Grow G H G' H' → Rep K G' v p → Q v H'
  | .ex c => ∀ G' H', Grow G H G' H' → E (excA K c) none H')
/-- the def x does F -/
structure FnS (P : Program) (w : World) (K : PySem.W.Frag) (mg : Str → Option Value) (base : Heap) (k : Nat) (x : Str) (F : List PV → R PV) : Prop where
  ex : ∃ fd ps, FnOk P w K mg base (L2.CX P w) k (He.ga K x) fd ps (spF K F) ∧ Binds K fd ps [] ∧ PySem.W.keepIn K (.ref (He.ga K x)) = true ∧ mg x = some (.ref (He.ga K x))
section
variable {X : Cx} {W : WX} {k j : Nat} {x : Str} {F : List PV → R PV} {e : Expr} {es : List Expr} {mes : En → R (List PV)} {me : En → R PV} {p p2 pos : Pos}
theorem se_call (c : FnS X.prog X.w X.K X.mg X.base k x F) (hr : Room j X.A) (hk : k ≤ j) (hg : Gl X x) (tk : Takes X W) (ha : SA X W (e :: es) mes)
    (hdb : (x == ("__debug__" : Str)) = false := by decide) (he : starEach (e :: es) X.env = (false, eval e X.env) :: starEach es X.env := by rfl) (hpl : (backTo pos (starEach es X.env)).any (·.1) = false := by rfl) :
    SE X W (.Call (.Name x p) (e :: es) [] pos) (eF F mes) := by
  obtain ⟨fd, ps, fn, hb, kp, hm⟩ := c.ex
  obtain ⟨t, a1, a2⟩ := ha.ex
  refine ⟨_, pe_callS fn (hr.mono hk) hg hm kp hb (fun σ => passAt tk σ) a1 hdb he hpl, fun E σ G H Q er s post => ?_⟩
  refine a2.then er s (postE_iff.mp post) fun ps vs G1 H1 g1 rvs post => ?_
  refine ⟨G1, ps, g1.sub, rvs, ?_⟩
  cases e : F ps with
  | stk => rw [e] at post; exact post
  | ok z => rw [e] at post; exact fun v G' H' g r => post v G' H' (g1.trans g) r
  | ex c => rw [e] at post; exact fun G' H' g => post G' H' g
theorem se_call0 (c : FnS X.prog X.w X.K X.mg X.base k x F) (hr : Room j X.A) (hk : k ≤ j) (hg : Gl X x) (hdb : (x == ("__debug__" : Str)) = false := by decide) :
    SE X W (.Call (.Name x p) [] [] pos) (fun _ => noEx (F [])) := by
  obtain ⟨fd, ps, fn, hb, kp, hm⟩ := c.ex
  refine ⟨_, pe_call0 fn (hr.mono hk) hg hm kp hb .nil (passL (X := X)) hdb, fun E σ G H Q er s post => ?_⟩
  refine ⟨G, [], s, .nil, ?_⟩
  cases e : F [] with
  | stk => rw [e] at post; exact post
  | ok z => rw [e] at post; exact fun v G' H' g r => post v G' H' g r
  | ex c => rw [e] at post; exact post.elim
/-! ### isinstance -/
def tyN : PV → Option String
  | .non => some "NoneType"
  | .bl _ => some "bool"
  | .int _ => some "int"
  | .str _ => some "str"
  | .tup _ => some "tuple"
  | .lst _ => some "list"
  | .dct _ => some "dict"
  | .scr _ => none
def isB (T n : String) : Bool := n == T || (T == "int" && n == "bool")
def isI (T : String) (p : PV) : Option PV := (tyN p).map fun n => .bl (isB T n)
theorem tyX_rep {K : PySem.W.Frag} {G H : Hp} (s : Ex G H) {v : V} {p : PV} {n : String} (r : Rep K G v p) (h : tyN p = some n) : TyX K H v (.type n) := by
  cases r <;> simp only [tyN] at h <;> first | (cases h; done) | skip
  case non => cases h; exact .base .non
  case bl b => cases h; exact .base (.bl b)
  case int i => cases h; exact .base (.int i)
  case str x hx => cases h; exact .base (.str _)
  case tup a vs ps h' r' hl =>
    cases h
    rcases h' with (h' | ⟨o, h'⟩) | ⟨o, its, n', q1, q2, _⟩
    · exact .base (.tup (s _ _ h'))
    · exact .fTuple (s _ _ h')
    · exact .kTuple q1 q2
  case lst a vs ps h' r' hl => cases h; exact .base (.lst (s _ _ h'))
  case dct a kvs kps h' hk r' hl => cases h; exact .base (.dK (s _ _ h'))
def tyKit : List String := ["NoneType", "bool", "int", "str", "tuple", "list", "dict"]
theorem kit_all {T : String} (h : (tyKit.all fun n => decide (kitB n T = some (isB T n))) = true) {n : String} {p : PV} (hn : tyN p = some n) : kitB n T = some (isB T n) := by
  have m : n ∈ tyKit := by cases p <;> simp [tyN] at hn <;> subst hn <;> decide
  exact of_decide_eq_true (List.all_eq_true.mp h n m)
theorem se_isi {T : Str} {T' : String} (hg : Gl X "isinstance") (hm : X.mg "isinstance" = none) (hgT : Gl X T) (hmT : X.mg T = none) (hvT : bootBuiltins T = some (.type T')) (hk : (tyKit.all fun n => decide (kitB n T' = some (isB T' n))) = true) (ha : SE X W e me)
    (hnT : T ≠ "__name__" := by decide) (hdT : (T == ("__debug__" : Str)) = false := by decide)
    (he1 : starEach [.Name T p2] X.env = [(false, eval (.Name T p2) X.env)] := by rfl) (he : starEach [e, .Name T p2] X.env = (false, eval e X.env) :: starEach [.Name T p2] X.env := by rfl) :
    SE X W (.Call (.Name "isinstance" p) [e, .Name T p2] [] pos) (e1 (isI T') me) := by
  obtain ⟨t, a1, a2⟩ := ha.ex
  refine ⟨_, pe_callB call_isi hg hm (by decide +kernel) (pa_cons a1 (pa_cons (pe_bltn (v := .ty T') hgT hmT hvT rfl hnT hdT) pa_nil he1) he) (by decide) (by decide) he (by rw [he1]; rfl), fun E σ G H Q er s post => ?_⟩
  refine a2.then er s (postE_iff.mp post) fun q v G1 H1 g1 rv post => ?_
  obtain ⟨z, hz, k⟩ := of_some post
  obtain ⟨n, hn, rfl⟩ := Option.map_eq_some_iff.mp hz
  exact ⟨v, .ty T', .type n, .type T', isB T' n, rfl, .ty T', tyX_rep g1.sub rv hn, kit_ty (kit_all hk hn), k _ G1 H1 g1 (.bl _)⟩
/-- isinstance(e, (T, U)) -/
def isI2 (T U : String) (p : PV) : Option PV := (tyN p).map fun n => .bl (isB T n || isB U n)
theorem se_isi2 {T U : Str} {T' U' : String} {p3 p4 : Pos} {kk : Nat} (hg : Gl X "isinstance") (hm : X.mg "isinstance" = none) (hgT : Gl X T) (hmT : X.mg T = none) (hvT : bootBuiltins T = some (.type T')) (hk : (tyKit.all fun n => decide (kitB n T' = some (isB T' n))) = true)
    (hgU : Gl X U) (hmU : X.mg U = none) (hvU : bootBuiltins U = some (.type U')) (hkU : (tyKit.all fun n => decide (kitB n U' = some (isB U' n))) = true) (ha : SE X W e me)
    (hnT : T ≠ "__name__" := by decide) (hdT : (T == ("__debug__" : Str)) = false := by decide) (hnU : U ≠ "__name__" := by decide) (hdU : (U == ("__debug__" : Str)) = false := by decide)
    (he0 : starEach [.Name U p3] X.env = [(false, eval (.Name U p3) X.env)] := by rfl) (he3 : starEach [.Name T p2, .Name U p3] X.env = (false, eval (.Name T p2) X.env) :: starEach [.Name U p3] X.env := by rfl)
    (he1 : starEach [.Tuple [.Name T p2, .Name U p3] kk p4] X.env = [(false, eval (.Tuple [.Name T p2, .Name U p3] kk p4) X.env)] := by rfl)
    (he : starEach [e, .Tuple [.Name T p2, .Name U p3] kk p4] X.env = (false, eval e X.env) :: starEach [.Tuple [.Name T p2, .Name U p3] kk p4] X.env := by rfl) :
    SE X W (.Call (.Name "isinstance" p) [e, .Tuple [.Name T p2, .Name U p3] kk p4] [] pos) (e1 (isI2 T' U') me) := by
  obtain ⟨t, a1, a2⟩ := ha.ex
  refine ⟨_, pe_callB call_isiT hg hm (by decide +kernel) (pa_cons a1 (pa_cons (pe_tup (pa_cons (pe_bltn (v := .ty T') hgT hmT hvT rfl hnT hdT) (pa_cons (pe_bltn (v := .ty U') hgU hmU hvU rfl hnU hdU) pa_nil he0) he3)) pa_nil he1) he) (by decide) (by decide) he (by rw [he1]; rfl), fun E σ G H Q er s post => ?_⟩
  refine a2.then er s (postE_iff.mp post) fun q v G1 H1 g1 rv post => ?_
  obtain ⟨z, hz, k⟩ := of_some post
  obtain ⟨n, hn, rfl⟩ := Option.map_eq_some_iff.mp hz
  refine ⟨by show 2 ≤ sizeLine; decide, fun tp htp => ?_⟩
  have g := Grow.apart g1.sub htp (.tup [.ty T', .ty U'])
  refine ⟨v, tp, [.ty T', .ty U'], .type n, [.type T', .type U'], isB T' n || isB U' n, rfl, upd_same, .cons (.ty T') (.cons (.ty U') .nil), tyX_rep g.sub (rv.mono g.eG) hn, ?_, k _ _ _ (g1.trans g) (.bl _)⟩
  refine kitAny_cons (kit_ty (kit_all hk hn)) (fun h => ?_) fun h => by rw [h]; rfl
  refine kitAny_cons (kit_ty (kit_all hkU hn)) (fun h2 => ?_) fun h2 => by rw [h, h2]; rfl
  rw [h, h2]; exact kitAny_nil
end

/-! ### statements -/
structure SR (K : PySem.W.Frag) (G0 H0 : Hp) (E : En) (σ : L2.St) (G H : Hp) : Prop where
  gr : Grow G0 H0 G H
  er : ER K E σ G H
  own : ∀ (i : Nat) (p : PV) (a : Addr), E[i]? = some (some (.own p)) → σ[i]? = some (some (.ref a)) → G a = none ∧ H0 a = none
  apart : ∀ (i j : Nat) (p q : PV) (a : Addr), i ≠ j → E[i]? = some (some (.own p)) → E[j]? = some (some (.own q)) → σ[i]? = some (some (.ref a)) → σ[j]? ≠ some (some (.ref a))
inductive Res where
  | stk
  | nx (E : En)
  | rt (p : PV)
  | bk (E : En)
  | ct (E : En)
  | ex (c : Str) (E : En)
def PostS (K : PySem.W.Frag) (W : WX) (G0 H0 : Hp) (D : Ends) : Res → Prop
  | .stk => False
  | .nx E => ∀ σ G H, SR K G0 H0 E σ G H → D.nx σ H
  | .rt p => ∀ v G H, Grow G0 H0 G H → Rep K G v p → D.rt v H
  | .bk E => ∀ σ G H, SR K G0 H0 E σ G H → D.bk σ H
  | .ct E => ∀ σ G H, SR K G0 H0 E σ G H → D.ct σ H
  | .ex c E => ∀ σ G H, SR K G0 H0 E σ G H → W (excA K c) none σ H
def CorrS (K : PySem.W.Frag) (W : WX) (t : TS) (f : En → Res) : Prop := ∀ G0 H0 E σ G H D, SR K G0 H0 E σ G H → PostS K W G0 H0 D (f E) → t D σ H
structure SS (X : Cx) (W : WX) (st : Stmt) (f : En → Res) : Prop where
  ex : ∃ t, PS X st t ∧ CorrS X.K W t f
structure SSs (X : Cx) (W : WX) (st : List Stmt) (f : En → Res) : Prop where
  ex : ∃ t, PSs X st t ∧ CorrS X.K W t f
section
variable {K : PySem.W.Frag} {G0 H0 G H G' H' : Hp} {E : En} {σ : L2.St}
theorem SR.mono (r : SR K G0 H0 E σ G H) (g : Grow G H G' H') : SR K G0 H0 E σ G' H' :=
  ⟨r.gr.trans g, r.er.mono g, fun i p a e s => by
    obtain ⟨q1, q2⟩ := r.own i p a e s
    obtain ⟨v, h1, a', h2, c⟩ := r.er.at_ i _ e
    rw [s] at h1; cases h1; cases h2
    refine ⟨?_, q2⟩
    cases c with
    | lst h _ _ => exact g.stays q1 h
    | dct h _ _ _ => exact g.stays q1 h, r.apart⟩
/-- a slot with a value that is shared -/
theorem SR.set (r : SR K G0 H0 E σ G H) {v : V} {p : PV} (rv : Rep K G v p) (i : Nat) : SR K G0 H0 (E.set i (some (.val p))) (σ.set i (some v)) G H := by
  have old : ∀ (j : Nat) (q : PV), (E.set i (some (Sl.val p)))[j]? = some (some (Sl.own q)) → j ≠ i ∧ E[j]? = some (some (.own q)) := fun j q e => by
    by_cases h : i = j
    · subst h
      by_cases hl : i < E.length
      · rw [List.getElem?_set_self hl] at e; cases e
      · rw [List.getElem?_eq_none (by simpa using hl)] at e; cases e
    · rw [List.getElem?_set_ne h] at e; exact ⟨Ne.symm h, e⟩
  refine ⟨r.gr, r.er.set rv i, fun j q a e s => ?_, fun j l q q' a hjl e e' s => ?_⟩
  · obtain ⟨h1, h2⟩ := old j q e
    rw [List.getElem?_set_ne (Ne.symm h1)] at s
    exact r.own j q a h2 s
  · obtain ⟨h1, h2⟩ := old j q e
    obtain ⟨h3, h4⟩ := old l q' e'
    rw [List.getElem?_set_ne (Ne.symm h1)] at s
    rw [List.getElem?_set_ne (Ne.symm h3)]
    exact r.apart j l q q' a hjl h2 h4 s
/-- a slot with a new thing of one's own -/
theorem SR.setOwn (r : SR K G0 H0 E σ G H) {a : Addr} {p : PV} (g : Grow G H G' H') (h0 : H a = none) (h1 : G' a = none) (c : Cell K G' H' a p) (i : Nat) : SR K G0 H0 (E.set i (some (.own p))) (σ.set i (some (.ref a))) G' H' := by
  have r' := r.mono g
  have hH0 : H0 a = none := r.gr.eH.free h0
  have fresh : ∀ (j : Nat) (q : PV), E[j]? = some (some (Sl.own q)) → σ[j]? ≠ some (some (V.ref a)) := fun j q e s => by
    obtain ⟨v, h2, a', h3, c'⟩ := r.er.at_ j _ e
    rw [s] at h2; cases h2; cases h3
    cases c' with
    | lst h _ _ => rw [h0] at h; cases h
    | dct h _ _ _ => rw [h0] at h; cases h
  refine ⟨r'.gr, ⟨by simp [r.er.len], fun j s e => ?_⟩, fun j q b e s => ?_, fun j l q q' b hjl e e' s => ?_⟩
  · by_cases h : i = j
    · subst h
      by_cases hl : i < E.length
      · rw [List.getElem?_set_self hl] at e; cases e
        exact ⟨_, by rw [List.getElem?_set_self (by rw [← r.er.len]; exact hl)], a, rfl, c⟩
      · rw [List.getElem?_eq_none (by simpa using hl)] at e; cases e
    · rw [List.getElem?_set_ne h] at e ⊢
      exact r'.er.at_ j s e
  · by_cases h : i = j
    · subst h
      by_cases hl : i < σ.length
      · rw [List.getElem?_set_self hl] at s; cases s; exact ⟨h1, hH0⟩
      · rw [List.getElem?_eq_none (by simpa using hl)] at s; cases s
    · rw [List.getElem?_set_ne h] at e s
      exact r'.own j q b e s
  · by_cases h : i = j
    · subst h
      rw [List.getElem?_set_ne hjl] at e' ⊢
      by_cases hl : i < σ.length
      · rw [List.getElem?_set_self hl] at s; cases s
        exact fresh l q' e'
      · rw [List.getElem?_eq_none (by simpa using hl)] at s; cases s
    · rw [List.getElem?_set_ne h] at e s
      by_cases h2 : i = l
      · subst h2
        by_cases hl : i < σ.length
        · rw [List.getElem?_set_self hl]
          intro z; cases z
          exact fresh j q e s
        · rw [List.getElem?_eq_none (by simpa using hl)]; simp
      · rw [List.getElem?_set_ne h2] at e' ⊢
        exact r'.apart j l q q' b hjl e e' s
end
end Sm
set_option Elab.async false
set_option linter.all false
set_option maxRecDepth 100000
set_option maxHeartbeats 4000000
namespace Sm
open PySem PySem.Spec PyProof.Rows L2
open SX (S S_len S_inj S_tl S_cat)

section
variable {K : PySem.W.Frag} {W : WX} {G0 H0 G1 H1 G H : Hp} {E : En} {σ : L2.St} {D : Ends}
theorem Grow.rebase (g : Grow G0 H0 G H) (g1 : Grow G0 H0 G1 H1) (e : Ex G1 G) : Grow G1 H0 G H := ⟨g.eH, e, g.sub, fun a h => (g.new a h).imp_left fun q z => q (by
  cases x : G0 a with
  | none => rfl
  | some o => rw [g1.eG a o x] at z; cases z)⟩
theorem Grow.unbase (g : Grow G1 H0 G H) (g1 : Grow G0 H0 G1 H1) : Grow G0 H0 G H := ⟨g.eH, g1.eG.trans g.eG, g.sub, fun a h => by
  rcases g.new a h with q | q
  · exact g1.new a q
  · exact .inr q⟩
theorem SR.rebase (r : SR K G0 H0 E σ G H) (g1 : Grow G0 H0 G1 H1) (e : Ex G1 G) : SR K G1 H0 E σ G H := ⟨r.gr.rebase g1 e, r.er, r.own, r.apart⟩
theorem SR.unbase (r : SR K G1 H0 E σ G H) (g1 : Grow G0 H0 G1 H1) : SR K G0 H0 E σ G H := ⟨r.gr.unbase g1, r.er, r.own, r.apart⟩
theorem PostS.unbase (g1 : Grow G0 H0 G1 H1) : ∀ {r : Res}, PostS K W G0 H0 D r → PostS K W G1 H0 D r
  | .stk, h => h
  | .nx _, h => fun σ G H s => h σ G H (s.unbase g1)
  | .rt _, h => fun v G H g r => h v G H (g.unbase g1) r
  | .bk _, h => fun σ G H s => h σ G H (s.unbase g1)
  | .ct _, h => fun σ G H s => h σ G H (s.unbase g1)
  | .ex _ _, h => fun σ G H s => h σ G H (s.unbase g1)
/-- an expression of a statement -/
def Res.of {α : Type} (E : En) (f : α → Res) : R α → Res
  | .stk => .stk
  | .ok a => f a
  | .ex c => .ex c E
theorem PostS.e {α : Type} {f : α → Res} {r : R α} (s : SR K G0 H0 E σ G H) (post : PostS K W G0 H0 D (Res.of E f r)) : PostR K W σ G H (fun a => PostS K W G0 H0 D (f a)) r := by
  cases r with
  | stk => exact post
  | ok a => exact post
  | ex c => exact fun G' H' g => post σ G' H' (s.mono g)
theorem CorrE.st {te : TE} {m : En → R PV} (h : CorrE K W te m) (s : SR K G0 H0 E σ G H) {f : PV → Res} (post : PostS K W G0 H0 D (Res.of E f (m E))) {Q : VK}
    (k : ∀ p v G' H', Grow G H G' H' → SR K G0 H0 E σ G' H' → Rep K G' v p → PostS K W G0 H0 D (f p) → Q v H') : te σ H Q :=
  h E σ G H Q s.er s.gr.sub (postE_iff.mpr ((PostS.e s post).imp fun p _ hp v G' H' g rv => k p v G' H' g (s.mono g) rv hp))
theorem CorrT.st {te : TT} {m : En → R Bool} (h : CorrT K W te m) (s : SR K G0 H0 E σ G H) {f : Bool → Res} (post : PostS K W G0 H0 D (Res.of E f (m E))) {Q : Bool → Hp → Prop}
    (k : ∀ b G' H', SR K G0 H0 E σ G' H' → PostS K W G0 H0 D (f b) → Q b H') : te σ H Q :=
  h E σ G H Q s.er s.gr.sub (postT_iff.mpr ((PostS.e s post).imp fun b _ hp G' H' g => k b G' H' (s.mono g) hp))
end
/-! ### the words for statements -/
def nxS : En → Res := fun E => .nx E
def seqS (f g : En → Res) : En → Res := fun E => match f E with
  | .nx E' => g E'
  | r => r
def retS (m : En → R PV) : En → Res := fun E => Res.of E .rt (m E)
def retN : En → Res := fun _ => .rt .non
def dropS (m : En → R PV) : En → Res := fun E => Res.of E (fun _ => .nx E) (m E)
def ifS (t : En → R Bool) (f g : En → Res) : En → Res := fun E => Res.of E (fun b => if b = true then f E else g E) (t E)
def setS (i : Nat) (m : En → R PV) : En → Res := fun E => Res.of E (fun p => .nx (E.set i (some (.val p)))) (m E)
def ownS (i : Nat) (m : En → R PV) : En → Res := fun E => Res.of E (fun p => .nx (E.set i (some (.own p)))) (m E)
def augS (i : Nat) (f : PV → PV → Option PV) (m : En → R PV) : En → Res := fun E => Res.of E (fun p => Res.of E (fun q => Res.of E (fun z => .nx (E.set i (some (.val z)))) (R.of (f p q))) (m E)) (slv E[i]?)
def bkS : En → Res := fun E => .bk E
def ctS : En → Res := fun E => .ct E
def raiseS (c : Str) : En → Res := fun E => .ex c E
def asgS (b : PV → En → Option En) (m : En → R PV) : En → Res := fun E => Res.of E (fun p => Res.of E .nx (R.of (b p E))) (m E)
def forM (b : PV → En → Option En) (f : En → Res) : List PV → En → Res
  | [], E => .nx E
  | x :: xs, E => match b x E with
    | none => .stk
    | some E2 => match f E2 with
      | .nx E' => forM b f xs E'
      | .ct E' => forM b f xs E'
      | .bk E' => .nx E'
      | r => r
def forS (mi : En → R (List PV)) (b : PV → En → Option En) (f : En → Res) : En → Res := fun E => Res.of E (fun items => forM b f items E) (mi E)
def whF (c : En → R Bool) (f : En → Res) : Nat → En → Res
  | 0, _ => .stk
  | n + 1, E => Res.of E (fun b => if b = true then (match f E with
      | .nx E' => whF c f n E'
      | .ct E' => whF c f n E'
      | .bk E' => .nx E'
      | r => r) else .nx E) (c E)
open Classical in
noncomputable def whS (c : En → R Bool) (f : En → Res) : En → Res := fun E => if h : ∃ n, whF c f n E ≠ .stk then whF c f (Classical.choose h) E else .stk
section
variable {X : Cx} {W : WX} {st : Stmt} {sts : List Stmt} {f g : En → Res} {e a b c : Expr} {m : En → R PV} {mt : En → R Bool} {pos py : Pos} {i : Nat} {y : Str} {body orelse : List Stmt}
theorem ss_nil : SSs X W [] nxS := ⟨_, pss_nil, fun G0 H0 E σ G H D s post => post σ G H s⟩
theorem ss_cons (h1 : SS X W st f) (h2 : SSs X W sts g) : SSs X W (st :: sts) (seqS f g) := by
  obtain ⟨t, t1, t2⟩ := h1.ex
  obtain ⟨u, u1, u2⟩ := h2.ex
  refine ⟨_, pss_cons t1 u1, fun G0 H0 E σ G H D s post => t2 G0 H0 E σ G H _ s ?_⟩
  unfold seqS at post
  cases e : f E with
  | nx E' => rw [e] at post; exact fun σ' G' H' s' => u2 G0 H0 E' σ' G' H' D s' post
  | stk => rw [e] at post; exact post
  | rt p => rw [e] at post; exact post
  | bk E' => rw [e] at post; exact post
  | ct E' => rw [e] at post; exact post
  | ex c E' => rw [e] at post; exact post
theorem ss_one (h1 : SS X W st f) : SSs X W [st] f := by
  obtain ⟨t, t1, t2⟩ := h1.ex
  exact ⟨_, pss_one t1, t2⟩
theorem ss_pass : SS X W (.Pass pos) nxS := ⟨_, ps_pass, fun G0 H0 E σ G H D s post => post σ G H s⟩
theorem ss_break : SS X W (.Break pos) bkS := ⟨_, ps_break, fun G0 H0 E σ G H D s post => post σ G H s⟩
theorem ss_continue : SS X W (.Continue pos) ctS := ⟨_, ps_continue, fun G0 H0 E σ G H D s post => post σ G H s⟩
theorem ss_doc {x : Str} {j : Nat} {pos' : Pos} : SS X W (.Expr (.Constant (.str x) j pos) pos') nxS := ⟨_, ps_doc, fun G0 H0 E σ G H D s post => post σ G H s⟩
theorem ss_ret (h : SE X W e m) : SS X W (.Return (some e) pos) (retS m) := by
  obtain ⟨t, t1, t2⟩ := h.ex
  exact ⟨_, ps_ret t1, fun G0 H0 E σ G H D s post => t2.st s post fun p v G' H' g s' rv post => post v G' H' s'.gr rv⟩
theorem ss_retN : SS X W (.Return none pos) retN := ⟨_, ps_retN, fun G0 H0 E σ G H D s post => post .non G H s.gr .non⟩
theorem ss_expr (h : SE X W e m) (hs : swapsWith e none pos.line X.env = pure false := by rfl) : SS X W (.Expr e pos) (dropS m) := by
  obtain ⟨t, t1, t2⟩ := h.ex
  exact ⟨_, ps_expr t1 hs, fun G0 H0 E σ G H D s post => t2.st s post fun p v G' H' g s' rv post => post σ G' H' s'⟩
theorem ss_if (hc : ST X W c mt) (h1 : SSs X W body f) (h2 : SSs X W orelse g) : SS X W (.If c body orelse pos) (ifS mt f g) := by
  obtain ⟨t, t1, t2⟩ := hc.ex
  obtain ⟨u, u1, u2⟩ := h1.ex
  obtain ⟨v, v1, v2⟩ := h2.ex
  refine ⟨_, ps_if t1 u1 v1, fun G0 H0 E σ G H D s post => t2.st s post fun b G' H' s' post => ?_⟩
  cases b with
  | true => exact iteT (u2 G0 H0 E σ G' H' D s' post)
  | false => exact iteF (v2 G0 H0 E σ G' H' D s' post)
theorem ss_set (hN : X.N.Nodup) (hi : X.N[i]? = some y) (hx : Loc X.env.scope y) (h : SE X W e m) (hs : swapsWith e (some (.Name y py)) pos.line X.env = pure false := by rfl) (hf : X.fn y = true ∨ X.env.scope.names.lookup y = some .local := by first | exact .inl rfl | exact .inr rfl) :
    SS X W (.Assign [.Name y py] e pos) (setS i m) := by
  obtain ⟨t, t1, t2⟩ := h.ex
  exact ⟨_, ps_set hN hi hx t1 hs hf, fun G0 H0 E σ G H D s post => t2.st s post fun p v G' H' g s' rv post => post _ G' H' (s'.set rv i)⟩
theorem ss_setLv (h : PLc X W st i m) : SS X W st (setS i m) := by
  obtain ⟨t, t1, t2⟩ := h.ex
  exact ⟨_, t1, fun G0 H0 E σ G H D s post => t2.e.st s post fun p v G' H' g s' rv post => post _ G' H' (s'.set rv i)⟩
theorem ss_own (h : PLc X W st i m) : SS X W st (ownS i m) := by
  obtain ⟨t, t1, t2⟩ := h.ex
  refine ⟨_, t1, fun G0 H0 E σ G H D s post => t2 E σ G H _ s.er s.gr.sub ((PostS.e s post).imp fun p _ hp a G' H' g h0 h1 c => ?_)⟩
  exact hp _ G' H' (s.setOwn g h0 h1 c i)
theorem ss_asg {tg : Expr} {bb : PV → En → Option En} {ws : List Nat} (h : SE X W e m) (hg : SG X tg bb ws) (hs : swapsWithSole [tg] e pos.line X.env = pure false := by rfl) (hw : swappedStores [tg] e X.env = pure none := by rfl)
    (h1 : (assignEach [tg] X.env).map (·.2) = [assign tg X.env] := by rfl) : SS X W (.Assign [tg] e pos) (asgS bb m) := by
  obtain ⟨t, t1, t2⟩ := h.ex
  obtain ⟨g, g1, g2⟩ := hg.ex
  refine ⟨_, ps_asg t1 g1 hs hw h1, fun G0 H0 E σ G H D s post => t2.st s post fun p v G' H' g' s' rv post => ?_⟩
  cases hb : bb p E with
  | none => rw [hb] at post; exact post.elim
  | some E2 =>
    rw [hb] at post
    refine g2 E E2 σ G' H' _ v p s'.er s'.gr.sub rv hb fun σ2 er2 so bo => post σ2 G' H' ⟨s'.gr, er2, fun j q a' e1 e2 => ?_, fun j l q q' a' hjl e1 e2 e3 => ?_⟩
    · have hj : j ∉ ws := fun hm => (bo j).2 hm q e1
      rw [(bo j).1 hj] at e1
      rw [so.2 j hj] at e2
      exact s'.own j q a' e1 e2
    · have hj : j ∉ ws := fun hm => (bo j).2 hm q e1
      have hl : l ∉ ws := fun hm => (bo l).2 hm q' e2
      rw [(bo j).1 hj] at e1
      rw [(bo l).1 hl] at e2
      rw [so.2 j hj] at e3
      rw [so.2 l hl]
      exact s'.apart j l q q' a' hjl e1 e2 e3
theorem ss_aug {op : Operator} {r : R2} {ff : PV → PV → Option PV} (ho : OpR X (inplaceOp op) r) (hr : RelOp X.K r ff) (hN : X.N.Nodup) (hi : X.N[i]? = some y) (hx : Loc X.env.scope y) (h : SE X W e m) (hf : X.fn y = true ∨ X.env.scope.names.lookup y = some .local := by first | exact .inl rfl | exact .inr rfl) :
    SS X W (.AugAssign (.Name y py) op e pos) (augS i ff m) := by
  obtain ⟨t, t1, t2⟩ := h.ex
  refine ⟨_, ps_aug (ti := r) hN hi hx t1 (fun pins s σ H x y v u Q I r1 r2 h => ho pins s σ H x y v u Q I r1 r2 h) hf, fun G0 H0 E σ G H D s post => ?_⟩
  unfold augS at post
  have hx := corr_var (K := X.K) (W := W) (i := i)
  cases hs : E[i]? with
  | none => rw [hs] at post; exact post.elim
  | some o =>
    cases o with
    | none => rw [hs] at post; exact post.elim
    | some sl =>
      cases sl with
      | own p => rw [hs] at post; exact post.elim
      | val p =>
        rw [hs] at post
        obtain ⟨v, h1, h2⟩ := s.er.at_ i _ hs
        refine ⟨v, h1, t2.st s post fun q u G' H' g s' ru post => ?_⟩
        cases hz : ff p q with
        | none => rw [hz] at post; exact post.elim
        | some z =>
          rw [hz] at post
          exact hr v u p q z G' H' _ s'.gr.sub (Rep.mono g.eG h2) ru hz fun w G2 H2 g2 rw' => post _ G2 H2 ((s'.mono g2).set rw' i)
theorem ss_for {mi : En → R (List PV)} {tg iter : Expr} {bb : PV → En → Option En} {ws : List Nat} (hp : PassesOwn (model X.prog X.w) X.A X.env X.xe) (hc : X.calm = true) (hi : SI X W tg iter mi) (hg : SG X tg bb ws) (hb : SSs X W body f)
    (hs : ∀ x, foldedSetIterable iter X.env x = pure x := by intro _; rfl) : SS X W (.For tg iter body [] pos) (forS mi bb f) := by
  obtain ⟨wi, i1, i2⟩ := hi.ex
  obtain ⟨g, g1, g2⟩ := hg.ex
  obtain ⟨t, t1, t2⟩ := hb.ex
  refine ⟨_, ps_for hp hc i1 g1 t1 hs, fun G0 H0 E σ G H D s post => ?_⟩
  refine i2 E σ G H _ s.er s.gr.sub ((PostS.e s post).imp fun items _ post J G1 H1 g0 go => ?_)
  have s1 := s.mono g0
  have gg : Grow G0 H0 G1 H1 := s1.gr
  refine ⟨fun i m σ H => m = items.length - i ∧ i ≤ items.length ∧ ∃ Ei Gi, SR X.K G1 H0 Ei σ Gi H ∧ PostS X.K W G1 H0 D (forM bb f (items.drop i) Ei), ⟨items.length, by simp, Nat.zero_le _, E, G1, s1.rebase gg (.refl _), post.unbase gg⟩, ?_⟩
  rintro i m σ Hh ⟨rfl, hil, Ei, Gi, sr, post⟩
  by_cases hlt : i < items.length
  · refine .inr ⟨go.goes i Gi Hh hlt sr.gr.eG sr.gr.sub, fun σ' H' => i + 1 ≤ items.length ∧ ∃ Ei Gi, SR X.K G1 H0 Ei σ' Gi H' ∧ PostS X.K W G1 H0 D (forM bb f (items.drop (i + 1)) Ei), fun σ' H' p' => ⟨items.length - (i + 1), by omega, rfl, p'.1, p'.2⟩, fun x H' y => ?_⟩
    obtain ⟨G2, p, gg2, hp', rp⟩ := go.yields i Gi Hh x H' hlt sr.gr.eG sr.gr.sub y
    have hd : items.drop i = p :: items.drop (i + 1) := by
      rw [List.drop_eq_getElem_cons hlt]
      rw [List.getElem?_eq_getElem hlt] at hp'
      cases hp'; rfl
    rw [hd] at post
    unfold forM at post
    have s' := sr.mono gg2
    cases hbb : bb p Ei with
    | none => rw [hbb] at post; exact post.elim
    | some E2 =>
      rw [hbb] at post
      refine g2 Ei E2 σ G2 H' _ x p s'.er s'.gr.sub rp hbb fun σ2 er2 so bo => ?_
      have s2 : SR X.K G1 H0 E2 σ2 G2 H' := ⟨s'.gr, er2, fun j q a' e1 e2 => by
          have hj : j ∉ ws := fun hm => (bo j).2 hm q e1
          rw [(bo j).1 hj] at e1
          rw [so.2 j hj] at e2
          exact s'.own j q a' e1 e2, fun j l q q' a' hjl e1 e2 e3 => by
          have hj : j ∉ ws := fun hm => (bo j).2 hm q e1
          have hl : l ∉ ws := fun hm => (bo l).2 hm q' e2
          rw [(bo j).1 hj] at e1
          rw [(bo l).1 hl] at e2
          rw [so.2 j hj] at e3
          rw [so.2 l hl]
          exact s'.apart j l q q' a' hjl e1 e2 e3⟩
      refine t2 G1 H0 E2 σ2 G2 H' _ s2 ?_
      dsimp only at post
      cases hf : f E2 with
      | stk => rw [hf] at post; exact post
      | nx E' => rw [hf] at post; exact fun σ3 G3 H3 s3 => ⟨hlt, E', G3, s3, post⟩
      | ct E' => rw [hf] at post; exact fun σ3 G3 H3 s3 => ⟨hlt, E', G3, s3, post⟩
      | bk E' => rw [hf] at post; exact post
      | rt p => rw [hf] at post; exact post
      | ex c E' => rw [hf] at post; exact post
  · have e : i = items.length := by omega
    subst e
    rw [List.drop_length] at post
    exact .inl ⟨go.stops Gi Hh sr.gr.eG sr.gr.sub, post σ Gi Hh sr⟩
theorem whS_run (c : En → R Bool) (f : En → Res) (E : En) : whS c f E = .stk ∨ ∃ n, whS c f E = whF c f n E := by
  unfold whS
  split
  · exact .inr ⟨_, rfl⟩
  · exact .inl rfl
theorem ss_while (hp : PassesOwn (model X.prog X.w) X.A X.env X.xe) (hc : ST X W c mt) (hb : SSs X W body f) : SS X W (.While c body [] pos) (whS mt f) := by
  obtain ⟨u, u1, u2⟩ := hc.ex
  obtain ⟨t, t1, t2⟩ := hb.ex
  refine ⟨_, ps_while hp u1 t1, fun G0 H0 E σ G H D s post => ?_⟩
  rcases whS_run mt f E with q | ⟨n, q⟩
  · rw [q] at post; exact post.elim
  · rw [q] at post
    refine ⟨fun m σ H => ∃ Ei Gi, SR X.K G0 H0 Ei σ Gi H ∧ PostS X.K W G0 H0 D (whF mt f m Ei), ⟨n, E, G, s, post⟩, ?_⟩
    rintro m σ H ⟨Ei, Gi, sr, post⟩
    cases m with
    | zero => exact post.elim
    | succ m =>
      refine u2.st sr post fun b G' H' s' post => ?_
      cases b with
      | false => exact iteF (post σ G' H' s')
      | true =>
        refine iteT ⟨fun σ' H' => ∃ Ei Gi, SR X.K G0 H0 Ei σ' Gi H' ∧ PostS X.K W G0 H0 D (whF mt f m Ei), fun σ' H' p => ⟨m, Nat.lt_succ_self _, p⟩, t2 G0 H0 Ei σ G' H' _ s' ?_⟩
        rw [if_pos rfl] at post
        cases hf : f Ei with
        | stk => rw [hf] at post; exact post
        | nx E' => rw [hf] at post; exact fun σ3 G3 H3 s3 => ⟨E', G3, s3, post⟩
        | ct E' => rw [hf] at post; exact fun σ3 G3 H3 s3 => ⟨E', G3, s3, post⟩
        | bk E' => rw [hf] at post; exact post
        | rt p => rw [hf] at post; exact post
        | ex c E' => rw [hf] at post; exact post
end
/-! ### while, unrolled -/
theorem whF_mono (c : En → R Bool) (f : En → Res) : ∀ (n : Nat) (E : En), whF c f n E ≠ .stk → whF c f (n + 1) E = whF c f n E
  | 0, _, h => absurd rfl h
  | n + 1, E, h => by
    unfold whF at h
    rw [whF, whF]
    cases e : c E with
    | stk => rfl
    | ex x => rfl
    | ok b =>
      cases b with
      | false => rfl
      | true =>
        rw [e] at h
        simp only [Res.of, if_true] at h ⊢
        cases e2 : f E with
        | nx E' => rw [e2] at h; exact whF_mono c f n E' h
        | ct E' => rw [e2] at h; exact whF_mono c f n E' h
        | _ => rfl
theorem whF_le (c : En → R Bool) (f : En → Res) {n k : Nat} {E : En} (h : whF c f n E ≠ .stk) (hk : n ≤ k) : whF c f k E = whF c f n E := by
  induction k with
  | zero => rw [Nat.le_zero.mp hk]
  | succ k ih =>
    by_cases z : n ≤ k
    · have e := ih z
      rw [whF_mono c f k E (by rw [e]; exact h), e]
    · rw [show n = k + 1 by omega]
theorem whS_of {c : En → R Bool} {f : En → Res} {n : Nat} {E : En} (h : whF c f n E ≠ .stk) : whS c f E = whF c f n E := by
  have hx : ∃ n, whF c f n E ≠ .stk := ⟨n, h⟩
  unfold whS
  rw [dif_pos hx]
  have h2 := Classical.choose_spec hx
  rcases Nat.le_total n (Classical.choose hx) with z | z
  · exact whF_le c f h z
  · exact (whF_le c f h2 z).symm
/-- one turn -/
theorem whS_step (c : En → R Bool) (f : En → Res) (E : En) : whS c f E = Res.of E (fun b => if b = true then (match f E with
    | .nx E' => whS c f E'
    | .ct E' => whS c f E'
    | .bk E' => .nx E'
    | r => r) else .nx E) (c E) := by
  have stkOf : ∀ {E}, (∀ n, whF c f n E = .stk) → whS c f E = .stk := fun {E} h => by
    unfold whS; rw [dif_neg (by rintro ⟨n, q⟩; exact q (h n))]
  have tail : ∀ E', (∀ n, whF c f (n + 1) E = whF c f n E') → whS c f E = whS c f E' := fun E' h => by
    by_cases hx : ∃ n, whF c f n E' ≠ .stk
    · obtain ⟨n, hn⟩ := hx
      rw [whS_of hn, whS_of (n := n + 1) (by rw [h]; exact hn), h]
    · have hx' : ∀ n, whF c f n E' = .stk := fun n => Classical.byContradiction fun q => hx ⟨n, q⟩
      rw [stkOf hx', stkOf fun n => by cases n with
        | zero => rfl
        | succ n => rw [h]; exact hx' n]
  have one : ∀ r, (∀ n, whF c f (n + 1) E = r) → whS c f E = r := fun r h => by
    by_cases hr : r = .stk
    · subst hr
      exact stkOf fun n => by cases n with
        | zero => rfl
        | succ n => exact h n
    · rw [whS_of (n := 1) (by rw [h]; exact hr), h]
  cases e : c E with
  | stk => exact one _ fun n => by rw [whF, e]; rfl
  | ex x => exact one _ fun n => by rw [whF, e]; rfl
  | ok b =>
    cases b with
    | false => exact one _ fun n => by rw [whF, e]; rfl
    | true =>
      simp only [Res.of, if_true]
      cases e2 : f E with
      | nx E' => exact tail E' fun n => by rw [whF, e]; simp only [Res.of, if_true, e2]
      | ct E' => exact tail E' fun n => by rw [whF, e]; simp only [Res.of, if_true, e2]
      | bk E' => exact one _ fun n => by rw [whF, e]; simp only [Res.of, if_true, e2]
      | rt p => exact one _ fun n => by rw [whF, e]; simp only [Res.of, if_true, e2]
      | stk => exact one _ fun n => by rw [whF, e]; simp only [Res.of, if_true, e2]
      | ex x E' => exact one _ fun n => by rw [whF, e]; simp only [Res.of, if_true, e2]
end Sm
set_option Elab.async false
set_option linter.all false
set_option maxRecDepth 100000
set_option maxHeartbeats 4000000
namespace Sm
open PySem PySem.Spec PyProof.Rows L2
open SX (S S_len S_inj S_tl S_cat)

/-! ### what is one's own is read -/
mutual
def noL : PV → Bool
  | .lst _ => false
  | .dct _ => false
  | .scr _ => false
  | .tup xs => noLs xs
  | _ => true
def noLs : List PV → Bool
  | [] => true
  | x :: xs => noL x && noLs xs
end
def frz1 : Option Sl → Option Sl
  | some (.own p) => some (.val p)
  | s => s
def frz (E : En) : En := E.map frz1
def gate (p : PV) : R PV := if noL p = true then .ok p else .stk
def brw (m : En → R PV) : En → R PV := fun E => (m (frz E)).bind gate
/-- the shared part with all that is one's own -/
noncomputable def gAll (E : En) (σ : L2.St) (G H : Hp) : Hp := fun a => by
  classical exact if (∃ (i : Nat) (p : PV), E[i]? = some (some (Sl.own p)) ∧ σ[i]? = some (some (V.ref a))) then H a else G a
/-- the old from G, the new from G2 -/
noncomputable def gNew (G H G2 : Hp) : Hp := fun a => match H a with
  | none => G2 a
  | some _ => G a
section
variable {K : PySem.W.Frag} {W : WX} {E : En} {σ : L2.St} {G H G2 H2 : Hp}
theorem gAll_in {a : Addr} {i : Nat} {p : PV} (h1 : E[i]? = some (some (Sl.own p))) (h2 : σ[i]? = some (some (V.ref a))) : gAll E σ G H a = H a := by
  unfold gAll; rw [if_pos ⟨i, p, h1, h2⟩]
theorem gAll_ex (s : Ex G H) : Ex G (gAll E σ G H) := fun a o h => by
  unfold gAll; split
  · exact s a o h
  · exact h
theorem gAll_sub (s : Ex G H) : Ex (gAll E σ G H) H := fun a o h => by
  unfold gAll at h; split at h
  · exact h
  · exact s a o h
theorem ER.frz (er : ER K E σ G H) (s : Ex G H) : ER K (frz E) σ (gAll E σ G H) H := by
  refine ⟨by unfold Sm.frz; rw [List.length_map]; exact er.len, fun i sl e => ?_⟩
  unfold Sm.frz at e
  rw [List.getElem?_map] at e
  cases h : E[i]? with
  | none => rw [h] at e; cases e
  | some o =>
    rw [h] at e
    cases o with
    | none => cases e
    | some s0 =>
      obtain ⟨v, h1, h2⟩ := er.at_ i s0 h
      cases s0 with
      | val p => cases e; exact ⟨v, h1, Rep.mono (gAll_ex s) h2⟩
      | own p =>
        cases e
        obtain ⟨a, rfl, c⟩ := h2
        refine ⟨_, h1, ?_⟩
        have c2 : Cell K (gAll E σ G H) (gAll E σ G H) a p := c.mono (gAll_ex s) fun o ho => by rw [gAll_in h h1]; exact ho
        exact c2.rep
theorem gNew_grow (s : Ex G H) (g : Grow (gAll E σ G H) H G2 H2) : Grow G H (gNew G H G2) H2 := by
  refine ⟨g.eH, fun a o h => ?_, fun a o h => ?_, fun a h => ?_⟩
  · unfold gNew; rw [s a o h]; exact h
  · unfold gNew at h
    cases e : H a with
    | none => rw [e] at h; exact g.sub a o h
    | some u => rw [e] at h; exact g.eH a o (s a o h)
  · unfold gNew at h
    cases e : H a with
    | none => exact .inr rfl
    | some u => rw [e] at h; exact .inl h
theorem gNew_tup (er : ER K E σ G H) (s : Ex G H) (g : Grow (gAll E σ G H) H G2 H2) {a : Addr} {o : HO} (h : G2 a = some o) (hl : (∀ vs, o ≠ .lst vs) ∧ ∀ kvs, o ≠ .dK kvs) : gNew G H G2 a = some o := by
  unfold gNew
  cases e : H a with
  | none => exact h
  | some u =>
    rcases g.new a (by rw [h]; simp) with q | q
    · by_cases hx : ∃ (i : Nat) (p : PV), E[i]? = some (some (Sl.own p)) ∧ σ[i]? = some (some (V.ref a))
      · obtain ⟨i, p, h1, h2⟩ := hx
        obtain ⟨v, h3, a', h4, c⟩ := er.at_ i _ h1
        rw [h2] at h3; cases h3; cases h4
        have eo : o = u := by
          have := g.eG a u (by rw [gAll_in h1 h2]; exact e)
          rw [h] at this; exact Option.some.inj this
        subst eo
        cases c with
        | @lst vs _ h _ _ => rw [e] at h; cases h; exact absurd rfl (hl.1 _)
        | @dct kvs _ h _ _ _ => rw [e] at h; cases h; exact absurd rfl (hl.2 _)
      · have eg : gAll E σ G H a = G a := by unfold gAll; rw [if_neg hx]
        rw [eg] at q
        cases z : G a with
        | none => exact absurd z q
        | some w =>
          have := g.eG a w (by rw [eg]; exact z)
          rw [h] at this; exact this.symm
    · rw [e] at q; cases q
mutual
theorem Rep.unfrz (er : ER K E σ G H) (s : Ex G H) (g : Grow (gAll E σ G H) H G2 H2) : ∀ (p : PV) (v : V), Rep K G2 v p → noL p = true → Rep K (gNew G H G2) v p
  | .non, _, r, _ => by cases r; exact .non
  | .bl b, _, r, _ => by cases r; exact .bl b
  | .int i, _, r, _ => by cases r; exact .int i
  | .str x, _, r, _ => by
    cases r with
    | str _ h => exact .str _ h
  | .tup xs, _, r, d => by
    cases r with
    | tup h r' hl =>
      refine .tup ?_ (Reps.unfrz er s g xs _ r' (by simpa [noL] using d)) hl
      rcases h with (h | ⟨o, h⟩) | h
      · exact .inl (.inl (gNew_tup er s g h ⟨fun _ z => (nomatch z), fun _ z => (nomatch z)⟩))
      · exact .inl (.inr ⟨o, gNew_tup er s g h ⟨fun _ z => (nomatch z), fun _ z => (nomatch z)⟩⟩)
      · exact .inr h
  | .lst _, _, _, d => by simp [noL] at d
  | .dct _, _, _, d => by simp [noL] at d
  | .scr _, _, _, d => by simp [noL] at d
theorem Reps.unfrz (er : ER K E σ G H) (s : Ex G H) (g : Grow (gAll E σ G H) H G2 H2) : ∀ (ps : List PV) (vs : List V), Reps K G2 vs ps → noLs ps = true → Reps K (gNew G H G2) vs ps
  | [], _, r, _ => by cases r; exact .nil
  | p :: ps, _, r, d => by
    cases r with
    | cons h r' =>
      simp only [noLs, Bool.and_eq_true] at d
      exact .cons (Rep.unfrz er s g p _ h d.1) (Reps.unfrz er s g ps _ r' d.2)
end
end
theorem se_brw {X : Cx} {W : WX} {e : Expr} {m : En → R PV} (h : SE X W e m) : SE X W e (brw m) := by
  obtain ⟨t, t1, t2⟩ := h.ex
  refine ⟨t, t1, fun E σ G H Q er s post => ?_⟩
  have post := postE_iff.mp post
  refine t2 (frz E) σ (gAll E σ G H) H Q (er.frz s) (gAll_sub s) (postE_iff.mpr ?_)
  cases hm : m (frz E) with
  | stk => unfold brw at post; rw [hm] at post; exact post
  | ex c =>
    unfold brw at post; rw [hm] at post
    exact fun G' H' g => post _ H' (gNew_grow s g)
  | ok p =>
    unfold brw gate at post; rw [hm] at post
    intro v G' H' g rv
    simp only [R.bind_ok] at post
    split at post
    · rename_i c
      exact post v _ H' (gNew_grow s g) (Rep.unfrz er s g p v rv c)
    · exact post.elim
/-- a test that reads what is one's own -/
def brwT (m : En → R Bool) : En → R Bool := fun E => m (frz E)
theorem st_brw {X : Cx} {W : WX} {e : Expr} {m : En → R Bool} (h : ST X W e m) : ST X W e (brwT m) := by
  obtain ⟨t, t1, t2⟩ := h.ex
  refine ⟨t, t1, fun E σ G H Q er s post => ?_⟩
  have post := postT_iff.mp post
  refine t2 (frz E) σ (gAll E σ G H) H Q (er.frz s) (gAll_sub s) (postT_iff.mpr ?_)
  unfold brwT at post
  cases hm : m (frz E) with
  | stk => rw [hm] at post; exact post
  | ex c => rw [hm] at post; exact fun G' H' g => post _ H' (gNew_grow s g)
  | ok b => rw [hm] at post; exact fun G' H' g => post _ H' (gNew_grow s g)
/-! ### what is one's own is changed -/
def slo : Option (Option Sl) → R (List PV)
  | some (some (.own (.lst xs))) => .ok xs
  | _ => .stk
def appP (xs : List PV) (p : PV) : Option (List PV) := if xs.length + 1 ≤ bnd then some (xs ++ [p]) else none
def extP (xs : List PV) : PV → Option (List PV)
  | .lst ys => if xs.length + ys.length ≤ bnd then some (xs ++ ys) else none
  | _ => none
def popP (xs : List PV) : Option (List PV) := if xs.isEmpty then none else some xs.dropLast
def mutS (i : Nat) (f : List PV → PV → Option (List PV)) (m : En → R PV) : En → Res := fun E => Res.of E (fun p => Res.of E (fun q => Res.of E (fun z => .nx (E.set i (some (.own (.lst z))))) (R.of (f p q))) (m E)) (slo E[i]?)
def popS (i : Nat) : En → Res := fun E => Res.of E (fun p => Res.of E (fun z => .nx (E.set i (some (.own (.lst z))))) (R.of (popP p))) (slo E[i]?)
def frzS (i : Nat) (f : En → Res) : En → Res := fun E => match E[i]? with
  | some (some (.own p)) => f (E.set i (some (.val p)))
  | _ => f E
section
variable {K : PySem.W.Frag} {W : WX} {G0 H0 G H : Hp} {E : En} {σ : L2.St}
/-- the cell of a slot is written -/
theorem SR.write (r : SR K G0 H0 E σ G H) {i : Nat} {p z : PV} {a : Addr} {o : HO} (e : E[i]? = some (some (.own p))) (s : σ[i]? = some (some (.ref a))) (c : Cell K G (upd H a o) a z) : SR K G0 H0 (E.set i (some (.own z))) σ G (upd H a o) := by
  obtain ⟨ga, h0a⟩ := r.own i p a e s
  have hi : i < E.length := (List.getElem?_eq_some_iff.mp e).1
  refine ⟨r.gr.mut h0a ga, ⟨by simp [r.er.len], fun j sl ej => ?_⟩, fun j q b ej sj => ?_, fun j l q q' b hjl ej el sj => ?_⟩
  · by_cases h : i = j
    · subst h
      rw [List.getElem?_set_self hi] at ej; cases ej
      exact ⟨_, s, a, rfl, c⟩
    · rw [List.getElem?_set_ne h] at ej
      obtain ⟨v, h1, h2⟩ := r.er.at_ j sl ej
      refine ⟨v, h1, ?_⟩
      cases sl with
      | val q => exact h2
      | own q =>
        obtain ⟨b, rfl, cb⟩ := h2
        have hb : b ≠ a := fun z => r.apart i j p q a h e ej s (by rw [h1, z])
        exact ⟨b, rfl, cb.mono (.refl _) fun o' h' => by rw [upd_ne hb]; exact h'⟩
  · by_cases h : i = j
    · subst h
      rw [s] at sj; cases sj; exact ⟨ga, h0a⟩
    · rw [List.getElem?_set_ne h] at ej; exact r.own j q b ej sj
  · by_cases h : i = j
    · subst h
      rw [List.getElem?_set_ne hjl] at el
      exact r.apart i l p q' b hjl e el sj
    · rw [List.getElem?_set_ne h] at ej
      by_cases h2 : i = l
      · subst h2
        exact r.apart j i q p b (Ne.symm h) ej e sj
      · rw [List.getElem?_set_ne h2] at el
        exact r.apart j l q q' b hjl ej el sj
theorem SR.freeze (r : SR K G0 H0 E σ G H) {i : Nat} {p : PV} (e : E[i]? = some (some (.own p))) : ∃ G', SR K G0 H0 (E.set i (some (.val p))) σ G' H := by
  obtain ⟨v, s, a, rfl, c⟩ := r.er.at_ i _ e
  obtain ⟨ga, h0a⟩ := r.own i p a e s
  have hi : i < E.length := (List.getElem?_eq_some_iff.mp e).1
  obtain ⟨o, ho, rr⟩ := c.share ga
  have hx : Ex G (upd G a o) := ex_new ga
  refine ⟨upd G a o, r.gr.share h0a ga ho, ⟨by simp [r.er.len], fun j sl ej => ?_⟩, fun j q b ej sj => ?_, fun j l q q' b hjl ej el sj => ?_⟩
  · by_cases h : i = j
    · subst h
      rw [List.getElem?_set_self hi] at ej; cases ej
      exact ⟨_, s, rr⟩
    · rw [List.getElem?_set_ne h] at ej
      obtain ⟨v, h1, h2⟩ := r.er.at_ j sl ej
      refine ⟨v, h1, ?_⟩
      cases sl with
      | val q => exact Rep.mono hx h2
      | own q =>
        obtain ⟨b, rfl, cb⟩ := h2
        exact ⟨b, rfl, cb.mono hx fun o' h' => h'⟩
  · by_cases h : i = j
    · subst h; rw [List.getElem?_set_self hi] at ej; cases ej
    · rw [List.getElem?_set_ne h] at ej
      have hb : b ≠ a := fun z => r.apart i j p q a h e ej s (by rw [sj, z])
      rw [upd_ne hb]
      exact r.own j q b ej sj
  · have hj : i ≠ j := fun h => by subst h; rw [List.getElem?_set_self hi] at ej; cases ej
    have hl : i ≠ l := fun h => by subst h; rw [List.getElem?_set_self hi] at el; cases el
    rw [List.getElem?_set_ne hj] at ej
    rw [List.getElem?_set_ne hl] at el
    exact r.apart j l q q' b hjl ej el sj
theorem slo_ok {E : En} {D : Ends} {i : Nat} {f : List PV → Res} (post : PostS K W G0 H0 D (Res.of E f (slo E[i]?))) : ∃ p, E[i]? = some (some (.own (.lst p))) ∧ PostS K W G0 H0 D (f p) := by
  cases h : E[i]? with
  | none => rw [h] at post; exact post.elim
  | some o =>
    cases o with
    | none => rw [h] at post; exact post.elim
    | some sl =>
      cases sl with
      | val p => rw [h] at post; exact post.elim
      | own p =>
        cases p with
        | lst xs => rw [h] at post; exact ⟨xs, rfl, post⟩
        | _ => rw [h] at post; exact post.elim
theorem SR.at_own (s : SR K G0 H0 E σ G H) {i : Nat} {xs : List PV} (e : E[i]? = some (some (.own (.lst xs)))) : ∃ l vs, σ[i]? = some (some (.ref l)) ∧ H l = some (.lst vs) ∧ Reps K G vs xs ∧ xs.length ≤ bnd := by
  obtain ⟨v, s0, l, rfl, c0⟩ := s.er.at_ i _ e
  cases c0 with
  | @lst vs _ h r hl => exact ⟨l, vs, s0, h, r, hl⟩
end
section
variable {X : Cx} {W : WX} {st : Stmt} {sts : List Stmt} {f g : En → Res} {e a : Expr} {m : En → R PV} {pos py apos cpos : Pos} {i : Nat} {y : Str}
theorem ss_append (hN : X.N[i]? = some y) (hv : Vis X.env.scope y) (h : SE X W e m) (hd : (y == ("__debug__" : Str)) = false := by decide) (hcd : (y == ("__classdict__" : Str)) = false := by decide)
    (hbase : attributeBase (.Name y py) "append" X.env (eval (.Name y py) X.env) = eval (.Name y py) X.env := by rfl) (hs : starEach [e] X.env = [(false, eval e X.env)] := by rfl) (hline : (apos.endLine == cpos.line) = true := by rfl)
    (hsw : swapsWith (.Call (.Attribute (.Name y py) "append" apos) [e] [] cpos) none pos.line X.env = pure false := by rfl) :
    SS X W (.Expr (.Call (.Attribute (.Name y py) "append" apos) [e] [] cpos) pos) (mutS i appP m) := by
  obtain ⟨t, t1, t2⟩ := h.ex
  refine ⟨_, ps_expr (pe_bm PySem.F.plainAttrs_list PySem.F.slot_list_append PySem.F.type_list_append mt_append (pe_var hN hv hd hcd) (pa_cons t1 pa_nil hs) hbase (by rw [hs]; rfl) hline hs rfl) hsw, fun G0 H0 E σ G H D s post => ?_⟩
  obtain ⟨xs, e0, post⟩ := slo_ok post
  obtain ⟨l, vs, s0, hl, r0, hb⟩ := s.at_own e0
  refine ⟨_, s0, .inl ⟨rfl, _, SqL.of hl⟩, t2.st s post fun q u G' H' gg s' ru post => ?_⟩
  cases hz : appP xs q with
  | none => rw [hz] at post; exact post.elim
  | some z =>
    rw [hz] at post
    unfold appP at hz
    split at hz
    · rename_i c; cases hz
      have hl' := gg.eH l _ hl
      refine ⟨l, vs, u, rfl, rfl, hl', bnd_lt (by rw [r0.length]; omega), post _ G' _ (s'.write e0 s0 (.lst upd_same ((r0.mono gg.eG).append (.one ru)) (by simp; omega)))⟩
    · cases hz
theorem ss_extend (hN : X.N[i]? = some y) (hv : Vis X.env.scope y) (h : SE X W e m) (hd : (y == ("__debug__" : Str)) = false := by decide) (hcd : (y == ("__classdict__" : Str)) = false := by decide)
    (hbase : attributeBase (.Name y py) "extend" X.env (eval (.Name y py) X.env) = eval (.Name y py) X.env := by rfl) (hs : starEach [e] X.env = [(false, eval e X.env)] := by rfl) (hline : (apos.endLine == cpos.line) = true := by rfl)
    (hsw : swapsWith (.Call (.Attribute (.Name y py) "extend" apos) [e] [] cpos) none pos.line X.env = pure false := by rfl) :
    SS X W (.Expr (.Call (.Attribute (.Name y py) "extend" apos) [e] [] cpos) pos) (mutS i extP m) := by
  obtain ⟨t, t1, t2⟩ := h.ex
  refine ⟨_, ps_expr (pe_bm PySem.F.plainAttrs_list PySem.F.slot_list_extend PySem.F.type_list_extend mt_extend (pe_var hN hv hd hcd) (pa_cons t1 pa_nil hs) hbase (by rw [hs]; rfl) hline hs rfl) hsw, fun G0 H0 E σ G H D s post => ?_⟩
  obtain ⟨xs, e0, post⟩ := slo_ok post
  obtain ⟨l, vs, s0, hl, r0, hb⟩ := s.at_own e0
  refine ⟨_, s0, .inl ⟨rfl, _, SqL.of hl⟩, t2.st s post fun q u G' H' gg s' ru post => ?_⟩
  cases hz : extP xs q with
  | none => rw [hz] at post; exact post.elim
  | some z =>
    rw [hz] at post
    cases ru <;> simp only [extP] at hz <;> first | (cases hz; done) | skip
    case lst b ws qs hq rq hql =>
      split at hz
      · rename_i c; cases hz
        have hl' := gg.eH l _ hl
        exact ⟨l, b, vs, ws, rfl, rfl, hl', s'.gr.sub _ _ hq, by rw [r0.length, rq.length]; exact bnd_line c, post _ G' _ (s'.write e0 s0 (.lst upd_same ((r0.mono gg.eG).append rq) (by simp; omega)))⟩
      · cases hz
theorem ss_pop (hN : X.N[i]? = some y) (hv : Vis X.env.scope y) (hd : (y == ("__debug__" : Str)) = false := by decide) (hcd : (y == ("__classdict__" : Str)) = false := by decide)
    (hbase : attributeBase (.Name y py) "pop" X.env (eval (.Name y py) X.env) = eval (.Name y py) X.env := by rfl) (hline : (apos.endLine == cpos.line) = true := by rfl)
    (hsw : swapsWith (.Call (.Attribute (.Name y py) "pop" apos) [] [] cpos) none pos.line X.env = pure false := by rfl) :
    SS X W (.Expr (.Call (.Attribute (.Name y py) "pop" apos) [] [] cpos) pos) (popS i) := by
  refine ⟨_, ps_expr (pe_bm0 PySem.F.plainAttrs_list PySem.F.slot_list_pop PySem.F.type_list_pop mt_pop (pe_var hN hv hd hcd) hbase hline) hsw, fun G0 H0 E σ G H D s post => ?_⟩
  obtain ⟨xs, e0, post⟩ := slo_ok post
  obtain ⟨l, vs, s0, hl, r0, hb⟩ := s.at_own e0
  cases hz : popP xs with
  | none => rw [hz] at post; exact post.elim
  | some z =>
    rw [hz] at post
    unfold popP at hz
    split at hz
    · cases hz
    · rename_i c; cases hz
      have hne : xs ≠ [] := by rintro rfl; exact c rfl
      have hlen := r0.length
      have hp : 0 < xs.length := List.length_pos_iff.mpr hne
      have hy : vs[vs.length - 1]? = some (vs[vs.length - 1]'(by omega)) := List.getElem?_eq_getElem (by omega)
      exact ⟨_, s0, .inl ⟨rfl, _, SqL.of hl⟩, l, vs, _, rfl, rfl, hl, hy, post _ G _ (s.write e0 s0 (.lst upd_same r0.dropLast (by simp; omega)))⟩
theorem sss_freeze (h : SSs X W sts f) : SSs X W sts (frzS i f) := by
  obtain ⟨t, t1, t2⟩ := h.ex
  refine ⟨t, t1, fun G0 H0 E σ G H D s post => ?_⟩
  unfold frzS at post
  split at post
  · rename_i p e
    obtain ⟨G', s'⟩ := s.freeze e
    exact t2 G0 H0 _ σ G' H D s' post
  · exact t2 G0 H0 E σ G H D s post
theorem ss_freeze (h : SS X W st f) : SS X W st (frzS i f) := by
  obtain ⟨t, t1, t2⟩ := h.ex
  refine ⟨t, t1, fun G0 H0 E σ G H D s post => ?_⟩
  unfold frzS at post
  split at post
  · rename_i p e
    obtain ⟨G', s'⟩ := s.freeze e
    exact t2 G0 H0 _ σ G' H D s' post
  · exact t2 G0 H0 E σ G H D s post
/-! ### raise -/
theorem ss_raise {x msg : Str} {j : Nat} {p p2 pos2 : Pos} (hc : X.calm = true) (tk : Takes X W) (q : PySem.W.excIn X.K (He.ga X.K x) He.veBase "ValueError.__new__" = true) (gC : X.mg x = some (.ref (He.ga X.K x))) (kC : PySem.W.keepIn X.K (.ref (He.ga X.K x)) = true) (r : Raises X (.ref (He.ga X.K x))) (hg : Gl X x)
    (hdb : (x == ("__debug__" : Str)) = false := by decide) : SS X W (.Raise (some (.Call (.Name x p) [.Constant (.str msg) j p2] [] pos)) none pos2) (raiseS x) :=
  ⟨_, ps_raise hc tk (pmk_own PySem.F.excBase_ValueError q gC kC r hg hdb), fun G0 H0 E σ G H D s post => post σ G H s⟩
end

/-! ### a def, put together -/
def startE (n : Nat) (ps : List PV) : En := ps.map (fun p => some (.val p)) ++ List.replicate (n - ps.length) none
/-- n parameters, m names -/
def runF (n m : Nat) (f : En → Res) (ps : List PV) : R PV := if ps.length = n then (match f (startE m ps) with
  | .nx _ => .ok .non
  | .rt p => .ok p
  | .ex c _ => .ex c
  | _ => .stk) else .stk
section
variable {K : PySem.W.Frag} {G H : Hp}
theorem er_start {vs : List V} {ps : List PV} {N : List Str} (r : Reps K G vs ps) : ER K (startE N.length ps) (L2.start N vs) G H := by
  have hl := r.length
  refine ⟨by unfold startE L2.start; simp [hl], fun i s e => ?_⟩
  unfold startE at e
  unfold L2.start
  by_cases h : i < ps.length
  · rw [List.getElem?_append_left (by simpa using h), List.getElem?_map] at e
    rw [List.getElem?_append_left (by simp; omega), List.getElem?_map]
    cases q : ps[i]? with
    | none => rw [q] at e; cases e
    | some p =>
      rw [q] at e; cases e
      obtain ⟨v, h1, h2⟩ := r.get q
      exact ⟨v, by rw [h1]; rfl, h2⟩
  · rw [List.getElem?_append_right (by simpa using Nat.le_of_not_lt h), List.getElem?_replicate] at e
    split at e <;> cases e
theorem startE_noown {n : Nat} {ps : List PV} {i : Nat} {p : PV} : (startE n ps)[i]? ≠ some (some (Sl.own p)) := fun e => by
  unfold startE at e
  by_cases h : i < ps.length
  · rw [List.getElem?_append_left (by simpa using h), List.getElem?_map] at e
    cases q : ps[i]? with
    | none => rw [q] at e; cases e
    | some p => rw [q] at e; cases e
  · rw [List.getElem?_append_right (by simpa using Nat.le_of_not_lt h), List.getElem?_replicate] at e
    split at e <;> cases e
theorem sr_start {vs : List V} {ps : List PV} {N : List Str} (r : Reps K G vs ps) (s : Ex G H) : SR K G H (startE N.length ps) (L2.start N vs) G H :=
  ⟨.refl s, er_start r, fun _ _ _ e => absurd e startE_noown, fun _ _ _ _ _ _ e => absurd e startE_noown⟩
end
/-- a def of the top: what the head tells of it -/
structure DefAt (K : PySem.W.Frag) (mg : Str → Option Value) (x : Str) (params : Arguments) (body : List Stmt) (scope : Scope) : Prop where
  ex : ∃ fd, FunD K x x params body scope [] [] (He.ga K x) fd
  mgx : mg x = some (.ref (He.ga K x))
theorem fnS_mk {P : Program} {w : World} {K : PySem.W.Frag} {mg : Str → Option Value} {base : Heap} {x : Str} {params : Arguments} {body : List Stmt} {scope : Scope} {N ps : List Str} {k : Nat} {f : En → Res}
    (D : DefAt K mg x params body scope) (S : FnScope N ps scope)
    (hb : ∀ (kV doc pm : Value) (an : Option Addr) (cdv ct : Value) (us : List Value), us.length = ps.length → bindArgs (PySem.W.fnOf x x params body scope .none kV doc pm an cdv ct) ⟨us, []⟩ = pure (ps.zip us))
    (body' : ∀ (X : Cx) (cdv : Value) (A : Around) (outer : List Env) (s : Shared) (H : Hp) (E : XK), X = cxOf (L2.CX P w) P w K mg base N x scope (He.ga K x) cdv A outer s H E → Room k X.A → Takes X (fun cls d _ H => E cls d H) → SSs X (fun cls d _ H => E cls d H) body f) :
    FnS P w K mg base (k + 1) x (runF ps.length N.length f) := by
  obtain ⟨fd, F⟩ := D.ex
  refine ⟨fd, ps, F.ok S (fun vs H Q E h => ?_) (fun cdv A outer s H vs Q E hr h => ?_), F.bindsN hb, F.kp, D.mgx⟩
  · obtain ⟨G, qs, sb, r, h⟩ := h
    unfold runF at h
    by_cases c : qs.length = ps.length
    · rw [r.length, c]
    · rw [if_neg c] at h; exact h.elim
  · obtain ⟨t, t1, t2⟩ := (body' _ cdv A outer s H E rfl hr (takes_of rfl rfl rfl rfl)).ex
    refine ⟨t, t1, ?_⟩
    obtain ⟨G, qs, sb, r, h⟩ := h
    unfold runF at h
    by_cases c : qs.length = ps.length
    · rw [if_pos c] at h
      refine t2 G H _ (L2.start N vs) G H _ (sr_start (N := N) r sb) ?_
      cases e : f (startE N.length qs) with
      | nx E' => rw [e] at h; exact fun σ' G' H' s' => h .non G' H' s'.gr .non
      | rt p => rw [e] at h; exact fun v G' H' g rv => h v G' H' g rv
      | ex x' E' => rw [e] at h; exact fun σ' G' H' s' => h G' H' s'.gr
      | stk => rw [e] at h; exact h
      | bk E' => rw [e] at h; exact h.elim
      | ct E' => rw [e] at h; exact h.elim
    · rw [if_neg c] at h; exact h.elim
end Sm
set_option Elab.async false
set_option linter.all false
set_option maxRecDepth 100000
set_option maxHeartbeats 4000000
namespace Sm
open PySem PySem.Spec PyProof.Rows L2
open SX (S S_len S_inj S_tl S_cat)

/-- a constant of the module -/
structure GC (K : PySem.W.Frag) (mg : Str → Option Value) (x : Str) (p : PV) : Prop where
  ex : ∃ v u, mg x = some u ∧ RelV v u ∧ ∀ G, Rep K G v p
theorem se_gc {X : Cx} {W : WX} {x : Str} {p : PV} {pos : Pos} (h : GC X.K X.mg x p) (hg : Gl X x) (hd : (x == ("__debug__" : Str)) = false := by decide) : SE X W (.Name x pos) (ec p) := by
  obtain ⟨v, u, h1, h2, h3⟩ := h.ex
  exact se_glob hg h1 h2 h3 hd
/-- an exception class of the module -/
structure XC (K : PySem.W.Frag) (mg : Str → Option Value) (x : Str) : Prop where
  q : PySem.W.excIn K (He.ga K x) He.veBase "ValueError.__new__" = true
  g : mg x = some (.ref (He.ga K x))
  k : PySem.W.keepIn K (.ref (He.ga K x)) = true
  sb : PySem.W.subIn K (.ref (He.ga K x)) (.type "BaseException") = some true
  ty : PySem.W.typeIn K (.ref (He.ga K x)) = some (.type "type")
theorem XC.r {X : Cx} {x : Str} (h : XC X.K X.mg x) : Raises X (.ref (He.ga X.K x)) := raises_own h.sb h.ty
/-! ### += -/
def iaddP : PV → PV → Option PV
  | .int i, .int j => some (.int (i + j))
  | .str a, .str b => if (a ++ b).length < bnd then some (.str (a ++ b)) else none
  | _, _ => none
def rIadd : R2 := fun x y H Q => rI0 (fun i j => .int (i + j)) x y H Q ∨ rAddS x y H Q
theorem op_iadd {X : Cx} : OpR X (inplaceOp .Add) rIadd := iop_add.or iop_add_str
theorem rel_iadd {K : PySem.W.Frag} : RelOp K rIadd iaddP := by
  intro x y p q z G H Q s rx ry hz k
  cases rx <;> cases ry <;> simp only [iaddP] at hz <;> first | (cases hz; done) | skip
  case int.int i j => cases hz; exact .inl ⟨_, _, rfl, rfl, k _ G H (.refl s) (.int _)⟩
  case str.str a ha b hb =>
    split at hz
    · rename_i c; cases hz
      refine .inr ⟨_, _, rfl, rfl, ?_, ?_⟩
      · rw [S_len, S_len, ← List.length_append]; exact bnd_line (Nat.le_of_lt c)
      · rw [S_cat]; exact k _ G H (.refl s) (.str _ (okS_app ha hb c))
    · cases hz
theorem FnS.mono {P : Program} {w : World} {K : PySem.W.Frag} {mg : Str → Option Value} {base : Heap} {j k : Nat} {x : Str} {F : List PV → R PV} (h : FnS P w K mg base j x F) (hk : j ≤ k) : FnS P w K mg base k x F := by
  obtain ⟨fd, ps, fn, b, kp, m⟩ := h.ex
  exact ⟨fd, ps, fn.mono hk, b, kp, m⟩
end Sm
set_option Elab.async false
set_option linter.all false
set_option maxRecDepth 100000
set_option maxHeartbeats 4000000
namespace Sm
open PySem PySem.Spec PyProof.Rows L2
open SX (S S_len S_inj S_tl S_cat)

/-- the law's own def -/
theorem fnOk_mk {P : Program} {w : World} {K : PySem.W.Frag} {mg : Str → Option Value} {base : Heap} {x : Str} {params : Arguments} {body : List Stmt} {scope : Scope} {N ps : List Str} {k : Nat} {f : En → Res} {fd : FuncData}
    (F : FunD K x x params body scope [] [] (He.ga K x) fd) (S : FnScope N ps scope)
    (body' : ∀ (X : Cx) (cdv : Value) (A : Around) (outer : List Env) (s : Shared) (H : Hp) (E : XK), X = cxOf (L2.CX P w) P w K mg base N x scope (He.ga K x) cdv A outer s H E → Room k X.A → Takes X (fun cls d _ H => E cls d H) → SSs X (fun cls d _ H => E cls d H) body f) :
    FnOk P w K mg base (L2.CX P w) (k + 1) (He.ga K x) fd ps (spF K (runF ps.length N.length f)) := by
  refine F.ok S (fun vs H Q E h => ?_) (fun cdv A outer s H vs Q E hr h => ?_)
  · obtain ⟨G, qs, sb, r, h⟩ := h
    unfold runF at h
    by_cases c : qs.length = ps.length
    · rw [r.length, c]
    · rw [if_neg c] at h; exact h.elim
  · obtain ⟨t, t1, t2⟩ := (body' _ cdv A outer s H E rfl hr (takes_of rfl rfl rfl rfl)).ex
    refine ⟨t, t1, ?_⟩
    obtain ⟨G, qs, sb, r, h⟩ := h
    unfold runF at h
    by_cases c : qs.length = ps.length
    · rw [if_pos c] at h
      refine t2 G H _ (L2.start N vs) G H _ (sr_start (N := N) r sb) ?_
      cases e : f (startE N.length qs) with
      | nx E' => rw [e] at h; exact fun σ' G' H' s' => h .non G' H' s'.gr .non
      | rt p => rw [e] at h; exact fun v G' H' g rv => h v G' H' g rv
      | ex x' E' => rw [e] at h; exact fun σ' G' H' s' => h G' H' s'.gr
      | stk => rw [e] at h; exact h
      | bk E' => rw [e] at h; exact h.elim
      | ct E' => rw [e] at h; exact h.elim
    · rw [if_neg c] at h; exact h.elim
/-- the head's end: what the law's def does at a script -/
theorem walk_sim {l : PySem.W.OpenLaw} {k : Nat} {q : Program} {loose : List Str} {XP : (Str → Option Value) → Heap → Prop} {YP : World → Heap → Prop} {d : DefRec} {x : Str} {F : List PV → R PV}
    (hn : l.most = some 63) (hdf : d.params.defaults = []) (hr : Room k callerA)
    (HF : ∀ (w : World) (mg : Str → Option Value) (fa : Addr) (h : Heap), YP w h → h.Ns mainGlobals mg → mg d.name = some (.ref fa) →
      ∃ (K : PySem.W.Frag) (fd : FuncData), K.In h ∧ (∀ (s : Shared) (u : Value), BindsTo s fd ⟨[u], []⟩ [(x, u)]) ∧
        ∀ base : Heap, K.In base → base.Ns mainGlobals mg → FnOk l.prog w K mg base (L2.CX l.prog w) k fa fd [x] (spF K F))
    (hlaw : ∀ ns : List Int, ns.length ≤ 63 → F [.scr ns] = .ok (.bl true)) :
    PySem.W.WalkO q loose XP YP l.row.toRowW d [] (fun f vs => PySem.call f vs) := by
  refine Att.attach_call hn hdf fun w s₀ s₁ mg mb fa o pm cd doc a vs ns G Y ho hd hcd hmg hobj hints hlen hg => ?_
  obtain ⟨K, fd, KX, hb, hF⟩ := HF w mg fa _ Y G.T.g hmg
  refine law_call KX G.T.g G.T.b G.T.builtins G.T.nolimit hg hobj hints (Nat.le_trans hlen (by decide)) hr hF hb (fun H hO hS => ?_) fun H e s' c => ?_
  · refine ⟨H, [.scr ns], .refl H, .cons (.scr hS (Nat.le_trans hlen (by decide))) .nil, ?_⟩
    rw [hlaw ns hlen]
    intro v G' H' g r
    cases r
    rfl
  · obtain ⟨a, B, H', cls, d, _, _, _, _, _, _, _, z⟩ := c
    exact z
/-! ### the Hook, with a Bool of one's own -/
abbrev AlS : Type := He.AlD × Bool
def obsS (n : Nat) (fa : List He.Fa) (fn : List He.DefD) (ex : PySem.W.Frag → Bool) (g : Addr → Option Obj) : AlS := (He.obsD fa fn (He.frG g (He.asD g n)), ex (He.frG g (He.asD g n)))
structure SaysS (fa : List He.Fa) (fn : List He.DefD) (ex : PySem.W.Frag → Bool) (K : PySem.W.Frag) : Prop where
  d : He.SaysD fa fn K
  x : ex K = true
def hookS (n : Nat) (fa : List He.Fa) (fn : List He.DefD) (ex : PySem.W.Frag → Bool) : PySem.W.Hook where
  α := AlS
  obs := fun s => obsS n fa fn ex s.heap.get?
  val := fun _ => (He.valD fn, true)
  says := fun _ h => ∃ K : PySem.W.Frag, K.In h ∧ SaysS fa fn ex K
  of := fun _ _ e => ⟨_, He.frG_in, congrArg (fun z : AlS => z.1) e, congrArg (fun z : AlS => z.2) e⟩
  keeps := fun _ _ _ ⟨K, hK, c⟩ k => ⟨K, PySem.W.Frag.In.keeps hK k, c⟩
theorem obsS_eq {n : Nat} {fa : List He.Fa} {fn : List He.DefD} {ex : PySem.W.Frag → Bool} {g : Addr → Option Obj} {s : Shared} (h : ∀ a, g a = s.heap.get? a) : obsS n fa fn ex g = (hookS n fa fn ex).obs s := by
  have e : g = s.heap.get? := funext h
  rw [e] <;> rfl
/-! ### what the head tells, in TopF's words -/
section
variable {K : PySem.W.Frag} {h : Heap} {mg : Str → Option Value}
theorem gc_str (X : K.In h) (G : h.Ns mainGlobals mg) {x z : Str} {s : List Nat} (c : (He.Fa.str x z).ok K = true) (e : z = S s) (ho : okS s = true) : GC K mg x (.str s) := by
  obtain ⟨t, e1⟩ := He.str_ok X G c
  subst e
  exact ⟨.str (S s), _, e1, ⟨t, rfl⟩, fun G => .str s ho⟩
theorem gc_int (X : K.In h) (G : h.Ns mainGlobals mg) {x : Str} {i : Int} (c : (He.Fa.int x i).ok K = true) : GC K mg x (.int i) := by
  obtain ⟨t, e1⟩ := He.int_ok X G c
  exact ⟨.int i, _, e1, ⟨t, rfl⟩, fun G => .int i⟩
theorem gc_strs (X : K.In h) (G : h.Ns mainGlobals mg) {x : Str} {l : List (List Nat)} (c1 : (He.Fa.glo x).ok K = true) (c : He.tupB K x (l.map fun s => He.Dv.str (S s)) = true) (ho : l.all okS = true) (hl : l.length ≤ bnd) : GC K mg x (.tup (l.map .str)) := by
  refine ⟨.ref (He.ga K x), _, He.glo_ok X G c1, rfl, fun G => ?_⟩
  have e := He.tupB_ok c G
  rw [List.map_map] at e
  have r : Reps K G _ (l.map .str) := reps_strs (K := K) (G := G) fun p hp => List.all_eq_true.mp ho p hp
  rw [List.map_map] at r
  exact .tup e r (by simpa using hl)
theorem xc_of (X : K.In h) (G : h.Ns mainGlobals mg) {x : Str} (c1 : (He.Fa.glo x).ok K = true) (c : (He.Fa.exc x).ok K = true) : XC K mg x := by
  obtain ⟨h1, h2, h3, h4⟩ := He.exc_ok c
  exact ⟨h1, He.glo_ok X G c1, h2, h3, h4⟩
theorem def_of (X : K.In h) (G : h.Ns mainGlobals mg) {x : Str} {params : Arguments} {body : List Stmt} {scope : Scope} (c1 : (He.Fa.glo x).ok K = true) (c : ∃ fd, FunD K x x params body scope [] [] (He.ga K x) fd) : DefAt K mg x params body scope :=
  ⟨c, He.glo_ok X G c1⟩
end
end Sm
set_option Elab.async false
set_option linter.all false
set_option maxRecDepth 100000
set_option maxHeartbeats 4000000
/-! What the words do at a written En: for simp. -/
namespace Sm
open PySem PySem.Spec PyProof.Rows L2
open SX (S S_len S_inj S_tl S_cat)
section
variable {α : Type} {E : En} {i : Nat} {p q : PV} {b c : Bool} {m m' : En → R PV} {t u : En → R Bool} {f g : En → Res}
@[simp] theorem v_slv (p : PV) : slv (some (some (.val p))) = .ok p := rfl
@[simp] theorem v_ev : ev i E = slv E[i]? := rfl
@[simp] theorem v_ec : ec p E = .ok p := rfl
@[simp] theorem v_e1 {h : PV → Option PV} : e1 h m E = (m E).bind fun p => R.of (h p) := rfl
@[simp] theorem v_e2 {h : PV → PV → Option PV} : e2 h m m' E = (m E).bind fun p => (m' E).bind fun q => R.of (h p q) := rfl
@[simp] theorem v_aN : aN E = .ok [] := rfl
@[simp] theorem v_aC {r : En → R (List PV)} : aC m r E = (m E).bind fun p => (r E).bind fun ps => .ok (p :: ps) := rfl
@[simp] theorem v_eA {h : List PV → Option PV} {r : En → R (List PV)} : eA h r E = (r E).bind fun ps => R.of (h ps) := rfl
@[simp] theorem v_eF {h : List PV → R PV} {r : En → R (List PV)} : eF h r E = (r E).bind h := rfl
@[simp] theorem v_eT : eT t E = (t E).bind fun b => .ok (.bl b) := rfl
@[simp] theorem v_eIf : eIf t m m' E = (t E).bind fun k => if k = true then m E else m' E := rfl
@[simp] theorem v_tV : tV m E = (m E).bind fun p => R.of (truth p) := rfl
@[simp] theorem v_tE : tE m E = (m E).bind fun p => R.of (tB' p) := rfl
@[simp] theorem v_tB : tB' (.bl b) = some b := rfl
@[simp] theorem v_tN : tN t E = (t E).bind fun b => .ok (!b) := rfl
@[simp] theorem v_tA : tA t u E = (t E).bind fun b => if b = true then u E else .ok false := rfl
@[simp] theorem v_tO : tO t u E = (t E).bind fun b => if b = true then .ok true else u E := rfl
@[simp] theorem v_eAnd : eAnd m m' E = (m E).bind fun p => (R.of (truth p)).bind fun k => if k = true then m' E else .ok p := rfl
@[simp] theorem v_eOr : eOr m m' E = (m E).bind fun p => (R.of (truth p)).bind fun k => if k = true then .ok p else m' E := rfl
@[simp] theorem v_eNot : eNot m E = (m E).bind fun p => (R.of (truth p)).bind fun k => .ok (.bl (!k)) := rfl
@[simp] theorem v_oN : oN E = .ok none := rfl
@[simp] theorem v_oS : oS m E = (m E).bind fun p => R.of (asI p) := rfl
@[simp] theorem v_asI (i : Int) : asI (.int i) = some (some i) := rfl
@[simp] theorem v_eSl {lo hi : En → R (Option Int)} : eSl m lo hi E = (m E).bind fun p => (lo E).bind fun l => (hi E).bind fun u => R.of (slP l u p) := rfl
@[simp] theorem v_resok (h : α → Res) (a : α) : Res.of E h (.ok a) = h a := rfl
@[simp] theorem v_resstk (h : α → Res) : Res.of E h .stk = .stk := rfl
@[simp] theorem v_resex (h : α → Res) (x : Str) : Res.of E h (.ex x) = .ex x E := rfl
@[simp] theorem v_nxS : nxS E = .nx E := rfl
@[simp] theorem v_retS : retS m E = Res.of E .rt (m E) := rfl
@[simp] theorem v_retN : retN E = .rt .non := rfl
@[simp] theorem v_dropS : dropS m E = Res.of E (fun _ => .nx E) (m E) := rfl
@[simp] theorem v_ifS : ifS t f g E = Res.of E (fun b => if b = true then f E else g E) (t E) := rfl
@[simp] theorem v_setS : setS i m E = Res.of E (fun p => .nx (E.set i (some (.val p)))) (m E) := rfl
@[simp] theorem v_ownS : ownS i m E = Res.of E (fun p => .nx (E.set i (some (.own p)))) (m E) := rfl
theorem seqS_eq : seqS f g E = (match f E with
  | .nx E' => g E'
  | r => r) := rfl
@[simp] theorem v_ltP (i j : Int) : ltP (.int i) (.int j) = some (.bl (decide (i < j))) := rfl
@[simp] theorem v_leP (i j : Int) : leP (.int i) (.int j) = some (.bl (decide (i ≤ j))) := rfl
@[simp] theorem v_gtP (i j : Int) : gtP (.int i) (.int j) = some (.bl (decide (i > j))) := rfl
@[simp] theorem v_geP (i j : Int) : geP (.int i) (.int j) = some (.bl (decide (i ≥ j))) := rfl
@[simp] theorem v_truth_bl : truth (.bl b) = some b := rfl
@[simp] theorem v_eqP_str (x y : List Nat) : eqP (.str x) (.str y) = some (.bl (x == y)) := rfl
@[simp] theorem v_neP_str (x y : List Nat) : neP (.str x) (.str y) = some (.bl (!(x == y))) := rfl
@[simp] theorem v_eqP_bl (x y : Bool) : eqP (.bl x) (.bl y) = some (.bl (x == y)) := rfl
@[simp] theorem v_len_str (x : List Nat) : lenP [.str x] = some (.int x.length) := rfl
end
section
variable {α : Type}
@[simp] theorem v_slP_str (l u : Option Int) (x : List Nat) : slP l u (.str x) = some (.str (cut x l u)) := rfl
@[simp] theorem v_slP_lst (l u : Option Int) (x : List PV) : slP l u (.lst x) = some (.lst (cut x l u)) := rfl
@[simp] theorem v_slP_tup (l u : Option Int) (x : List PV) : slP l u (.tup x) = some (.tup (cut x l u)) := rfl
theorem cut_to (xs : List α) (k : Nat) : cut xs none (some (k : Int)) = xs.take k := by
  unfold cut
  rw [HT.sIx_none, HT.sIx_nat, List.drop_zero, Nat.sub_zero]
  by_cases h : k ≤ xs.length
  · rw [Nat.min_eq_left h]
  · rw [Nat.min_eq_right (by omega), List.take_of_length_le (Nat.le_refl _), List.take_of_length_le (by omega)]
theorem cut_from (xs : List α) (k : Nat) : cut xs (some (k : Int)) none = xs.drop k := by
  unfold cut
  rw [HT.sIx_none, HT.sIx_nat]
  by_cases h : k ≤ xs.length
  · rw [Nat.min_eq_left h, List.take_of_length_le (by rw [List.length_drop]; omega)]
  · rw [Nat.min_eq_right (by omega), List.drop_of_length_le (Nat.le_refl _), List.drop_of_length_le (by omega)]; simp
theorem cut_mid (xs : List α) (i j : Nat) : cut xs (some (i : Int)) (some (j : Int)) = (xs.drop i).take (j - i) := by
  unfold cut
  rw [HT.sIx_nat, HT.sIx_nat]
  apply List.ext_getElem?
  intro k
  rw [List.getElem?_take, List.getElem?_take, List.getElem?_drop, List.getElem?_drop]
  by_cases h : min i xs.length + k < xs.length ∨ i + k < xs.length
  · have e : min i xs.length = i := by omega
    rw [e]
    by_cases h2 : k < j - i
    · rw [if_pos h2, if_pos (by omega)]
    · rw [if_neg h2, if_neg (by omega)]
  · rw [List.getElem?_eq_none (by omega), List.getElem?_eq_none (by omega)]; simp
@[simp] theorem cut_to1 (xs : List α) : cut xs none (some 1) = xs.take 1 := cut_to xs 1
@[simp] theorem cut_to2 (xs : List α) : cut xs none (some 2) = xs.take 2 := cut_to xs 2
@[simp] theorem cut_from1 (xs : List α) : cut xs (some 1) none = xs.drop 1 := cut_from xs 1
theorem atI_nat (xs : List α) (k : Nat) : L2.atI xs (k : Int) = xs[k]? := by
  unfold L2.atI ixN
  rw [if_pos (by omega)]
  by_cases h : k < xs.length
  · rw [if_pos (by omega)]; simp
  · rw [if_neg (by omega)]; simp; omega
@[simp] theorem atI_0 (xs : List α) : L2.atI xs 0 = xs.head? := by rw [List.head?_eq_getElem?]; exact atI_nat xs 0
@[simp] theorem atI_1 (xs : List α) : L2.atI xs 1 = xs[1]? := atI_nat xs 1
@[simp] theorem atI_2 (xs : List α) : L2.atI xs 2 = xs[2]? := atI_nat xs 2
@[simp] theorem atI_m1 (xs : List α) : L2.atI xs (-1) = xs.getLast? := by
  unfold L2.atI ixN
  rw [if_neg (by omega)]
  by_cases h : xs = []
  · subst h; rfl
  · have : 0 < xs.length := List.length_pos_iff.mpr h
    rw [if_pos (by omega), List.getLast?_eq_getElem?]
    show xs[(-1 + (xs.length : Int)).toNat]? = _
    congr 1
    omega
@[simp] theorem v_ix_str (x : List Nat) (i : Int) : ixP (.str x) (.int i) = (L2.atI x i).map fun c => .str [c] := rfl
@[simp] theorem v_ix_lst (x : List PV) (i : Int) : ixP (.lst x) (.int i) = L2.atI x i := rfl
@[simp] theorem v_ix_tup (x : List PV) (i : Int) : ixP (.tup x) (.int i) = L2.atI x i := rfl
@[simp] theorem v_ix_scr (x : List Int) (i : Int) : ixP (.scr x) (.int i) = (L2.atI x i).map .int := rfl
theorem infx_one (c : Nat) : ∀ s : List Nat, infx [c] s = s.contains c
  | [] => rfl
  | d :: r => by
    rw [infx, infx_one c r, List.contains_cons]
    simp [List.isPrefixOf]
theorem infx_two (x y a b : Nat) (r : List Nat) : infx [x, y] (a :: b :: r) = ((x == a && y == b) || infx [x, y] (b :: r)) := by
  rw [infx]; simp [List.isPrefixOf]
/-- a comprehension, item by item -/
theorem compM_map {f : PV → R (Option PV)} {g : α → PV} {h : α → Option PV} : ∀ (l : List α), (∀ a ∈ l, f (g a) = .ok (h a)) → compM f (l.map g) = .ok (l.filterMap h)
  | [], _ => rfl
  | a :: l, hf => by
    rw [List.map_cons, compM, hf a (by simp)]
    simp only [R.bind_ok]
    rw [compM_map l fun b hb => hf b (by simp [hb])]
    cases e : h a with
    | none => simp [e]
    | some p => simp [e]
/-- a comprehension that keeps some letters of a text -/
theorem lc_letters {m : En → R PV} {i : Nat} {t : En → R Bool} {E : En} {s : List Nat} {k : Nat → Bool} (hm : m E = .ok (.str s)) (hi : i < E.length)
    (ht : ∀ c ∈ s, t ((wipeE E [i]).set i (some (.val (.str [c])))) = .ok (k c)) : eLc (iV m) (bN i) t (ev i) [i] E = .ok (.lst ((s.filter k).map fun c => .str [c])) := by
  unfold eLc iV
  rw [hm]
  simp only [R.bind_ok, itemsOf, R.of_some]
  rw [compM_map (g := fun c => PV.str [c]) (h := fun c => if k c = true then some (.str [c]) else none) s]
  · simp only [R.bind_ok]
    congr 2
    clear ht hm
    induction s with
    | nil => rfl
    | cons c r ih => by_cases h : k c = true <;> simp [h, ih]
  · intro c hc
    have hl : i < (wipeE E [i]).length := by simpa [wipeE] using hi
    unfold lcB bN
    simp only [R.of_some, R.bind_ok]
    rw [ht c hc]
    by_cases h : k c = true
    · simp [h, List.getElem?_set_self hl]
    · simp [h]
end
def fin : Res → R PV
  | .nx _ => .ok .non
  | .rt p => .ok p
  | .ex c _ => .ex c
  | _ => .stk
theorem runF_eq (n m : Nat) (f : En → Res) (ps : List PV) : runF n m f ps = if ps.length = n then fin (f (startE m ps)) else .stk := rfl
@[simp] theorem runF_0 (m : Nat) (f : En → Res) : runF 0 m f [] = fin (f (startE m [])) := rfl
@[simp] theorem runF_1 (m : Nat) (f : En → Res) (p : PV) : runF 1 m f [p] = fin (f (startE m [p])) := rfl
@[simp] theorem runF_2 (m : Nat) (f : En → Res) (p q : PV) : runF 2 m f [p, q] = fin (f (startE m [p, q])) := rfl
@[simp] theorem runF_3 (m : Nat) (f : En → Res) (p q r : PV) : runF 3 m f [p, q, r] = fin (f (startE m [p, q, r])) := rfl
@[simp] theorem fin_rt (p : PV) : fin (.rt p) = .ok p := rfl
@[simp] theorem fin_nx (E : En) : fin (.nx E) = .ok .non := rfl
@[simp] theorem fin_ex (c : Str) (E : En) : fin (.ex c E) = .ex c := rfl
@[simp] theorem startE_1 (n : Nat) (p : PV) : startE (n + 1) [p] = some (.val p) :: List.replicate n none := by simp [startE]
@[simp] theorem startE_2 (n : Nat) (p q : PV) : startE (n + 2) [p, q] = some (.val p) :: some (.val q) :: List.replicate n none := by simp [startE]
@[simp] theorem startE_3 (n : Nat) (p q r : PV) : startE (n + 3) [p, q, r] = some (.val p) :: some (.val q) :: some (.val r) :: List.replicate n none := by simp [startE]
@[simp] theorem startE_0 (n : Nat) : startE n [] = List.replicate n none := by simp [startE]
/-- a test is true or not: nothing else -/
theorem ifS_t {t : En → R Bool} {f g : En → Res} {E : En} {b : Bool} (h : t E = .ok b) : ifS t f g E = if b = true then f E else g E := by rw [v_ifS, h]; rfl
theorem tO_t {t u : En → R Bool} {E : En} {a b : Bool} (h : t E = .ok a) (h2 : a = false → u E = .ok b) : tO t u E = .ok (a || b) := by
  rw [v_tO, h]; cases a
  · simp [h2 rfl]
  · rfl
theorem tA_t {t u : En → R Bool} {E : En} {a b : Bool} (h : t E = .ok a) (h2 : a = true → u E = .ok b) : tA t u E = .ok (a && b) := by
  rw [v_tA, h]; cases a
  · rfl
  · simp [h2 rfl]
theorem seq_nx {f g : En → Res} {E E' : En} (h : f E = .nx E') : seqS f g E = g E' := by rw [seqS_eq, h]
theorem seq_rt {f g : En → Res} {E : En} {p : PV} (h : f E = .rt p) : seqS f g E = .rt p := by rw [seqS_eq, h]
theorem guard_ {t : En → R Bool} {m : En → R PV} {g : En → Res} {E : En} {b : Bool} {v : PV} (h : t E = .ok b) (h2 : b = true → m E = .ok v) : seqS (ifS t (retS m) nxS) g E = if b = true then .rt v else g E := by
  rw [seqS_eq, ifS_t h]
  cases b
  · rfl
  · simp [h2 rfl]
theorem set_ {m : En → R PV} {g : En → Res} {E : En} {i : Nat} {v : PV} (h : m E = .ok v) : seqS (setS i m) g E = g (E.set i (some (.val v))) := by rw [seqS_eq, v_setS, h]; rfl
theorem ret_ {m : En → R PV} {E : En} {v : PV} (h : m E = .ok v) : retS m E = .rt v := by rw [v_retS, h]; rfl
@[simp] theorem fin_ite (c : Prop) [Decidable c] (x y : Res) : fin (if c then x else y) = if c then fin x else fin y := by split <;> rfl
theorem tO3 {t u v : En → R Bool} {E : En} {a b c : Bool} (h : t E = .ok a) (h2 : a = false → u E = .ok b) (h3 : a = false → b = false → v E = .ok c) : tO t (tO u v) E = .ok (a || (b || c)) := tO_t h fun x => tO_t (h2 x) fun y => h3 x y
@[simp] theorem truth_lst (l : List PV) : truth (.lst l) = some (!l.isEmpty) := rfl
@[simp] theorem truth_str (l : List Nat) : truth (.str l) = some (!l.isEmpty) := rfl
def emK (f : List Nat → List PV → Option PV) (r : R (List PV)) : PV → R PV
  | .str s => r.bind fun ps => R.of (f s ps)
  | _ => .stk
@[simp] theorem v_eM {f : List Nat → List PV → Option PV} {a : En → R PV} {r : En → R (List PV)} {E : En} : eM f a r E = (a E).bind (emK f (r E)) := by
  unfold eM emK
  cases a E with
  | ok p => cases p <;> rfl
  | _ => rfl
@[simp] theorem emK_str (f : List Nat → List PV → Option PV) (r : R (List PV)) (s : List Nat) : emK f r (.str s) = r.bind fun ps => R.of (f s ps) := rfl
@[simp] theorem v_strF (g : List Nat → List Nat → List Nat) (s y : List Nat) : strF g s [.str y] = some (.str (g y s)) := rfl
@[simp] theorem v_lowF (s : List Nat) : lowF s [] = some (.str (s.map lo1)) := rfl
theorem eCh_ok {f g : PV → PV → Option PV} {a b c : En → R PV} {E : En} {p q r : PV} {x y : Bool} (ha : a E = .ok p) (hb : b E = .ok q) (hc : c E = .ok r) (h1 : f p q = some (.bl x)) (h2 : g q r = some (.bl y)) : eCh f g a b c E = .ok (.bl (x && y)) := by
  unfold eCh
  rw [ha, hb, hc]
  simp only [R.bind_ok, h1, R.of_some]
  cases x
  · rfl
  · simp [h2]
theorem beq_nil_ (x : List Nat) : (x == []) = x.isEmpty := by cases x <;> rfl
end Sm
set_option Elab.async false
set_option linter.all false
set_option maxRecDepth 100000
set_option maxHeartbeats 8000000
namespace Sm
open PySem PySem.Spec PyProof.Rows L2
def top (i : Nat) : Stmt := PySem.Challenge.pw_indentbook_k01_words.main.body.getD i (.Pass ⟨0, 0, 0, 0⟩)
def c_BARRED : PV := .str [34, 39, 35, 38, 42, 33, 124, 62, 64, 96, 91, 93, 123, 125, 44, 63, 58]
def c_DOUBTS : PV := .tup [.str [121, 101, 115], .str [110, 111], .str [111, 110], .str [111, 102, 102], .str [121], .str [110], .str [116, 114, 117, 101], .str [102, 97, 108, 115, 101], .str [110, 117, 108, 108], .str [110, 111, 110, 101], .str [110, 97, 110], .str [105, 110, 102]]
def c_FIGURES : PV := .str [48, 49, 50, 51, 52, 53, 54, 55, 56, 57]
def c_PLAIN : PV := .str [32, 33, 34, 35, 36, 38, 39, 40, 41, 42, 43, 44, 45, 46, 47, 48, 49, 50, 51, 52, 53, 54, 55, 56, 57, 58, 59, 60, 61, 62, 63, 64, 65, 66, 67, 68, 69, 70, 71, 72, 73, 74, 75, 76, 77, 78, 79, 80, 81, 82, 83, 84, 85, 86, 87, 88, 89, 90, 91, 92, 93, 94, 95, 96, 97, 98, 99, 100, 101, 102, 103, 104, 105, 106, 107, 108, 109, 110, 111, 112, 113, 114, 115, 116, 117, 118, 119, 120, 121, 122, 123, 124, 125, 126]
abbrev s_l_plain : Stmt := top 17
abbrev s_l_seed : Stmt := top 15
abbrev s_l_some_word : Stmt := top 18
abbrev s_l_as : Stmt := top 16
abbrev s_is_figures : Stmt := top 7
abbrev s_number_in : Stmt := top 8
abbrev s_word_worth : Stmt := top 9
abbrev s_l_number : Stmt := top 19
abbrev s_l_word_worth : Stmt := top 20
abbrev s_is_plain : Stmt := top 3
abbrev s_can_stand : Stmt := top 10
abbrev s_l_stands : Stmt := top 21
abbrev s_can_stand_within : Stmt := top 11
abbrev s_l_cell : Stmt := top 14
abbrev s_is_doubtful : Stmt := top 12
abbrev s_l_doubtful : Stmt := top 22
abbrev s_law : Stmt := top 23
/-- what the top leaves -/
structure TopF (K : PySem.W.Frag) (mg : Str → Option Value) : Prop where
  z_bool : mg "bool" = none
  z_int : mg "int" = none
  z_isinstance : mg "isinstance" = none
  z_len : mg "len" = none
  z_range : mg "range" = none
  z_str : mg "str" = none
  z_tuple : mg "tuple" = none
  g_BARRED : GC K mg "BARRED" c_BARRED
  g_DOUBTS : GC K mg "DOUBTS" c_DOUBTS
  g_FIGURES : GC K mg "FIGURES" c_FIGURES
  g_PLAIN : GC K mg "PLAIN" c_PLAIN
  d_l_plain : DefAt K mg "_law_plain" (defArgs s_l_plain) (defBody s_l_plain) (defScope s_l_plain)
  d_l_seed : DefAt K mg "_law_seed" (defArgs s_l_seed) (defBody s_l_seed) (defScope s_l_seed)
  d_l_some_word : DefAt K mg "_law_some_word" (defArgs s_l_some_word) (defBody s_l_some_word) (defScope s_l_some_word)
  d_l_as : DefAt K mg "_law_as" (defArgs s_l_as) (defBody s_l_as) (defScope s_l_as)
  d_is_figures : DefAt K mg "is_figures" (defArgs s_is_figures) (defBody s_is_figures) (defScope s_is_figures)
  d_number_in : DefAt K mg "number_in" (defArgs s_number_in) (defBody s_number_in) (defScope s_number_in)
  d_word_worth : DefAt K mg "word_worth" (defArgs s_word_worth) (defBody s_word_worth) (defScope s_word_worth)
  d_l_number : DefAt K mg "_law_number" (defArgs s_l_number) (defBody s_l_number) (defScope s_l_number)
  d_l_word_worth : DefAt K mg "_law_word_worth" (defArgs s_l_word_worth) (defBody s_l_word_worth) (defScope s_l_word_worth)
  d_is_plain : DefAt K mg "is_plain" (defArgs s_is_plain) (defBody s_is_plain) (defScope s_is_plain)
  d_can_stand : DefAt K mg "can_stand" (defArgs s_can_stand) (defBody s_can_stand) (defScope s_can_stand)
  d_l_stands : DefAt K mg "_law_stands" (defArgs s_l_stands) (defBody s_l_stands) (defScope s_l_stands)
  d_can_stand_within : DefAt K mg "can_stand_within" (defArgs s_can_stand_within) (defBody s_can_stand_within) (defScope s_can_stand_within)
  d_l_cell : DefAt K mg "_law_cell" (defArgs s_l_cell) (defBody s_l_cell) (defScope s_l_cell)
  d_is_doubtful : DefAt K mg "is_doubtful" (defArgs s_is_doubtful) (defBody s_is_doubtful) (defScope s_is_doubtful)
  d_l_doubtful : DefAt K mg "_law_doubtful" (defArgs s_l_doubtful) (defBody s_l_doubtful) (defScope s_l_doubtful)
  d_law : DefAt K mg "law" (defArgs s_law) (defBody s_law) (defScope s_law)
def n_l_plain : List Str := ["_law_marks"]
theorem sc_l_plain : FnScope n_l_plain [] (defScope s_l_plain) := ⟨rfl, rfl, rfl, by decide +kernel, rfl, by decide +kernel, by decide +kernel⟩
def m_l_plain : En → Res :=
  (seqS (setS 0 (ec (.str [32, 33, 34, 35, 36, 38, 39, 40, 41, 42, 43, 44, 45, 46, 47, 58, 59, 60, 61, 62, 63, 64, 91, 92, 93, 94, 95, 96, 123, 124, 125, 126])))
  (retS (e2 addP (ev 0) (ec (.str [48, 49, 50, 51, 52, 53, 54, 55, 56, 57, 65, 66, 67, 68, 69, 70, 71, 72, 73, 74, 75, 76, 77, 78, 79, 80, 81, 82, 83, 84, 85, 86, 87, 88, 89, 90, 97, 98, 99, 100, 101, 102, 103, 104, 105, 106, 107, 108, 109, 110, 111, 112, 113, 114, 115, 116, 117, 118, 119, 120, 121, 122])))))
def F_l_plain : List PV → R PV := runF 0 1 m_l_plain
def n_l_seed : List Str := ["_law_seed_here", "_law_k"]
theorem sc_l_seed : FnScope n_l_seed ["_law_seed_here", "_law_k"] (defScope s_l_seed) := ⟨rfl, rfl, rfl, by decide +kernel, rfl, by decide +kernel, by decide +kernel⟩
def m_l_seed : En → Res :=
  (retS (e2 modP (e2 powP (e2 modP (e2 addP (e2 addP (e2 mulP (ev 0) (ec (.int 1103515245))) (e2 mulP (ec (.int 7919)) (ev 1))) (ec (.int 12345))) (ec (.int 2147483647))) (ec (.int 5))) (ec (.int 2147483647))))
def F_l_seed : List PV → R PV := runF 2 2 m_l_seed
def n_l_some_word : List Str := ["_law_seed_here", "_law_hook", "_law_some", "_law_words", "_law_k"]
theorem sc_l_some_word : FnScope n_l_some_word ["_law_seed_here"] (defScope s_l_some_word) := ⟨rfl, rfl, rfl, by decide +kernel, rfl, by decide +kernel, by decide +kernel⟩
def m_l_some_word : En → Res :=
  (seqS (setS 1 (e2 ixP (fun _ => noEx (F_l_plain [])) (ec (.int 2))))
  (seqS (setS 2 (ec (.str [126, 124, 110, 117, 108, 108, 124, 116, 114, 117, 101, 124, 102, 97, 108, 115, 101, 124, 48, 124, 45, 48, 124, 45, 53, 124, 48, 48, 55, 124, 49, 50, 124, 49, 50, 51, 52, 53, 54, 55, 56, 57, 48, 49, 50, 51, 124, 97, 124, 121, 101, 115, 124, 79, 110, 124, 49, 46, 53, 124, 43, 49, 124, 97, 32, 98, 124, 97, 58, 32, 98, 124, 97, 58, 98, 124, 120, 32, 35, 121, 124, 120, 35, 121, 124, 105, 116, 39, 115, 124, 45, 32, 97])))
  (seqS (setS 2 (e2 addP (ev 2) (ec (.str [124, 45, 124, 45, 97, 124, 91, 97, 124, 97, 93, 124, 97, 44, 98, 124, 123, 124, 97, 32, 39, 98, 124, 97, 44, 39, 98, 124, 39, 113, 39, 124, 38, 97, 124, 42, 97, 124, 62, 124, 64, 124, 63, 120, 124, 58, 120, 124, 33, 120, 124, 110, 124, 78, 124, 105, 110, 102, 124, 45, 105, 110, 102, 124, 46, 53, 124, 46, 46, 51, 124, 97, 58, 124, 97, 32, 124, 32, 97]))))
  (seqS (setS 3 (eM splF (e2 addP (ev 2) (ec (.str [124, 57, 57, 57, 57, 57, 57, 57, 57, 57, 57, 57, 57, 124, 45, 57, 57, 57, 57, 57, 57, 57, 57, 57, 57, 57, 57, 124, 84, 114, 117, 101, 124, 78, 85, 76, 76, 124, 45, 43, 46, 55, 122, 124, 97, 44, 32, 98, 124, 125, 124, 97, 45, 124, 35]))) (aC (ec (.str [124])) aN)))
  (seqS (setS 3 (e2 addP (ev 3) (eA lstP (aC (ec (.str [])) (aC (ec (.str [124])) (aC (e2 addP (ev 1) (ec (.str [113]))) (aC (e2 addP (ec (.str [97, 91])) (ev 1)) aN)))))))
  (seqS (ifS (tE (e2 gtP (e2 modP (e2 divP (ev 0) (ec (.int 5))) (ec (.int 4))) (ec (.int 0)))) (retS (e2 ixP (ev 3) (e2 modP (e2 divP (ev 0) (ec (.int 7))) (eA lenP (aC (ev 3) aN))))) nxS)
  (retS (eM joinF (ec (.str [])) (aC (eLc (iR1 (aC (e2 modP (e2 divP (ev 0) (ec (.int 11))) (ec (.int 9))) aN)) (bN 4) tY (e2 ixP (fun _ => noEx (F_l_plain [])) (e2 modP (e2 divP (eF F_l_seed (aC (ev 0) (aC (ev 4) aN))) (ec (.int 7))) (ec (.int 94)))) [4]) aN)))))))))
def F_l_some_word : List PV → R PV := runF 1 5 m_l_some_word
def n_l_as : List Str := ["_law_thing", "_law_due"]
theorem sc_l_as : FnScope n_l_as ["_law_thing", "_law_due"] (defScope s_l_as) := ⟨rfl, rfl, rfl, by decide +kernel, rfl, by decide +kernel, by decide +kernel⟩
def m_l_as : En → Res :=
  (retS (eAnd (e1 (isI "bool") (ev 0)) (e2 eqP (ev 0) (ev 1))))
def F_l_as : List PV → R PV := runF 2 2 m_l_as
def n_is_figures : List Str := ["text", "sign"]
theorem sc_is_figures : FnScope n_is_figures ["text"] (defScope s_is_figures) := ⟨rfl, rfl, rfl, by decide +kernel, rfl, by decide +kernel, by decide +kernel⟩
def m_is_figures : En → Res :=
  (seqS (ifS (tO (tE (e2 eqP (ev 0) (ec (.str [])))) (tO (tE (e2 gtP (eA lenP (aC (ev 0) aN)) (ec (.int 12)))) (tV (eLc (iV (ev 0)) (bN 1) (tE (e2 ninP (ev 1) (ec c_FIGURES))) (ev 1) [1])))) (retS (ec (.bl false))) nxS)
  (retS (eOr (e2 eqP (ev 0) (ec (.str [48]))) (e2 neP (e2 ixP (ev 0) (ec (.int 0))) (ec (.str [48]))))))
def F_is_figures : List PV → R PV := runF 1 2 m_is_figures
def n_number_in : List Str := ["word", "figures"]
theorem sc_number_in : FnScope n_number_in ["word"] (defScope s_number_in) := ⟨rfl, rfl, rfl, by decide +kernel, rfl, by decide +kernel, by decide +kernel⟩
def m_number_in : En → Res :=
  (seqS (setS 1 (eIf (tE (e2 eqP (eSl (ev 0) oN (oS (ec (.int 1)))) (ec (.str [45])))) (eSl (ev 0) (oS (ec (.int 1))) oN) (ev 0)))
  (seqS (ifS (tO (tN (tV (eF F_is_figures (aC (ev 1) aN)))) (tE (e2 eqP (ev 0) (ec (.str [45, 48]))))) (retS (ec .non)) nxS)
  (retS (eA intP (aC (ev 0) aN)))))
def F_number_in : List PV → R PV := runF 1 2 m_number_in
def n_word_worth : List Str := ["word", "number"]
theorem sc_word_worth : FnScope n_word_worth ["word"] (defScope s_word_worth) := ⟨rfl, rfl, rfl, by decide +kernel, rfl, by decide +kernel, by decide +kernel⟩
def m_word_worth : En → Res :=
  (seqS (ifS (tE (e2 inP (ev 0) (eA tupP (aC (ec (.str [])) (aC (ec (.str [126])) (aC (ec (.str [110, 117, 108, 108])) aN)))))) (retS (eA tupP (aC (ec (.str [110, 111, 110, 101])) aN))) nxS)
  (seqS (ifS (tE (e2 inP (ev 0) (eA tupP (aC (ec (.str [116, 114, 117, 101])) (aC (ec (.str [102, 97, 108, 115, 101])) aN))))) (retS (eA tupP (aC (ec (.str [116, 114, 117, 116, 104])) (aC (e2 eqP (ev 0) (ec (.str [116, 114, 117, 101]))) aN)))) nxS)
  (seqS (setS 1 (eF F_number_in (aC (ev 0) aN)))
  (retS (eIf (tE (e2 isP (ev 1) (ec .non))) (eA tupP (aC (ec (.str [116, 101, 120, 116])) (aC (ev 0) aN))) (eA tupP (aC (ec (.str [110, 117, 109, 98, 101, 114])) (aC (ev 1) aN))))))))
def F_word_worth : List PV → R PV := runF 1 2 m_word_worth
def n_l_number : List Str := ["_law_word", "_law_figures"]
theorem sc_l_number : FnScope n_l_number ["_law_word"] (defScope s_l_number) := ⟨rfl, rfl, rfl, by decide +kernel, rfl, by decide +kernel, by decide +kernel⟩
def m_l_number : En → Res :=
  (seqS (setS 1 (eIf (tE (e2 eqP (eSl (ev 0) oN (oS (ec (.int 1)))) (ec (.str [45])))) (eSl (ev 0) (oS (ec (.int 1))) oN) (ev 0)))
  (seqS (ifS (tO (tN (tE (eCh leP leP (ec (.int 1)) (eA lenP (aC (ev 1) aN)) (ec (.int 12))))) (tO (tE (e2 neP (eM (strF stripL) (ev 1) (aC (ec (.str [48, 49, 50, 51, 52, 53, 54, 55, 56, 57])) aN)) (ec (.str [])))) (tA (tE (e2 eqP (e2 ixP (ev 1) (ec (.int 0))) (ec (.str [48])))) (tE (e2 neP (ev 0) (ec (.str [48]))))))) (retS (ec .non)) nxS)
  (retS (eA intP (aC (ev 0) aN)))))
def F_l_number : List PV → R PV := runF 1 2 m_l_number
def n_l_word_worth : List Str := ["_law_word", "_law_number_here"]
theorem sc_l_word_worth : FnScope n_l_word_worth ["_law_word"] (defScope s_l_word_worth) := ⟨rfl, rfl, rfl, by decide +kernel, rfl, by decide +kernel, by decide +kernel⟩
def m_l_word_worth : En → Res :=
  (seqS (ifS (tE (e2 inP (ev 0) (eA tupP (aC (ec (.str [])) (aC (ec (.str [126])) (aC (ec (.str [110, 117, 108, 108])) aN)))))) (retS (eA tupP (aC (ec (.str [110, 111, 110, 101])) aN))) nxS)
  (seqS (ifS (tE (e2 inP (ev 0) (eA tupP (aC (ec (.str [116, 114, 117, 101])) (aC (ec (.str [102, 97, 108, 115, 101])) aN))))) (retS (eA tupP (aC (ec (.str [116, 114, 117, 116, 104])) (aC (e2 eqP (ev 0) (ec (.str [116, 114, 117, 101]))) aN)))) nxS)
  (seqS (setS 1 (eF F_l_number (aC (ev 0) aN)))
  (retS (eIf (tE (e2 isP (ev 1) (ec .non))) (eA tupP (aC (ec (.str [116, 101, 120, 116])) (aC (ev 0) aN))) (eA tupP (aC (ec (.str [110, 117, 109, 98, 101, 114])) (aC (ev 1) aN))))))))
def F_l_word_worth : List PV → R PV := runF 1 2 m_l_word_worth
def n_is_plain : List Str := ["thing", "sign"]
theorem sc_is_plain : FnScope n_is_plain ["thing"] (defScope s_is_plain) := ⟨rfl, rfl, rfl, by decide +kernel, rfl, by decide +kernel, by decide +kernel⟩
def m_is_plain : En → Res :=
  (retS (eAnd (e1 (isI "str") (ev 0)) (eNot (eLc (iV (ev 0)) (bN 1) (tE (e2 ninP (ev 1) (ec c_PLAIN))) (ev 1) [1]))))
def F_is_plain : List PV → R PV := runF 1 2 m_is_plain
def n_can_stand : List Str := ["word", "sign"]
theorem sc_can_stand : FnScope n_can_stand ["word"] (defScope s_can_stand) := ⟨rfl, rfl, rfl, by decide +kernel, rfl, by decide +kernel, by decide +kernel⟩
def m_can_stand : En → Res :=
  (seqS (ifS (tO (tE (e2 eqP (ev 0) (ec (.str [])))) (tO (tE (e2 neP (ev 0) (eM (strF stripL) (ev 0) (aC (ec (.str [32])) aN)))) (tO (tE (e2 inP (e2 ixP (ev 0) (ec (.int 0))) (ec c_BARRED))) (tO (tE (e2 eqP (eSl (ev 0) oN (oS (ec (.int 2)))) (ec (.str [45, 32])))) (tE (e2 eqP (ev 0) (ec (.str [45])))))))) (retS (ec (.bl false))) nxS)
  (seqS (ifS (tO (tE (e2 inP (ec (.str [32, 35])) (ev 0))) (tO (tE (e2 inP (ec (.str [58, 32])) (ev 0))) (tO (tE (e2 eqP (e2 ixP (ev 0) (e1 negP (ec (.int 1)))) (ec (.str [58])))) (tN (tV (eF F_is_plain (aC (ev 0) aN))))))) (retS (ec (.bl false))) nxS)
  (retS (eNot (eLc (iV (ec (.str [32, 91, 123, 44]))) (bN 1) (tO (tE (e2 inP (e2 addP (ev 1) (ec (.str [39]))) (ev 0))) (tE (e2 inP (e2 addP (ev 1) (ec (.str [34]))) (ev 0)))) (ev 1) [1])))))
def F_can_stand : List PV → R PV := runF 1 2 m_can_stand
def n_l_stands : List Str := ["_law_word", "_law_within", "_law_hook", "_law_at", "_law_sign"]
theorem sc_l_stands : FnScope n_l_stands ["_law_word", "_law_within"] (defScope s_l_stands) := ⟨rfl, rfl, rfl, by decide +kernel, rfl, by decide +kernel, by decide +kernel⟩
def m_l_stands : En → Res :=
  (seqS (setS 2 (e2 ixP (fun _ => noEx (F_l_plain [])) (ec (.int 2))))
  (seqS (ifS (tO (tE (e2 eqP (ev 0) (ec (.str [])))) (tO (tE (e2 eqP (e2 ixP (ev 0) (ec (.int 0))) (ec (.str [32])))) (tO (tE (e2 inP (e2 ixP (ev 0) (e1 negP (ec (.int 1)))) (eA tupP (aC (ec (.str [32])) (aC (ec (.str [58])) aN))))) (tE (e2 inP (e2 ixP (ev 0) (ec (.int 0))) (e2 addP (ev 2) (ec (.str [39, 35, 38, 42, 33, 124, 62, 64, 96, 91, 93, 123, 125, 44, 63, 58])))))))) (retS (ec (.bl false))) nxS)
  (seqS (ifS (tO (tE (e2 eqP (ev 0) (ec (.str [45])))) (tE (e2 eqP (eSl (ev 0) oN (oS (ec (.int 2)))) (ec (.str [45, 32]))))) (retS (ec (.bl false))) nxS)
  (seqS (forS (iR1 (aC (e2 subP (eA lenP (aC (ev 0) aN)) (ec (.int 1))) aN)) (bN 3) (ifS (tO (tE (e2 inP (eSl (ev 0) (oS (ev 3)) (oS (e2 addP (ev 3) (ec (.int 2))))) (eA tupP (aC (ec (.str [58, 32])) (aC (ec (.str [32, 35])) aN))))) (tA (tE (e2 inP (e2 ixP (ev 0) (ev 3)) (ec (.str [32, 91, 123, 44])))) (tE (e2 inP (e2 ixP (ev 0) (e2 addP (ev 3) (ec (.int 1)))) (e2 addP (ev 2) (ec (.str [39]))))))) (retS (ec (.bl false))) nxS))
  (retS (eOr (eNot (ev 1)) (eAnd (e2 eqP (eM (strF stripL) (ev 0) (aC (ec (.str [44, 91, 93, 123, 125])) aN)) (ev 0)) (e2 eqP (eLc (iV (ev 0)) (bN 4) (tE (e2 inP (ev 4) (ec (.str [44, 91, 93, 123, 125])))) (ev 4) [4]) (eA lstP aN)))))))))
def F_l_stands : List PV → R PV := runF 2 5 m_l_stands
def n_can_stand_within : List Str := ["word", "sign"]
theorem sc_can_stand_within : FnScope n_can_stand_within ["word"] (defScope s_can_stand_within) := ⟨rfl, rfl, rfl, by decide +kernel, rfl, by decide +kernel, by decide +kernel⟩
def m_can_stand_within : En → Res :=
  (retS (eAnd (eF F_can_stand (aC (ev 0) aN)) (eNot (eLc (iV (ev 0)) (bN 1) (tE (e2 inP (ev 1) (ec (.str [44, 91, 93, 123, 125])))) (ev 1) [1]))))
def F_can_stand_within : List PV → R PV := runF 1 2 m_can_stand_within
def n_l_cell : List Str := ["_law_script", "_law_k"]
theorem sc_l_cell : FnScope n_l_cell ["_law_script", "_law_k"] (defScope s_l_cell) := ⟨rfl, rfl, rfl, by decide +kernel, rfl, by decide +kernel, by decide +kernel⟩
def m_l_cell : En → Res :=
  (seqS (ifS (tE (e2 ltP (ev 1) (eA lenP (aC (ev 0) aN)))) (retS (e2 ixP (ev 0) (ev 1))) nxS)
  (retS (ec (.int 0))))
def F_l_cell : List PV → R PV := runF 2 2 m_l_cell
def n_is_doubtful : List Str := ["word"]
theorem sc_is_doubtful : FnScope n_is_doubtful ["word"] (defScope s_is_doubtful) := ⟨rfl, rfl, rfl, by decide +kernel, rfl, by decide +kernel, by decide +kernel⟩
def m_is_doubtful : En → Res :=
  (seqS (ifS (tE (e2 neP (e2 ixP (eF F_word_worth (aC (ev 0) aN)) (ec (.int 0))) (ec (.str [116, 101, 120, 116])))) (retS (ec (.bl false))) nxS)
  (seqS (ifS (tE (e2 inP (eM lowF (ev 0) aN) (ec c_DOUBTS))) (retS (ec (.bl true))) nxS)
  (retS (e2 inP (eSl (eM (strF lstripL) (ev 0) (aC (ec (.str [43, 45, 46])) aN)) oN (oS (ec (.int 1)))) (eA tupOf (aC (ec c_FIGURES) aN))))))
def F_is_doubtful : List PV → R PV := runF 1 1 m_is_doubtful
def n_l_doubtful : List Str := ["_law_word", "_law_small", "_law_rest"]
theorem sc_l_doubtful : FnScope n_l_doubtful ["_law_word"] (defScope s_l_doubtful) := ⟨rfl, rfl, rfl, by decide +kernel, rfl, by decide +kernel, by decide +kernel⟩
noncomputable def m_l_doubtful : En → Res :=
  (seqS (ifS (tE (e2 neP (e2 ixP (eF F_l_word_worth (aC (ev 0) aN)) (ec (.int 0))) (ec (.str [116, 101, 120, 116])))) (retS (ec (.bl false))) nxS)
  (seqS (setS 1 (eA lstP (aC (ec (.str [121, 101, 115])) (aC (ec (.str [110, 111])) (aC (ec (.str [111, 110])) (aC (ec (.str [111, 102, 102])) (aC (ec (.str [121])) (aC (ec (.str [110])) (aC (ec (.str [116, 114, 117, 101])) (aC (ec (.str [102, 97, 108, 115, 101])) (aC (ec (.str [110, 117, 108, 108])) (aC (ec (.str [110, 111, 110, 101])) (aC (ec (.str [110, 97, 110])) (aC (ec (.str [105, 110, 102])) aN))))))))))))))
  (seqS (setS 2 (ev 0))
  (seqS (whS (tE (e2 inP (eSl (ev 2) oN (oS (ec (.int 1)))) (eA tupP (aC (ec (.str [43])) (aC (ec (.str [45])) (aC (ec (.str [46])) aN)))))) (setS 2 (eSl (ev 2) (oS (ec (.int 1))) oN)))
  (retS (eOr (e2 inP (eM lowF (ev 0) aN) (ev 1)) (e2 inP (eSl (ev 2) oN (oS (ec (.int 1)))) (eA tupOf (aC (ec (.str [48, 49, 50, 51, 52, 53, 54, 55, 56, 57])) aN)))))))))
noncomputable def F_l_doubtful : List PV → R PV := runF 1 3 m_l_doubtful
def n_law : List Str := ["_law_script", "_law_k", "_law_word"]
theorem sc_law : FnScope n_law ["_law_script"] (defScope s_law) := ⟨rfl, rfl, rfl, by decide +kernel, rfl, by decide +kernel, by decide +kernel⟩
noncomputable def m_law : En → Res :=
  (seqS (forS (iR1 (aC (ec (.int 12)) aN)) (bN 1) (seqS (setS 2 (eF F_l_some_word (aC (eF F_l_seed (aC (e2 addP (eF F_l_cell (aC (ev 0) (aC (e2 modP (ev 1) (ec (.int 4))) aN))) (e2 mulP (ec (.int 41)) (ev 1))) (aC (ev 1) aN))) aN)))
  (seqS (ifS (tO (tE (e2 neP (eF F_word_worth (aC (ev 2) aN)) (eF F_l_word_worth (aC (ev 2) aN)))) (tN (tV (eF F_l_as (aC (eF F_is_doubtful (aC (ev 2) aN)) (aC (eF F_l_doubtful (aC (ev 2) aN)) aN)))))) (retS (ec (.bl false))) nxS)
  (seqS (ifS (tN (tV (eF F_l_as (aC (eF F_can_stand (aC (ev 2) aN)) (aC (eF F_l_stands (aC (ev 2) (aC (ec (.bl false)) aN))) aN))))) (retS (ec (.bl false))) nxS)
  (ifS (tN (tV (eF F_l_as (aC (eF F_can_stand_within (aC (ev 2) aN)) (aC (eF F_l_stands (aC (ev 2) (aC (ec (.bl true)) aN))) aN))))) (retS (ec (.bl false))) nxS)))))
  (retS (ec (.bl true))))
noncomputable def F_law : List PV → R PV := runF 1 3 m_law
end Sm
set_option Elab.async false
set_option linter.all false
set_option maxRecDepth 100000
set_option maxHeartbeats 8000000
namespace Sm
open PySem PySem.Spec PyProof.Rows L2
theorem ok_l_plain {P : Program} {w : World} {K : PySem.W.Frag} {mg : Str → Option Value} {base : Heap} {k : Nat} (T : TopF K mg) : FnS P w K mg base (k + 1) "_law_plain" (runF 0 1 m_l_plain) := by
  refine fnS_mk T.d_l_plain sc_l_plain (fun _ _ _ _ _ _ us hl => match us, hl with | [], _ => rfl) ?_
  rintro X cdv A outer s H E rfl hr tk
  have hp := passes_of (X := cxOf (L2.CX P w) P w K mg base n_l_plain "_law_plain" (defScope s_l_plain) (He.ga K "_law_plain") cdv A outer s H E) rfl
  exact (ss_cons (ss_set (i := 0) sc_l_plain.nd rfl (.inl rfl) (se_str (by decide +kernel) (by decide +kernel)))
  (ss_one (ss_ret (se_add (se_var (i := 0) rfl (.inl rfl)) (se_str (by decide +kernel) (by decide +kernel))))))
end Sm
set_option Elab.async false
set_option linter.all false
set_option maxRecDepth 100000
set_option maxHeartbeats 8000000
namespace Sm
open PySem PySem.Spec PyProof.Rows L2
theorem ok_l_seed {P : Program} {w : World} {K : PySem.W.Frag} {mg : Str → Option Value} {base : Heap} {k : Nat} (T : TopF K mg) : FnS P w K mg base (k + 1) "_law_seed" (runF 2 2 m_l_seed) := by
  refine fnS_mk T.d_l_seed sc_l_seed (fun _ _ _ _ _ _ us hl => match us, hl with | [_, _], _ => rfl) ?_
  rintro X cdv A outer s H E rfl hr tk
  have hp := passes_of (X := cxOf (L2.CX P w) P w K mg base n_l_seed "_law_seed" (defScope s_l_seed) (He.ga K "_law_seed") cdv A outer s H E) rfl
  exact (ss_one (ss_ret (se_mod (se_pow (se_mod (se_add (se_add (se_mul (se_var (i := 0) rfl (.inl rfl)) se_int) (se_mul se_int (se_var (i := 1) rfl (.inl rfl)))) se_int) se_int) se_int) se_int)))
end Sm
set_option Elab.async false
set_option linter.all false
set_option maxRecDepth 100000
set_option maxHeartbeats 8000000
namespace Sm
open PySem PySem.Spec PyProof.Rows L2
theorem ok_l_some_word {P : Program} {w : World} {K : PySem.W.Frag} {mg : Str → Option Value} {base : Heap} {k : Nat} (T : TopF K mg) (h_l_plain : FnS P w K mg base k "_law_plain" F_l_plain) (h_l_seed : FnS P w K mg base k "_law_seed" F_l_seed) : FnS P w K mg base (k + 1) "_law_some_word" (runF 1 5 m_l_some_word) := by
  refine fnS_mk T.d_l_some_word sc_l_some_word (fun _ _ _ _ _ _ us hl => match us, hl with | [_], _ => rfl) ?_
  rintro X cdv A outer s H E rfl hr tk
  have hp := passes_of (X := cxOf (L2.CX P w) P w K mg base n_l_some_word "_law_some_word" (defScope s_l_some_word) (He.ga K "_law_some_word") cdv A outer s H E) rfl
  exact (ss_cons (ss_set (i := 1) sc_l_some_word.nd rfl (.inl rfl) (se_ix (hu_of hr) (se_call0 h_l_plain hr (Nat.le_refl _) rfl) se_int))
  (ss_cons (ss_set (i := 2) sc_l_some_word.nd rfl (.inl rfl) (se_str (by decide +kernel) (by decide +kernel)))
  (ss_cons (ss_set (i := 2) sc_l_some_word.nd rfl (.inl rfl) (se_add (se_var (i := 2) rfl (.inl rfl)) (se_str (by decide +kernel) (by decide +kernel))))
  (ss_cons (ss_set (i := 3) sc_l_some_word.nd rfl (.inl rfl) (SL.e (sl_split (se_add (se_var (i := 2) rfl (.inl rfl)) (se_str (by decide +kernel) (by decide +kernel))) (sa_cons (se_str (by decide +kernel) (by decide +kernel)) sa_nil))))
  (ss_cons (ss_set (i := 3) sc_l_some_word.nd rfl (.inl rfl) (se_add (se_var (i := 3) rfl (.inl rfl)) (SL.e (sl_list' (sa_cons (se_str (by decide +kernel) (by decide +kernel)) (sa_cons (se_str (by decide +kernel) (by decide +kernel)) (sa_cons (se_add (se_var (i := 1) rfl (.inl rfl)) (se_str (by decide +kernel) (by decide +kernel))) (sa_cons (se_add (se_str (by decide +kernel) (by decide +kernel)) (se_var (i := 1) rfl (.inl rfl))) sa_nil))))))))
  (ss_cons (ss_if (st_cmp cp_gt (se_mod (se_div (se_var (i := 0) rfl (.inr (.inl rfl))) se_int) se_int) se_int (nomark _)) (ss_one (ss_ret (se_ix (hu_of hr) (se_var (i := 3) rfl (.inl rfl)) (se_mod (se_div (se_var (i := 0) rfl (.inr (.inl rfl))) se_int) (se_len rfl T.z_len (sa_cons (se_var (i := 3) rfl (.inl rfl)) sa_nil)))))) ss_nil)
  (ss_one (ss_ret (se_join (se_str (by decide +kernel) (by decide +kernel)) (sa_cons (SL.e (sl_lc rfl sc_l_some_word.nd (si_range1 rfl T.z_range (sa_cons (se_mod (se_div (se_var (i := 0) rfl (.inr (.inl rfl))) se_int) se_int) sa_nil)) (blkOk_by (N := n_l_some_word) (sc := defScope s_l_some_word) (own := [("_law_k", 4)]) (by decide +kernel)) rfl (by decide) (fun _ _ _ _ _ => (sg_name (i := 4) sc_l_some_word.nd rfl (.inl rfl))) (fun _ _ _ _ _ => sts_nil) (fun _ _ _ _ _ => (se_ix (hu_of hr) (se_call0 h_l_plain hr (Nat.le_refl _) rfl) (se_mod (se_div (se_call h_l_seed hr (Nat.le_refl _) rfl takes0 (sa_cons (se_var (i := 0) rfl (.inr (.inl rfl))) (sa_cons (se_var (i := 4) rfl (.inl rfl)) sa_nil))) se_int) se_int))))) sa_nil))))))))))
end Sm
set_option Elab.async false
set_option linter.all false
set_option maxRecDepth 100000
set_option maxHeartbeats 8000000
namespace Sm
open PySem PySem.Spec PyProof.Rows L2
theorem ok_l_as {P : Program} {w : World} {K : PySem.W.Frag} {mg : Str → Option Value} {base : Heap} {k : Nat} (T : TopF K mg) : FnS P w K mg base (k + 1) "_law_as" (runF 2 2 m_l_as) := by
  refine fnS_mk T.d_l_as sc_l_as (fun _ _ _ _ _ _ us hl => match us, hl with | [_, _], _ => rfl) ?_
  rintro X cdv A outer s H E rfl hr tk
  have hp := passes_of (X := cxOf (L2.CX P w) P w K mg base n_l_as "_law_as" (defScope s_l_as) (He.ga K "_law_as") cdv A outer s H E) rfl
  exact (ss_one (ss_ret (se_and (se_isi (T' := "bool") rfl T.z_isinstance rfl T.z_bool (by decide +kernel) (by decide +kernel) (se_var (i := 0) rfl (.inl rfl))) (se_one (se_cmp (cp_eq hr.units) (se_var (i := 0) rfl (.inl rfl)) (se_var (i := 1) rfl (.inl rfl)) (nomark _))))))
end Sm
set_option Elab.async false
set_option linter.all false
set_option maxRecDepth 100000
set_option maxHeartbeats 8000000
namespace Sm
open PySem PySem.Spec PyProof.Rows L2
theorem ok_is_figures {P : Program} {w : World} {K : PySem.W.Frag} {mg : Str → Option Value} {base : Heap} {k : Nat} (T : TopF K mg) : FnS P w K mg base (k + 1) "is_figures" (runF 1 2 m_is_figures) := by
  refine fnS_mk T.d_is_figures sc_is_figures (fun _ _ _ _ _ _ us hl => match us, hl with | [_], _ => rfl) ?_
  rintro X cdv A outer s H E rfl hr tk
  have hp := passes_of (X := cxOf (L2.CX P w) P w K mg base n_is_figures "is_figures" (defScope s_is_figures) (He.ga K "is_figures") cdv A outer s H E) rfl
  exact (ss_cons (ss_if (st_of (sw_or (st_cmp (cp_eq hr.units) (se_var (i := 0) rfl (.inl rfl)) (se_str (by decide +kernel) (by decide +kernel)) (nomark _)) (sw_or (st_cmp cp_gt (se_len rfl T.z_len (sa_cons (se_var (i := 0) rfl (.inl rfl)) sa_nil)) se_int (nomark _)) (sw_or1 (st_truth (SL.e (sl_lc rfl sc_is_figures.nd (si_any (se_var (i := 0) rfl (.inl rfl))) (blkOk_by (N := n_is_figures) (sc := defScope s_is_figures) (own := [("sign", 1)]) (by decide +kernel)) rfl (by decide) (fun _ _ _ _ _ => (sg_name (i := 1) sc_is_figures.nd rfl (.inl rfl))) (fun _ _ _ _ _ => (sts_one (st_cmp (cp_nin (hu_of hr)) (se_var (i := 1) rfl (.inl rfl)) (se_gc T.g_FIGURES rfl) rfl))) (fun _ _ _ _ _ => (se_var (i := 1) rfl (.inl rfl)))))))))) (ss_one (ss_ret se_bl)) ss_nil)
  (ss_one (ss_ret (se_or (se_cmp (cp_eq hr.units) (se_var (i := 0) rfl (.inl rfl)) (se_str (by decide +kernel) (by decide +kernel)) (nomark _)) (se_one (se_cmp (cp_ne hr.units) (se_ix (hu_of hr) (se_var (i := 0) rfl (.inl rfl)) se_int) (se_str (by decide +kernel) (by decide +kernel)) (nomark _)))))))
end Sm
set_option Elab.async false
set_option linter.all false
set_option maxRecDepth 100000
set_option maxHeartbeats 8000000
namespace Sm
open PySem PySem.Spec PyProof.Rows L2
theorem ok_number_in {P : Program} {w : World} {K : PySem.W.Frag} {mg : Str → Option Value} {base : Heap} {k : Nat} (T : TopF K mg) (h_is_figures : FnS P w K mg base k "is_figures" F_is_figures) : FnS P w K mg base (k + 1) "number_in" (runF 1 2 m_number_in) := by
  refine fnS_mk T.d_number_in sc_number_in (fun _ _ _ _ _ _ us hl => match us, hl with | [_], _ => rfl) ?_
  rintro X cdv A outer s H E rfl hr tk
  have hp := passes_of (X := cxOf (L2.CX P w) P w K mg base n_number_in "number_in" (defScope s_number_in) (He.ga K "number_in") cdv A outer s H E) rfl
  exact (ss_cons (ss_set (i := 1) sc_number_in.nd rfl (.inl rfl) (se_ifExp (st_cmp (cp_eq hr.units) (se_slice (se_var (i := 0) rfl (.inl rfl)) so_none (so_some se_int)) (se_str (by decide +kernel) (by decide +kernel)) (nomark _)) (se_slice (se_var (i := 0) rfl (.inl rfl)) (so_some se_int) so_none) (se_var (i := 0) rfl (.inl rfl))))
  (ss_cons (ss_if (st_of (sw_or (st_not (st_truth (se_call h_is_figures hr (Nat.le_refl _) rfl tk (sa_cons (se_var (i := 1) rfl (.inl rfl)) sa_nil)))) (sw_or1 (st_cmp (cp_eq hr.units) (se_var (i := 0) rfl (.inl rfl)) (se_str (by decide +kernel) (by decide +kernel)) (nomark _))))) (ss_one (ss_ret se_non)) ss_nil)
  (ss_one (ss_ret (se_intF rfl T.z_int (sa_cons (se_var (i := 0) rfl (.inl rfl)) sa_nil))))))
end Sm
set_option Elab.async false
set_option linter.all false
set_option maxRecDepth 100000
set_option maxHeartbeats 8000000
namespace Sm
open PySem PySem.Spec PyProof.Rows L2
theorem ok_word_worth {P : Program} {w : World} {K : PySem.W.Frag} {mg : Str → Option Value} {base : Heap} {k : Nat} (T : TopF K mg) (h_number_in : FnS P w K mg base k "number_in" F_number_in) : FnS P w K mg base (k + 1) "word_worth" (runF 1 2 m_word_worth) := by
  refine fnS_mk T.d_word_worth sc_word_worth (fun _ _ _ _ _ _ us hl => match us, hl with | [_], _ => rfl) ?_
  rintro X cdv A outer s H E rfl hr tk
  have hp := passes_of (X := cxOf (L2.CX P w) P w K mg base n_word_worth "word_worth" (defScope s_word_worth) (He.ga K "word_worth") cdv A outer s H E) rfl
  exact (ss_cons (ss_if (st_cmp (cp_in (hu_of hr)) (se_var (i := 0) rfl (.inl rfl)) (se_tup (sa_cons (se_str (by decide +kernel) (by decide +kernel)) (sa_cons (se_str (by decide +kernel) (by decide +kernel)) (sa_cons (se_str (by decide +kernel) (by decide +kernel)) sa_nil)))) rfl) (ss_one (ss_ret (se_tup (sa_cons (se_str (by decide +kernel) (by decide +kernel)) sa_nil)))) ss_nil)
  (ss_cons (ss_if (st_cmp (cp_in (hu_of hr)) (se_var (i := 0) rfl (.inl rfl)) (se_tup (sa_cons (se_str (by decide +kernel) (by decide +kernel)) (sa_cons (se_str (by decide +kernel) (by decide +kernel)) sa_nil))) rfl) (ss_one (ss_ret (se_tup (sa_cons (se_str (by decide +kernel) (by decide +kernel)) (sa_cons (se_cmp (cp_eq hr.units) (se_var (i := 0) rfl (.inl rfl)) (se_str (by decide +kernel) (by decide +kernel)) (nomark _)) sa_nil))))) ss_nil)
  (ss_cons (ss_set (i := 1) sc_word_worth.nd rfl (.inl rfl) (se_call h_number_in hr (Nat.le_refl _) rfl tk (sa_cons (se_var (i := 0) rfl (.inl rfl)) sa_nil)))
  (ss_one (ss_ret (se_ifExp (st_cmp cp_is (se_var (i := 1) rfl (.inl rfl)) se_non (nomark _)) (se_tup (sa_cons (se_str (by decide +kernel) (by decide +kernel)) (sa_cons (se_var (i := 0) rfl (.inl rfl)) sa_nil))) (se_tup (sa_cons (se_str (by decide +kernel) (by decide +kernel)) (sa_cons (se_var (i := 1) rfl (.inl rfl)) sa_nil)))))))))
end Sm
set_option Elab.async false
set_option linter.all false
set_option maxRecDepth 100000
set_option maxHeartbeats 8000000
namespace Sm
open PySem PySem.Spec PyProof.Rows L2
theorem ok_l_number {P : Program} {w : World} {K : PySem.W.Frag} {mg : Str → Option Value} {base : Heap} {k : Nat} (T : TopF K mg) : FnS P w K mg base (k + 1) "_law_number" (runF 1 2 m_l_number) := by
  refine fnS_mk T.d_l_number sc_l_number (fun _ _ _ _ _ _ us hl => match us, hl with | [_], _ => rfl) ?_
  rintro X cdv A outer s H E rfl hr tk
  have hp := passes_of (X := cxOf (L2.CX P w) P w K mg base n_l_number "_law_number" (defScope s_l_number) (He.ga K "_law_number") cdv A outer s H E) rfl
  exact (ss_cons (ss_set (i := 1) sc_l_number.nd rfl (.inl rfl) (se_ifExp (st_cmp (cp_eq hr.units) (se_slice (se_var (i := 0) rfl (.inl rfl)) so_none (so_some se_int)) (se_str (by decide +kernel) (by decide +kernel)) (nomark _)) (se_slice (se_var (i := 0) rfl (.inl rfl)) (so_some se_int) so_none) (se_var (i := 0) rfl (.inl rfl))))
  (ss_cons (ss_if (st_of (sw_or (st_not (st_chain cp_le cp_le se_int (se_len rfl T.z_len (sa_cons (se_var (i := 1) rfl (.inl rfl)) sa_nil)) se_int)) (sw_or (st_cmp (cp_ne hr.units) (se_strip (se_var (i := 1) rfl (.inl rfl)) (sa_cons (se_str (by decide +kernel) (by decide +kernel)) sa_nil)) (se_str (by decide +kernel) (by decide +kernel)) (nomark _)) (sw_or1 (st_of (sw_and (st_cmp (cp_eq hr.units) (se_ix (hu_of hr) (se_var (i := 1) rfl (.inl rfl)) se_int) (se_str (by decide +kernel) (by decide +kernel)) (nomark _)) (sw_and1 (st_cmp (cp_ne hr.units) (se_var (i := 0) rfl (.inl rfl)) (se_str (by decide +kernel) (by decide +kernel)) (nomark _))))))))) (ss_one (ss_ret se_non)) ss_nil)
  (ss_one (ss_ret (se_intF rfl T.z_int (sa_cons (se_var (i := 0) rfl (.inl rfl)) sa_nil))))))
end Sm
set_option Elab.async false
set_option linter.all false
set_option maxRecDepth 100000
set_option maxHeartbeats 8000000
namespace Sm
open PySem PySem.Spec PyProof.Rows L2
theorem ok_l_word_worth {P : Program} {w : World} {K : PySem.W.Frag} {mg : Str → Option Value} {base : Heap} {k : Nat} (T : TopF K mg) (h_l_number : FnS P w K mg base k "_law_number" F_l_number) : FnS P w K mg base (k + 1) "_law_word_worth" (runF 1 2 m_l_word_worth) := by
  refine fnS_mk T.d_l_word_worth sc_l_word_worth (fun _ _ _ _ _ _ us hl => match us, hl with | [_], _ => rfl) ?_
  rintro X cdv A outer s H E rfl hr tk
  have hp := passes_of (X := cxOf (L2.CX P w) P w K mg base n_l_word_worth "_law_word_worth" (defScope s_l_word_worth) (He.ga K "_law_word_worth") cdv A outer s H E) rfl
  exact (ss_cons (ss_if (st_cmp (cp_in (hu_of hr)) (se_var (i := 0) rfl (.inl rfl)) (se_tup (sa_cons (se_str (by decide +kernel) (by decide +kernel)) (sa_cons (se_str (by decide +kernel) (by decide +kernel)) (sa_cons (se_str (by decide +kernel) (by decide +kernel)) sa_nil)))) rfl) (ss_one (ss_ret (se_tup (sa_cons (se_str (by decide +kernel) (by decide +kernel)) sa_nil)))) ss_nil)
  (ss_cons (ss_if (st_cmp (cp_in (hu_of hr)) (se_var (i := 0) rfl (.inl rfl)) (se_tup (sa_cons (se_str (by decide +kernel) (by decide +kernel)) (sa_cons (se_str (by decide +kernel) (by decide +kernel)) sa_nil))) rfl) (ss_one (ss_ret (se_tup (sa_cons (se_str (by decide +kernel) (by decide +kernel)) (sa_cons (se_cmp (cp_eq hr.units) (se_var (i := 0) rfl (.inl rfl)) (se_str (by decide +kernel) (by decide +kernel)) (nomark _)) sa_nil))))) ss_nil)
  (ss_cons (ss_set (i := 1) sc_l_word_worth.nd rfl (.inl rfl) (se_call h_l_number hr (Nat.le_refl _) rfl tk (sa_cons (se_var (i := 0) rfl (.inl rfl)) sa_nil)))
  (ss_one (ss_ret (se_ifExp (st_cmp cp_is (se_var (i := 1) rfl (.inl rfl)) se_non (nomark _)) (se_tup (sa_cons (se_str (by decide +kernel) (by decide +kernel)) (sa_cons (se_var (i := 0) rfl (.inl rfl)) sa_nil))) (se_tup (sa_cons (se_str (by decide +kernel) (by decide +kernel)) (sa_cons (se_var (i := 1) rfl (.inl rfl)) sa_nil)))))))))
end Sm
set_option Elab.async false
set_option linter.all false
set_option maxRecDepth 100000
set_option maxHeartbeats 8000000
namespace Sm
open PySem PySem.Spec PyProof.Rows L2
theorem ok_is_plain {P : Program} {w : World} {K : PySem.W.Frag} {mg : Str → Option Value} {base : Heap} {k : Nat} (T : TopF K mg) : FnS P w K mg base (k + 1) "is_plain" (runF 1 2 m_is_plain) := by
  refine fnS_mk T.d_is_plain sc_is_plain (fun _ _ _ _ _ _ us hl => match us, hl with | [_], _ => rfl) ?_
  rintro X cdv A outer s H E rfl hr tk
  have hp := passes_of (X := cxOf (L2.CX P w) P w K mg base n_is_plain "is_plain" (defScope s_is_plain) (He.ga K "is_plain") cdv A outer s H E) rfl
  exact (ss_one (ss_ret (se_and (se_isi (T' := "str") rfl T.z_isinstance rfl T.z_str (by decide +kernel) (by decide +kernel) (se_var (i := 0) rfl (.inl rfl))) (se_one (se_not (SL.e (sl_lc rfl sc_is_plain.nd (si_any (se_var (i := 0) rfl (.inl rfl))) (blkOk_by (N := n_is_plain) (sc := defScope s_is_plain) (own := [("sign", 1)]) (by decide +kernel)) rfl (by decide) (fun _ _ _ _ _ => (sg_name (i := 1) sc_is_plain.nd rfl (.inl rfl))) (fun _ _ _ _ _ => (sts_one (st_cmp (cp_nin (hu_of hr)) (se_var (i := 1) rfl (.inl rfl)) (se_gc T.g_PLAIN rfl) rfl))) (fun _ _ _ _ _ => (se_var (i := 1) rfl (.inl rfl))))))))))
end Sm
set_option Elab.async false
set_option linter.all false
set_option maxRecDepth 100000
set_option maxHeartbeats 8000000
namespace Sm
open PySem PySem.Spec PyProof.Rows L2
theorem ok_can_stand {P : Program} {w : World} {K : PySem.W.Frag} {mg : Str → Option Value} {base : Heap} {k : Nat} (T : TopF K mg) (h_is_plain : FnS P w K mg base k "is_plain" F_is_plain) : FnS P w K mg base (k + 1) "can_stand" (runF 1 2 m_can_stand) := by
  refine fnS_mk T.d_can_stand sc_can_stand (fun _ _ _ _ _ _ us hl => match us, hl with | [_], _ => rfl) ?_
  rintro X cdv A outer s H E rfl hr tk
  have hp := passes_of (X := cxOf (L2.CX P w) P w K mg base n_can_stand "can_stand" (defScope s_can_stand) (He.ga K "can_stand") cdv A outer s H E) rfl
  exact (ss_cons (ss_if (st_of (sw_or (st_cmp (cp_eq hr.units) (se_var (i := 0) rfl (.inr (.inl rfl))) (se_str (by decide +kernel) (by decide +kernel)) (nomark _)) (sw_or (st_cmp (cp_ne hr.units) (se_var (i := 0) rfl (.inr (.inl rfl))) (se_strip (se_var (i := 0) rfl (.inr (.inl rfl))) (sa_cons (se_str (by decide +kernel) (by decide +kernel)) sa_nil)) (nomark _)) (sw_or (st_cmp (cp_in (hu_of hr)) (se_ix (hu_of hr) (se_var (i := 0) rfl (.inr (.inl rfl))) se_int) (se_gc T.g_BARRED rfl) rfl) (sw_or (st_cmp (cp_eq hr.units) (se_slice (se_var (i := 0) rfl (.inr (.inl rfl))) so_none (so_some se_int)) (se_str (by decide +kernel) (by decide +kernel)) (nomark _)) (sw_or1 (st_cmp (cp_eq hr.units) (se_var (i := 0) rfl (.inr (.inl rfl))) (se_str (by decide +kernel) (by decide +kernel)) (nomark _)))))))) (ss_one (ss_ret se_bl)) ss_nil)
  (ss_cons (ss_if (st_of (sw_or (st_cmp (cp_in (hu_of hr)) (se_str (by decide +kernel) (by decide +kernel)) (se_var (i := 0) rfl (.inr (.inl rfl))) rfl) (sw_or (st_cmp (cp_in (hu_of hr)) (se_str (by decide +kernel) (by decide +kernel)) (se_var (i := 0) rfl (.inr (.inl rfl))) rfl) (sw_or (st_cmp (cp_eq hr.units) (se_ix (hu_of hr) (se_var (i := 0) rfl (.inr (.inl rfl))) (se_neg se_int)) (se_str (by decide +kernel) (by decide +kernel)) (nomark _)) (sw_or1 (st_not (st_truth (se_call h_is_plain hr (Nat.le_refl _) rfl tk (sa_cons (se_var (i := 0) rfl (.inr (.inl rfl))) sa_nil))))))))) (ss_one (ss_ret se_bl)) ss_nil)
  (ss_one (ss_ret (se_not (SL.e (sl_lc rfl sc_can_stand.nd (si_any (se_str (by decide +kernel) (by decide +kernel))) (blkOk_by (N := n_can_stand) (sc := defScope s_can_stand) (own := [("sign", 1)]) (by decide +kernel)) rfl (by decide) (fun _ _ _ _ _ => (sg_name (i := 1) sc_can_stand.nd rfl (.inl rfl))) (fun _ _ _ _ _ => (sts_one (st_of (sw_or (st_cmp (cp_in (hu_of hr)) (se_add (se_var (i := 1) rfl (.inl rfl)) (se_str (by decide +kernel) (by decide +kernel))) (se_var (i := 0) rfl (.inr (.inl rfl))) rfl) (sw_or1 (st_cmp (cp_in (hu_of hr)) (se_add (se_var (i := 1) rfl (.inl rfl)) (se_str (by decide +kernel) (by decide +kernel))) (se_var (i := 0) rfl (.inr (.inl rfl))) rfl)))))) (fun _ _ _ _ _ => (se_var (i := 1) rfl (.inl rfl))))))))))
end Sm
set_option Elab.async false
set_option linter.all false
set_option maxRecDepth 100000
set_option maxHeartbeats 8000000
namespace Sm
open PySem PySem.Spec PyProof.Rows L2
theorem ok_l_stands {P : Program} {w : World} {K : PySem.W.Frag} {mg : Str → Option Value} {base : Heap} {k : Nat} (T : TopF K mg) (h_l_plain : FnS P w K mg base k "_law_plain" F_l_plain) : FnS P w K mg base (k + 1) "_law_stands" (runF 2 5 m_l_stands) := by
  refine fnS_mk T.d_l_stands sc_l_stands (fun _ _ _ _ _ _ us hl => match us, hl with | [_, _], _ => rfl) ?_
  rintro X cdv A outer s H E rfl hr tk
  have hp := passes_of (X := cxOf (L2.CX P w) P w K mg base n_l_stands "_law_stands" (defScope s_l_stands) (He.ga K "_law_stands") cdv A outer s H E) rfl
  exact (ss_cons (ss_set (i := 2) sc_l_stands.nd rfl (.inl rfl) (se_ix (hu_of hr) (se_call0 h_l_plain hr (Nat.le_refl _) rfl) se_int))
  (ss_cons (ss_if (st_of (sw_or (st_cmp (cp_eq hr.units) (se_var (i := 0) rfl (.inl rfl)) (se_str (by decide +kernel) (by decide +kernel)) (nomark _)) (sw_or (st_cmp (cp_eq hr.units) (se_ix (hu_of hr) (se_var (i := 0) rfl (.inl rfl)) se_int) (se_str (by decide +kernel) (by decide +kernel)) (nomark _)) (sw_or (st_cmp (cp_in (hu_of hr)) (se_ix (hu_of hr) (se_var (i := 0) rfl (.inl rfl)) (se_neg se_int)) (se_tup (sa_cons (se_str (by decide +kernel) (by decide +kernel)) (sa_cons (se_str (by decide +kernel) (by decide +kernel)) sa_nil))) rfl) (sw_or1 (st_cmp (cp_in (hu_of hr)) (se_ix (hu_of hr) (se_var (i := 0) rfl (.inl rfl)) se_int) (se_add (se_var (i := 2) rfl (.inl rfl)) (se_str (by decide +kernel) (by decide +kernel))) rfl)))))) (ss_one (ss_ret se_bl)) ss_nil)
  (ss_cons (ss_if (st_of (sw_or (st_cmp (cp_eq hr.units) (se_var (i := 0) rfl (.inl rfl)) (se_str (by decide +kernel) (by decide +kernel)) (nomark _)) (sw_or1 (st_cmp (cp_eq hr.units) (se_slice (se_var (i := 0) rfl (.inl rfl)) so_none (so_some se_int)) (se_str (by decide +kernel) (by decide +kernel)) (nomark _))))) (ss_one (ss_ret se_bl)) ss_nil)
  (ss_cons (ss_for hp rfl (si_range1 rfl T.z_range (sa_cons (se_sub (se_len rfl T.z_len (sa_cons (se_var (i := 0) rfl (.inl rfl)) sa_nil)) se_int) sa_nil)) (sg_name (i := 3) sc_l_stands.nd rfl (.inl rfl)) (ss_one (ss_if (st_of (sw_or (st_cmp (cp_in (hu_of hr)) (se_slice (se_var (i := 0) rfl (.inl rfl)) (so_some (se_var (i := 3) rfl (.inl rfl))) (so_some (se_add (se_var (i := 3) rfl (.inl rfl)) se_int))) (se_tup (sa_cons (se_str (by decide +kernel) (by decide +kernel)) (sa_cons (se_str (by decide +kernel) (by decide +kernel)) sa_nil))) rfl) (sw_or1 (st_of (sw_and (st_cmp (cp_in (hu_of hr)) (se_ix (hu_of hr) (se_var (i := 0) rfl (.inl rfl)) (se_var (i := 3) rfl (.inl rfl))) (se_str (by decide +kernel) (by decide +kernel)) rfl) (sw_and1 (st_cmp (cp_in (hu_of hr)) (se_ix (hu_of hr) (se_var (i := 0) rfl (.inl rfl)) (se_add (se_var (i := 3) rfl (.inl rfl)) se_int)) (se_add (se_var (i := 2) rfl (.inl rfl)) (se_str (by decide +kernel) (by decide +kernel))) rfl))))))) (ss_one (ss_ret se_bl)) ss_nil)))
  (ss_one (ss_ret (se_or (se_not (se_var (i := 1) rfl (.inl rfl))) (se_one (se_and (se_cmp (cp_eq hr.units) (se_strip (se_var (i := 0) rfl (.inl rfl)) (sa_cons (se_str (by decide +kernel) (by decide +kernel)) sa_nil)) (se_var (i := 0) rfl (.inl rfl)) (nomark _)) (se_one (se_cmp (cp_eq hr.units) (SL.e (sl_lc rfl sc_l_stands.nd (si_any (se_var (i := 0) rfl (.inl rfl))) (blkOk_by (N := n_l_stands) (sc := defScope s_l_stands) (own := [("_law_sign", 4)]) (by decide +kernel)) rfl (by decide) (fun _ _ _ _ _ => (sg_name (i := 4) sc_l_stands.nd rfl (.inl rfl))) (fun _ _ _ _ _ => (sts_one (st_cmp (cp_in (hu_of hr)) (se_var (i := 4) rfl (.inl rfl)) (se_str (by decide +kernel) (by decide +kernel)) rfl))) (fun _ _ _ _ _ => (se_var (i := 4) rfl (.inl rfl))))) (SL.e (sl_list' sa_nil)) (nomark _))))))))))))
end Sm
set_option Elab.async false
set_option linter.all false
set_option maxRecDepth 100000
set_option maxHeartbeats 8000000
namespace Sm
open PySem PySem.Spec PyProof.Rows L2
theorem ok_can_stand_within {P : Program} {w : World} {K : PySem.W.Frag} {mg : Str → Option Value} {base : Heap} {k : Nat} (T : TopF K mg) (h_can_stand : FnS P w K mg base k "can_stand" F_can_stand) : FnS P w K mg base (k + 1) "can_stand_within" (runF 1 2 m_can_stand_within) := by
  refine fnS_mk T.d_can_stand_within sc_can_stand_within (fun _ _ _ _ _ _ us hl => match us, hl with | [_], _ => rfl) ?_
  rintro X cdv A outer s H E rfl hr tk
  have hp := passes_of (X := cxOf (L2.CX P w) P w K mg base n_can_stand_within "can_stand_within" (defScope s_can_stand_within) (He.ga K "can_stand_within") cdv A outer s H E) rfl
  exact (ss_one (ss_ret (se_and (se_call h_can_stand hr (Nat.le_refl _) rfl tk (sa_cons (se_var (i := 0) rfl (.inl rfl)) sa_nil)) (se_one (se_not (SL.e (sl_lc rfl sc_can_stand_within.nd (si_any (se_var (i := 0) rfl (.inl rfl))) (blkOk_by (N := n_can_stand_within) (sc := defScope s_can_stand_within) (own := [("sign", 1)]) (by decide +kernel)) rfl (by decide) (fun _ _ _ _ _ => (sg_name (i := 1) sc_can_stand_within.nd rfl (.inl rfl))) (fun _ _ _ _ _ => (sts_one (st_cmp (cp_in (hu_of hr)) (se_var (i := 1) rfl (.inl rfl)) (se_str (by decide +kernel) (by decide +kernel)) rfl))) (fun _ _ _ _ _ => (se_var (i := 1) rfl (.inl rfl))))))))))
end Sm
set_option Elab.async false
set_option linter.all false
set_option maxRecDepth 100000
set_option maxHeartbeats 8000000
namespace Sm
open PySem PySem.Spec PyProof.Rows L2
theorem ok_l_cell {P : Program} {w : World} {K : PySem.W.Frag} {mg : Str → Option Value} {base : Heap} {k : Nat} (T : TopF K mg) : FnS P w K mg base (k + 1) "_law_cell" (runF 2 2 m_l_cell) := by
  refine fnS_mk T.d_l_cell sc_l_cell (fun _ _ _ _ _ _ us hl => match us, hl with | [_, _], _ => rfl) ?_
  rintro X cdv A outer s H E rfl hr tk
  have hp := passes_of (X := cxOf (L2.CX P w) P w K mg base n_l_cell "_law_cell" (defScope s_l_cell) (He.ga K "_law_cell") cdv A outer s H E) rfl
  exact (ss_cons (ss_if (st_cmp cp_lt (se_var (i := 1) rfl (.inl rfl)) (se_len rfl T.z_len (sa_cons (se_var (i := 0) rfl (.inl rfl)) sa_nil)) (nomark _)) (ss_one (ss_ret (se_ix (hu_of hr) (se_var (i := 0) rfl (.inl rfl)) (se_var (i := 1) rfl (.inl rfl))))) ss_nil)
  (ss_one (ss_ret se_int)))
end Sm
set_option Elab.async false
set_option linter.all false
set_option maxRecDepth 100000
set_option maxHeartbeats 8000000
namespace Sm
open PySem PySem.Spec PyProof.Rows L2
theorem ok_is_doubtful {P : Program} {w : World} {K : PySem.W.Frag} {mg : Str → Option Value} {base : Heap} {k : Nat} (T : TopF K mg) (h_word_worth : FnS P w K mg base k "word_worth" F_word_worth) : FnS P w K mg base (k + 1) "is_doubtful" (runF 1 1 m_is_doubtful) := by
  refine fnS_mk T.d_is_doubtful sc_is_doubtful (fun _ _ _ _ _ _ us hl => match us, hl with | [_], _ => rfl) ?_
  rintro X cdv A outer s H E rfl hr tk
  have hp := passes_of (X := cxOf (L2.CX P w) P w K mg base n_is_doubtful "is_doubtful" (defScope s_is_doubtful) (He.ga K "is_doubtful") cdv A outer s H E) rfl
  exact (ss_cons (ss_if (st_cmp (cp_ne hr.units) (se_ix (hu_of hr) (se_call h_word_worth hr (Nat.le_refl _) rfl tk (sa_cons (se_var (i := 0) rfl (.inl rfl)) sa_nil)) se_int) (se_str (by decide +kernel) (by decide +kernel)) (nomark _)) (ss_one (ss_ret se_bl)) ss_nil)
  (ss_cons (ss_if (st_cmp (cp_in (hu_of hr)) (se_lower (se_var (i := 0) rfl (.inl rfl))) (se_gc T.g_DOUBTS rfl) rfl) (ss_one (ss_ret se_bl)) ss_nil)
  (ss_one (ss_ret (se_cmp (cp_in (hu_of hr)) (se_slice (se_lstrip (se_var (i := 0) rfl (.inl rfl)) (sa_cons (se_str (by decide +kernel) (by decide +kernel)) sa_nil)) so_none (so_some se_int)) (se_tuple rfl rfl T.z_tuple (sa_cons (se_gc T.g_FIGURES rfl) sa_nil)) rfl)))))
end Sm
set_option Elab.async false
set_option linter.all false
set_option maxRecDepth 100000
set_option maxHeartbeats 8000000
namespace Sm
open PySem PySem.Spec PyProof.Rows L2
theorem ok_l_doubtful {P : Program} {w : World} {K : PySem.W.Frag} {mg : Str → Option Value} {base : Heap} {k : Nat} (T : TopF K mg) (h_l_word_worth : FnS P w K mg base k "_law_word_worth" F_l_word_worth) : FnS P w K mg base (k + 1) "_law_doubtful" (runF 1 3 m_l_doubtful) := by
  refine fnS_mk T.d_l_doubtful sc_l_doubtful (fun _ _ _ _ _ _ us hl => match us, hl with | [_], _ => rfl) ?_
  rintro X cdv A outer s H E rfl hr tk
  have hp := passes_of (X := cxOf (L2.CX P w) P w K mg base n_l_doubtful "_law_doubtful" (defScope s_l_doubtful) (He.ga K "_law_doubtful") cdv A outer s H E) rfl
  exact (ss_cons (ss_if (st_cmp (cp_ne hr.units) (se_ix (hu_of hr) (se_call h_l_word_worth hr (Nat.le_refl _) rfl tk (sa_cons (se_var (i := 0) rfl (.inl rfl)) sa_nil)) se_int) (se_str (by decide +kernel) (by decide +kernel)) (nomark _)) (ss_one (ss_ret se_bl)) ss_nil)
  (ss_cons (ss_set (i := 1) sc_l_doubtful.nd rfl (.inl rfl) (SL.e (sl_list' (sa_cons (se_str (by decide +kernel) (by decide +kernel)) (sa_cons (se_str (by decide +kernel) (by decide +kernel)) (sa_cons (se_str (by decide +kernel) (by decide +kernel)) (sa_cons (se_str (by decide +kernel) (by decide +kernel)) (sa_cons (se_str (by decide +kernel) (by decide +kernel)) (sa_cons (se_str (by decide +kernel) (by decide +kernel)) (sa_cons (se_str (by decide +kernel) (by decide +kernel)) (sa_cons (se_str (by decide +kernel) (by decide +kernel)) (sa_cons (se_str (by decide +kernel) (by decide +kernel)) (sa_cons (se_str (by decide +kernel) (by decide +kernel)) (sa_cons (se_str (by decide +kernel) (by decide +kernel)) (sa_cons (se_str (by decide +kernel) (by decide +kernel)) sa_nil)))))))))))))))
  (ss_cons (ss_set (i := 2) sc_l_doubtful.nd rfl (.inl rfl) (se_var (i := 0) rfl (.inl rfl)))
  (ss_cons (ss_while hp (st_cmp (cp_in (hu_of hr)) (se_slice (se_var (i := 2) rfl (.inl rfl)) so_none (so_some se_int)) (se_tup (sa_cons (se_str (by decide +kernel) (by decide +kernel)) (sa_cons (se_str (by decide +kernel) (by decide +kernel)) (sa_cons (se_str (by decide +kernel) (by decide +kernel)) sa_nil)))) rfl) (ss_one (ss_set (i := 2) sc_l_doubtful.nd rfl (.inl rfl) (se_slice (se_var (i := 2) rfl (.inl rfl)) (so_some se_int) so_none))))
  (ss_one (ss_ret (se_or (se_cmp (cp_in (hu_of hr)) (se_lower (se_var (i := 0) rfl (.inl rfl))) (se_var (i := 1) rfl (.inl rfl)) rfl) (se_one (se_cmp (cp_in (hu_of hr)) (se_slice (se_var (i := 2) rfl (.inl rfl)) so_none (so_some se_int)) (se_tuple rfl rfl T.z_tuple (sa_cons (se_str (by decide +kernel) (by decide +kernel)) sa_nil)) rfl)))))))))
end Sm
set_option Elab.async false
set_option linter.all false
set_option maxRecDepth 100000
set_option maxHeartbeats 8000000
namespace Sm
open PySem PySem.Spec PyProof.Rows L2
open PySem PySem.Spec PyProof.Rows L2 PySem.W PySem.Calls
def l_DOUBTS : List (List Nat) := [[121, 101, 115], [110, 111], [111, 110], [111, 102, 102], [121], [110], [116, 114, 117, 101], [102, 97, 108, 115, 101], [110, 117, 108, 108], [110, 111, 110, 101], [110, 97, 110], [105, 110, 102]]
def dd_l_plain : He.DefD := ⟨("_law_plain", none), "_law_plain", "_law_plain", defArgs s_l_plain, defBody s_l_plain, defScope s_l_plain, [], []⟩
def dd_l_seed : He.DefD := ⟨("_law_seed", none), "_law_seed", "_law_seed", defArgs s_l_seed, defBody s_l_seed, defScope s_l_seed, [], []⟩
def dd_l_some_word : He.DefD := ⟨("_law_some_word", none), "_law_some_word", "_law_some_word", defArgs s_l_some_word, defBody s_l_some_word, defScope s_l_some_word, [], []⟩
def dd_l_as : He.DefD := ⟨("_law_as", none), "_law_as", "_law_as", defArgs s_l_as, defBody s_l_as, defScope s_l_as, [], []⟩
def dd_is_figures : He.DefD := ⟨("is_figures", none), "is_figures", "is_figures", defArgs s_is_figures, defBody s_is_figures, defScope s_is_figures, [], []⟩
def dd_number_in : He.DefD := ⟨("number_in", none), "number_in", "number_in", defArgs s_number_in, defBody s_number_in, defScope s_number_in, [], []⟩
def dd_word_worth : He.DefD := ⟨("word_worth", none), "word_worth", "word_worth", defArgs s_word_worth, defBody s_word_worth, defScope s_word_worth, [], []⟩
def dd_l_number : He.DefD := ⟨("_law_number", none), "_law_number", "_law_number", defArgs s_l_number, defBody s_l_number, defScope s_l_number, [], []⟩
def dd_l_word_worth : He.DefD := ⟨("_law_word_worth", none), "_law_word_worth", "_law_word_worth", defArgs s_l_word_worth, defBody s_l_word_worth, defScope s_l_word_worth, [], []⟩
def dd_is_plain : He.DefD := ⟨("is_plain", none), "is_plain", "is_plain", defArgs s_is_plain, defBody s_is_plain, defScope s_is_plain, [], []⟩
def dd_can_stand : He.DefD := ⟨("can_stand", none), "can_stand", "can_stand", defArgs s_can_stand, defBody s_can_stand, defScope s_can_stand, [], []⟩
def dd_l_stands : He.DefD := ⟨("_law_stands", none), "_law_stands", "_law_stands", defArgs s_l_stands, defBody s_l_stands, defScope s_l_stands, [], []⟩
def dd_can_stand_within : He.DefD := ⟨("can_stand_within", none), "can_stand_within", "can_stand_within", defArgs s_can_stand_within, defBody s_can_stand_within, defScope s_can_stand_within, [], []⟩
def dd_l_cell : He.DefD := ⟨("_law_cell", none), "_law_cell", "_law_cell", defArgs s_l_cell, defBody s_l_cell, defScope s_l_cell, [], []⟩
def dd_is_doubtful : He.DefD := ⟨("is_doubtful", none), "is_doubtful", "is_doubtful", defArgs s_is_doubtful, defBody s_is_doubtful, defScope s_is_doubtful, [], []⟩
def dd_l_doubtful : He.DefD := ⟨("_law_doubtful", none), "_law_doubtful", "_law_doubtful", defArgs s_l_doubtful, defBody s_l_doubtful, defScope s_l_doubtful, [], []⟩
def dd_law : He.DefD := ⟨("law", none), "law", "law", defArgs s_law, defBody s_law, defScope s_law, [], []⟩
def fn : List He.DefD := [dd_l_plain, dd_l_seed, dd_l_some_word, dd_l_as, dd_is_figures, dd_number_in, dd_word_worth, dd_l_number, dd_l_word_worth, dd_is_plain, dd_can_stand, dd_l_stands, dd_can_stand_within, dd_l_cell, dd_is_doubtful, dd_l_doubtful, dd_law]
def fa : List He.Fa := [.free "bool", .free "int", .free "isinstance", .free "len", .free "range", .free "str", .free "tuple", .str "BARRED" "\"'#&*!|>@`[]{},?:", .glo "DOUBTS", .str "FIGURES" "0123456789", .str "PLAIN" " !\"#$&'()*+,-./0123456789:;<=>?@ABCDEFGHIJKLMNOPQRSTUVWXYZ[\\]^_`abcdefghijklmnopqrstuvwxyz{|}~", .glo "_law_plain", .glo "_law_seed", .glo "_law_some_word", .glo "_law_as", .glo "is_figures", .glo "number_in", .glo "word_worth", .glo "_law_number", .glo "_law_word_worth", .glo "is_plain", .glo "can_stand", .glo "_law_stands", .glo "can_stand_within", .glo "_law_cell", .glo "is_doubtful", .glo "_law_doubtful", .glo "law"]
def exB (K : PySem.W.Frag) : Bool := He.tupB K "DOUBTS" (l_DOUBTS.map fun s => He.Dv.str (SX.S s))
theorem exB_DOUBTS {K : PySem.W.Frag} (h : exB K = true) : He.tupB K "DOUBTS" (l_DOUBTS.map fun s => He.Dv.str (SX.S s)) = true := h
abbrev RRow : PySem.W.OpenRow := PySem.W.OpenLaw.row PySem.Challenge.rw_indentbook_k01_words
abbrev hk : PySem.W.Hook := hookS 4 fa fn exB
def ob (s : PySem.W.SharedT) : AlS := obsS 4 fa fn exB (HandSHeadRun.getT s)
theorem ob_eq (s : PySem.W.SharedT) : ob s = hk.obs s.abs := obsS_eq (HandSHeadRun.getT_eq s)
def looseN : List Str := (["PLAIN", "FIGURES", "is_plain", "BARRED", "DOUBTS", "is_figures", "number_in", "word_worth", "can_stand", "can_stand_within", "is_doubtful", "_law_cell", "_law_seed", "_law_as", "_law_plain", "_law_some_word", "_law_number", "_law_word_worth", "_law_stands", "_law_doubtful"] : List Str)
theorem run (w : World) : HandSHeadRun.RunEq RRow (PySem.W.view RRow.prog [23]) hk ob 2000 looseN w := by
  intro os
  kernel_rfl
theorem top_of {K : PySem.W.Frag} {h : Heap} {mg : Str → Option Value} (X : K.In h) (G : h.Ns mainGlobals mg) (c : SaysS fa fn exB K) : TopF K mg := ⟨He.free_ok X G (c.d.fact 0 (f := .free "bool") rfl),
  He.free_ok X G (c.d.fact 1 (f := .free "int") rfl),
  He.free_ok X G (c.d.fact 2 (f := .free "isinstance") rfl),
  He.free_ok X G (c.d.fact 3 (f := .free "len") rfl),
  He.free_ok X G (c.d.fact 4 (f := .free "range") rfl),
  He.free_ok X G (c.d.fact 5 (f := .free "str") rfl),
  He.free_ok X G (c.d.fact 6 (f := .free "tuple") rfl),
  gc_str X G (c.d.fact 7 (f := .str "BARRED" "\"'#&*!|>@`[]{},?:") rfl) (by decide +kernel) (by decide +kernel),
  gc_strs (l := l_DOUBTS) X G (c.d.fact 8 (f := .glo "DOUBTS") rfl) (exB_DOUBTS c.x) (by decide +kernel) (by decide +kernel),
  gc_str X G (c.d.fact 9 (f := .str "FIGURES" "0123456789") rfl) (by decide +kernel) (by decide +kernel),
  gc_str X G (c.d.fact 10 (f := .str "PLAIN" " !\"#$&'()*+,-./0123456789:;<=>?@ABCDEFGHIJKLMNOPQRSTUVWXYZ[\\]^_`abcdefghijklmnopqrstuvwxyz{|}~") rfl) (by decide +kernel) (by decide +kernel),
  def_of X G (c.d.fact 11 (f := .glo "_law_plain") rfl) (c.d.def_ 0 (d := dd_l_plain) rfl),
  def_of X G (c.d.fact 12 (f := .glo "_law_seed") rfl) (c.d.def_ 1 (d := dd_l_seed) rfl),
  def_of X G (c.d.fact 13 (f := .glo "_law_some_word") rfl) (c.d.def_ 2 (d := dd_l_some_word) rfl),
  def_of X G (c.d.fact 14 (f := .glo "_law_as") rfl) (c.d.def_ 3 (d := dd_l_as) rfl),
  def_of X G (c.d.fact 15 (f := .glo "is_figures") rfl) (c.d.def_ 4 (d := dd_is_figures) rfl),
  def_of X G (c.d.fact 16 (f := .glo "number_in") rfl) (c.d.def_ 5 (d := dd_number_in) rfl),
  def_of X G (c.d.fact 17 (f := .glo "word_worth") rfl) (c.d.def_ 6 (d := dd_word_worth) rfl),
  def_of X G (c.d.fact 18 (f := .glo "_law_number") rfl) (c.d.def_ 7 (d := dd_l_number) rfl),
  def_of X G (c.d.fact 19 (f := .glo "_law_word_worth") rfl) (c.d.def_ 8 (d := dd_l_word_worth) rfl),
  def_of X G (c.d.fact 20 (f := .glo "is_plain") rfl) (c.d.def_ 9 (d := dd_is_plain) rfl),
  def_of X G (c.d.fact 21 (f := .glo "can_stand") rfl) (c.d.def_ 10 (d := dd_can_stand) rfl),
  def_of X G (c.d.fact 22 (f := .glo "_law_stands") rfl) (c.d.def_ 11 (d := dd_l_stands) rfl),
  def_of X G (c.d.fact 23 (f := .glo "can_stand_within") rfl) (c.d.def_ 12 (d := dd_can_stand_within) rfl),
  def_of X G (c.d.fact 24 (f := .glo "_law_cell") rfl) (c.d.def_ 13 (d := dd_l_cell) rfl),
  def_of X G (c.d.fact 25 (f := .glo "is_doubtful") rfl) (c.d.def_ 14 (d := dd_is_doubtful) rfl),
  def_of X G (c.d.fact 26 (f := .glo "_law_doubtful") rfl) (c.d.def_ 15 (d := dd_l_doubtful) rfl),
  def_of X G (c.d.fact 27 (f := .glo "law") rfl) (c.d.def_ 16 (d := dd_law) rfl)⟩
theorem okx_law {P : Program} {w : World} {K : PySem.W.Frag} {mg : Str → Option Value} {base : Heap} {k : Nat} (T : TopF K mg) (h_l_some_word : FnS P w K mg base k "_law_some_word" F_l_some_word) (h_l_seed : FnS P w K mg base k "_law_seed" F_l_seed) (h_l_cell : FnS P w K mg base k "_law_cell" F_l_cell) (h_l_as : FnS P w K mg base k "_law_as" F_l_as) (h_l_doubtful : FnS P w K mg base k "_law_doubtful" F_l_doubtful) (h_is_doubtful : FnS P w K mg base k "is_doubtful" F_is_doubtful) (h_word_worth : FnS P w K mg base k "word_worth" F_word_worth) (h_l_word_worth : FnS P w K mg base k "_law_word_worth" F_l_word_worth) (h_l_stands : FnS P w K mg base k "_law_stands" F_l_stands) (h_can_stand : FnS P w K mg base k "can_stand" F_can_stand) (h_can_stand_within : FnS P w K mg base k "can_stand_within" F_can_stand_within) {fd : FuncData} (F : FunD K "law" "law" (defArgs s_law) (defBody s_law) (defScope s_law) [] [] (He.ga K "law") fd) : FnOk P w K mg base (L2.CX P w) (k + 1) (He.ga K "law") fd ["_law_script"] (spF K F_law) := by
  refine fnOk_mk F sc_law ?_
  rintro X cdv A outer s H E rfl hr tk
  have hp := passes_of (X := cxOf (L2.CX P w) P w K mg base n_law "law" (defScope s_law) (He.ga K "law") cdv A outer s H E) rfl
  exact (ss_cons (ss_for hp rfl (si_range1 rfl T.z_range (sa_cons se_int sa_nil)) (sg_name (i := 1) sc_law.nd rfl (.inl rfl)) (ss_cons (ss_set (i := 2) sc_law.nd rfl (.inl rfl) (se_call h_l_some_word hr (Nat.le_refl _) rfl tk (sa_cons (se_call h_l_seed hr (Nat.le_refl _) rfl tk (sa_cons (se_add (se_call h_l_cell hr (Nat.le_refl _) rfl tk (sa_cons (se_var (i := 0) rfl (.inl rfl)) (sa_cons (se_mod (se_var (i := 1) rfl (.inl rfl)) se_int) sa_nil))) (se_mul se_int (se_var (i := 1) rfl (.inl rfl)))) (sa_cons (se_var (i := 1) rfl (.inl rfl)) sa_nil))) sa_nil)))
  (ss_cons (ss_if (st_of (sw_or (st_cmp (cp_ne hr.units) (se_call h_word_worth hr (Nat.le_refl _) rfl tk (sa_cons (se_var (i := 2) rfl (.inl rfl)) sa_nil)) (se_call h_l_word_worth hr (Nat.le_refl _) rfl tk (sa_cons (se_var (i := 2) rfl (.inl rfl)) sa_nil)) (nomark _)) (sw_or1 (st_not (st_truth (se_call h_l_as hr (Nat.le_refl _) rfl tk (sa_cons (se_call h_is_doubtful hr (Nat.le_refl _) rfl tk (sa_cons (se_var (i := 2) rfl (.inl rfl)) sa_nil)) (sa_cons (se_call h_l_doubtful hr (Nat.le_refl _) rfl tk (sa_cons (se_var (i := 2) rfl (.inl rfl)) sa_nil)) sa_nil)))))))) (ss_one (ss_ret se_bl)) ss_nil)
  (ss_cons (ss_if (st_not (st_truth (se_call h_l_as hr (Nat.le_refl _) rfl tk (sa_cons (se_call h_can_stand hr (Nat.le_refl _) rfl tk (sa_cons (se_var (i := 2) rfl (.inl rfl)) sa_nil)) (sa_cons (se_call h_l_stands hr (Nat.le_refl _) rfl tk (sa_cons (se_var (i := 2) rfl (.inl rfl)) (sa_cons se_bl sa_nil))) sa_nil))))) (ss_one (ss_ret se_bl)) ss_nil)
  (ss_one (ss_if (st_not (st_truth (se_call h_l_as hr (Nat.le_refl _) rfl tk (sa_cons (se_call h_can_stand_within hr (Nat.le_refl _) rfl tk (sa_cons (se_var (i := 2) rfl (.inl rfl)) sa_nil)) (sa_cons (se_call h_l_stands hr (Nat.le_refl _) rfl tk (sa_cons (se_var (i := 2) rfl (.inl rfl)) (sa_cons se_bl sa_nil))) sa_nil))))) (ss_one (ss_ret se_bl)) ss_nil))))))
  (ss_one (ss_ret se_bl)))
theorem law_ok {P : Program} {w : World} {K : PySem.W.Frag} {mg : Str → Option Value} {base : Heap} (T : TopF K mg) {fd : FuncData} (F : FunD K "law" "law" (defArgs s_law) (defBody s_law) (defScope s_law) [] [] (He.ga K "law") fd) : FnOk P w K mg base (L2.CX P w) 5 (He.ga K "law") fd ["_law_script"] (spF K F_law) := by
  have k_l_plain : FnS P w K mg base 1 "_law_plain" F_l_plain := ok_l_plain T
  have k_l_seed : FnS P w K mg base 1 "_law_seed" F_l_seed := ok_l_seed T
  have k_l_some_word : FnS P w K mg base 2 "_law_some_word" F_l_some_word := ok_l_some_word T (k_l_plain.mono (by decide)) (k_l_seed.mono (by decide))
  have k_l_as : FnS P w K mg base 1 "_law_as" F_l_as := ok_l_as T
  have k_is_figures : FnS P w K mg base 1 "is_figures" F_is_figures := ok_is_figures T
  have k_number_in : FnS P w K mg base 2 "number_in" F_number_in := ok_number_in T (k_is_figures.mono (by decide))
  have k_word_worth : FnS P w K mg base 3 "word_worth" F_word_worth := ok_word_worth T (k_number_in.mono (by decide))
  have k_l_number : FnS P w K mg base 1 "_law_number" F_l_number := ok_l_number T
  have k_l_word_worth : FnS P w K mg base 2 "_law_word_worth" F_l_word_worth := ok_l_word_worth T (k_l_number.mono (by decide))
  have k_is_plain : FnS P w K mg base 1 "is_plain" F_is_plain := ok_is_plain T
  have k_can_stand : FnS P w K mg base 2 "can_stand" F_can_stand := ok_can_stand T (k_is_plain.mono (by decide))
  have k_l_stands : FnS P w K mg base 2 "_law_stands" F_l_stands := ok_l_stands T (k_l_plain.mono (by decide))
  have k_can_stand_within : FnS P w K mg base 3 "can_stand_within" F_can_stand_within := ok_can_stand_within T (k_can_stand.mono (by decide))
  have k_l_cell : FnS P w K mg base 1 "_law_cell" F_l_cell := ok_l_cell T
  have k_is_doubtful : FnS P w K mg base 4 "is_doubtful" F_is_doubtful := ok_is_doubtful T (k_word_worth.mono (by decide))
  have k_l_doubtful : FnS P w K mg base 3 "_law_doubtful" F_l_doubtful := ok_l_doubtful T (k_l_word_worth.mono (by decide))
  exact okx_law T (k_l_some_word.mono (by decide)) (k_l_seed.mono (by decide)) (k_l_cell.mono (by decide)) (k_l_as.mono (by decide)) (k_l_doubtful.mono (by decide)) (k_is_doubtful.mono (by decide)) (k_word_worth.mono (by decide)) (k_l_word_worth.mono (by decide)) (k_l_stands.mono (by decide)) (k_can_stand.mono (by decide)) (k_can_stand_within.mono (by decide)) F
theorem facts {P : Program} {w : World} {K : PySem.W.Frag} {h : Heap} {mg : Str → Option Value} {f : Addr} (X : K.In h) (G : h.Ns mainGlobals mg) (hfa : mg ("law" : Str) = some (.ref f)) (c : SaysS fa fn exB K) :
    ∃ fd : FuncData, (∀ (s : Shared) (v : Value), BindsTo s fd ⟨[v], []⟩ [("_law_script", v)]) ∧ ∀ base : Heap, K.In base → base.Ns mainGlobals mg → FnOk P w K mg base (L2.CX P w) 5 f fd ["_law_script"] (spF K F_law) := by
  obtain ⟨fd, F⟩ := c.d.def_ 16 (d := dd_law) rfl
  have e := hfa.symm.trans (He.glo_ok X G (c.d.fact 27 (f := .glo "law") rfl))
  cases e
  have b := FunD.bindsA (ps := ["_law_script"]) F fun _ _ _ _ _ _ us hl => match us, hl with | [_], _ => rfl
  exact ⟨fd, fun s v => b s [v] rfl, fun base _ _ => law_ok (top_of X G c) F⟩
theorem law_holds (hlaw : ∀ ns : List Int, ns.length ≤ 63 → F_law [.scr ns] = .ok (.bl true)) : PySem.Challenge.rw_indentbook_k01_words.Holds := by
  w_on; o_law
  refine HandSHeadRun.head_any (r := PySem.W.OpenLaw.row PySem.Challenge.rw_indentbook_k01_words) (q := PySem.W.view (PySem.W.OpenLaw.row PySem.Challenge.rw_indentbook_k01_words).prog [23]) (H := hk) (ob := ob) (M := 2000) (loose := looseN) (d := HandSHeadRun.topDef (PySem.W.OpenLaw.row PySem.Challenge.rw_indentbook_k01_words).prog 23) (kwd := []) ob_eq
    (by kernel_rfl) (fun s => by kernel_rfl) run (by kernel_rfl) (by kernel_rfl) (by kernel_rfl) (by rfl) (by first | assumption | decide +kernel) (by decide +kernel) ⟨rfl, rfl, rfl, rfl, rfl, by decide +kernel⟩ ?hw ?hc
  case hw => w_witness2
  case hc =>
    refine walk_sim (l := PySem.Challenge.rw_indentbook_k01_words) (k := 5) (x := "_law_script") (F := F_law) rfl (by kernel_rfl) ⟨rfl, by decide, by decide⟩ ?F hlaw
    intro w mg fa h Y G hmg0
    obtain ⟨K, KX, c⟩ := Y
    have hmg : mg ("law" : PySem.Str) = some (.ref fa) := by
      have e : (HandSHeadRun.topDef (PySem.W.OpenLaw.row PySem.Challenge.rw_indentbook_k01_words).prog 23).name = ("law" : PySem.Str) := by kernel_rfl
      rw [← e]
      exact hmg0
    obtain ⟨fd, hb, hF⟩ := facts (P := (PySem.Challenge.rw_indentbook_k01_words).prog) (w := w) KX G hmg c
    exact ⟨K, fd, KX, hb, hF⟩
end Sm
set_option Elab.async false
set_option linter.all false
set_option maxRecDepth 100000
set_option maxHeartbeats 1000000
namespace Sm
open PySem PySem.Spec PyProof.Rows L2
def Fg : List Nat := [48, 49, 50, 51, 52, 53, 54, 55, 56, 57]
def fg (c : Nat) : Bool := Fg.contains c
def isFig (s : List Nat) : Bool := (!s.isEmpty) && (decide (s.length ≤ 12) && (s.all fg && (s == [48] || !(s.take 1 == [48]))))
theorem filter_empty {α : Type} (k : α → Bool) : ∀ s : List α, (s.filter k).isEmpty = s.all fun c => !k c
  | [] => rfl
  | c :: r => by
    by_cases h : k c = true
    · simp [h]
    · simp [h, filter_empty k r]
theorem map_empty {α β : Type} (f : α → β) (s : List α) : (s.map f).isEmpty = s.isEmpty := by cases s <;> rfl
theorem w_is_figures (s : List Nat) : F_is_figures [.str s] = .ok (.bl (isFig s)) := by
  have key : eLc (iV (ev 0)) (bN 1) (tE (e2 ninP (ev 1) (ec c_FIGURES))) (ev 1) [1] [some (.val (.str s)), none] = .ok (.lst ((s.filter fun c => !fg c).map fun c => .str [c])) := by
    refine lc_letters (by simp) (by simp) fun c hc => ?_
    simp [wipeE, c_FIGURES, ninP, inB, infx_one, fg, Fg]
  unfold F_is_figures m_is_figures
  rw [runF_1, startE_1, guard_ (b := s.isEmpty || (decide (12 < s.length) || !s.all fg)) (v := .bl false) (tO3 ?_ (fun _ => ?_) fun _ _ => ?_) fun _ => rfl]
  · cases s with
    | nil => rfl
    | cons c r =>
      rw [ret_ (v := .bl ((c :: r) == [48] || !([c] == [48])))]
      · by_cases h1 : 12 < r.length + 1
        · have h2 : ¬ r.length + 1 ≤ 12 := by omega
          have h3 : ¬ r.length ≤ 11 := by omega
          simp [isFig, h1, h2, h3]
        · have h2 : r.length + 1 ≤ 12 := by omega
          simp only [fin_ite, fin_rt, isFig, List.length_cons, h1, h2]
          cases (c :: r).all fg <;> simp
      · by_cases h : c = 48 ∧ r = []
        · simp [h]
        · by_cases h1 : c = 48 <;> simp_all
  · simp
  · simp
    rw [show ((12 : Int) < (s.length : Int)) = (12 < s.length) from by simp; omega]
  · rw [v_tV]
    simp only [List.replicate]
    rw [key]
    simp [map_empty, filter_empty]
def fgs (w : List Nat) : List Nat := if w.take 1 == [45] then w.drop 1 else w
def numO (w : List Nat) : Option Int := if isFig (fgs w) && !(w == [45, 48]) then numS w else none
def ofO : Option Int → PV
  | none => .non
  | some n => .int n
theorem fig_dig {s : List Nat} (h : isFig s = true) : figs s = true ∧ s.length ≤ 12 := by
  unfold isFig at h
  simp at h
  obtain ⟨h1, h2, h3, _⟩ := h
  refine ⟨?_, h2⟩
  unfold figs
  cases s with
  | nil => exact absurd rfl h1
  | cons c r =>
    simp only [List.isEmpty_cons, Bool.not_false, Bool.true_and]
    refine List.all_eq_true.mpr fun d hd => ?_
    have := h3 d hd
    simp [fg, Fg] at this
    simp; omega
theorem numS_some {w : List Nat} (h : isFig (fgs w) = true) : ∃ n, numS w = some n := by
  obtain ⟨h1, h2⟩ := fig_dig h
  unfold fgs at h1 h2
  unfold numS
  by_cases c : w.take 1 = [45]
  · match w, c with
    | d :: r, c =>
      simp at c; subst c
      simp at h1 h2
      rw [if_pos (by simp; omega)]
      by_cases q : figs (45 :: r) = true
      · rw [if_pos q]; exact ⟨_, rfl⟩
      · rw [if_neg q]; simp [h1]
  · simp [c] at h1 h2
    rw [if_pos (by omega), if_pos h1]; exact ⟨_, rfl⟩
theorem w_number_in (w : List Nat) : F_number_in [.str w] = .ok (ofO (numO w)) := by
  unfold F_number_in m_number_in
  rw [runF_1, startE_1, set_ (v := .str (fgs w)) (by by_cases h : w.take 1 = [45] <;> simp [h, fgs])]
  rw [guard_ (b := !isFig (fgs w) || (w == [45, 48])) (v := .non) (tO_t (a := !isFig (fgs w)) (by simp [w_is_figures]) fun _ => by simp) fun _ => rfl]
  unfold numO
  by_cases h : isFig (fgs w) = true
  · obtain ⟨n, hn⟩ := numS_some h
    by_cases h2 : w = [45, 48]
    · subst h2; rfl
    · rw [ret_ (v := .int n) (by simp [intP, hn])]
      simp [h, h2, hn, ofO]
  · simp [h, ofO]
theorem dw_nil {α : Type} (k : α → Bool) : ∀ l : List α, (l.dropWhile k).isEmpty = l.all k
  | [] => rfl
  | a :: l => by
    by_cases h : k a = true
    · simp [List.dropWhile_cons, h, dw_nil k l]
    · simp [List.dropWhile_cons, h]
theorem dw_head {α : Type} (k : α → Bool) : ∀ {l : List α} {a : α} {r : List α}, l.dropWhile k = a :: r → k a = false
  | [], _, _, h => by cases h
  | b :: l, a, r, h => by
    by_cases q : k b = true
    · rw [List.dropWhile_cons, if_pos q] at h; exact dw_head k h
    · rw [List.dropWhile_cons, if_neg q] at h; cases h; simpa using q
theorem strip_nil (cs l : List Nat) : (stripL cs l).isEmpty = l.all fun c => cs.contains c := by
  unfold stripL rstripL lstripL
  rw [List.isEmpty_reverse, dw_nil]
  rw [List.all_reverse]
  cases e : l.dropWhile fun c => cs.contains c with
  | nil =>
    have := dw_nil (fun c => cs.contains c) l
    rw [e] at this
    simpa using this
  | cons a r =>
    have h := dw_head _ e
    have := dw_nil (fun c => cs.contains c) l
    rw [e] at this
    rw [← this, List.all_cons, h]; rfl
theorem stripFg (l : List Nat) : (stripL [48, 49, 50, 51, 52, 53, 54, 55, 56, 57] l).isEmpty = l.all fg := by rw [strip_nil]; rfl
theorem w_l_number (w : List Nat) : F_l_number [.str w] = .ok (ofO (numO w)) := by
  unfold F_l_number m_l_number
  rw [runF_1, startE_1, set_ (v := .str (fgs w)) (by by_cases h : w.take 1 = [45] <;> simp [h, fgs])]
  rw [guard_ (b := !isFig (fgs w) || (w == [45, 48])) (v := .non) ?_ fun _ => rfl]
  · unfold numO
    by_cases h : isFig (fgs w) = true
    · obtain ⟨n, hn⟩ := numS_some h
      by_cases h2 : w = [45, 48]
      · subst h2; rfl
      · rw [ret_ (v := .int n) (by simp [intP, hn])]
        simp [h, h2, hn, ofO]
    · simp [h, ofO]
  · rw [show (!isFig (fgs w) || (w == [45, 48])) = (!((!(fgs w).isEmpty) && decide ((fgs w).length ≤ 12)) || (!(fgs w).all fg || ((fgs w).take 1 == [48] && !(w == [48])))) from ?_]
    · refine tO3 ?_ (fun _ => ?_) (fun h1 h2 => tA_t ?_ fun _ => ?_)
      · rw [v_tN, v_tE, eCh_ok (by simp; rfl) (by simp; rfl) (by simp; rfl) (v_leP _ _) (v_leP _ _)]
        simp only [R.bind_ok, v_tB, R.of_some]
        congr 3
        · cases fgs w <;> simp
          omega
        · simp
          omega
      · simp [stripFg]
      · simp at h1
        cases e : fgs w with
        | nil => rw [e] at h1; simp at h1
        | cons c r => simp
      · simp
    · unfold isFig
      have hw : w = [48] → fgs w = [48] := by rintro rfl; rfl
      have hw2 : w = [45, 48] → fgs w = [48] := by rintro rfl; rfl
      have hw3 : fgs w = [48] → w = [48] ∨ w = [45, 48] := by
        unfold fgs
        match w with
        | [] => simp
        | [a] => by_cases h : a = 45 <;> simp [h]
        | a :: b :: r => by_cases h : a = 45 <;> simp [h]
      by_cases q1 : w = [48]
      · subst q1; rfl
      · by_cases q2 : w = [45, 48]
        · subst q2; rfl
        · have q3 : ¬ fgs w = [48] := fun h => by rcases hw3 h with h | h <;> contradiction
          have e1 : (w == [48]) = false := by simpa using q1
          have e2 : (w == [45, 48]) = false := by simpa using q2
          have e3 : (fgs w == [48]) = false := by simpa using q3
          rw [e1, e2, e3]
          cases (fgs w).all fg <;> by_cases l : (fgs w).length ≤ 12 <;> simp [l]
/-- how a word is read -/
def t_none : List Nat := [110, 111, 110, 101]
def t_truth : List Nat := [116, 114, 117, 116, 104]
def t_text : List Nat := [116, 101, 120, 116]
def t_number : List Nat := [110, 117, 109, 98, 101, 114]
def t_true : List Nat := [116, 114, 117, 101]
def t_false : List Nat := [102, 97, 108, 115, 101]
def t_null : List Nat := [110, 117, 108, 108]
def worthW (w : List Nat) : PV := if w == [] || (w == [126] || w == t_null) then .tup [.str t_none] else if w == t_true || w == t_false then .tup [.str t_truth, .bl (w == t_true)] else
  match numO w with
  | none => .tup [.str t_text, .str w]
  | some n => .tup [.str t_number, .int n]
theorem beqC (a b : List Nat) : (a == b) = (b == a) := Bool.beq_comm
theorem inb3 (w a b c : List Nat) : inP (.str w) (.tup [.str a, .str b, .str c]) = some (.bl (w == a || (w == b || w == c))) := by
  simp [inP, inB, flat, eqb]
  rw [beqC a, beqC b, beqC c]
theorem inb2 (w a b : List Nat) : inP (.str w) (.tup [.str a, .str b]) = some (.bl (w == a || w == b)) := by
  simp [inP, inB, flat, eqb]
  rw [beqC a, beqC b]
theorem ofO_is (o : Option Int) : isP (ofO o) .non = some (.bl o.isNone) := by cases o <;> rfl
@[simp] theorem tupP1 (a : PV) : tupP [a] = some (.tup [a]) := rfl
@[simp] theorem tupP2 (a b : PV) : tupP [a, b] = some (.tup [a, b]) := rfl
@[simp] theorem tupP3 (a b c : PV) : tupP [a, b, c] = some (.tup [a, b, c]) := rfl
theorem w_word_worth (w : List Nat) : F_word_worth [.str w] = .ok (worthW w) := by
  unfold F_word_worth m_word_worth worthW
  rw [runF_1, startE_1, guard_ (b := w == [] || (w == [126] || w == t_null)) (v := .tup [.str t_none]) (by simp [inb3]; rfl) fun _ => rfl]
  rw [guard_ (b := w == t_true || w == t_false) (v := .tup [.str t_truth, .bl (w == t_true)]) (by simp [inb2]; rfl) fun _ => by simp; exact ⟨rfl, rfl⟩]
  rw [set_ (v := ofO (numO w)) (by simp [w_number_in])]
  simp only [fin_ite, fin_rt]
  split
  · rfl
  split
  · rfl
  cases h : numO w with
  | none => simp [ofO, isP]; rfl
  | some n => simp [ofO, isP]; rfl
theorem w_l_word_worth (w : List Nat) : F_l_word_worth [.str w] = .ok (worthW w) := by
  unfold F_l_word_worth m_l_word_worth worthW
  rw [runF_1, startE_1, guard_ (b := w == [] || (w == [126] || w == t_null)) (v := .tup [.str t_none]) (by simp [inb3]; rfl) fun _ => rfl]
  rw [guard_ (b := w == t_true || w == t_false) (v := .tup [.str t_truth, .bl (w == t_true)]) (by simp [inb2]; rfl) fun _ => by simp; exact ⟨rfl, rfl⟩]
  rw [set_ (v := ofO (numO w)) (by simp [w_l_number])]
  simp only [fin_ite, fin_rt]
  split
  · rfl
  split
  · rfl
  cases h : numO w with
  | none => simp [ofO, isP]; rfl
  | some n => simp [ofO, isP]; rfl
end Sm
set_option Elab.async false
set_option linter.all false
set_option maxRecDepth 100000
set_option maxHeartbeats 1000000
namespace Sm
open PySem PySem.Spec PyProof.Rows L2
/-! ### doubtful -/
def dwords : List (List Nat) := [[121, 101, 115], [110, 111], [111, 110], [111, 102, 102], [121], [110], [116, 114, 117, 101], [102, 97, 108, 115, 101], [110, 117, 108, 108], [110, 111, 110, 101], [110, 97, 110], [105, 110, 102]]
def fgl : List (List Nat) := Fg.map fun c => [c]
def isText (w : List Nat) : Bool := !(w == [] || (w == [126] || w == t_null)) && (!(w == t_true || w == t_false) && (numO w).isNone)
def signs : List Nat := [43, 45, 46]
def doubtW (w : List Nat) : Bool := isText w && (dwords.contains (w.map lo1) || fgl.contains ((lstripL signs w).take 1))
theorem worth_head (w : List Nat) : ∃ x l, worthW w = .tup (.str x :: l) ∧ (x == t_text) = isText w := by
  unfold worthW isText
  split
  · rename_i h; exact ⟨_, _, rfl, by rw [h]; rfl⟩
  · rename_i h
    split
    · rename_i h2; exact ⟨_, _, rfl, by rw [h2, Bool.not_true, Bool.false_and, Bool.and_false]; rfl⟩
    · rename_i h2
      have e1 : (w == [] || (w == [126] || w == t_null)) = false := by simpa using h
      have e2 : (w == t_true || w == t_false) = false := by simpa using h2
      rw [e1, e2]
      cases numO w with
      | none => exact ⟨_, _, rfl, rfl⟩
      | some n => exact ⟨_, _, rfl, rfl⟩
theorem any_strs (w : List Nat) : ∀ l : List (List Nat), ((l.map PV.str).any fun q => eqb q (.str w)) = l.contains w
  | [] => rfl
  | a :: l => by
    rw [List.map_cons, List.any_cons, any_strs w l, List.contains_cons, beqC]; rfl
theorem flat_strs : ∀ l : List (List Nat), (l.map PV.str).all flat = true
  | [] => rfl
  | a :: l => by rw [List.map_cons, List.all_cons, flat_strs l]; rfl
theorem in_tup (w : List Nat) (l : List (List Nat)) : inP (.str w) (.tup (l.map .str)) = some (.bl (l.contains w)) := by
  unfold inP
  rw [show inB (.str w) (.tup (l.map .str)) = if (flat (.str w) && (l.map PV.str).all flat) = true then some ((l.map PV.str).any fun q => eqb q (.str w)) else none from rfl]
  rw [if_pos (by rw [flat_strs]; rfl), any_strs]; rfl
theorem in_lst (w : List Nat) (l : List (List Nat)) : inP (.str w) (.lst (l.map .str)) = some (.bl (l.contains w)) := by
  unfold inP
  rw [show inB (.str w) (.lst (l.map .str)) = if (flat (.str w) && (l.map PV.str).all flat) = true then some ((l.map PV.str).any fun q => eqb q (.str w)) else none from rfl]
  rw [if_pos (by rw [flat_strs]; rfl), any_strs]; rfl
theorem w_is_doubtful (w : List Nat) : F_is_doubtful [.str w] = .ok (.bl (doubtW w)) := by
  obtain ⟨x, l, e, hx⟩ := worth_head w
  unfold F_is_doubtful m_is_doubtful
  rw [runF_1, startE_1, guard_ (b := !isText w) (v := .bl false) (by simp [w_word_worth, e, ← hx]; rfl) fun _ => rfl]
  rw [guard_ (b := dwords.contains (w.map lo1)) (v := .bl true) (by
    simp only [v_tE, v_e2, v_eM, v_ev, v_ec, v_aN, List.getElem?_cons_zero, v_slv, R.bind_ok, emK_str, v_lowF, R.of_some]
    rw [show c_DOUBTS = .tup (dwords.map .str) from rfl, in_tup]; rfl) fun _ => rfl]
  rw [ret_ (v := .bl (fgl.contains ((lstripL signs w).take 1))) (by
    simp only [v_eSl, v_eA, v_e2, v_eM, v_ev, v_ec, v_aN, v_aC, v_oN, v_oS, List.getElem?_cons_zero, v_slv, R.bind_ok, emK_str, v_strF, R.of_some, v_asI, v_slP_str, cut_to1]
    rw [show tupOf [c_FIGURES] = some (.tup (fgl.map .str)) from rfl]
    simp only [R.of_some, R.bind_ok]
    exact congrArg R.of (in_tup _ fgl))]
  unfold doubtW
  cases isText w <;> cases dwords.contains (w.map lo1) <;> simp
theorem lstrip_cons (cs : List Nat) (c : Nat) (r : List Nat) : lstripL cs (c :: r) = if cs.contains c = true then lstripL cs r else c :: r := by
  unfold lstripL
  rw [List.dropWhile_cons]
theorem take1_in (w : List Nat) : ([[43], [45], [46]] : List (List Nat)).contains (w.take 1) = (match w with
  | [] => false
  | c :: _ => signs.contains c) := by
  cases w with
  | nil => rfl
  | cons c r => simp [signs]
theorem whl (a : PV) (o : Option Sl) : ∀ w : List Nat, whS (tE (e2 inP (eSl (ev 2) oN (oS (ec (.int 1)))) (eA tupP (aC (ec (.str [43])) (aC (ec (.str [45])) (aC (ec (.str [46])) aN)))))) (setS 2 (eSl (ev 2) (oS (ec (.int 1))) oN)) [some (.val a), o, some (.val (.str w))] = .nx [some (.val a), o, some (.val (.str (lstripL signs w)))] := by
  intro w
  induction w with
  | nil =>
    rw [whS_step]
    simp only [v_tE, v_e2, v_eSl, v_ev, v_ec, v_oN, v_oS, v_eA, v_aC, v_aN, List.getElem?_cons_zero, List.getElem?_cons_succ, v_slv, R.bind_ok, R.of_some, v_asI, v_slP_str, cut_to1, tupP3]
    rw [show (PV.tup [.str [43], .str [45], .str [46]]) = .tup ([[43], [45], [46]].map .str) from rfl, in_tup, take1_in]
    rfl
  | cons c r ih =>
    rw [whS_step, lstrip_cons]
    simp only [v_tE, v_e2, v_eSl, v_ev, v_ec, v_oN, v_oS, v_eA, v_aC, v_aN, List.getElem?_cons_zero, List.getElem?_cons_succ, v_slv, R.bind_ok, R.of_some, v_asI, v_slP_str, cut_to1, tupP3]
    rw [show (PV.tup [.str [43], .str [45], .str [46]]) = .tup ([[43], [45], [46]].map .str) from rfl, in_tup, take1_in]
    simp only [R.of_some, R.bind_ok, v_tB, v_resok]
    split
    · rename_i h
      simp only [v_setS, v_eSl, v_ev, v_ec, v_oN, v_oS, List.getElem?_cons_zero, List.getElem?_cons_succ, v_slv, R.bind_ok, R.of_some, v_asI, v_slP_str, cut_from1, v_resok, List.set_cons_succ, List.set_cons_zero, List.drop_succ_cons, List.drop_zero]
      exact ih
    · rfl
theorem w_l_doubtful (w : List Nat) : F_l_doubtful [.str w] = .ok (.bl (doubtW w)) := by
  obtain ⟨x, l, e, hx⟩ := worth_head w
  unfold F_l_doubtful m_l_doubtful
  rw [runF_1, startE_1, guard_ (b := !isText w) (v := .bl false) (by simp [w_l_word_worth, e, ← hx]; rfl) fun _ => rfl]
  rw [set_ (v := .lst (dwords.map .str)) (by rfl), set_ (v := .str w) (by rfl)]
  simp only [List.replicate, List.set_cons_succ, List.set_cons_zero]
  rw [seq_nx (whl _ _ w)]
  rw [ret_ (v := .bl (dwords.contains (w.map lo1) || fgl.contains ((lstripL signs w).take 1)))]
  · unfold doubtW
    cases isText w <;> simp
  · rw [v_eOr]
    simp only [v_eSl, v_eA, v_e2, v_eM, v_ev, v_ec, v_aN, v_aC, v_oN, v_oS, List.getElem?_cons_zero, List.getElem?_cons_succ, v_slv, R.bind_ok, emK_str, v_strF, v_lowF, R.of_some, v_asI, v_slP_str, cut_to1]
    rw [in_lst, show tupOf [.str [48, 49, 50, 51, 52, 53, 54, 55, 56, 57]] = some (.tup (fgl.map .str)) from rfl]
    simp only [R.of_some, R.bind_ok, truth]
    rw [in_tup]
    cases dwords.contains (w.map lo1) <;> rfl
/-! ### can stand -/
def plainL : List Nat := [32, 33, 34, 35, 36, 38, 39, 40, 41, 42, 43, 44, 45, 46, 47, 48, 49, 50, 51, 52, 53, 54, 55, 56, 57, 58, 59, 60, 61, 62, 63, 64, 65, 66, 67, 68, 69, 70, 71, 72, 73, 74, 75, 76, 77, 78, 79, 80, 81, 82, 83, 84, 85, 86, 87, 88, 89, 90, 91, 92, 93, 94, 95, 96, 97, 98, 99, 100, 101, 102, 103, 104, 105, 106, 107, 108, 109, 110, 111, 112, 113, 114, 115, 116, 117, 118, 119, 120, 121, 122, 123, 124, 125, 126]
def plC (c : Nat) : Bool := plainL.contains c
end Sm
set_option Elab.async false
set_option linter.all false
set_option maxRecDepth 100000
set_option maxHeartbeats 1000000
namespace Sm
open PySem PySem.Spec PyProof.Rows L2
theorem w_is_plain (w : List Nat) : F_is_plain [.str w] = .ok (.bl (w.all plC)) := by
  have key : eLc (iV (ev 0)) (bN 1) (tE (e2 ninP (ev 1) (ec c_PLAIN))) (ev 1) [1] [some (.val (.str w)), none] = .ok (.lst ((w.filter fun c => !plC c).map fun c => .str [c])) := by
    refine lc_letters (by simp) (by simp) fun c hc => ?_
    show _ = R.ok (!plC c)
    simp only [v_tE, v_e2, v_ev, v_ec, wipeE, List.set_cons_succ, List.set_cons_zero, List.getElem?_cons_succ, List.getElem?_cons_zero, v_slv, R.bind_ok, c_PLAIN]
    unfold ninP inB
    simp only [List.isEmpty_cons, infx_one, Option.map_some, R.of_some, R.bind_ok, v_tB]
    rfl
  unfold F_is_plain m_is_plain
  rw [runF_1, startE_1, ret_ (v := .bl (w.all plC)) ?_]; rfl
  rw [v_eAnd]
  simp only [v_e1, v_ev, v_slv, List.getElem?_cons_zero, R.bind_ok]
  rw [show isI "str" (.str w) = some (.bl true) from rfl]
  simp only [R.of_some, R.bind_ok, truth, if_true, List.replicate, v_eNot]
  rw [key]
  simp only [R.bind_ok, truth_lst, R.of_some, map_empty, filter_empty, Bool.not_not]
def barred : List Nat := [34, 39, 35, 38, 42, 33, 124, 62, 64, 96, 91, 93, 123, 125, 44, 63, 58]
def openers : List Nat := [32, 91, 123, 44]
def badP (a b : Nat) : Bool := (a == 58 && b == 32) || ((a == 32 && b == 35) || (openers.contains a && [34, 39].contains b))
def pairs : List Nat → Bool
  | a :: b :: r => badP a b || pairs (b :: r)
  | _ => false
/-- a word that can stand as it is -/
def standW (w : List Nat) : Bool := (match w with
  | [] => false
  | c :: _ => !(c == 32) && !barred.contains c) && (!(w.getLast? == some 32) && (!(w.getLast? == some 58) && (!(w == [45]) && (!(w.take 2 == [45, 32]) && !pairs w))))
theorem hooks : ∀ w : List Nat, openers.any (fun s => infx [s, 39] w || infx [s, 34] w) = (infx [32, 39] w || infx [32, 34] w || (infx [91, 39] w || infx [91, 34] w || (infx [123, 39] w || infx [123, 34] w || (infx [44, 39] w || infx [44, 34] w)))) := fun w => by
  simp [openers]
theorem pairs_eq : ∀ w : List Nat, pairs w = (infx [32, 35] w || (infx [58, 32] w || openers.any (fun s => infx [s, 39] w || infx [s, 34] w)))
  | [] => rfl
  | [a] => by simp [pairs, infx, openers, List.isPrefixOf]
  | a :: b :: r => by
    rw [pairs, pairs_eq (b :: r), hooks, hooks]
    simp only [infx_two]
    simp only [badP, openers, List.contains_cons, List.contains_nil, Bool.or_false]
    simp only [show ∀ x : Nat, (a == x) = (x == a) from fun x => Bool.beq_comm, show ∀ x : Nat, (b == x) = (x == b) from fun x => Bool.beq_comm]
    generalize infx [32, 35] (b :: r) = x1
    generalize infx [58, 32] (b :: r) = x2
    generalize infx [32, 39] (b :: r) = x3
    generalize infx [32, 34] (b :: r) = x4
    generalize infx [91, 39] (b :: r) = x5
    generalize infx [91, 34] (b :: r) = x6
    generalize infx [123, 39] (b :: r) = x7
    generalize infx [123, 34] (b :: r) = x8
    generalize infx [44, 39] (b :: r) = x9
    generalize infx [44, 34] (b :: r) = x10
    simp only [Bool.and_or_distrib_left, Bool.and_or_distrib_right]
    ac_rfl
end Sm
set_option Elab.async false
set_option linter.all false
set_option maxRecDepth 100000
set_option maxHeartbeats 1000000
namespace Sm
open PySem PySem.Spec PyProof.Rows L2
theorem dw_len {α : Type} (k : α → Bool) : ∀ l : List α, (l.dropWhile k).length ≤ l.length
  | [] => Nat.le_refl _
  | a :: l => by
    rw [List.dropWhile_cons]
    split
    · have := dw_len k l; simp; omega
    · simp
theorem rstrip_self (cs : List Nat) (u : List Nat) (z : Nat) : (rstripL cs (u ++ [z]) = u ++ [z]) ↔ cs.contains z = false := by
  unfold rstripL
  rw [List.reverse_append]
  simp only [List.reverse_cons, List.reverse_nil, List.nil_append, List.singleton_append]
  rw [List.dropWhile_cons]
  split
  · rename_i h
    constructor
    · intro e
      have := congrArg List.length e
      have q := dw_len (fun c => cs.contains c) u.reverse
      simp at this q
      omega
    · intro e; rw [h] at e; cases e
  · rename_i h
    constructor
    · intro _; simpa using h
    · intro _; simp
theorem lstrip_len (cs l : List Nat) : (lstripL cs l).length ≤ l.length := dw_len _ l
theorem rstrip_len (cs l : List Nat) : (rstripL cs l).length ≤ l.length := by
  unfold rstripL
  have := dw_len (fun c => cs.contains c) l.reverse
  simpa using this
theorem strip_self (cs : List Nat) (c : Nat) (r : List Nat) : (stripL cs (c :: r) = c :: r) ↔ cs.contains c = false ∧ ∀ z, (c :: r).getLast? = some z → cs.contains z = false := by
  unfold stripL
  rw [lstrip_cons]
  by_cases h : cs.contains c = true
  · rw [if_pos h]
    constructor
    · intro e
      have e := congrArg List.length e
      have h1 := rstrip_len cs (lstripL cs r)
      have h2 := lstrip_len cs r
      simp at e
      omega
    · rintro ⟨h1, _⟩; rw [h] at h1; cases h1
  · rw [if_neg h]
    have h' : cs.contains c = false := by simpa using h
    obtain ⟨u, z, e⟩ : ∃ u z, c :: r = u ++ [z] := ⟨(c :: r).dropLast, (c :: r).getLast (by simp), (List.dropLast_concat_getLast (by simp)).symm⟩
    rw [e, rstrip_self, ← e]
    constructor
    · intro q; exact ⟨h', fun y hy => by rw [e, List.getLast?_concat] at hy; cases hy; exact q⟩
    · rintro ⟨_, q⟩; exact q z (by rw [e, List.getLast?_concat])
theorem beq_iff {α : Type} [BEq α] [LawfulBEq α] {a b : α} {c : Bool} (h : a = b ↔ c = true) : (a == b) = c := by
  rw [Bool.eq_iff_iff, ← h]; exact beq_iff_eq
theorem last_cons (c : Nat) (r : List Nat) : ∃ z, (c :: r).getLast? = some z := ⟨_, List.getLast?_eq_some_getLast (by simp)⟩
theorem w_can_stand (w : List Nat) (hp : w.all plC = true) (hl : w.length < bnd) : F_can_stand [.str w] = .ok (.bl (standW w)) := by
  unfold F_can_stand m_can_stand
  cases w with
  | nil => rfl
  | cons c r =>
    obtain ⟨z, hz⟩ := last_cons c r
    have key : eLc (iV (ec (.str [32, 91, 123, 44]))) (bN 1) (tO (tE (e2 inP (e2 addP (ev 1) (ec (.str [39]))) (ev 0))) (tE (e2 inP (e2 addP (ev 1) (ec (.str [34]))) (ev 0)))) (ev 1) [1] [some (.val (.str (c :: r))), none] =
        .ok (.lst ((openers.filter fun s => infx [s, 39] (c :: r) || infx [s, 34] (c :: r)).map fun c => .str [c])) := by
      refine lc_letters (s := openers) (by rfl) (by simp) fun s hs => ?_
      refine tO_t ?_ fun _ => ?_
      · simp [wipeE, addP, inP, inB, bnd]
      · simp [wipeE, addP, inP, inB, bnd]
    rw [runF_1, startE_1, guard_ (b := false || ((c == 32 || z == 32) || (barred.contains c || (((c :: r).take 2 == [45, 32]) || ((c :: r) == [45]))))) (v := .bl false) ?g1 fun _ => rfl]
    rw [guard_ (b := infx [32, 35] (c :: r) || (infx [58, 32] (c :: r) || (z == 58 || !(c :: r).all plC))) (v := .bl false) ?g2 fun _ => rfl]
    rw [ret_ (v := .bl (!openers.any fun s => infx [s, 39] (c :: r) || infx [s, 34] (c :: r))) ?g3]
    · simp only [fin_ite, fin_rt, hp, standW, hz, pairs_eq]
      have e1 : (some z == some 32) = (z == 32) := by simp
      have e2 : (some z == some 58) = (z == 58) := by simp
      rw [e1, e2]
      generalize (openers.any fun s => infx [s, 39] (c :: r) || infx [s, 34] (c :: r)) = x1
      generalize infx [32, 35] (c :: r) = x2
      generalize infx [58, 32] (c :: r) = x3
      generalize (c == 32) = x4
      generalize (z == 32) = x5
      generalize (z == 58) = x6
      generalize barred.contains c = x7
      generalize ((c :: r).take 2 == [45, 32]) = x8
      generalize ((c :: r) == [45]) = x9
      cases x4 <;> cases x5 <;> cases x7 <;> cases x8 <;> cases x9 <;> cases x2 <;> cases x3 <;> cases x6 <;> rfl
    case g1 =>
      refine tO_t (by rfl) fun _ => tO_t ?_ fun _ => tO_t ?_ fun _ => tO_t ?_ fun _ => ?_
      · simp only [v_tE, v_e2, v_eM, v_ev, v_ec, v_aC, v_aN, List.getElem?_cons_zero, v_slv, R.bind_ok, emK_str, v_strF, R.of_some, v_neP_str, v_tB]
        congr 1
        have q : ((c :: r) == stripL [32] (c :: r)) = !(c == 32 || z == 32) := beq_iff (by
          rw [eq_comm, strip_self, hz]
          simp)
        rw [q]; simp
      · simp only [v_tE, v_e2, v_ev, v_ec, List.getElem?_cons_zero, v_slv, R.bind_ok, R.of_some, v_ix_str, atI_0, List.head?_cons, Option.map_some]
        unfold c_BARRED inP inB
        simp only [List.isEmpty_cons, infx_one]
        rfl
      · simp
      · simp
    case g2 =>
      refine tO_t ?_ fun _ => tO_t ?_ fun _ => tO_t ?_ fun _ => ?_
      · simp [inP, inB]
      · simp [inP, inB]
      · simp [negP, hz]
      · rw [v_tN, v_tV]
        simp [w_is_plain]
    case g3 =>
      rw [v_eNot]
      simp only [List.replicate]
      rw [key]
      simp only [R.bind_ok, truth_lst, R.of_some, map_empty, filter_empty]
      rw [List.any_eq_not_all_not]
def bracks : List Nat := [44, 91, 93, 123, 125]
def withinW (w : List Nat) : Bool := standW w && w.all fun c => !bracks.contains c
theorem w_can_stand_within (w : List Nat) (hp : w.all plC = true) (hl : w.length < bnd) : F_can_stand_within [.str w] = .ok (.bl (withinW w)) := by
  have key : eLc (iV (ev 0)) (bN 1) (tE (e2 inP (ev 1) (ec (.str [44, 91, 93, 123, 125])))) (ev 1) [1] [some (.val (.str w)), none] = .ok (.lst ((w.filter fun c => bracks.contains c).map fun c => .str [c])) := by
    refine lc_letters (by simp) (by simp) fun c hc => ?_
    simp [wipeE, inP, inB, infx_one, bracks]
  unfold F_can_stand_within m_can_stand_within
  rw [runF_1, startE_1, ret_ (v := .bl (withinW w)) ?_]; rfl
  rw [v_eAnd]
  simp only [v_eF, v_aC, v_aN, v_ev, List.getElem?_cons_zero, v_slv, R.bind_ok, w_can_stand w hp hl, truth, R.of_some, v_eNot, List.replicate]
  rw [key]
  simp only [R.bind_ok, truth_lst, R.of_some, map_empty, filter_empty, withinW]
  cases standW w <;> simp
end Sm
set_option Elab.async false
set_option linter.all false
set_option maxRecDepth 100000
set_option maxHeartbeats 1000000
namespace Sm
open PySem PySem.Spec PyProof.Rows L2
/-- a loop whose body leaves by z at the first bad item -/
theorem for_find {α : Type} {b : PV → En → Option En} {f : En → Res} {g : α → PV} {bad : α → Bool} {z : PV} {I : En → Prop} :
    ∀ (l : List α) (E : En), I E → (∀ a ∈ l, ∀ E, I E → ∃ E2, b (g a) E = some E2 ∧ I E2 ∧ f E2 = if bad a = true then .rt z else .nx E2) →
      if l.any bad = true then forM b f (l.map g) E = .rt z else ∃ E', I E' ∧ forM b f (l.map g) E = .nx E'
  | [], E, hE, _ => by simp [forM]; exact hE
  | a :: l, E, hE, h => by
    obtain ⟨E2, h1, h2, h3⟩ := h a (by simp) E hE
    have ih := for_find l E2 h2 fun a' ha => h a' (by simp [ha])
    rw [List.map_cons, forM, h1]
    simp only [h3]
    by_cases q : bad a = true
    · simp [q]
    · rw [if_neg q]
      have q : bad a = false := by simpa using q
      rw [List.any_cons, q, Bool.false_or]
      exact ih
def badAt (w : List Nat) (k : Nat) : Bool := match (w.drop k).take 2 with
  | [a, b] => badP a b
  | _ => false
theorem any_range_succ (f : Nat → Bool) (n : Nat) : (List.range (n + 1)).any f = (f 0 || (List.range n).any fun k => f (k + 1)) := by
  rw [List.range_succ_eq_map, List.any_cons, List.any_map]; rfl
theorem pairs_range : ∀ w : List Nat, (List.range (w.length - 1)).any (badAt w) = pairs w
  | [] => rfl
  | [a] => rfl
  | a :: b :: r => by
    have ih := pairs_range (b :: r)
    rw [pairs, ← ih]
    show (List.range ((r.length + 1 + 1) - 1)).any _ = _
    rw [Nat.add_sub_cancel, any_range_succ]
    rfl
theorem two_at {w : List Nat} {k : Nat} (h : k + 1 < w.length) : ∃ a b, (w.drop k).take 2 = [a, b] ∧ w[k]? = some a ∧ w[k + 1]? = some b := by
  refine ⟨w[k], w[k + 1], ?_, by simp, by simp⟩
  rw [List.drop_eq_getElem_cons (by omega), List.drop_eq_getElem_cons h]
  rfl
theorem stand_loop (w : List Nat) (p : PV) (E : En) (hl : w.length < bnd) (hw : w ≠ [])
    (hE : ∃ o q, E = [some (.val (.str w)), p', some (.val (.str [34])), o, q]) :
    let X := forS (iR1 (aC (e2 subP (eA lenP (aC (ev 0) aN)) (ec (.int 1))) aN)) (bN 3) (ifS (tO (tE (e2 inP (eSl (ev 0) (oS (ev 3)) (oS (e2 addP (ev 3) (ec (.int 2))))) (eA tupP (aC (ec (.str [58, 32])) (aC (ec (.str [32, 35])) aN))))) (tA (tE (e2 inP (e2 ixP (ev 0) (ev 3)) (ec (.str [32, 91, 123, 44])))) (tE (e2 inP (e2 ixP (ev 0) (e2 addP (ev 3) (ec (.int 1)))) (e2 addP (ev 2) (ec (.str [39]))))))) (retS (ec (.bl false))) nxS) E
    if pairs w = true then X = .rt (.bl false) else ∃ o q, X = .nx [some (.val (.str w)), p', some (.val (.str [34])), o, q] := by
  intro X
  have hX : X = forM (bN 3) (ifS (tO (tE (e2 inP (eSl (ev 0) (oS (ev 3)) (oS (e2 addP (ev 3) (ec (.int 2))))) (eA tupP (aC (ec (.str [58, 32])) (aC (ec (.str [32, 35])) aN))))) (tA (tE (e2 inP (e2 ixP (ev 0) (ev 3)) (ec (.str [32, 91, 123, 44])))) (tE (e2 inP (e2 ixP (ev 0) (e2 addP (ev 3) (ec (.int 1)))) (e2 addP (ev 2) (ec (.str [39]))))))) (retS (ec (.bl false))) nxS) ((List.range (w.length - 1)).map fun i => .int (i : Nat)) E := by
    obtain ⟨o, q, rfl⟩ := hE
    have h0 : 0 < w.length := List.length_pos_iff.mpr hw
    have h1 : ((w.length : Int) - 1).toNat = w.length - 1 := by omega
    have h2 : -1000000 ≤ (w.length : Int) - 1 ∧ (w.length : Int) - 1 ≤ 1000000 := by unfold bnd at hl; omega
    show forS _ _ _ _ = _
    unfold forS iR1
    simp only [v_aC, v_aN, v_e2, v_eA, v_ev, v_ec, List.getElem?_cons_zero, v_slv, R.bind_ok, v_len_str, R.of_some, subP, rangeI1]
    rw [if_pos h2, h1]
    simp
  rw [hX, ← pairs_range]
  have := for_find (b := bN 3) (f := (ifS (tO (tE (e2 inP (eSl (ev 0) (oS (ev 3)) (oS (e2 addP (ev 3) (ec (.int 2))))) (eA tupP (aC (ec (.str [58, 32])) (aC (ec (.str [32, 35])) aN))))) (tA (tE (e2 inP (e2 ixP (ev 0) (ev 3)) (ec (.str [32, 91, 123, 44])))) (tE (e2 inP (e2 ixP (ev 0) (e2 addP (ev 3) (ec (.int 1)))) (e2 addP (ev 2) (ec (.str [39]))))))) (retS (ec (.bl false))) nxS)) (g := fun i : Nat => PV.int (i : Nat)) (bad := badAt w) (z := .bl false) (I := fun E => ∃ o q, E = [some (.val (.str w)), p', some (.val (.str [34])), o, q]) (List.range (w.length - 1)) E hE ?_
  · split at this
    · rename_i h; rw [if_pos h]; exact this
    · rename_i h; rw [if_neg h]
      obtain ⟨E', ⟨o, q, rfl⟩, e⟩ := this
      exact ⟨o, q, e⟩
  · rintro k hk E ⟨o, q, rfl⟩
    have hk : k + 1 < w.length := by have := List.mem_range.mp hk; omega
    obtain ⟨a, b, e1, e2, e3⟩ := two_at hk
    refine ⟨_, rfl, ⟨_, _, rfl⟩, ?_⟩
    rw [ifS_t (b := badAt w k)]
    · simp
    · unfold badAt
      rw [e1]
      show _ = R.ok (badP a b)
      rw [show badP a b = (((a == 58 && b == 32) || (a == 32 && b == 35)) || (openers.contains a && [34, 39].contains b)) from (Bool.or_assoc _ _ _).symm]
      simp only [bN, List.set_cons_succ, List.set_cons_zero]
      refine tO_t ?_ fun _ => tA_t ?_ fun _ => ?_
      · have e4 : cut w (some (k : Int)) (some ((k : Int) + 2)) = [a, b] := by
          rw [show ((k : Int) + 2) = ((k + 2 : Nat) : Int) from by omega, cut_mid, show k + 2 - k = 2 by omega, e1]
        simp only [v_tE, v_e2, v_eSl, v_ev, v_ec, v_oN, v_oS, v_eA, v_aC, v_aN, List.getElem?_cons_zero, List.getElem?_cons_succ, v_slv, R.bind_ok, R.of_some, v_asI, addP, v_slP_str, tupP2, e4, inb2, v_tB]
        congr 1
        simp
      · simp only [v_tE, v_e2, v_ev, v_ec, List.getElem?_cons_zero, List.getElem?_cons_succ, v_slv, R.bind_ok, R.of_some, v_ix_str, atI_nat, e2, Option.map_some]
        unfold inP inB
        simp only [List.isEmpty_cons, infx_one]
        rfl
      · simp only [v_tE, v_e2, v_ev, v_ec, List.getElem?_cons_zero, List.getElem?_cons_succ, v_slv, R.bind_ok, R.of_some, addP]
        rw [show ((k : Int) + 1) = ((k + 1 : Nat) : Int) from by omega]
        simp only [v_ix_str, atI_nat, e3, Option.map_some, R.of_some, R.bind_ok]
        rw [if_pos (by decide)]
        simp only [R.of_some, R.bind_ok]
        unfold inP inB
        simp only [List.isEmpty_cons, infx_one]
        rfl
theorem datas_strs : ∀ l : List (List Nat), datas (l.map PV.str) = true
  | [] => rfl
  | a :: l => by rw [List.map_cons]; simp only [datas, data, Bool.true_and]; exact datas_strs l
theorem deps_strs : ∀ l : List (List Nat), deps (l.map PV.str) = 0
  | [] => rfl
  | a :: l => by rw [List.map_cons]; simp only [deps, dep]; rw [deps_strs l]; rfl
theorem eqP_nil (l : List (List Nat)) : eqP (.lst (l.map .str)) (.lst []) = some (.bl l.isEmpty) := by
  unfold eqP
  rw [if_pos (by unfold eqOk; simp only [data, dep, datas_strs, deps_strs, datas, deps]; rfl)]
  cases l <;> rfl
theorem w_l_stands (w : List Nat) (b : Bool) (hl : w.length < bnd) : F_l_stands [.str w, .bl b] = .ok (.bl (standW w && (!b || w.all fun c => !bracks.contains c))) := by
  unfold F_l_stands m_l_stands
  rw [runF_2, startE_2, set_ (v := .str [34]) (by rfl)]
  cases w with
  | nil => rfl
  | cons c r =>
    obtain ⟨z, hz⟩ := last_cons c r
    rw [guard_ (b := false || ((c == 32) || ((z == 32 || z == 58) || barred.contains c))) (v := .bl false) ?g1 fun _ => rfl]
    rw [guard_ (b := ((c :: r) == [45]) || ((c :: r).take 2 == [45, 32])) (v := .bl false) ?g2 fun _ => rfl]
    simp only [List.replicate, List.set_cons_succ, List.set_cons_zero]
    have lp := stand_loop (p' := some (.val (.bl b))) (c :: r) .non [some (.val (.str (c :: r))), some (.val (.bl b)), some (.val (.str [34])), none, none] hl (by simp) ⟨_, _, rfl⟩
    simp only at lp
    have e1 : (some z == some 32) = (z == 32) := by simp
    have e2 : (some z == some 58) = (z == 58) := by simp
    cases hp : pairs (c :: r) with
    | true =>
      rw [hp] at lp
      rw [seq_rt lp]
      simp only [standW, hz, hp, fin_ite, fin_rt, e1, e2]
      simp
    | false =>
      rw [hp] at lp
      obtain ⟨o, q, lp⟩ := lp
      rw [seq_nx lp]
      rw [ret_ (v := .bl (!b || (c :: r).all fun c => !bracks.contains c)) ?g3]
      · simp only [standW, hz, hp, fin_ite, fin_rt, e1, e2]
        generalize (c == 32) = x4
        generalize (z == 32) = x5
        generalize (z == 58) = x6
        generalize barred.contains c = x7
        generalize ((c :: r).take 2 == [45, 32]) = x8
        generalize ((c :: r) == [45]) = x9
        cases x4 <;> cases x5 <;> cases x7 <;> cases x8 <;> cases x9 <;> cases x6 <;> rfl
      case g3 =>
        have key : eLc (iV (ev 0)) (bN 4) (tE (Sm.e2 inP (ev 4) (ec (.str [44, 91, 93, 123, 125])))) (ev 4) [4] [some (.val (.str (c :: r))), some (.val (.bl b)), some (.val (.str [34])), o, q] = .ok (.lst (((c :: r).filter fun c => bracks.contains c).map fun c => .str [c])) := by
          refine lc_letters (by simp) (by simp) fun c hc => ?_
          simp [wipeE, inP, inB, infx_one, bracks]
        rw [v_eOr, v_eNot]
        simp only [v_ev, List.getElem?_cons_succ, List.getElem?_cons_zero, v_slv, R.bind_ok, truth, R.of_some]
        cases b with
        | false => rfl
        | true =>
          simp only [Bool.not_true, Bool.false_or, Bool.false_eq_true, if_false]
          rw [v_eAnd]
          simp only [v_e2, v_eM, v_ev, v_ec, v_aC, v_aN, v_eA, List.getElem?_cons_zero, v_slv, R.bind_ok, emK_str, v_strF, R.of_some, v_eqP_str, truth]
          rw [key]
          simp only [R.bind_ok]
          rw [show lstP [] = some (.lst []) from rfl]
          simp only [R.of_some, R.bind_ok]
          rw [show ((c :: r).filter fun c => bracks.contains c).map (fun c => PV.str [c]) = (((c :: r).filter fun c => bracks.contains c).map fun c => [c]).map .str from by rw [List.map_map]; rfl, eqP_nil, map_empty, filter_empty]
          by_cases h : ((c :: r).all fun c => !bracks.contains c) = true
          · have e : stripL [44, 91, 93, 123, 125] (c :: r) = c :: r := by
              rw [strip_self]
              have h' := List.all_eq_true.mp h
              refine ⟨?_, fun z hz => ?_⟩
              · have := h' c (by simp); simpa [bracks] using this
              · have := h' z (List.mem_of_getLast? hz); simpa [bracks] using this
            rw [e, h]; simp
          · have h' : ((c :: r).all fun c => !bracks.contains c) = false := by simpa using h
            rw [h']
            split <;> simp_all
    case g1 =>
      refine tO_t (by rfl) fun _ => tO_t ?_ fun _ => tO_t ?_ fun _ => ?_
      · simp
      · simp only [v_tE, v_e2, v_e1, v_ev, v_ec, v_eA, v_aC, v_aN, List.replicate, List.set_cons_succ, List.set_cons_zero, List.getElem?_cons_zero, v_slv, R.bind_ok, negP, R.of_some, v_ix_str, atI_m1, hz, Option.map_some, tupP2, inb2, v_tB]
        congr 1
        simp
      · simp only [v_tE, v_e2, v_ev, v_ec, List.replicate, List.set_cons_succ, List.set_cons_zero, List.getElem?_cons_zero, List.getElem?_cons_succ, v_slv, R.bind_ok, R.of_some, v_ix_str, atI_0, List.head?_cons, Option.map_some, addP]
        rw [if_pos (by decide)]
        simp only [R.of_some, R.bind_ok]
        unfold inP inB
        simp only [List.isEmpty_cons, infx_one]
        rfl
    case g2 =>
      refine tO_t ?_ fun _ => ?_
      · simp
      · simp
end Sm
set_option Elab.async false
set_option linter.all false
set_option maxRecDepth 100000
set_option maxHeartbeats 1000000
namespace Sm
open PySem PySem.Spec PyProof.Rows L2
theorem for_all {α : Type} {b : PV → En → Option En} {f : En → Res} {g : α → PV} {I : En → Prop} :
    ∀ (l : List α) (E : En), I E → (∀ a ∈ l, ∀ E, I E → ∃ E2 E3, b (g a) E = some E2 ∧ f E2 = .nx E3 ∧ I E3) → ∃ E', I E' ∧ forM b f (l.map g) E = .nx E'
  | [], E, hE, _ => ⟨E, hE, rfl⟩
  | a :: l, E, hE, h => by
    obtain ⟨E2, E3, h1, h2, h3⟩ := h a (by simp) E hE
    obtain ⟨E', q1, q2⟩ := for_all l E3 h3 fun a' ha => h a' (by simp [ha])
    refine ⟨E', q1, ?_⟩
    rw [List.map_cons, forM, h1]
    simp only [h2]
    exact q2
theorem mulP_r (i j : Int) (h : -(2 ^ 64) < j ∧ j < 2 ^ 64) : mulP (.int i) (.int j) = some (.int (i * j)) := if_pos (.inr h)
theorem mulP_l (i j : Int) (h : -(2 ^ 64) < i ∧ i < 2 ^ 64) : mulP (.int i) (.int j) = some (.int (i * j)) := if_pos (.inl h)
theorem modP_ (i j : Int) (h : 0 < j) : modP (.int i) (.int j) = some (.int (i % j)) := if_pos h
theorem divP_ (i j : Int) (h : 0 < j ∧ j < 1073741824) : divP (.int i) (.int j) = some (.int (i / j)) := if_pos h
theorem v_add_int (i j : Int) : addP (.int i) (.int j) = some (.int (i + j)) := rfl
theorem powP_ (i : Int) (j : Nat) (h : j ≤ 1000000 ∧ i.natAbs < 2 ^ 64) : powP (.int i) (.int j) = some (.int (i ^ j)) := by
  show (if _ then _ else _) = _
  rw [if_pos ⟨by omega, by omega, h.2⟩]; simp
def seedN (a k : Int) : Int := ((a * 1103515245 + 7919 * k + 12345) % 2147483647) ^ 5 % 2147483647
theorem seedN_nn (a k : Int) : 0 ≤ seedN a k := Int.emod_nonneg _ (by decide)
theorem w_l_seed (a k : Int) : F_l_seed [.int a, .int k] = .ok (.int (seedN a k)) := by
  unfold F_l_seed m_l_seed
  have h1 : 0 ≤ (a * 1103515245 + 7919 * k + 12345) % 2147483647 := Int.emod_nonneg _ (by decide)
  have h2 : (a * 1103515245 + 7919 * k + 12345) % 2147483647 < 2147483647 := Int.emod_lt_of_pos _ (by decide)
  rw [runF_2, startE_2, ret_ (v := .int (seedN a k))]; rfl
  simp only [v_e2, v_ev, v_ec, List.replicate, List.getElem?_cons_zero, List.getElem?_cons_succ, v_slv, R.bind_ok]
  rw [mulP_r _ _ (by decide), mulP_l _ _ (by decide)]
  simp only [R.of_some, R.bind_ok, v_add_int]
  rw [modP_ _ _ (by decide)]
  simp only [R.of_some, R.bind_ok]
  rw [show (PV.int 5) = .int (5 : Nat) from rfl, powP_ _ 5 ⟨by decide, by omega⟩]
  simp only [R.of_some, R.bind_ok]
  rw [modP_ _ _ (by decide)]; rfl
theorem w_l_cell (ns : List Int) (j : Nat) : ∃ x, F_l_cell [.scr ns, .int j] = .ok (.int x) := by
  unfold F_l_cell m_l_cell
  rw [runF_2, startE_2]
  by_cases h : j < ns.length
  · rw [guard_ (b := true) (v := .int ns[j])]
    · exact ⟨_, rfl⟩
    · have h' : (j : Int) < (ns.length : Int) := by omega
      simp [lenP, h']
    · intro _
      simp [atI_nat, h]
  · rw [guard_ (b := false) (v := .int 0)]
    · exact ⟨0, rfl⟩
    · have h' : ¬ (j : Int) < (ns.length : Int) := by omega
      simp [lenP, h']
    · intro h; cases h
def marksL : List Nat := [32, 33, 34, 35, 36, 38, 39, 40, 41, 42, 43, 44, 45, 46, 47, 58, 59, 60, 61, 62, 63, 64, 91, 92, 93, 94, 95, 96, 123, 124, 125, 126, 48, 49, 50, 51, 52, 53, 54, 55, 56, 57, 65, 66, 67, 68, 69, 70, 71, 72, 73, 74, 75, 76, 77, 78, 79, 80, 81, 82, 83, 84, 85, 86, 87, 88, 89, 90, 97, 98, 99, 100, 101, 102, 103, 104, 105, 106, 107, 108, 109, 110, 111, 112, 113, 114, 115, 116, 117, 118, 119, 120, 121, 122]
theorem w_l_plain : F_l_plain [] = .ok (.str marksL) := by rfl
def sA : List Nat := [126, 124, 110, 117, 108, 108, 124, 116, 114, 117, 101, 124, 102, 97, 108, 115, 101, 124, 48, 124, 45, 48, 124, 45, 53, 124, 48, 48, 55, 124, 49, 50, 124, 49, 50, 51, 52, 53, 54, 55, 56, 57, 48, 49, 50, 51, 124, 97, 124, 121, 101, 115, 124, 79, 110, 124, 49, 46, 53, 124, 43, 49, 124, 97, 32, 98, 124, 97, 58, 32, 98, 124, 97, 58, 98, 124, 120, 32, 35, 121, 124, 120, 35, 121, 124, 105, 116, 39, 115, 124, 45, 32, 97]
def sB : List Nat := [124, 45, 124, 45, 97, 124, 91, 97, 124, 97, 93, 124, 97, 44, 98, 124, 123, 124, 97, 32, 39, 98, 124, 97, 44, 39, 98, 124, 39, 113, 39, 124, 38, 97, 124, 42, 97, 124, 62, 124, 64, 124, 63, 120, 124, 58, 120, 124, 33, 120, 124, 110, 124, 78, 124, 105, 110, 102, 124, 45, 105, 110, 102, 124, 46, 53, 124, 46, 46, 51, 124, 97, 58, 124, 97, 32, 124, 32, 97]
def sC : List Nat := [124, 57, 57, 57, 57, 57, 57, 57, 57, 57, 57, 57, 57, 124, 45, 57, 57, 57, 57, 57, 57, 57, 57, 57, 57, 57, 57, 124, 84, 114, 117, 101, 124, 78, 85, 76, 76, 124, 45, 43, 46, 55, 122, 124, 97, 44, 32, 98, 124, 125, 124, 97, 45, 124, 35]
def wordsL : List (List Nat) := TL.spl [124] 0 [] (sA ++ sB ++ sC) ++ [[], [124], [34, 113], [97, 91, 34]]
def goodW (w : List Nat) : Bool := w.all plC && decide (w.length ≤ 100)
theorem words_good : wordsL.all goodW = true := by decide +kernel
theorem words_len : 0 < wordsL.length ∧ wordsL.length < 100 := by decide +kernel
theorem strsOf_strs : ∀ l : List (List Nat), strsOf (l.map PV.str) = some l
  | [] => rfl
  | a :: l => by rw [List.map_cons, strsOf, strsOf_strs l]; rfl
theorem joinL_nil : ∀ l : List Nat, TL.joinL [] (l.map fun c => [c]) = l
  | [] => rfl
  | [c] => rfl
  | c :: d :: r => by
    have ih := joinL_nil (d :: r)
    show [c] ++ ([] ++ TL.joinL [] ((d :: r).map fun c => [c])) = _
    rw [ih]; rfl
theorem sum_ones : ∀ l : List Nat, ((l.map fun c => [c]).map (·.length)).sum = l.length
  | [] => rfl
  | c :: r => by rw [List.map_cons, List.map_cons, List.sum_cons, sum_ones r]; simp; omega
theorem join_ones {α : Type} (f : α → Nat) (l : List α) (h : l.length ≤ 1000) : joinF [] [.lst ((l.map fun i => [f i]).map .str)] = some (.str (l.map f)) := by
  show ((strsOf ((l.map fun i => [f i]).map .str)).bind fun l => if (TL.joinL [] l).length < bnd ∧ (l.map (·.length)).sum + l.length * ([] : List Nat).length ≤ 16777216 then some (PV.str (TL.joinL [] l)) else none) = _
  rw [strsOf_strs]
  rw [show (l.map fun i => [f i]) = (l.map f).map fun c => [c] from by rw [List.map_map]; rfl]
  simp only [Option.bind_some, joinL_nil, sum_ones]
  rw [if_pos]
  constructor
  · simp [bnd]; omega
  · simp; omega
theorem marks_all : marksL.all plC = true := by decide +kernel
theorem marks_plain (i : Nat) : plC (marksL.getD i 32) = true := by
  by_cases h : i < marksL.length
  · rw [List.getD_eq_getElem?_getD, List.getElem?_eq_getElem h]
    exact List.all_eq_true.mp marks_all _ (List.getElem_mem _)
  · rw [List.getD_eq_getElem?_getD, List.getElem?_eq_none (by omega)]
    decide +kernel
theorem w_l_some_word (n : Int) (hn : 0 ≤ n) : ∃ w, F_l_some_word [.int n] = .ok (.str w) ∧ goodW w = true := by
  unfold F_l_some_word m_l_some_word
  rw [runF_1, startE_1]
  rw [set_ (v := .str [34]) (by rfl), set_ (v := .str sA) (by rfl), set_ (v := .str (sA ++ sB)) (by rfl)]
  rw [set_ (v := .lst ((TL.spl [124] 0 [] (sA ++ sB ++ sC)).map .str)) (by rfl)]
  rw [set_ (v := .lst (wordsL.map .str))]
  · simp only [List.replicate, List.set_cons_succ, List.set_cons_zero]
    obtain ⟨l0, l1⟩ := words_len
    have i0 : 0 ≤ n / 7 % (wordsL.length : Int) := Int.emod_nonneg _ (by omega)
    have i1 : n / 7 % (wordsL.length : Int) < wordsL.length := Int.emod_lt_of_pos _ (by omega)
    obtain ⟨j, hj⟩ := Int.eq_ofNat_of_zero_le i0
    have hj2 : j < wordsL.length := by omega
    rw [guard_ (b := decide (n / 5 % 4 > 0)) (v := .str wordsL[j])]
    · by_cases c : n / 5 % 4 > 0
      · rw [if_pos (by simpa using c)]
        exact ⟨_, rfl, List.all_eq_true.mp words_good _ (List.getElem_mem _)⟩
      · rw [if_neg (by simpa using c)]
        have m0 : 0 ≤ n / 11 % 9 := Int.emod_nonneg _ (by decide)
        have m1 : n / 11 % 9 < 9 := Int.emod_lt_of_pos _ (by decide)
        have key : eLc (iR1 (aC (e2 modP (e2 divP (ev 0) (ec (.int 11))) (ec (.int 9))) aN)) (bN 4) tY (e2 ixP (fun _ => noEx (F_l_plain [])) (e2 modP (e2 divP (eF F_l_seed (aC (ev 0) (aC (ev 4) aN))) (ec (.int 7))) (ec (.int 94)))) [4] [some (.val (.int n)), some (.val (.str [34])), some (.val (.str (sA ++ sB))), some (.val (.lst (wordsL.map .str))), none] =
            .ok (.lst (((List.range (n / 11 % 9).toNat).map fun i : Nat => [marksL.getD (seedN n (0 + (i : Int)) / 7 % 94).toNat 32]).map .str)) := by
          unfold eLc iR1
          simp only [v_aC, v_aN, v_e2, v_ev, v_ec, List.getElem?_cons_zero, v_slv, R.bind_ok]
          rw [divP_ _ _ (by decide)]
          simp only [R.of_some, R.bind_ok]
          rw [modP_ _ _ (by decide)]
          simp only [R.of_some, R.bind_ok, rangeI1]
          rw [if_pos (by omega)]
          simp only [R.of_some, R.bind_ok]
          rw [compM_map (g := fun i : Nat => PV.int (0 + (i : Int))) (h := fun i : Nat => some (.str [marksL.getD (seedN n (0 + (i : Int)) / 7 % 94).toNat 32]))]
          · simp [List.map_map]
          · intro i hi
            unfold lcB bN wipeE wipeE
            simp only [R.of_some, R.bind_ok, tY, noEx_ok, if_true, v_e2, w_l_plain, v_eF, v_aC, v_aN, v_ev, v_ec, List.set_cons_succ, List.set_cons_zero, List.getElem?_cons_succ, List.getElem?_cons_zero, v_slv, w_l_seed]
            rw [divP_ _ _ (by decide)]
            simp only [R.of_some, R.bind_ok]
            rw [modP_ _ _ (by decide)]
            simp only [R.of_some, R.bind_ok, v_ix_str]
            have k0 : 0 ≤ seedN n (0 + (i : Int)) / 7 % 94 := Int.emod_nonneg _ (by decide)
            have k1 : seedN n (0 + (i : Int)) / 7 % 94 < 94 := Int.emod_lt_of_pos _ (by decide)
            obtain ⟨t, ht⟩ := Int.eq_ofNat_of_zero_le k0
            rw [ht]
            have ht2 : t < marksL.length := by rw [show marksL.length = 94 from by decide]; omega
            rw [atI_nat]
            simp [ht2]
        refine ⟨((List.range (n / 11 % 9).toNat).map fun i : Nat => marksL.getD (seedN n (0 + (i : Int)) / 7 % 94).toNat 32), ?_, ?_⟩
        · rw [ret_ (v := .str ((List.range (n / 11 % 9).toNat).map fun i : Nat => marksL.getD (seedN n (0 + (i : Int)) / 7 % 94).toNat 32)) ?_]; rfl
          simp only [v_eM, v_ec, R.bind_ok, emK_str, v_aC, v_aN]
          rw [key]
          simp only [R.bind_ok]
          rw [join_ones]
          · rfl
          · simp; omega
        · unfold goodW
          rw [Bool.and_eq_true]
          constructor
          · refine List.all_eq_true.mpr fun c hc => ?_
            obtain ⟨i, _, rfl⟩ := List.mem_map.mp hc
            exact marks_plain _
          · simp; omega
    · simp only [v_tE, v_e2, v_ev, v_ec, List.getElem?_cons_zero, v_slv, R.bind_ok]
      rw [divP_ _ _ (by decide)]
      simp only [R.of_some, R.bind_ok]
      rw [modP_ _ _ (by decide)]
      simp
    · intro _
      simp only [v_e2, v_ev, v_ec, v_eA, v_aC, v_aN, List.getElem?_cons_zero, List.getElem?_cons_succ, v_slv, R.bind_ok]
      rw [divP_ _ _ (by decide)]
      simp only [R.of_some, R.bind_ok]
      rw [show lenP [PV.lst (wordsL.map .str)] = some (.int wordsL.length) from by simp [lenP]]
      simp only [R.of_some, R.bind_ok]
      rw [modP_ _ _ (by omega)]
      simp only [R.of_some, R.bind_ok, v_ix_lst, hj]
      rw [atI_nat]
      simp [hj2]
  · rfl
end Sm
set_option Elab.async false
set_option linter.all false
set_option maxRecDepth 100000
set_option maxHeartbeats 1000000
namespace Sm
open PySem PySem.Spec PyProof.Rows L2
theorem ne_worth (w : List Nat) : neP (worthW w) (worthW w) = some (.bl false) := by
  unfold worthW
  split
  · rfl
  split
  · unfold neP; rw [if_pos (by rfl)]; simp [eqb, eqbs]
  · cases numO w with
    | none => show (if _ then _ else _) = _; rw [if_pos (by rfl)]; simp [eqb, eqbs]
    | some n => show (if _ then _ else _) = _; rw [if_pos (by rfl)]; simp [eqb, eqbs]
theorem w_l_as (a b : Bool) : F_l_as [.bl a, .bl b] = .ok (.bl (a == b)) := by
  unfold F_l_as m_l_as
  rw [runF_2, startE_2, ret_ (v := .bl (a == b))]; rfl
  rw [v_eAnd]
  simp only [v_e1, v_e2, v_ev, List.getElem?_cons_zero, List.getElem?_cons_succ, v_slv, R.bind_ok]
  rw [show isI "bool" (.bl a) = some (.bl true) from rfl]
  simp only [R.of_some, R.bind_ok, truth, if_true, v_eqP_bl]
theorem w_l_stands0 (w : List Nat) (hl : w.length < bnd) : F_l_stands [.str w, .bl false] = .ok (.bl (standW w)) := by rw [w_l_stands w false hl]; simp
theorem w_l_stands1 (w : List Nat) (hl : w.length < bnd) : F_l_stands [.str w, .bl true] = .ok (.bl (withinW w)) := by rw [w_l_stands w true hl]; simp [withinW]
theorem law_true (ns : List Int) (hn : ns.length ≤ 63) : F_law [.scr ns] = .ok (.bl true) := by
  unfold F_law m_law
  rw [runF_1, startE_1]
  rw [seqS_eq]
  obtain ⟨E', hE, e⟩ := for_all (b := bN 1) (f := (seqS (setS 2 (eF F_l_some_word (aC (eF F_l_seed (aC (e2 addP (eF F_l_cell (aC (ev 0) (aC (e2 modP (ev 1) (ec (.int 4))) aN))) (e2 mulP (ec (.int 41)) (ev 1))) (aC (ev 1) aN))) aN)))
    (seqS (ifS (tO (tE (e2 neP (eF F_word_worth (aC (ev 2) aN)) (eF F_l_word_worth (aC (ev 2) aN)))) (tN (tV (eF F_l_as (aC (eF F_is_doubtful (aC (ev 2) aN)) (aC (eF F_l_doubtful (aC (ev 2) aN)) aN)))))) (retS (ec (.bl false))) nxS)
    (seqS (ifS (tN (tV (eF F_l_as (aC (eF F_can_stand (aC (ev 2) aN)) (aC (eF F_l_stands (aC (ev 2) (aC (ec (.bl false)) aN))) aN))))) (retS (ec (.bl false))) nxS)
    (ifS (tN (tV (eF F_l_as (aC (eF F_can_stand_within (aC (ev 2) aN)) (aC (eF F_l_stands (aC (ev 2) (aC (ec (.bl true)) aN))) aN))))) (retS (ec (.bl false))) nxS)))))
    (g := fun i : Nat => PV.int (0 + (i : Int))) (I := fun E => ∃ o q, E = [some (.val (.scr ns)), o, q]) (List.range 12) [some (.val (.scr ns)), none, none] ⟨_, _, rfl⟩ (by
      rintro k hk E ⟨o, q, rfl⟩
      obtain ⟨x, hx⟩ := w_l_cell ns (k % 4)
      obtain ⟨w, hw, hg⟩ := w_l_some_word (seedN (x + 41 * (0 + (k : Int))) (0 + (k : Int))) (seedN_nn _ _)
      unfold goodW at hg
      rw [Bool.and_eq_true] at hg
      obtain ⟨hp, hl⟩ := hg
      have hl : w.length < bnd := by have := of_decide_eq_true hl; unfold bnd; omega
      refine ⟨[some (.val (.scr ns)), some (.val (.int (0 + (k : Int)))), q], [some (.val (.scr ns)), some (.val (.int (0 + (k : Int)))), some (.val (.str w))], rfl, ?_, ⟨_, _, rfl⟩⟩
      rw [set_ (v := .str w)]
      · simp only [List.set_cons_succ, List.set_cons_zero]
        rw [guard_ (b := false) (v := .bl false) ?g1 fun h => by cases h]
        rw [if_neg (by decide), guard_ (b := false) (v := .bl false) ?g2 fun h => by cases h]
        rw [if_neg (by decide), ifS_t (b := false) ?g3]
        · rfl
        case g1 =>
          refine tO_t (a := false) (b := false) ?_ fun _ => ?_
          · simp only [v_tE, v_e2, v_eF, v_aC, v_aN, v_ev, List.getElem?_cons_zero, List.getElem?_cons_succ, v_slv, R.bind_ok, w_word_worth, w_l_word_worth, ne_worth, R.of_some, v_tB]
          · simp only [v_tN, v_tV, v_eF, v_aC, v_aN, v_ev, List.getElem?_cons_zero, List.getElem?_cons_succ, v_slv, R.bind_ok, w_is_doubtful, w_l_doubtful, w_l_as, beq_self_eq_true, truth, R.of_some]
            rfl
        case g2 =>
          simp only [v_tN, v_tV, v_eF, v_aC, v_aN, v_ev, v_ec, List.getElem?_cons_zero, List.getElem?_cons_succ, v_slv, R.bind_ok, w_can_stand w hp hl, w_l_stands0 w hl, w_l_as, beq_self_eq_true, truth, R.of_some]
          rfl
        case g3 =>
          simp only [v_tN, v_tV, v_eF, v_aC, v_aN, v_ev, v_ec, List.getElem?_cons_zero, List.getElem?_cons_succ, v_slv, R.bind_ok, w_can_stand_within w hp hl, w_l_stands1 w hl, w_l_as, beq_self_eq_true, truth, R.of_some]
          rfl
      · simp only [v_eF, v_e2, v_aC, v_aN, v_ev, v_ec, List.getElem?_cons_zero, List.getElem?_cons_succ, v_slv, R.bind_ok]
        rw [modP_ _ _ (by decide), mulP_l _ _ (by decide)]
        simp only [R.of_some, R.bind_ok]
        rw [show (0 + (k : Int)) % 4 = ((k % 4 : Nat) : Int) from by omega, hx]
        simp only [R.of_some, R.bind_ok, v_add_int, w_l_seed, hw])
  have hf : forS (iR1 (aC (ec (.int 12)) aN)) (bN 1) (seqS (setS 2 (eF F_l_some_word (aC (eF F_l_seed (aC (e2 addP (eF F_l_cell (aC (ev 0) (aC (e2 modP (ev 1) (ec (.int 4))) aN))) (e2 mulP (ec (.int 41)) (ev 1))) (aC (ev 1) aN))) aN)))
    (seqS (ifS (tO (tE (e2 neP (eF F_word_worth (aC (ev 2) aN)) (eF F_l_word_worth (aC (ev 2) aN)))) (tN (tV (eF F_l_as (aC (eF F_is_doubtful (aC (ev 2) aN)) (aC (eF F_l_doubtful (aC (ev 2) aN)) aN)))))) (retS (ec (.bl false))) nxS)
    (seqS (ifS (tN (tV (eF F_l_as (aC (eF F_can_stand (aC (ev 2) aN)) (aC (eF F_l_stands (aC (ev 2) (aC (ec (.bl false)) aN))) aN))))) (retS (ec (.bl false))) nxS)
    (ifS (tN (tV (eF F_l_as (aC (eF F_can_stand_within (aC (ev 2) aN)) (aC (eF F_l_stands (aC (ev 2) (aC (ec (.bl true)) aN))) aN))))) (retS (ec (.bl false))) nxS)))) [some (.val (.scr ns)), none, none] = .nx E' := e
  simp only [List.replicate]
  rw [hf]
  rfl
end Sm
theorem PySem.Challenge.cw_indentbook_k01_words_holds : PySem.Challenge.rw_indentbook_k01_words.Holds := by
  exact Sm.law_holds Sm.law_true
