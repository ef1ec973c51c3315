import PyProof.Rows.All
import Wide.All
import OpenK.AllK
import Wide.FinOn
import HandS.ForMost
import HandS.EndBits
import HandS.WideBits
import HandS.IsInst
import HandS.TupAny
import HandS.More
import HandS.Flow
import HandS.Defaults
import HandS.SortInts
import HandS.Conv
import HandS.WordsExc
import HandS.HeadHook2
import HandS.SortRule
import HandS.NamedTupSort
import KE.KStateDown
import Lean
import HandS.Base
import HandS.Call
import HandS.Ends
import HandS.Words
import HandS.Head0
import HandS.Head1
import HandS.Head2
import HandS.HeadEnd
import HandS.HeadHook1
import HandS.List
import HandS.HeadWalk
import PySem.Challenge.RW_kilnwarden_k64_best_paths
set_option Elab.async false
set_option linter.all false
set_option maxRecDepth 100000
/-! Readings, closed under more slots and more objects: Go for blocks, Ev for expressions. -/
namespace Kw
open PySem PySem.Spec PyProof.Rows L2

abbrev Sl := L2.St
/-- the second slots hold what the first ones hold, and perhaps more -/
inductive Sx : Sl → Sl → Prop
  | nil : Sx [] []
  | any {x : Option V} {r q : Sl} (h : Sx r q) : Sx (none :: r) (x :: q)
  | eq {x : Option V} {r q : Sl} (h : Sx r q) : Sx (x :: r) (x :: q)
theorem Sx.refl : ∀ σ : Sl, Sx σ σ
  | [] => .nil
  | _ :: r => .eq (Sx.refl r)
theorem Sx.trans {a b c : Sl} (h : Sx a b) (g : Sx b c) : Sx a c := by
  induction h generalizing c with
  | nil => exact g
  | any _ ih => cases g with
    | any g => exact .any (ih g)
    | eq g => exact .any (ih g)
  | eq _ ih => cases g with
    | any g => exact .any (ih g)
    | eq g => exact .eq (ih g)
theorem Sx.get {a b : Sl} (h : Sx a b) : ∀ {i : Nat} {v : V}, a[i]? = some (some v) → b[i]? = some (some v) := by
  induction h with
  | nil => intro i v e; exact e
  | any _ ih => intro i v e; cases i with
    | zero => simp at e
    | succ i => simpa using ih (by simpa using e)
  | eq _ ih => intro i v e; cases i with
    | zero => simpa using e
    | succ i => simpa using ih (by simpa using e)
theorem Sx.set {a b : Sl} (h : Sx a b) : ∀ (i : Nat) (x : Option V), Sx (a.set i x) (b.set i x) := by
  induction h with
  | nil => intro i x; exact .nil
  | any h ih => intro i x; cases i with
    | zero => exact .eq h
    | succ i => exact .any (ih i x)
  | eq h ih => intro i x; cases i with
    | zero => exact .eq h
    | succ i => exact .eq (ih i x)
theorem Sx.wipe {a b : Sl} (h : Sx a b) : ∀ vs : List Nat, Sx (L2.wipe a vs) (L2.wipe b vs)
  | [] => h
  | v :: vs => (Sx.wipe h vs).set v none
theorem Sx.len {a b : Sl} (h : Sx a b) : a.length = b.length := by
  induction h with
  | nil => rfl
  | any _ ih => simp [ih]
  | eq _ ih => simp [ih]

theorem same_new {H : Hp} {p : Addr} {o : HO} (h : H p = none) : Same H (upd H p o) := fun b u e => by
  rw [upd_ne (ne_of_none e h)]; exact e
theorem same_upd {H H1 : Hp} {p : Addr} {o : HO} (s : Same H H1) : Same (upd H p o) (upd H1 p o) := fun b u e => by
  by_cases hb : b = p
  · subst hb; rw [upd_same] at e ⊢; exact e
  · rw [upd_ne hb] at e ⊢; exact s b u e
/-- what a later store at p does not touch -/
theorem same_mut {H H1 : Hp} {p : Addr} {o : HO} (s : Same H H1) (h : H p = none) : Same H (upd H1 p o) := fun b u e => by
  rw [upd_ne (ne_of_none e h)]; exact s b u e
theorem same_rd {H H1 : Hp} {a : Addr} {u : HO} (s : Same H H1) (h : Rd H a u) : Rd H1 a u := by
  rcases h with h | ⟨o, h⟩
  · exact .inl (s _ _ h)
  · exact .inr ⟨o, s _ _ h⟩
theorem same_l {K : PySem.W.Frag} {H H1 : Hp} {a : Addr} {xs : List V} (s : Same H H1) (h : SqL K H a xs) : SqL K H1 a xs := s.seq h
theorem same_t {K : PySem.W.Frag} {H H1 : Hp} {a : Addr} {xs : List V} (s : Same H H1) (h : SqT K H a xs) : SqT K H1 a xs := by
  rcases h with h | h
  · exact .inl (same_rd s h)
  · exact .inr h
theorem sz_le {n : Nat} (h : n ≤ 2000000) : n ≤ sizeLine := Nat.le_trans h (by decide)
theorem sz_lt {n : Nat} (h : n < 2000000) : n < sizeLine := Nat.lt_of_lt_of_le h (by decide)

/-! ### expressions -/
def Ev (te : TE) (σ : Sl) (H : Hp) (v : V) : Prop := ∀ τ H1, Sx σ τ → Same H H1 → ∀ Q : VK, (∀ H2, Same H1 H2 → Q v H2) → te τ H1 Q
def EvR (te : TE) (σ : Sl) (H : Hp) (R : V → Hp → Prop) : Prop := ∀ τ H1, Sx σ τ → Same H H1 → ∀ Q : VK, (∀ v H2, Same H1 H2 → R v H2 → Q v H2) → te τ H1 Q
/-- a new object -/
def EvN (te : TE) (σ : Sl) (H : Hp) (o : HO) : Prop := ∀ τ H1, Sx σ τ → Same H H1 → ∀ Q : VK, (∀ p H2, H1 p = none → Same (upd H1 p o) H2 → Q (.ref p) H2) → te τ H1 Q
def EvT (tt : TT) (σ : Sl) (H : Hp) (b : Bool) : Prop := ∀ τ H1, Sx σ τ → Same H H1 → ∀ Q : Bool → Hp → Prop, (∀ H2, Same H1 H2 → Q b H2) → tt τ H1 Q
def EvA (ta : TA) (σ : Sl) (H : Hp) (vs : List V) : Prop := ∀ τ H1, Sx σ τ → Same H H1 → ∀ Q : List V → Hp → Prop, (∀ H2, Same H1 H2 → Q vs H2) → ta τ H1 Q
def EvAR (ta : TA) (σ : Sl) (H : Hp) (R : List V → Hp → Prop) : Prop := ∀ τ H1, Sx σ τ → Same H H1 → ∀ Q : List V → Hp → Prop, (∀ vs H2, Same H1 H2 → R vs H2 → Q vs H2) → ta τ H1 Q
def EvO (to : TO) (σ : Sl) (H : Hp) (o : Option Int) : Prop := ∀ τ H1, Sx σ τ → Same H H1 → ∀ Q : Option Int → Hp → Prop, (∀ H2, Same H1 H2 → Q o H2) → to τ H1 Q
/-- a list, a tuple that stands -/
def IsL (xs : List V) (v : V) (H : Hp) : Prop := ∃ p, v = .ref p ∧ H p = some (.lst xs)
def IsT (K : PySem.W.Frag) (xs : List V) (v : V) (H : Hp) : Prop := ∃ p, v = .ref p ∧ SqT K H p xs
def IsQ (K : PySem.W.Frag) (xs : List V) (v : V) (H : Hp) : Prop := ∃ p, v = .ref p ∧ SqL K H p xs

section
variable {K : PySem.W.Frag} {σ : Sl} {H H' : Hp} {ta tb tc te tx : TE} {t u : TT} {x y z v : V} {r : R2} {xs ys : List V} {a p : Addr}
theorem Ev.mono (s : Same H H') (h : Ev te σ H v) : Ev te σ H' v := fun τ H1 sx e Q q => h τ H1 sx (s.trans e) Q q
theorem EvT.mono {b : Bool} (s : Same H H') (h : EvT t σ H b) : EvT t σ H' b := fun τ H1 sx e Q q => h τ H1 sx (s.trans e) Q q
theorem EvR.mono {R : V → Hp → Prop} (s : Same H H') (h : EvR te σ H R) : EvR te σ H' R := fun τ H1 sx e Q q => h τ H1 sx (s.trans e) Q q
theorem Ev.is {w : V} (h : Ev te σ H v) (e : v = w) : Ev te σ H w := e ▸ h
theorem EvT.is {b c : Bool} (h : EvT t σ H b) (e : b = c) : EvT t σ H c := e ▸ h
theorem Ev.rr (h : Ev te σ H v) : EvR te σ H (fun w _ => w = v) := fun τ H1 sx e Q q => h τ H1 sx e Q fun H2 e2 => q v H2 e2 rfl
theorem Ev.q (h : Ev te σ H (.ref a)) (hs : SqL K H a xs) : EvR te σ H (IsQ K xs) := fun τ H1 sx e Q q => h τ H1 sx e Q fun H2 e2 => q _ H2 e2 ⟨a, rfl, same_l (e.trans e2) hs⟩
theorem Ev.l (h : Ev te σ H (.ref a)) (hs : H a = some (.lst xs)) : EvR te σ H (IsL xs) := fun τ H1 sx e Q q => h τ H1 sx e Q fun H2 e2 => q _ H2 e2 ⟨a, rfl, (e.trans e2) _ _ hs⟩
theorem Ev.tt (h : Ev te σ H (.ref a)) (hs : SqT K H a xs) : EvR te σ H (IsT K xs) := fun τ H1 sx e Q q => h τ H1 sx e Q fun H2 e2 => q _ H2 e2 ⟨a, rfl, same_t (e.trans e2) hs⟩
theorem EvR.lq (h : EvR te σ H (IsL xs)) : EvR te σ H (IsQ K xs) := fun τ H1 sx e Q q => h τ H1 sx e Q fun w H2 e2 ⟨p, e3, h3⟩ => q w H2 e2 ⟨p, e3, SqL.of h3⟩
theorem EvN.l (h : EvN te σ H (.lst xs)) : EvR te σ H (IsL xs) := fun τ H1 sx e Q q => h τ H1 sx e Q fun p H2 hp e2 => q _ H2 ((same_new hp).trans e2) ⟨p, rfl, e2 _ _ upd_same⟩
theorem EvN.q (h : EvN te σ H (.lst xs)) : EvR te σ H (IsQ K xs) := (EvN.l h).lq
theorem EvN.tt (h : EvN te σ H (.tup xs)) : EvR te σ H (IsT K xs) := fun τ H1 sx e Q q => h τ H1 sx e Q fun p H2 hp e2 => q _ H2 ((same_new hp).trans e2) ⟨p, rfl, SqT.of (e2 _ _ upd_same)⟩

theorem ev_var {i : Nat} (h : σ[i]? = some (some v)) : Ev (tVar i) σ H v := fun τ H1 sx _ _ q => ⟨v, sx.get h, q H1 (Same.refl H1)⟩
theorem ev_c : Ev (tC v) σ H v := fun τ H1 _ _ _ q => q H1 (Same.refl H1)
def RV (r : R2) (x y : V) (H : Hp) (z : V) : Prop := ∀ H1, Same H H1 → ∀ Q : VK, (∀ H2, Same H1 H2 → Q z H2) → r x y H1 Q
def RN (r : R2) (x y : V) (H : Hp) (o : HO) : Prop := ∀ H1, Same H H1 → ∀ Q : VK, (∀ p H2, H1 p = none → Same (upd H1 p o) H2 → Q (.ref p) H2) → r x y H1 Q
theorem ev_op (ha : Ev ta σ H x) (hb : Ev tb σ H y) (hr : RV r x y H z) : Ev (tOp r ta tb) σ H z := fun τ H1 sx e Q q =>
  ha τ H1 sx e _ fun H2 e2 => hb τ H2 sx (e.trans e2) _ fun H3 e3 => hr H3 ((e.trans e2).trans e3) Q fun H4 e4 => q H4 ((e2.trans e3).trans e4)
theorem en_op {o : HO} (ha : Ev ta σ H x) (hb : Ev tb σ H y) (hr : RN r x y H o) : EvN (tOp r ta tb) σ H o := fun τ H1 sx e Q q =>
  ha τ H1 sx e _ fun H2 e2 => hb τ H2 sx (e.trans e2) _ fun H3 e3 => hr H3 ((e.trans e2).trans e3) Q fun p H4 hp e4 =>
    q p H4 ((e2.trans e3).free hp) ((same_upd (e2.trans e3)).trans e4)
/-- both sides told by what stands behind them -/
def Stab (R : V → Hp → Prop) : Prop := ∀ v H H', Same H H' → R v H → R v H'
theorem stab_l : Stab (IsL xs) := fun _ _ _ s ⟨p, e, h⟩ => ⟨p, e, s _ _ h⟩
theorem stab_q : Stab (IsQ K xs) := fun _ _ _ s ⟨p, e, h⟩ => ⟨p, e, same_l s h⟩
theorem stab_t : Stab (IsT K xs) := fun _ _ _ s ⟨p, e, h⟩ => ⟨p, e, same_t s h⟩
theorem stab_e : Stab (fun w _ => w = v) := fun _ _ _ _ h => h
theorem ev_opR {Ra Rb : V → Hp → Prop} (ha : EvR ta σ H Ra) (sa : Stab Ra) (hb : EvR tb σ H Rb) (hr : ∀ x y H1, Same H H1 → Ra x H1 → Rb y H1 → ∀ Q : VK, (∀ H2, Same H1 H2 → Q z H2) → r x y H1 Q) : Ev (tOp r ta tb) σ H z := fun τ H1 sx e Q q =>
  ha τ H1 sx e _ fun x H2 e2 hx => hb τ H2 sx (e.trans e2) _ fun y H3 e3 hy => hr x y H3 ((e.trans e2).trans e3) (sa _ _ _ e3 hx) hy Q fun H4 e4 => q H4 ((e2.trans e3).trans e4)
theorem en_opR {o : HO} {Ra Rb : V → Hp → Prop} (ha : EvR ta σ H Ra) (sa : Stab Ra) (hb : EvR tb σ H Rb) (hr : ∀ x y H1, Same H H1 → Ra x H1 → Rb y H1 → ∀ Q : VK, (∀ p H2, H1 p = none → Same (upd H1 p o) H2 → Q (.ref p) H2) → r x y H1 Q) : EvN (tOp r ta tb) σ H o := fun τ H1 sx e Q q =>
  ha τ H1 sx e _ fun x H2 e2 hx => hb τ H2 sx (e.trans e2) _ fun y H3 e3 hy => hr x y H3 ((e.trans e2).trans e3) (sa _ _ _ e3 hx) hy Q fun p H4 hp e4 =>
    q p H4 ((e2.trans e3).free hp) ((same_upd (e2.trans e3)).trans e4)
/-! the operators -/
theorem rv_I0 {g : Int → Int → V} {i j : Int} : RV (rI0 g) (.int i) (.int j) H (g i j) := fun H1 _ _ q => ⟨i, j, rfl, rfl, q H1 (Same.refl H1)⟩
theorem rv_I {C : Int → Int → Prop} {g : Int → Int → V} {i j : Int} (hc : C i j) : RV (rI C g) (.int i) (.int j) H (g i j) := fun H1 _ _ q => ⟨i, j, rfl, rfl, hc, q H1 (Same.refl H1)⟩
theorem rv_eq (h : scal x y = true) : RV rEq x y H (.bl (decide (x = y))) := fun H1 _ _ q => ⟨h, q H1 (Same.refl H1)⟩
theorem rv_ne (h : scal x y = true) : RV rNe x y H (.bl (!decide (x = y))) := fun H1 _ _ q => ⟨h, q H1 (Same.refl H1)⟩
theorem rv_isN : RV (fun x y H Q => y = .non ∧ Q (.bl (decide (x = .non))) H) x .non H (.bl (decide (x = .non))) := fun H1 _ _ q => ⟨rfl, q H1 (Same.refl H1)⟩
theorem rv_notN : RV (fun x y H Q => y = .non ∧ Q (.bl (!decide (x = .non))) H) x .non H (.bl (!decide (x = .non))) := fun H1 _ _ q => ⟨rfl, q H1 (Same.refl H1)⟩
theorem rv_ixL {i : Int} (h : SqL K H p xs) (ha : atI xs i = some v) : RV (rIxL K) (.ref p) (.int i) H v := fun H1 e _ q => ⟨p, xs, i, v, rfl, rfl, same_l e h, ha, q H1 (Same.refl H1)⟩
theorem rv_ixT {i : Int} (h : SqT K H p xs) (ha : atI xs i = some v) : RV (rIxT K) (.ref p) (.int i) H v := fun H1 e _ q => ⟨p, xs, i, v, rfl, rfl, same_t e h, ha, q H1 (Same.refl H1)⟩
theorem at_map {ns : List Int} {i : Int} (h0 : 0 ≤ i) (h1 : i < ns.length) : atI (ns.map V.int) i = some (.int (ns.getD i.toNat 0)) := by
  obtain ⟨k, rfl⟩ := Int.eq_ofNat_of_zero_le h0
  have hk : k < ns.length := by omega
  refine atI_nat ?_
  simp [List.getD, hk]
/-- an item of a list of whole numbers -/
theorem rv_ixI {i : Int} {ns : List Int} (h : SqL K H p (ns.map V.int)) (h0 : 0 ≤ i) (h1 : i < ns.length) : RV (rIxL K) (.ref p) (.int i) H (.int (ns.getD i.toNat 0)) := rv_ixL h (at_map h0 h1)
theorem rv_ixTI {i : Int} {ns : List Int} (h : SqT K H p (ns.map V.int)) (h0 : 0 ≤ i) (h1 : i < ns.length) : RV (rIxT K) (.ref p) (.int i) H (.int (ns.getD i.toNat 0)) := rv_ixT h (at_map h0 h1)
theorem rv_inL {neg : Bool} (h : SqL K H p xs) (hx : flatV x = true) (ha : xs.all flatV = true) : RV (rIn K neg) x (.ref p) H (.bl (if neg then !inV x xs else inV x xs)) :=
  fun H1 e _ q => ⟨p, xs, rfl, Or.inl (same_l e h), hx, ha, q H1 (Same.refl H1)⟩
theorem en_cat (ha : EvR ta σ H (IsL xs)) (hb : EvR tb σ H (IsL ys)) (hz : xs.length + ys.length ≤ 2000000) : EvN (tOp rCat ta tb) σ H (.lst (xs ++ ys)) :=
  en_opR ha stab_l hb fun x y H1 _ ⟨p, e1, h1⟩ ⟨q, e2, h2⟩ Q k => ⟨p, q, xs, ys, e1, e2, h1, h2, sz_le hz, fun l hl => k l _ hl (Same.refl _)⟩
theorem en_rep {k : Int} (ha : EvR ta σ H (IsL xs)) (hb : Ev tb σ H (.int k)) (h0 : -(2 ^ 63) ≤ k) (h1 : k < 2 ^ 63) (hz : xs.length * k.toNat ≤ 2000000) : EvN (tOp rRep ta tb) σ H (.lst (List.replicate k.toNat xs).flatten) :=
  en_opR ha stab_l hb.rr fun x y H1 _ ⟨p, e1, g1⟩ e2 Q q => ⟨p, k, xs, e1, e2, g1, h0, h1, sz_le hz, fun l hl => q l _ hl (Same.refl _)⟩
theorem en_catT (ha : EvR ta σ H (IsT K xs)) (hb : EvR tb σ H (IsT K ys)) (h1 : xs ≠ []) (h2 : ys ≠ []) (hz : xs.length + ys.length ≤ 2000000) : EvN (tOp (rCatA K) ta tb) σ H (.tup (xs ++ ys)) :=
  en_opR ha stab_t hb fun x y H1 _ ⟨p, e1, g1⟩ ⟨q, e2, g2⟩ Q k => ⟨p, q, xs, ys, e1, e2, g1, g2, sz_le hz, fun z => absurd z h1, fun _ z => absurd z h2, fun _ _ l hl => k l _ hl (Same.refl _)⟩
theorem ev_un {r : V → Hp → VK → Prop} (ha : Ev ta σ H x) (hr : ∀ H1, Same H H1 → ∀ Q : VK, (∀ H2, Same H1 H2 → Q z H2) → r x H1 Q) : Ev (tUn r ta) σ H z := fun τ H1 sx e Q q =>
  ha τ H1 sx e _ fun H2 e2 => hr H2 (e.trans e2) Q fun H3 e3 => q H3 (e2.trans e3)
theorem ev_neg {i : Int} (ha : Ev ta σ H (.int i)) : Ev (tUn (rU fun i => .int (-i)) ta) σ H (.int (-i)) := ev_un ha fun H1 _ _ q => ⟨i, rfl, q H1 (Same.refl H1)⟩
/-! arguments -/
theorem ea_nil : EvA tNil σ H [] := fun _ H1 _ _ _ q => q H1 (Same.refl H1)
theorem ea_cons {tr : TA} {vs : List V} (h : Ev ta σ H x) (hr : EvA tr σ H vs) : EvA (tCons ta tr) σ H (x :: vs) := fun τ H1 sx e _ q =>
  h τ H1 sx e _ fun H2 e2 => hr τ H2 sx (e.trans e2) _ fun H3 e3 => q H3 (e2.trans e3)
theorem EvA.rr {ta : TA} {vs : List V} (h : EvA ta σ H vs) : EvAR ta σ H (fun ws _ => ws = vs) := fun τ H1 sx e Q q => h τ H1 sx e Q fun H2 e2 => q vs H2 e2 rfl
theorem era_nil : EvAR tNil σ H (fun ws _ => ws = []) := ea_nil.rr
theorem era_cons {tr : TA} {R : V → Hp → Prop} {Rs : List V → Hp → Prop} (h : EvR ta σ H R) (sR : Stab R) (hr : EvAR tr σ H Rs) : EvAR (tCons ta tr) σ H (fun ws H => ∃ v vs, ws = v :: vs ∧ R v H ∧ Rs vs H) := fun τ H1 sx e _ q =>
  h τ H1 sx e _ fun v H2 e2 hv => hr τ H2 sx (e.trans e2) _ fun vs H3 e3 hvs => q _ H3 (e2.trans e3) ⟨v, vs, rfl, sR _ _ _ e3 hv, hvs⟩
theorem era1 {R : V → Hp → Prop} (h : EvR ta σ H R) : EvAR (tCons ta tNil) σ H (fun ws H => ∃ v, ws = [v] ∧ R v H) := fun τ H1 sx e _ q =>
  h τ H1 sx e _ fun v H2 e2 hv => q _ H2 e2 ⟨v, rfl, hv⟩
theorem era2 {R S : V → Hp → Prop} (h : EvR ta σ H R) (sR : Stab R) (g : EvR tb σ H S) : EvAR (tCons ta (tCons tb tNil)) σ H (fun ws H => ∃ v w, ws = [v, w] ∧ R v H ∧ S w H) := fun τ H1 sx e _ q =>
  h τ H1 sx e _ fun v H2 e2 hv => g τ H2 sx (e.trans e2) _ fun w H3 e3 hw => q _ H3 (e2.trans e3) ⟨v, w, rfl, sR _ _ _ e3 hv, hw⟩
/-! calls -/
theorem ev_cb {r : List V → Hp → VK → Prop} {ta : TA} {vs : List V} (h : EvA ta σ H vs) (hr : ∀ H1, Same H H1 → ∀ Q : VK, (∀ H2, Same H1 H2 → Q z H2) → r vs H1 Q) : Ev (tCB r ta) σ H z := fun τ H1 sx e Q q =>
  h τ H1 sx e _ fun H2 e2 => hr H2 (e.trans e2) Q fun H3 e3 => q H3 (e2.trans e3)
theorem ev_cbR {r : List V → Hp → VK → Prop} {ta : TA} {R : List V → Hp → Prop} (h : EvAR ta σ H R) (hr : ∀ vs H1, Same H H1 → R vs H1 → ∀ Q : VK, (∀ H2, Same H1 H2 → Q z H2) → r vs H1 Q) : Ev (tCB r ta) σ H z := fun τ H1 sx e Q q =>
  h τ H1 sx e _ fun vs H2 e2 hv => hr vs H2 (e.trans e2) hv Q fun H3 e3 => q H3 (e2.trans e3)
theorem en_cbR {o : HO} {r : List V → Hp → VK → Prop} {ta : TA} {R : List V → Hp → Prop} (h : EvAR ta σ H R) (hr : ∀ vs H1, Same H H1 → R vs H1 → ∀ Q : VK, (∀ p H2, H1 p = none → Same (upd H1 p o) H2 → Q (.ref p) H2) → r vs H1 Q) : EvN (tCB r ta) σ H o := fun τ H1 sx e Q q =>
  h τ H1 sx e _ fun vs H2 e2 hv => hr vs H2 (e.trans e2) hv Q fun p H3 hp e3 => q p H3 (e2.free hp) ((same_upd e2).trans e3)
/-- len of a list or tuple, as call_len_seq asks it -/
def rLenS (K : PySem.W.Frag) : List V → Hp → VK → Prop := fun xs H Q => ∃ p ys, xs = [.ref p] ∧ (SqL K H p ys ∨ SqT K H p ys) ∧ Q (.int ys.length) H
theorem ev_len (h : EvR ta σ H (IsQ K xs)) : Ev (tCB (rLenS K) (tCons ta tNil)) σ H (.int (xs.length : Int)) :=
  ev_cbR (era1 h) fun vs H1 _ ⟨v, e1, p, e2, hp⟩ Q q => ⟨p, xs, by rw [e1, e2], .inl hp, q H1 (Same.refl H1)⟩
theorem ev_lenT (h : EvR ta σ H (IsT K xs)) : Ev (tCB (rLenS K) (tCons ta tNil)) σ H (.int (xs.length : Int)) :=
  ev_cbR (era1 h) fun vs H1 _ ⟨v, e1, p, e2, hp⟩ Q q => ⟨p, xs, by rw [e1, e2], .inr hp, q H1 (Same.refl H1)⟩
def rInt1 : List V → Hp → VK → Prop := fun xs H Q => (∃ i, xs = [.int i] ∧ Q (.int i) H) ∨ ∃ k, xs = [.bl k] ∧ Q (.int (if k then 1 else 0)) H
theorem ev_int {i : Int} (h : Ev ta σ H (.int i)) : Ev (tCB rInt1 (tCons ta tNil)) σ H (.int i) :=
  ev_cb (ea_cons h ea_nil) fun H1 _ Q q => .inl ⟨i, rfl, q H1 (Same.refl H1)⟩
def rListS (K : PySem.W.Frag) : List V → Hp → VK → Prop := fun xs H Q => ∃ p ys, xs = [.ref p] ∧ (SqL K H p ys ∨ SqT K H p ys) ∧ ∀ l, H l = none → Q (.ref l) (upd H l (.lst ys))
theorem en_list (h : EvR ta σ H (IsQ K xs)) : EvN (tCB (rListS K) (tCons ta tNil)) σ H (.lst xs) :=
  en_cbR (era1 h) fun vs H1 _ ⟨v, e1, p, e2, hp⟩ Q q => ⟨p, xs, by rw [e1, e2], .inl hp, fun l hl => q l _ hl (Same.refl _)⟩
def rTupS (K : PySem.W.Frag) : List V → Hp → VK → Prop := fun xs H Q => ∃ p ys, xs = [.ref p] ∧ ((SqL K H p ys ∧ ∀ l, H l = none → Q (.ref l) (upd H l (.tup ys))) ∨ (SqT K H p ys ∧ Q (.ref p) H))
theorem en_tupl (h : EvR ta σ H (IsQ K xs)) : EvN (tCB (rTupS K) (tCons ta tNil)) σ H (.tup xs) :=
  en_cbR (era1 h) fun vs H1 _ ⟨v, e1, p, e2, hp⟩ Q q => ⟨p, xs, by rw [e1, e2], .inl ⟨hp, fun l hl => q l _ hl (Same.refl _)⟩⟩
/-- a promise that gives z and leaves what is known -/
def SpV (sp : Sp) (vs : List V) (H : Hp) (z : V) : Prop := ∀ H1, Same H H1 → ∀ (Q : VK) (E : XK), (∀ H2, Same H1 H2 → Q z H2) → sp vs H1 Q E
theorem ev_call {sp : Sp} {vs : List V} {E : XK} {ta : TA} (h : EvA ta σ H vs) (hs : SpV sp vs H z) : Ev (tCall sp [] E ta) σ H z := fun τ H1 sx e Q q =>
  h τ H1 sx e _ fun H2 e2 => by
    show sp (vs ++ []) H2 Q E
    rw [List.append_nil]
    exact hs H2 (e.trans e2) Q E fun H3 e3 => q H3 (e2.trans e3)
theorem ev_callR {sp : Sp} {R : List V → Hp → Prop} {E : XK} {ta : TA} (h : EvAR ta σ H R) (hs : ∀ vs H1, Same H H1 → R vs H1 → ∀ (Q : VK), (∀ H2, Same H1 H2 → Q z H2) → sp vs H1 Q E) : Ev (tCall sp [] E ta) σ H z := fun τ H1 sx e Q q =>
  h τ H1 sx e _ fun vs H2 e2 hv => by
    show sp (vs ++ []) H2 Q E
    rw [List.append_nil]
    exact hs vs H2 (e.trans e2) hv Q fun H3 e3 => q H3 (e2.trans e3)
theorem er_callR {sp : Sp} {R : List V → Hp → Prop} {S : V → Hp → Prop} {E : XK} {ta : TA} (h : EvAR ta σ H R) (hs : ∀ vs H1, Same H H1 → R vs H1 → ∀ (Q : VK), (∀ v H2, Same H1 H2 → S v H2 → Q v H2) → sp vs H1 Q E) : EvR (tCall sp [] E ta) σ H S := fun τ H1 sx e Q q =>
  h τ H1 sx e _ fun vs H2 e2 hv => by
    show sp (vs ++ []) H2 Q E
    rw [List.append_nil]
    exact hs vs H2 (e.trans e2) hv Q fun v H3 e3 h3 => q v H3 (e2.trans e3) h3
theorem er_call {sp : Sp} {vs : List V} {S : V → Hp → Prop} {E : XK} {ta : TA} (h : EvA ta σ H vs) (hs : ∀ H1, Same H H1 → ∀ (Q : VK), (∀ v H2, Same H1 H2 → S v H2 → Q v H2) → sp vs H1 Q E) : EvR (tCall sp [] E ta) σ H S :=
  er_callR h.rr fun ws H1 e hw Q q => by rw [hw]; exact hs H1 e Q q
theorem ev_meth {C dx : Addr} {fs : List (Str × V)} {m : Str} {sp : Sp} {vs : List V} {E : XK} {to : TE} {tt : TA} (ho : Ev to σ H (.ref a)) (hi : H a = some (.ins C dx fs)) (hm : fs.lookup m = none) (h : EvA tt σ H vs)
    (hs : SpV sp (.ref a :: vs) H z) : Ev (tMeth C m sp [] E to tt) σ H z := fun τ H1 sx e Q q =>
  ho τ H1 sx e _ fun H2 e2 => ⟨a, dx, fs, rfl, (e.trans e2) _ _ hi, hm, h τ H2 sx (e.trans e2) _ fun H3 e3 => by
    show sp (.ref a :: (vs ++ [])) H3 Q E
    rw [List.append_nil]
    exact hs H3 ((e.trans e2).trans e3) Q E fun H4 e4 => q H4 ((e2.trans e3).trans e4)⟩
theorem er_meth {C dx : Addr} {fs : List (Str × V)} {m : Str} {sp : Sp} {vs : List V} {S : V → Hp → Prop} {E : XK} {to : TE} {tt : TA} (ho : Ev to σ H (.ref a)) (hi : H a = some (.ins C dx fs)) (hm : fs.lookup m = none) (h : EvA tt σ H vs)
    (hs : ∀ H1, Same H H1 → ∀ (Q : VK), (∀ v H2, Same H1 H2 → S v H2 → Q v H2) → sp (.ref a :: vs) H1 Q E) : EvR (tMeth C m sp [] E to tt) σ H S := fun τ H1 sx e Q q =>
  ho τ H1 sx e _ fun H2 e2 => ⟨a, dx, fs, rfl, (e.trans e2) _ _ hi, hm, h τ H2 sx (e.trans e2) _ fun H3 e3 => by
    show sp (.ref a :: (vs ++ [])) H3 Q E
    rw [List.append_nil]
    exact hs H3 ((e.trans e2).trans e3) Q fun v H4 e4 h4 => q v H4 ((e2.trans e3).trans e4) h4⟩
theorem ev_fld {C dx : Addr} {fs : List (Str × V)} {f : Str} (h : Ev te σ H (.ref a)) (hi : H a = some (.ins C dx fs)) (hc : Cls K C) (hn : NoAttr K C f) (hl : fs.lookup f = some v) : Ev (tFld K te f) σ H v := fun τ H1 sx e Q q =>
  h τ H1 sx e _ fun H2 e2 => ⟨a, C, dx, fs, v, rfl, (e.trans e2) _ _ hi, hc, hn, hl, q H2 e2⟩
/-! new lists, tuples, dicts; slices -/
theorem en_tup {ta : TA} {vs : List V} (h : EvA ta σ H vs) (hl : vs.length ≤ 2000000) : EvN (tTup ta) σ H (.tup vs) := fun τ H1 sx e _ q =>
  h τ H1 sx e _ fun H2 e2 => ⟨sz_le hl, fun p hp => q p _ (e2.free hp) (same_upd e2)⟩
theorem en_lst {ta : TA} {vs : List V} (h : EvA ta σ H vs) (hl : vs.length ≤ 2000000) : EvN (tLst ta) σ H (.lst vs) := fun τ H1 sx e _ q =>
  h τ H1 sx e _ fun H2 e2 => ⟨sz_le hl, fun p hp => q p _ (e2.free hp) (same_upd e2)⟩
theorem en_dK : EvN tDNewK σ H (.dK []) := fun τ H1 sx e _ q => fun p hp => q p _ hp (Same.refl _)
theorem eo_none : EvO tNoPart σ H none := fun τ H1 _ _ _ q => q H1 (Same.refl H1)
theorem eo_some {i : Int} (h : Ev te σ H (.int i)) : EvO (tPart te) σ H (some i) := fun τ H1 sx e _ q => h τ H1 sx e _ fun H2 e2 => ⟨i, rfl, q H2 e2⟩
theorem en_sl {tl th : TO} {lo hi : Option Int} (h : Ev te σ H (.ref a)) (hs : SqL K H a xs) (h1 : EvO tl σ H lo) (h2 : EvO th σ H hi) : EvN (L2.tSl (rSlL K) te tl th) σ H (.lst (cutV xs lo hi)) := fun τ H1 sx e _ q =>
  h τ H1 sx e _ fun H2 e2 => h1 τ H2 sx (e.trans e2) _ fun H3 e3 => h2 τ H3 sx ((e.trans e2).trans e3) _ fun H4 e4 =>
    ⟨a, xs, rfl, same_l (((e.trans e2).trans e3).trans e4) hs, fun p hp => q p _ (((e2.trans e3).trans e4).free hp) (same_upd ((e2.trans e3).trans e4))⟩
/-! dicts that are read -/
theorem ev_dget {td ty : TE} {kvs : List (Key × V)} {k : Key} (hd : Ev td σ H (.ref a)) (hk : Ev ty σ H (kV k)) (h : Rd H a (.dK kvs)) (hv : valV kvs k = some v) : Ev (tDGet td ty) σ H v := fun τ H1 sx e Q q =>
  hd τ H1 sx e _ fun H2 e2 => hk τ H2 sx (e.trans e2) _ fun H3 e3 => ⟨a, v, rfl, .inl ⟨kvs, k, same_rd ((e.trans e2).trans e3) h, rfl, hv.symm⟩, q H3 (e2.trans e3)⟩
theorem ev_din {td ty : TE} {kvs : List (Key × V)} {k : Key} (hk : Ev ty σ H (kV k)) (hd : Ev td σ H (.ref a)) (h : Rd H a (.dK kvs)) : Ev (tDIn ty td) σ H (.bl (valV kvs k).isSome) := fun τ H1 sx e Q q =>
  hk τ H1 sx e _ fun H2 e2 => hd τ H2 sx (e.trans e2) _ fun H3 e3 => ⟨a, _, rfl, .inl ⟨kvs, k, same_rd ((e.trans e2).trans e3) h, rfl, rfl⟩, q H3 (e2.trans e3)⟩
theorem ev_dnin {td ty : TE} {kvs : List (Key × V)} {k : Key} (hk : Ev ty σ H (kV k)) (hd : Ev td σ H (.ref a)) (h : Rd H a (.dK kvs)) : Ev (tDNotIn ty td) σ H (.bl (!(valV kvs k).isSome)) := fun τ H1 sx e Q q =>
  hk τ H1 sx e _ fun H2 e2 => hd τ H2 sx (e.trans e2) _ fun H3 e3 => ⟨a, _, rfl, .inl ⟨kvs, k, same_rd ((e.trans e2).trans e3) h, rfl, rfl⟩, q H3 (e2.trans e3)⟩

/-! ### tests -/
theorem et_test {b : Bool} (h : Ev te σ H (.bl b)) : EvT (tTest te) σ H b := fun τ H1 sx e _ q => h τ H1 sx e _ fun H2 e2 => ⟨b, rfl, q H2 e2⟩
theorem et_B {b : Bool} (h : Ev te σ H (.bl b)) : EvT (tB te) σ H b := fun τ H1 sx e _ q => h τ H1 sx e _ fun H2 e2 => ⟨b, rfl, q H2 e2⟩
theorem et_and {a b : Bool} (h1 : EvT t σ H a) (h2 : a = true → EvT u σ H b) : EvT (tAnd t u) σ H (a && b) := fun τ H1 sx e Q q => h1 τ H1 sx e _ fun H2 e2 => by
  cases a with
  | true => exact h2 rfl τ H2 sx (e.trans e2) Q fun H3 e3 => q H3 (e2.trans e3)
  | false => exact q H2 e2
theorem et_or {a b : Bool} (h1 : EvT t σ H a) (h2 : a = false → EvT u σ H b) : EvT (tOr t u) σ H (a || b) := fun τ H1 sx e Q q => h1 τ H1 sx e _ fun H2 e2 => by
  cases a with
  | true => exact q H2 e2
  | false => exact h2 rfl τ H2 sx (e.trans e2) Q fun H3 e3 => q H3 (e2.trans e3)
theorem et_not {a : Bool} (h1 : EvT t σ H a) : EvT (tNot t) σ H (!a) := fun τ H1 sx e _ q => h1 τ H1 sx e _ fun H2 e2 => q H2 e2
theorem ev_andV {a b : Bool} (h1 : Ev ta σ H (.bl a)) (h2 : a = true → Ev tb σ H (.bl b)) : Ev (tAndV ta tb) σ H (.bl (a && b)) := fun τ H1 sx e Q q => h1 τ H1 sx e _ fun H2 e2 => ⟨a, rfl, by
  cases a with
  | true => exact h2 rfl τ H2 sx (e.trans e2) Q fun H3 e3 => q H3 (e2.trans e3)
  | false => exact q H2 e2⟩
theorem ev_orV {a b : Bool} (h1 : Ev ta σ H (.bl a)) (h2 : a = false → Ev tb σ H (.bl b)) : Ev (tOrV ta tb) σ H (.bl (a || b)) := fun τ H1 sx e Q q => h1 τ H1 sx e _ fun H2 e2 => ⟨a, rfl, by
  cases a with
  | true => exact q H2 e2
  | false => exact h2 rfl τ H2 sx (e.trans e2) Q fun H3 e3 => q H3 (e2.trans e3)⟩
theorem ev_notV {a : Bool} (h1 : Ev ta σ H (.bl a)) : Ev (tNotV ta) σ H (.bl (!a)) := fun τ H1 sx e _ q => h1 τ H1 sx e _ fun H2 e2 => ⟨a, rfl, q H2 e2⟩
theorem ev_if {b : Bool} (h : EvT t σ H b) (h1 : b = true → Ev ta σ H v) (h2 : b = false → Ev tb σ H v) : Ev (tIf t ta tb) σ H v := fun τ H1 sx e Q q => h τ H1 sx e _ fun H2 e2 => by
  cases b with
  | true => exact h1 rfl τ H2 sx (e.trans e2) Q fun H3 e3 => q H3 (e2.trans e3)
  | false => exact h2 rfl τ H2 sx (e.trans e2) Q fun H3 e3 => q H3 (e2.trans e3)
/-- 0 <= x < n -/
theorem ev_chain {r r' : R2} {a b : Bool} (ha : Ev ta σ H x) (hb : Ev tb σ H y) (hr : RV r x y H (.bl a)) (hc : a = true → Ev tc σ H z) (hr' : a = true → RV r' y z H (.bl b)) : Ev (tChain r r' ta tb tc) σ H (.bl (a && b)) := fun τ H1 sx e Q q =>
  ha τ H1 sx e _ fun H2 e2 => hb τ H2 sx (e.trans e2) _ fun H3 e3 => hr H3 ((e.trans e2).trans e3) _ fun H4 e4 => ⟨a, rfl, by
    cases a with
    | true => exact hc rfl τ H4 sx (((e.trans e2).trans e3).trans e4) _ fun H5 e5 => hr' rfl H5 ((((e.trans e2).trans e3).trans e4).trans e5) Q fun H6 e6 => q H6 ((((e2.trans e3).trans e4).trans e5).trans e6)
    | false => exact q H4 ((e2.trans e3).trans e4)⟩
/-- while xs: -/
theorem et_trL (h : EvR te σ H (IsQ K xs)) : EvT (fun σ H Q => te σ H fun x H' => ∃ k, TruV K x H' k ∧ Q k H') σ H (!xs.isEmpty) := fun τ H1 sx e Q q =>
  h τ H1 sx e _ fun v H2 e2 ⟨p, ev, hp⟩ => ⟨!xs.isEmpty, by subst ev; exact .inl ⟨xs, hp, rfl⟩, q H2 e2⟩
end

/-! ### blocks -/
def Go (t : TS) (D : Ends) (σ : Sl) (H : Hp) : Prop := ∀ τ H1, Sx σ τ → Same H H1 → t D τ H1
/-- what follows, wished for at this state and all above it -/
def Cl (F : Sl → Hp → Prop) (σ : Sl) (H : Hp) : Prop := ∀ τ H1, Sx σ τ → Same H H1 → F τ H1
section
variable {K : PySem.W.Frag} {D : Ends} {σ σ' : Sl} {H H' : Hp} {te ta tb : TE} {tt : TT} {t tu tw tz : TS} {v x y : V} {xs ys : List V} {i : Nat} {a l : Addr}
theorem go (h : Go t D σ H) : t D σ H := h σ H (Sx.refl σ) (Same.refl H)
theorem Go.mono (h : Go t D σ H) (sx : Sx σ σ') (s : Same H H') : Go t D σ' H' := fun τ H1 a b => h τ H1 (sx.trans a) (s.trans b)
theorem Go.at (h : Go t D σ H) (sx : Sx σ σ') (s : Same H H') : t D σ' H' := h σ' H' sx s
theorem g_next (h : Cl D.nx σ H) : Go tNext D σ H := h
theorem g_cont (h : Cl D.ct σ H) : Go tCont D σ H := h
theorem g_brk (h : Cl D.bk σ H) : Go tBreak D σ H := h
/-- the end of a branch: what stands behind the if -/
theorem g_end {bk ct : Sl → Hp → Prop} {rt : VK} (h : Go tz D σ H) : Go tNext { nx := tz D, rt := rt, bk := bk, ct := ct } σ H := h
theorem g_asg (h : Ev te σ H v) (k : Go tz D (σ.set i (some v)) H) : Go (tSeq (tAsg te (gName i)) tz) D σ H := fun τ H1 sx e =>
  h τ H1 sx e _ fun H2 e2 => k _ H2 (sx.set i _) (e.trans e2)
theorem g_asgN {o : HO} (h : EvN te σ H o) (k : ∀ p, H p = none → Go tz D (σ.set i (some (.ref p))) (upd H p o)) : Go (tSeq (tAsg te (gName i)) tz) D σ H := fun τ H1 sx e =>
  h τ H1 sx e _ fun p H2 hp e2 => k p (e.free hp) _ H2 (sx.set i _) ((same_upd e).trans e2)
theorem g_asgR {R : V → Hp → Prop} (h : EvR te σ H R) (k : ∀ v H2, Same H H2 → R v H2 → Go tz D (σ.set i (some v)) H2) : Go (tSeq (tAsg te (gName i)) tz) D σ H := fun τ H1 sx e =>
  h τ H1 sx e _ fun v H2 e2 hv => k v H2 (e.trans e2) hv _ H2 (sx.set i _) (Same.refl H2)
theorem g_ret (h : Ev te σ H v) (k : ∀ H1, Same H H1 → D.rt v H1) : Go (tSeq (tRet te) tz) D σ H := fun τ H1 sx e =>
  h τ H1 sx e _ fun H2 e2 => k H2 (e.trans e2)
theorem g_retN {o : HO} (h : EvN te σ H o) (k : ∀ p H1, H p = none → Same (upd H p o) H1 → D.rt (.ref p) H1) : Go (tSeq (tRet te) tz) D σ H := fun τ H1 sx e =>
  h τ H1 sx e _ fun p H2 hp e2 => k p H2 (e.free hp) ((same_upd e).trans e2)
theorem g_retR {R : V → Hp → Prop} (h : EvR te σ H R) (k : ∀ v H1, Same H H1 → R v H1 → D.rt v H1) : Go (tSeq (tRet te) tz) D σ H := fun τ H1 sx e =>
  h τ H1 sx e _ fun v H2 e2 hv => k v H2 (e.trans e2) hv
theorem g_if {b : Bool} (h : EvT tt σ H b) (h1 : b = true → Go tu { D with nx := tz D } σ H) (h2 : b = false → Go tw { D with nx := tz D } σ H) : Go (tSeq (tIfS tt tu tw) tz) D σ H := fun τ H1 sx e =>
  h τ H1 sx e _ fun H2 e2 => by
    cases b with
    | true => exact h1 rfl τ H2 sx (e.trans e2)
    | false => exact h2 rfl τ H2 sx (e.trans e2)
theorem g_drop (h : Ev te σ H v) (k : Go tz D σ H) : Go (tSeq (tDrop te) tz) D σ H := fun τ H1 sx e =>
  h τ H1 sx e _ fun H2 e2 => k _ H2 sx (e.trans e2)
theorem g_aug {f : Int → Int → Int} {m n : Int} (hx : σ[i]? = some (some (.int m))) (h : Ev te σ H (.int n)) (k : Go tz D (σ.set i (some (.int (f m n)))) H) : Go (tSeq (tAug i te (ipI f)) tz) D σ H := fun τ H1 sx e =>
  ⟨.int m, sx.get hx, h τ H1 sx e _ fun H2 e2 => ⟨m, n, rfl, rfl, k _ H2 (sx.set i _) (e.trans e2)⟩⟩
theorem same_at {o : HO} (s : Same H H') : Same (upd H l o) (upd H' l o) := same_upd s
/-- xs.append(e) -/
theorem g_app (hl : H l = some (.lst xs)) (ha : Ev ta σ H (.ref l)) (h : Ev te σ H v) (hz : xs.length < 2000000) (k : Go tz D σ (upd H l (.lst (xs ++ [v])))) :
    Go (tSeq (tDrop (tBM K "list" rAppend ta (tCons te tNil))) tz) D σ H := fun τ H1 sx e => ha τ H1 sx e _ fun H2 e2 =>
  ⟨.inl ⟨rfl, xs, SqL.of ((e.trans e2) l _ hl)⟩, h τ H2 sx (e.trans e2) _ fun H3 e3 => ⟨l, xs, v, rfl, rfl, ((e.trans e2).trans e3) l _ hl, sz_lt hz, k τ _ sx (same_upd ((e.trans e2).trans e3))⟩⟩
theorem g_appN {o : HO} (hl : H l = some (.lst xs)) (ha : Ev ta σ H (.ref l)) (h : EvN te σ H o) (hz : xs.length < 2000000) (k : ∀ p, H p = none → Go tz D σ (upd (upd H p o) l (.lst (xs ++ [.ref p])))) :
    Go (tSeq (tDrop (tBM K "list" rAppend ta (tCons te tNil))) tz) D σ H := fun τ H1 sx e => ha τ H1 sx e _ fun H2 e2 =>
  ⟨.inl ⟨rfl, xs, SqL.of ((e.trans e2) l _ hl)⟩, h τ H2 sx (e.trans e2) _ fun p H3 hp e3 =>
    ⟨l, xs, .ref p, rfl, rfl, e3 l _ ((same_new hp) l _ ((e.trans e2) l _ hl)), sz_lt hz, k p ((e.trans e2).free hp) τ _ sx (same_upd ((same_upd (e.trans e2)).trans e3))⟩⟩
theorem g_appR {R : V → Hp → Prop} (hl : H l = some (.lst xs)) (ha : Ev ta σ H (.ref l)) (h : EvR te σ H R) (hz : xs.length < 2000000) (k : ∀ v H2, Same H H2 → R v H2 → Go tz D σ (upd H2 l (.lst (xs ++ [v])))) :
    Go (tSeq (tDrop (tBM K "list" rAppend ta (tCons te tNil))) tz) D σ H := fun τ H1 sx e => ha τ H1 sx e _ fun H2 e2 =>
  ⟨.inl ⟨rfl, xs, SqL.of ((e.trans e2) l _ hl)⟩, h τ H2 sx (e.trans e2) _ fun v H3 e3 hv =>
    ⟨l, xs, v, rfl, rfl, ((e.trans e2).trans e3) l _ hl, sz_lt hz, k v H3 ((e.trans e2).trans e3) hv τ _ sx (Same.refl _)⟩⟩
/-- xs.extend(ys) -/
theorem g_ext (hl : H l = some (.lst xs)) (ha : Ev ta σ H (.ref l)) (h : EvR te σ H (IsL ys)) (hz : xs.length + ys.length ≤ 2000000) (k : Go tz D σ (upd H l (.lst (xs ++ ys)))) :
    Go (tSeq (tDrop (tBM K "list" rExtend ta (tCons te tNil))) tz) D σ H := fun τ H1 sx e => ha τ H1 sx e _ fun H2 e2 =>
  ⟨.inl ⟨rfl, xs, SqL.of ((e.trans e2) l _ hl)⟩, h τ H2 sx (e.trans e2) _ fun v H3 e3 ⟨b, ev, hb⟩ =>
    ⟨l, b, xs, ys, rfl, by rw [ev], ((e.trans e2).trans e3) l _ hl, hb, sz_le hz, k τ _ sx (same_upd ((e.trans e2).trans e3))⟩⟩
/-- n = xs.pop() -/
theorem g_asgPop (hl : H l = some (.lst xs)) (ha : Ev ta σ H (.ref l)) (hy : xs[xs.length - 1]? = some y) (k : Go tz D (σ.set i (some y)) (upd H l (.lst xs.dropLast))) :
    Go (tSeq (tAsg (tBM0 K "list" rPop ta) (gName i)) tz) D σ H := fun τ H1 sx e => ha τ H1 sx e _ fun H2 e2 =>
  ⟨.inl ⟨rfl, xs, SqL.of ((e.trans e2) l _ hl)⟩, l, xs, y, rfl, rfl, (e.trans e2) l _ hl, hy, k _ _ (sx.set i _) (same_upd (e.trans e2))⟩
/-- xs[i] = e -/
theorem g_setL {j : Nat} (hl : H l = some (.lst xs)) (h : Ev te σ H v) (ho : Ev ta σ H (.ref l)) {z : Int} (hi : Ev tb σ H (.int z)) (hj : ixN xs.length z = some j) (k : Go tz D σ (upd H l (.lst (xs.set j v)))) :
    Go (tSeq (tAsg te (gSub ta tb rSetL)) tz) D σ H := fun τ H1 sx e => h τ H1 sx e _ fun H2 e2 => ho τ H2 sx (e.trans e2) _ fun H3 e3 => hi τ H3 sx ((e.trans e2).trans e3) _ fun H4 e4 =>
  ⟨l, xs, z, j, rfl, rfl, (((e.trans e2).trans e3).trans e4) l _ hl, hj, k τ _ sx (same_upd (((e.trans e2).trans e3).trans e4))⟩
theorem ix_nat {n : Nat} {z : Int} (h0 : 0 ≤ z) (h1 : z < n) : ixN n z = some z.toNat := by
  unfold ixN
  rw [if_pos (by omega), if_pos (by omega)]
/-- d[k] = e -/
theorem g_dput {kvs : List (Key × V)} {k : Key} {td ty : TE} (hl : H l = some (.dK kvs)) (h : Ev te σ H v) (hd : Ev td σ H (.ref l)) (hk : Ev ty σ H (kV k)) (hz : kvs.length < 2000000) (g : Go tz D σ (upd H l (.dK (putK kvs k v)))) :
    Go (tSeq (sDPut td ty te) tz) D σ H := fun τ H1 sx e => h τ H1 sx e _ fun H2 e2 => hd τ H2 sx (e.trans e2) _ fun H3 e3 => hk τ H3 sx ((e.trans e2).trans e3) _ fun H4 e4 =>
  ⟨l, _, rfl, DPut.k ((((e.trans e2).trans e3).trans e4) l _ hl) (sz_lt hz), g τ _ sx (same_upd (((e.trans e2).trans e3).trans e4))⟩
/-- o.f = e -/
theorem g_fld {C dx : Addr} {fs : List (Str × V)} {f : Str} (hi : H a = some (.ins C dx fs)) (h : Ev te σ H v) (ho : Ev ta σ H (.ref a)) (hc : Cls K C) (hn : NoAttr K C f) (hz : fs.length < 1000) (k : Go tz D σ (upd H a (.ins C dx (putF f v fs)))) :
    Go (tSeq (sFld K ta te f) tz) D σ H := fun τ H1 sx e => h τ H1 sx e _ fun H2 e2 => ho τ H2 sx (e.trans e2) _ fun H3 e3 =>
  ⟨a, C, dx, fs, rfl, ((e.trans e2).trans e3) _ _ hi, hc, hn, hz, k τ _ sx (same_upd ((e.trans e2).trans e3))⟩
theorem g_fldN {C dx : Addr} {fs : List (Str × V)} {f : Str} {o : HO} (hi : H a = some (.ins C dx fs)) (h : EvN te σ H o) (ho : Ev ta σ H (.ref a)) (hc : Cls K C) (hn : NoAttr K C f) (hz : fs.length < 1000) (k : ∀ p, H p = none → Go tz D σ (upd (upd H p o) a (.ins C dx (putF f (.ref p) fs)))) :
    Go (tSeq (sFld K ta te f) tz) D σ H := fun τ H1 sx e => h τ H1 sx e _ fun p H2 hp e2 => ho τ H2 sx (e.trans ((same_new hp).trans e2)) _ fun H3 e3 =>
  ⟨a, C, dx, fs, rfl, (e.trans (((same_new hp).trans e2).trans e3)) _ _ hi, hc, hn, hz, k p (e.free hp) τ _ sx (same_upd ((same_upd e).trans (e2.trans e3)))⟩
/-- a, b = a tuple -/
theorem g_asgT2 {p : Addr} {j : Nat} (h : Ev te σ H (.ref p)) (hs : SqT K H p [x, y]) (k : Go tz D ((σ.set i (some x)).set j (some y)) H) : Go (tSeq (tAsg te (gTup K 2 (gCons (gName i) (gCons (gName j) gNil)))) tz) D σ H := fun τ H1 sx e =>
  h τ H1 sx e _ fun H2 e2 => ⟨p, [x, y], rfl, same_t (e.trans e2) hs, rfl, x, [y], rfl, y, [], rfl, rfl, k _ H2 ((sx.set i _).set j _) (e.trans e2)⟩

/-! ### loops: a word I of the turn and a ghost, its slots S and heap G -/
/-- where a loop stands -/
def Lp {α : Type} (I : α → Prop) (S : α → Sl) (G : α → Hp) (τ : Sl) (H : Hp) : Prop := ∃ x, I x ∧ Sx (S x) τ ∧ Same (G x) H
theorem Lp.cl {α : Type} {I : α → Prop} {S : α → Sl} {G : α → Hp} {σ : Sl} {H : Hp} (x : α) (h : I x) (sx : Sx (S x) σ) (s : Same (G x) H) : Cl (Lp I S G) σ H := fun τ H1 a b => ⟨x, h, sx.trans a, s.trans b⟩
/-- for k in range(n) -/
theorem g_forR {ta : TA} {j : Nat} {n : Int} {α : Type} (I : Nat → α → Prop) (S : Nat → α → Sl) (G : Nat → α → Hp) (h : EvA ta σ H [.int n]) (hn : -1000000000 ≤ n ∧ n ≤ 1000000000)
    (h0 : ∃ x, I 0 x ∧ Sx (S 0 x) σ ∧ Same (G 0 x) H)
    (hs : ∀ (k : Nat) x, (k : Int) < n → I k x → Go tu { D with nx := Lp (I (k + 1)) (S (k + 1)) (G (k + 1)), ct := Lp (I (k + 1)) (S (k + 1)) (G (k + 1)), bk := tz D } ((S k x).set j (some (.int (k : Int)))) (G k x))
    (hd : ∀ x, I n.toNat x → Go tz D (S n.toNat x) (G n.toNat x)) : Go (tSeq (tFor (iRng1 ta) (gName j) tu) tz) D σ H := fun τ H1 sx e =>
  h τ H1 sx e _ fun H2 e2 => ⟨n, rfl, by omega, by omega, for_range (lo := 0) (n := n.toNat) (fun k => Lp (I k) (S k) (G k))
    (by obtain ⟨x, a, b, c⟩ := h0; exact ⟨x, a, b.trans sx, c.trans (e.trans e2)⟩)
    (fun k σ' H' hk ⟨x, a, b, c⟩ => by
      have e0 : (0 : Int) + (k : Int) = (k : Int) := Int.zero_add _
      show tu _ (σ'.set j (some (.int ((0 : Int) + (k : Int))))) H'
      rw [e0]
      exact hs k x (by omega) a _ _ (b.set j _) c)
    (fun σ' H' ⟨x, a, b, c⟩ => hd x a _ _ b c)⟩
/-- for k in range(a, b) -/
theorem g_forR2 {ta : TA} {j : Nat} {lo n : Int} {α : Type} (I : Nat → α → Prop) (S : Nat → α → Sl) (G : Nat → α → Hp) (h : EvA ta σ H [.int lo, .int n]) (hn : -1000000000 ≤ lo ∧ lo ≤ 1000000000 ∧ -1000000000 ≤ n ∧ n ≤ 1000000000)
    (h0 : ∃ x, I 0 x ∧ Sx (S 0 x) σ ∧ Same (G 0 x) H)
    (hs : ∀ (k : Nat) x, lo + (k : Int) < n → I k x → Go tu { D with nx := Lp (I (k + 1)) (S (k + 1)) (G (k + 1)), ct := Lp (I (k + 1)) (S (k + 1)) (G (k + 1)), bk := tz D } ((S k x).set j (some (.int (lo + (k : Int))))) (G k x))
    (hd : ∀ x, I (n - lo).toNat x → Go tz D (S (n - lo).toNat x) (G (n - lo).toNat x)) : Go (tSeq (tFor (iRng2 ta) (gName j) tu) tz) D σ H := fun τ H1 sx e =>
  h τ H1 sx e _ fun H2 e2 => ⟨lo, n, rfl, ⟨by omega, by omega, by omega, by omega⟩, for_range (lo := lo) (n := (n - lo).toNat) (fun k => Lp (I k) (S k) (G k))
    (by obtain ⟨x, a, b, c⟩ := h0; exact ⟨x, a, b.trans sx, c.trans (e.trans e2)⟩)
    (fun k σ' H' hk ⟨x, a, b, c⟩ => hs k x (by omega) a _ _ (b.set j _) c)
    (fun σ' H' ⟨x, a, b, c⟩ => hd x a _ _ b c)⟩
/-- for x in xs, a list that stays -/
theorem g_forL {tl : TE} {j : Nat} {α : Type} (I : Nat → α → Prop) (S : Nat → α → Sl) (G : Nat → α → Hp) (h : Ev tl σ H (.ref a)) (hx : SqL K H a xs)
    (h0 : ∃ x, I 0 x ∧ Sx (S 0 x) σ ∧ Same (G 0 x) H) (hl : ∀ k x, k ≤ xs.length → I k x → SqL K (G k x) a xs)
    (hs : ∀ (k : Nat) v x, xs[k]? = some v → I k x → Go tu { D with nx := Lp (I (k + 1)) (S (k + 1)) (G (k + 1)), ct := Lp (I (k + 1)) (S (k + 1)) (G (k + 1)), bk := tz D } ((S k x).set j (some v)) (G k x))
    (hd : ∀ x, I xs.length x → Go tz D (S xs.length x) (G xs.length x)) : Go (tSeq (tFor (iList K tl) (gName j) tu) tz) D σ H := fun τ H1 sx e =>
  h τ H1 sx e _ fun H2 e2 => ⟨a, rfl, ⟨xs, same_l (e.trans e2) hx⟩, for_list (xs := xs) (fun k => Lp (I k) (S k) (G k))
    (by obtain ⟨x, a, b, c⟩ := h0; exact ⟨x, a, b.trans sx, c.trans (e.trans e2)⟩)
    (fun k σ' H' hk ⟨x, a, b, c⟩ => same_l c (hl k x hk a))
    (fun k v σ' H' hk ⟨x, a, b, c⟩ => hs k v x hk a _ _ (b.set j _) c)
    (fun σ' H' ⟨x, a, b, c⟩ => hd x a _ _ b c)⟩
/-- for x in a list just made: p stands for it -/
theorem g_forN {tl : TE} {j : Nat} {α : Type} (I : Addr → Nat → α → Prop) (S : Addr → Nat → α → Sl) (G : Addr → Nat → α → Hp) (h : EvR tl σ H (IsQ K xs))
    (h0 : ∀ p H2, Same H H2 → SqL K H2 p xs → ∃ x, I p 0 x ∧ Sx (S p 0 x) σ ∧ Same (G p 0 x) H2) (hl : ∀ p k x, k ≤ xs.length → I p k x → SqL K (G p k x) p xs)
    (hs : ∀ p (k : Nat) v x, xs[k]? = some v → I p k x → Go tu { D with nx := Lp (I p (k + 1)) (S p (k + 1)) (G p (k + 1)), ct := Lp (I p (k + 1)) (S p (k + 1)) (G p (k + 1)), bk := tz D } ((S p k x).set j (some v)) (G p k x))
    (hd : ∀ p x, I p xs.length x → Go tz D (S p xs.length x) (G p xs.length x)) : Go (tSeq (tFor (iList K tl) (gName j) tu) tz) D σ H := fun τ H1 sx e =>
  h τ H1 sx e _ fun v H2 e2 ⟨p, ev, hp⟩ => ⟨p, ev, ⟨xs, hp⟩, for_list (xs := xs) (fun k => Lp (I p k) (S p k) (G p k))
    (by obtain ⟨x, a, b, c⟩ := h0 p H2 (e.trans e2) hp; exact ⟨x, a, b.trans sx, c⟩)
    (fun k σ' H' hk ⟨x, a, b, c⟩ => same_l c (hl p k x hk a))
    (fun k v σ' H' hk ⟨x, a, b, c⟩ => hs p k v x hk a _ _ (b.set j _) c)
    (fun σ' H' ⟨x, a, b, c⟩ => hd p x a _ _ b c)⟩
/-- while, the ghost's measure μ falls -/
theorem g_while {α : Type} (I : α → Prop) (S : α → Sl) (G : α → Hp) (μ : α → Nat) (h0 : ∃ x, I x ∧ Sx (S x) σ ∧ Same (G x) H)
    (hs : ∀ x, I x → ∃ b, EvT tt (S x) (G x) b ∧ (b = true → Go tu { D with nx := Lp (fun y => I y ∧ μ y < μ x) S G, ct := Lp (fun y => I y ∧ μ y < μ x) S G, bk := tz D } (S x) (G x)) ∧ (b = false → Go tz D (S x) (G x))) :
    Go (tSeq (tWhile tt tu) tz) D σ H := fun τ H1 sx e =>
  ⟨fun m σ' H' => ∃ x, μ x = m ∧ I x ∧ Sx (S x) σ' ∧ Same (G x) H', by obtain ⟨x, a, b, c⟩ := h0; exact ⟨_, x, rfl, a, b.trans sx, c.trans e⟩, fun m σ' H' ⟨x, em, a, b, c⟩ => by
    obtain ⟨r, hb, h1, h2⟩ := hs x a
    refine hb σ' H' b c _ fun H2 e2 => ?_
    cases r with
    | true => exact ⟨Lp (fun y => I y ∧ μ y < μ x) S G, fun σ2 H2 ⟨y, ⟨ya, yl⟩, yb, yc⟩ => ⟨μ y, by omega, y, rfl, ya, yb, yc⟩, h1 rfl σ' H2 b (c.trans e2)⟩
    | false => exact h2 rfl σ' H2 b (c.trans e2)⟩
end
end Kw

set_option Elab.async false
set_option linter.all false
set_option maxRecDepth 100000
/-! Defs by what they promise; rules by short names; sorted of a dict's keys. -/
namespace Kw
open PySem PySem.Spec PyProof.Rows L2

/-! ### promises by the number of arguments -/
def sp0 (F : Hp → VK → Prop) : Sp := fun vs H Q _ => vs = [] ∧ F H Q
def sp1 (F : V → Hp → VK → Prop) : Sp := fun vs H Q _ => ∃ a, vs = [a] ∧ F a H Q
def sp2 (F : V → V → Hp → VK → Prop) : Sp := fun vs H Q _ => ∃ a b, vs = [a, b] ∧ F a b H Q
def sp3 (F : V → V → V → Hp → VK → Prop) : Sp := fun vs H Q _ => ∃ a b c, vs = [a, b, c] ∧ F a b c H Q
def sp4 (F : V → V → V → V → Hp → VK → Prop) : Sp := fun vs H Q _ => ∃ a b c d, vs = [a, b, c, d] ∧ F a b c d H Q
def sp5 (F : V → V → V → V → V → Hp → VK → Prop) : Sp := fun vs H Q _ => ∃ a b c d e, vs = [a, b, c, d, e] ∧ F a b c d e H Q
theorem sp1_len {F : V → Hp → VK → Prop} (vs : List V) (H : Hp) (Q : VK) (E : XK) (h : sp1 F vs H Q E) : vs.length = 1 := by obtain ⟨_, rfl, _⟩ := h; rfl
theorem sp2_len {F : V → V → Hp → VK → Prop} (vs : List V) (H : Hp) (Q : VK) (E : XK) (h : sp2 F vs H Q E) : vs.length = 2 := by obtain ⟨_, _, rfl, _⟩ := h; rfl
theorem sp3_len {F : V → V → V → Hp → VK → Prop} (vs : List V) (H : Hp) (Q : VK) (E : XK) (h : sp3 F vs H Q E) : vs.length = 3 := by obtain ⟨_, _, _, rfl, _⟩ := h; rfl
theorem sp4_len {F : V → V → V → V → Hp → VK → Prop} (vs : List V) (H : Hp) (Q : VK) (E : XK) (h : sp4 F vs H Q E) : vs.length = 4 := by obtain ⟨_, _, _, _, rfl, _⟩ := h; rfl
theorem sp5_len {F : V → V → V → V → V → Hp → VK → Prop} (vs : List V) (H : Hp) (Q : VK) (E : XK) (h : sp5 F vs H Q E) : vs.length = 5 := by obtain ⟨_, _, _, _, _, rfl, _⟩ := h; rfl
/-- a value comes, what is known stays -/
def Giv (v : V) (H : Hp) (Q : VK) : Prop := ∀ H1, Same H H1 → Q v H1
/-- something of which R is true comes -/
def GivR (R : V → Hp → Prop) (H : Hp) (Q : VK) : Prop := ∀ v H1, Same H H1 → R v H1 → Q v H1
/-- a new object -/
def GivN (o : HO) (H : Hp) (Q : VK) : Prop := ∀ p H1, H p = none → Same (upd H p o) H1 → Q (.ref p) H1

/-! ### operators by short names -/
abbrev oAdd : R2 := rI0 fun i j => .int (i + j)
abbrev oSub : R2 := rI0 fun i j => .int (i - j)
abbrev oMul : R2 := rI CMulX fun i j => .int (i * j)
abbrev oDiv : R2 := rI CDiv fun i j => .int (i / j)
abbrev oMod : R2 := rI (fun _ j => 0 < j) fun i j => .int (i % j)
abbrev oPow : R2 := rI CPow fun i j => .int (i ^ j.toNat)
abbrev oLt : R2 := rI0 fun i j => .bl (decide (i < j))
abbrev oLe : R2 := rI0 fun i j => .bl (decide (i ≤ j))
abbrev oGt : R2 := rI0 fun i j => .bl (decide (j < i))
abbrev oGe : R2 := rI0 fun i j => .bl (decide (j ≤ i))
abbrev oIsN : R2 := fun x y H Q => y = .non ∧ Q (.bl (decide (x = .non))) H
abbrev oNotN : R2 := fun x y H Q => y = .non ∧ Q (.bl (!decide (x = .non))) H
abbrev oAddS : R2 := fun x y H Q => ∃ i j, x = .str i ∧ y = .str j ∧ i.length + j.length ≤ sizeLine ∧ Q (.str (i ++ j)) H
abbrev tTru (K : PySem.W.Frag) (te : TE) : TT := fun σ H Q => te σ H fun x H' => ∃ k, TruV K x H' k ∧ Q k H'
abbrev rMin2 : List V → Hp → VK → Prop := fun xs H Q => ∃ i j, xs = [.int i, .int j] ∧ Q (.int (if j < i then j else i)) H

/-! ### defs -/
structure Fd (P : Program) (w : World) (K : PySem.W.Frag) (mg : Str → Option Value) (base : Heap) (k : Nat) (x : Str) (sp : Sp) : Prop where
  ex : ∃ (f : Addr) (fd : FuncData) (ps : List Str), FnOk P w K mg base CX0 k f fd ps sp ∧ mg x = some (.ref f) ∧ PySem.W.keepIn K (.ref f) = true ∧ Binds K fd ps []
structure Mh (P : Program) (w : World) (K : PySem.W.Frag) (mg : Str → Option Value) (base : Heap) (k : Nat) (c m : Str) (sp : Sp) : Prop where
  ex : ∃ (f : Addr) (fd : FuncData) (ps : List Str), Cls K (He.ga K c) ∧ Meth K (He.ga K c) m f ∧ FnOk P w K mg base CX0 k f fd ps sp ∧ Binds K fd ps []
structure Md (P : Program) (w : World) (K : PySem.W.Frag) (mg : Str → Option Value) (base : Heap) (k : Nat) (c : Str) (sp : Sp) : Prop where
  ex : ∃ (f : Addr) (fd : FuncData) (ps : List Str), Mk K (He.ga K c) f ∧ mg c = some (.ref (He.ga K c)) ∧ FnOk P w K mg base CX0 k f fd ps sp ∧ Binds K fd ps []
section
variable {X : Cx} {k j : Nat} {x c m : Str} {sp : Sp} {e o : Expr} {es : List Expr} {t : TA} {to : TE} {p apos pos : Pos}
theorem pe_fd (F : Fd X.prog X.w X.K X.mg X.base k x sp) (hr : Room j X.A) (hk : k ≤ j) (hg : Gl X x) (ha : PA X (e :: es) t) (hdb : (x == ("__debug__" : Str)) = false := by decide)
    (he : starEach (e :: es) X.env = (false, eval e X.env) :: starEach es X.env := by rfl) (hpl : (backTo pos (starEach es X.env)).any (·.1) = false := by rfl) : PE X (.Call (.Name x p) (e :: es) [] pos) (tCall sp [] E0 t) := by
  obtain ⟨f, fd, ps, h1, h2, h3, h4⟩ := F.ex
  exact pe_call h1 (hr.mono hk) hg h2 h3 h4 .nil pass0 ha hdb he hpl
theorem pe_fd0 (F : Fd X.prog X.w X.K X.mg X.base k x sp) (hr : Room j X.A) (hk : k ≤ j) (hg : Gl X x) (hdb : (x == ("__debug__" : Str)) = false := by decide) : PE X (.Call (.Name x p) [] [] pos) (tCall sp [] E0 tNil) := by
  obtain ⟨f, fd, ps, h1, h2, h3, h4⟩ := F.ex
  exact pe_call0 h1 (hr.mono hk) hg h2 h3 h4 .nil pass0 hdb
theorem pe_md {pl : Sem Bool} (F : Mh X.prog X.w X.K X.mg X.base k c m sp) (hr : Room j X.A) (hk : k ≤ j) (ho : PE X o to) (ha : PA X (e :: es) t)
    (hst : starEach (e :: es) X.env = (false, eval e X.env) :: starEach es X.env := by rfl) (hpl : (backTo pos (starEach es X.env)).any (·.1) = false := by rfl)
    (ht : eval (.Call (.Attribute o m apos) (e :: es) [] pos) X.env = (do
      let ov ← eval o X.env
      standAt apos.atName
      let (f, first) ← holding [ov] (getMethod ov m pl)
      callWith pos f first (backTo pos (starEach (e :: es) X.env)) (backToKw pos (keywordEach [] X.env))) := by rfl) :
    PE X (.Call (.Attribute o m apos) (e :: es) [] pos) (tMeth (He.ga X.K c) m sp [] E0 to t) := by
  obtain ⟨f, fd, ps, h1, h2, h3, h4⟩ := F.ex
  exact pe_meth ho h1 h2 h3 (hr.mono hk) h4 .nil pass0 ha hst hpl ht
theorem pe_md0 {pl : Sem Bool} (F : Mh X.prog X.w X.K X.mg X.base k c m sp) (hr : Room j X.A) (hk : k ≤ j) (ho : PE X o to)
    (ht : eval (.Call (.Attribute o m apos) [] [] pos) X.env = (do
      let ov ← eval o X.env
      standAt apos.atName
      let (f, first) ← holding [ov] (getMethod ov m pl)
      callWith pos f first (backTo pos (starEach [] X.env)) (backToKw pos (keywordEach [] X.env))) := by rfl) :
    PE X (.Call (.Attribute o m apos) [] [] pos) (tMeth (He.ga X.K c) m sp [] E0 to tNil) := by
  obtain ⟨f, fd, ps, h1, h2, h3, h4⟩ := F.ex
  exact pe_meth0 ho h1 h2 h3 (hr.mono hk) h4 .nil pass0 ht
theorem pe_mkd (F : Md X.prog X.w X.K X.mg X.base k c sp) (hr : Room j X.A) (hk : k + 1 ≤ j) (hg : Gl X c) (ha : PA X (e :: es) t) (hdb : (c == ("__debug__" : Str)) = false := by decide)
    (he : starEach (e :: es) X.env = (false, eval e X.env) :: starEach es X.env := by rfl) (hpl : (backTo pos (starEach es X.env)).any (·.1) = false := by rfl) : PE X (.Call (.Name c p) (e :: es) [] pos) (tMake (He.ga X.K c) sp [] E0 t) := by
  obtain ⟨f, fd, ps, h1, h2, h3, h4⟩ := F.ex
  exact pe_make h1 h3 (hr.mono hk) hg h2 h4 .nil pass0 ha hdb he hpl
theorem pe_gc {v : V} (hg : Gl X x) (h : ∃ u, X.mg x = some u ∧ RelV v u) (hd : (x == ("__debug__" : Str)) = false := by decide) : PE X (.Name x pos) (tC v) := by
  obtain ⟨u, h1, h2⟩ := h
  exact pe_glob hg h1 h2 hd
end
/-! ### built-in names -/
theorem bt_len : bootBuiltins "len" = some (.builtin "len") := by decide +kernel
theorem bt_int : bootBuiltins "int" = some (.type "int") := by decide +kernel
theorem bt_bool : bootBuiltins "bool" = some (.type "bool") := by decide +kernel
theorem bt_list : bootBuiltins "list" = some (.type "list") := by decide +kernel
theorem bt_dict : bootBuiltins "dict" = some (.type "dict") := by decide +kernel
theorem bt_tuple : bootBuiltins "tuple" = some (.type "tuple") := by decide +kernel
theorem bt_str : bootBuiltins "str" = some (.type "str") := by decide +kernel
theorem bt_isinstance : bootBuiltins "isinstance" = some (.builtin "isinstance") := by decide +kernel
theorem bt_sorted : bootBuiltins "sorted" = some (.builtin "sorted") := by decide +kernel
theorem bt_min : bootBuiltins "min" = some (.builtin "min") := by decide +kernel

/-! ### sorted(d), the keys whole numbers, any number of them -/
abbrev rSortedDK : List V → Hp → VK → Prop := fun xs H Q => ∃ (a : Addr) (kvs : List (Key × V)) (ks : List Int), xs = [.ref a] ∧ Rd H a (.dK kvs) ∧ kvs.map (·.1) = ks.map Sum.inl ∧
  ∀ (ys : List Int) (p : Addr), ys.Perm ks → ys.Pairwise (· ≤ ·) → H p = none → Q (.ref p) (upd H p (.lst (ys.map V.int)))
theorem cr_sortedDK {X : Cx} (hc : X.calm = true) : CallR X (.builtin "sorted") rSortedDK := by
  intro pins s σ H xs us Q I r q
  obtain ⟨a, kvs, ks, rfl, hd, hks, q⟩ := q
  obtain ⟨u, rfl, rx⟩ := vals1 r
  cases rx
  obtain ⟨z, lo, vs, rel, dd⟩ := dk_rd I.hok hd
  obtain ⟨ep, hat⟩ := dd.dictAt
  have e0 : vs.map (·.1) = ks.map Sum.inl := rel.keys.symm.trans hks
  have hl : vs.length = ks.length := by simpa using congrArg List.length e0
  have hz : vs.length ≤ sizeLine := by
    have e1 : kvs.length = ks.length := by simpa using congrArg List.length hks
    omega
  refine Calls.call_function_entry PyProof.Rows.kind_sorted PyProof.Rows.plain_sorted
    PyProof.Rows.entry_sorted (PyProof.Rows.args_sorted1 _) ?_
  unfold Builtin.«sorted»
  refine wpAny_bind (m := checkCount "sorted" 1 1 _) (wpAny_pure ?_)
  refine wpAny_bind (PySem.W.kdu_collect (A := X.A.in1)
    (PySem.W.kdl_dict (knd := mixKind X.prog X.w) (kvs := vs) (ep := ep) lo) (I.ok.hd hc) hat hz fun h' tk acc hk hacc => ?_)
  have hal : acc.toList.length = ks.length := by rw [Array.length_toList, hacc.1, hl]
  have hS : IntsAre acc.toList ks := ints_each hal fun j v e => by
    obtain ⟨k, x, e1, e2⟩ := hacc.2 j v (by rw [← Array.getElem?_toList]; exact e)
    have e3 : (vs.map (·.1))[j]? = some k := by rw [List.getElem?_map, e1]; rfl
    rw [e0, List.getElem?_map] at e3
    cases e4 : ks[j]? with
    | none => rw [e4] at e3; cases e3
    | some y =>
      rw [e4] at e3
      obtain rfl : Sum.inl y = k := Option.some.inj e3
      rcases keyIs_shape (show keyIs (Sum.inl y) v = true from e2) with ⟨i, t, ek, ev⟩ | ⟨_, _, ek, _⟩
      · cases ek; exact ⟨y, t, rfl, ev⟩
      · cases ek
  have I1 : Inv X pins σ H { s with heap := h', toks := tk } := I.kept hk
  refine wpAny_bind (wpAny_newList ?_ (by rw [hal]; omega))
  have hoL : (h'.push (seqObj "list" acc.toList.toArray 0)).get? h'.objs.size = some (seqObj "list" acc.toList.toArray 0) := Heap.get?_push_size _ rfl
  show wpAny _ _ _ _ _ { s with heap := h'.push (seqObj "list" acc.toList.toArray 0), toks := tk }
  refine wpAny_bind (wpAny_holding (wpAny_call_entry PyProof.Rows.slot_list_sort ⟨_, hoL, rfl⟩ PyProof.Rows.entry_list_sort
    (SrtO.list_sort_ord (s := { s with heap := h'.push (seqObj "list" acc.toList.toArray 0), toks := tk }) SrtO.swo_int hoL (by rw [hal]; omega)
      (fun h2 => SrtO.ints_sortable hS h2) fun out g1 g2 => ⟨_, rfl, ?_⟩) (PyProof.Rows.args_list_sort _)))
  obtain ⟨k1, k2, k3⟩ := SrtO.ints_out hS g1 g2
  obtain ⟨e', he'⟩ := PyProof.Rows.sortedHeap_at (vs := acc.toList) (out := out.toArray) hoL
  have hlen : ((out.map SrtO.iv).map V.int).length ≤ sizeLine := by
    rw [List.length_map, k2.length_eq]; omega
  refine wpAny_pure ⟨_, rfl, .ref h'.objs.size, upd H h'.objs.size (.lst ((out.map SrtO.iv).map V.int)), I1.laid (t' := tk) (fun b u e => ?_) (Nat.le_refl _)
    (show ObjOk X.prog X.w _ _ _ (.lst ((out.map SrtO.iv).map V.int)) from ⟨hlen, out, e', vals_of_ints k1, by simpa using he'⟩), rfl, q _ _ k2 k3 (I1.hok.fresh (Nat.le_refl _))⟩
  have hb : b < h'.objs.size := Heap.lt_size e
  rw [PyProof.Rows.sortedHeap_old (Nat.ne_of_lt hb) (by rw [size_push']; exact Nat.lt_succ_of_lt hb)]
  exact Heap.get?_push_of_some _ e
end Kw

set_option Elab.async false
set_option linter.all false
set_option maxRecDepth 100000
/-! Whole numbers and their sizes; the tactics "ev", "hp". -/
namespace Kw
open PySem PySem.Spec PyProof.Rows L2
theorem kd_int (i j : Int) : decide (V.int i = V.int j) = decide (i = j) := by
  by_cases h : i = j
  · subst h; simp
  · have : ¬ V.int i = V.int j := fun e => h (V.int.inj e)
    simp [h, this]
theorem kd_str (i j : Str) : decide (V.str i = V.str j) = decide (i = j) := by
  by_cases h : i = j
  · subst h; simp
  · have : ¬ V.str i = V.str j := fun e => h (V.str.inj e)
    simp [h, this]
theorem kd_bl (i j : Bool) : decide (V.bl i = V.bl j) = decide (i = j) := by
  by_cases h : i = j
  · subst h; simp
  · have : ¬ V.bl i = V.bl j := fun e => h (V.bl.inj e)
    simp [h, this]
/-! ### sizes -/
/-- below a power of two -/
def Bn (e : Nat) (x : Int) : Prop := x.natAbs < 2 ^ e
theorem Bn.mono {e f : Nat} {x : Int} (h : Bn e x) (hf : e ≤ f) : Bn f x := Nat.lt_of_lt_of_le h (Nat.pow_le_pow_right (by decide) hf)
theorem Bn.le {e : Nat} {x y : Int} (h : Bn e x) (hy : y.natAbs ≤ x.natAbs) : Bn e y := Nat.lt_of_le_of_lt hy h
theorem Bn.add {e : Nat} {x y : Int} (hx : Bn e x) (hy : Bn e y) : Bn (e + 1) (x + y) := by
  unfold Bn at *
  have h := Int.natAbs_add_le x y
  rw [Nat.pow_succ]
  omega
theorem Bn.div {e : Nat} {x y : Int} (hx : Bn e x) (hy : 0 < y) : Bn e (x / y) := by
  refine hx.le ?_
  have h1 : (x / y) * y ≤ x := Int.ediv_mul_le x (by omega)
  have h2 : x < (x / y + 1) * y := Int.lt_ediv_add_one_mul_self x hy
  have h3 := Int.add_mul (x / y) 1 y
  by_cases hx0 : 0 ≤ x
  · have h4 : 0 ≤ x / y := Int.ediv_nonneg hx0 (by omega)
    have h5 : x / y * 1 ≤ x / y * y := Int.mul_le_mul_of_nonneg_left (by omega) h4
    omega
  · have h4 : x / y < 0 := Int.ediv_neg_of_neg_of_pos (by omega) hy
    have h5 : x / y * y ≤ x := h1
    have h6 : x ≤ x / y := by
      by_cases hc : x ≤ x / y
      · exact hc
      · exfalso
        have h7 : x / y + 1 ≤ x := by omega
        have h8 : (x / y + 1) * y ≤ x / y + 1 := by
          have : (x / y + 1) * y ≤ (x / y + 1) * 1 := Int.mul_le_mul_of_nonpos_left (by omega) (by omega)
          omega
        omega
    omega
theorem Bn.neg {e : Nat} {x : Int} (h : Bn e x) : Bn e (-x) := h.le (by omega)
theorem Bn.small {e : Nat} {x : Int} (h : x.natAbs < 2 ^ 64) (he : 64 ≤ e) : Bn e x := Bn.mono (e := 64) h he
theorem Bn.bits {e : Nat} {x : Int} (h : Bn e x) (he : 0 < e) : Builtin.Int.intBits x ≤ e := by
  have h1 := PySem.Flt.log2_lt_of he h
  unfold Builtin.Int.intBits
  split <;> omega
theorem Bn.of_bits {e : Nat} {x : Int} (h : Builtin.Int.intBits x ≤ e) : Bn e x := by
  unfold Bn
  unfold Builtin.Int.intBits at h
  by_cases h0 : x.natAbs = 0
  · rw [h0]; exact Nat.pow_pos (by decide)
  · have h1 : x.natAbs < 2 ^ (x.natAbs.log2 + 1) := Nat.lt_log2_self
    split at h
    · rename_i hz
      exact absurd (by simpa using hz) h0
    · exact Nat.lt_of_lt_of_le h1 (Nat.pow_le_pow_right (by decide) h)
/-- a product of a great number and a small one -/
theorem Bn.mul {e : Nat} {x y : Int} (h : Bn e x) (hy : y.natAbs < 2 ^ 64) (h0 : 0 < e) (he : e ≤ 2000000) : CMulX x y := by
  have h1 := h.bits h0
  have h2 := Bn.bits (e := 64) hy (by decide)
  unfold CMulX
  omega
theorem cmul_small {x y : Int} (h : x.natAbs < 2 ^ 64) (hy : y.natAbs < 2 ^ 64) : CMulX x y := Bn.mul (e := 64) h hy (by decide) (by decide)
end Kw
namespace Kw
open PySem PySem.Spec PyProof.Rows L2
/-! ### promises about whole numbers alone -/
abbrev spI1 (P : Int → Prop) (f : Int → V) : Sp := sp1 fun a H Q => ∃ i, a = .int i ∧ P i ∧ Giv (f i) H Q
abbrev spI2 (P : Int → Int → Prop) (f : Int → Int → V) : Sp := sp2 fun a b H Q => ∃ i j, a = .int i ∧ b = .int j ∧ P i j ∧ Giv (f i j) H Q
theorem spv_I1 {P : Int → Prop} {f : Int → V} {i : Int} {H : Hp} (h : P i) : SpV (spI1 P f) [.int i] H (f i) := fun H1 _ Q E q => ⟨_, rfl, i, rfl, h, q⟩
theorem spv_I2 {P : Int → Int → Prop} {f : Int → Int → V} {i j : Int} {H : Hp} (h : P i j) : SpV (spI2 P f) [.int i, .int j] H (f i j) := fun H1 _ Q E q => ⟨_, _, rfl, i, j, rfl, rfl, h, q⟩
theorem Sx.start1 {σ τ : Sl} (h : σ = τ) : Sx σ τ := h ▸ Sx.refl σ
/-- the state at a def's entry -/
theorem enter {t : TS} {D : Ends} {N : List Str} {vs : List V} {σ : Sl} {H : Hp} (h : Go t D σ H) (e : start N vs = σ := by rfl) : t D (start N vs) H := by
  rw [e]; exact go h
end Kw
namespace Kw
open PySem PySem.Spec PyProof.Rows L2
/-! ### expressions that change the heap, by a function of it -/
def Mono (F : Hp → Hp) : Prop := ∀ H H1, Same H H1 → Same (F H) (F H1)
theorem mono_upd {a : Addr} {o : HO} : Mono fun H => upd H a o := fun _ _ s => same_upd s
theorem Mono.upd {F : Hp → Hp} (m : Mono F) {a : Addr} {o : HO} : Mono fun H => L2.upd (F H) a o := fun _ _ s => same_upd (m _ _ s)
def EvM (te : TE) (σ : Sl) (H : Hp) (v : V) (F : Hp → Hp) : Prop := ∀ τ H1, Sx σ τ → Same H H1 → ∀ Q : VK, (∀ H2, Same (F H1) H2 → Q v H2) → te τ H1 Q
section
variable {K : PySem.W.Frag} {D : Ends} {σ : Sl} {H H' : Hp} {te to : TE} {tt : TA} {tz tu : TS} {v : V} {vs : List V} {i : Nat} {a C dx : Addr} {fs : List (Str × V)} {m : Str} {sp : Sp} {E : XK} {F : Hp → Hp}
theorem em_meth (ho : Ev to σ H (.ref a)) (hi : H a = some (.ins C dx fs)) (hm : fs.lookup m = none) (h : EvA tt σ H vs) (hF : Mono F)
    (hs : ∀ H1, Same H H1 → ∀ Q : VK, (∀ H2, Same (F H1) H2 → Q v H2) → sp (.ref a :: vs) H1 Q E) : EvM (tMeth C m sp [] E to tt) σ H v F := fun τ H1 sx e Q q =>
  ho τ H1 sx e _ fun H2 e2 => ⟨a, dx, fs, rfl, (e.trans e2) _ _ hi, hm, h τ H2 sx (e.trans e2) _ fun H3 e3 => by
    show sp (.ref a :: (vs ++ [])) H3 Q E
    rw [List.append_nil]
    exact hs H3 ((e.trans e2).trans e3) Q fun H4 e4 => q H4 ((hF _ _ (e2.trans e3)).trans e4)⟩
theorem g_asgE (h : EvM te σ H v F) (hF : Mono F) (k : Go tz D (σ.set i (some v)) (F H)) : Go (tSeq (tAsg te (gName i)) tz) D σ H := fun τ H1 sx e =>
  h τ H1 sx e _ fun H2 e2 => k _ H2 (sx.set i _) ((hF _ _ e).trans e2)
theorem g_dropE (h : EvM te σ H v F) (hF : Mono F) (k : Go tz D σ (F H)) : Go (tSeq (tDrop te) tz) D σ H := fun τ H1 sx e =>
  h τ H1 sx e _ fun H2 e2 => k _ H2 sx ((hF _ _ e).trans e2)
theorem g_retE (h : EvM te σ H v F) (hF : Mono F) (k : ∀ H1, Same (F H) H1 → D.rt v H1) : Go (tSeq (tRet te) tz) D σ H := fun τ H1 sx e =>
  h τ H1 sx e _ fun H2 e2 => k H2 ((hF _ _ e).trans e2)
theorem same_self {o : HO} (h : H a = some o) : Same (upd H a o) H := fun b u e => by
  by_cases hb : b = a
  · subst hb; rw [upd_same] at e; rw [h]; exact e
  · rw [upd_ne hb] at e; exact e
theorem same_back {o : HO} (h : H a = some o) : Same H (upd H a o) := fun b u e => by
  by_cases hb : b = a
  · subst hb; rw [upd_same, ← h]; exact e
  · rw [upd_ne hb]; exact e
theorem upd_swap {b : Addr} {o u : HO} (h : a ≠ b) : upd (upd H a o) b u = upd (upd H b u) a o := by
  funext c
  by_cases h1 : c = b
  · subst h1; rw [upd_same, upd_ne (Ne.symm h), upd_same]
  · by_cases h2 : c = a
    · subst h2; rw [upd_ne h1, upd_same, upd_same]
    · rw [upd_ne h1, upd_ne h2, upd_ne h2, upd_ne h1]
/-- what a def's result is, read once -/
theorem go_raw (h : ∀ τ H1, Sx σ τ → Same H H1 → tz D τ H1) : Go tz D σ H := h
theorem cut_ints {ns : List Int} {p q : Int} (h0 : 0 ≤ p) (h1 : p ≤ q) (h2 : q ≤ ns.length) : cutV (ns.map V.int) (some p) (some q) = ((ns.drop p.toNat).take (q - p).toNat).map V.int := by
  obtain ⟨a, rfl⟩ := Int.eq_ofNat_of_zero_le h0
  obtain ⟨b, rfl⟩ := Int.eq_ofNat_of_zero_le (Int.le_trans h0 h1)
  unfold cutV
  rw [HT.sIx_nat, HT.sIx_nat, List.length_map, Nat.min_eq_left (by omega), Nat.min_eq_left (by omega), List.map_take, List.map_drop]
  congr 1
  omega
end
end Kw

set_option Elab.async false
set_option linter.all false
set_option maxRecDepth 100000
/-! Comprehensions, walks over a dict, targets that are pairs, nested blocks. -/
namespace Kw
open PySem PySem.Spec PyProof.Rows L2
section
variable {K : PySem.W.Frag} {D : Ends} {σ : Sl} {H H' : Hp} {te tl to ta tb : TE} {tt : TT} {t tz tu : TS} {v : V} {vs xs ys : List V} {i j : Nat} {a d p : Addr}
theorem g_blk (h : Go t { D with nx := tz D } σ H) : Go (tSeq t tz) D σ H := h
theorem et_yes : EvT tYes σ H true := fun _ H1 _ _ _ q => q H1 (Same.refl H1)
theorem same_at2 {H H1 : Hp} (s : Same H H1) {b : Addr} {o : HO} (h : H b = some o) : H1 b = some o := s b o h
theorem wipe_one (σ : Sl) (j : Nat) (x : Option V) : wipe ((wipe σ [j]).set j x) [j] = wipe σ [j] := by
  show ((σ.set j none).set j x).set j none = σ.set j none
  rw [List.set_set, List.set_set]
/-- what one turn of a comprehension does to the list at D -/
theorem comp_turn {f : Bool} {y : V} {acc : List V} {Dl : Addr} {H0 Hc : Hp} {σ2 : Sl} {Nx : Hp → Prop} (hD : H0 Dl = none) (s : Same (upd H0 Dl (.lst acc)) Hc) (ht : EvT tt σ2 H0 f) (he : f = true → Ev te σ2 H0 y) (hz : acc.length < 2000000)
    (hn : ∀ H3, Same (upd H0 Dl (.lst (if f then acc ++ [y] else acc))) H3 → Nx H3) : tt σ2 Hc fun b H3 => if b = true then te σ2 H3 fun w H4 => ∃ acc, H4 Dl = some (.lst acc) ∧ acc.length < sizeLine ∧ Nx (upd H4 Dl (.lst (acc ++ [w]))) else Nx H3 := by
  have s0 : Same H0 Hc := (same_new hD).trans s
  refine ht σ2 Hc (Sx.refl _) s0 _ fun H3 s3 => ?_
  cases f with
  | true =>
    show te σ2 H3 _
    refine he rfl σ2 H3 (Sx.refl _) (s0.trans s3) _ fun H4 s4 => ⟨acc, (s.trans (s3.trans s4)) _ _ upd_same, sz_lt hz, hn _ ?_⟩
    have := same_upd (p := Dl) (o := .lst (acc ++ [y])) (s.trans (s3.trans s4))
    rw [upd_upd] at this
    exact this
  | false => exact hn _ (s.trans s3)
/-- [e for k in range(n) if t] -/
theorem en_lcR {tA : TA} {n : Int} (f : Nat → Bool) (g : Nat → V) (h : EvA tA σ H [.int n]) (hn : -1000000000 ≤ n ∧ n ≤ 1000000) (ht : ∀ k : Nat, (k : Int) < n → EvT tt ((wipe σ [j]).set j (some (.int (k : Int)))) H (f k))
    (he : ∀ k : Nat, (k : Int) < n → f k = true → Ev te ((wipe σ [j]).set j (some (.int (k : Int)))) H (g k)) : EvN (tLc (iRng1 tA) (gName j) tt te [j]) σ H (.lst (((List.range n.toNat).filter f).map g)) := fun τ H1 sx e Q q =>
  h τ H1 sx e _ fun H2 e2 => ⟨n, rfl, by omega, by omega, fun Dl hD =>
    lc_range (lo := 0) (n := n.toNat) (fun k Hc => Same (upd H2 Dl (.lst (((List.range k).filter f).map g))) Hc) (Same.refl _) (fun k Hc hk s => by
      have e0 : (0 : Int) + (k : Int) = (k : Int) := Int.zero_add _
      show wipe ((wipe τ [j]).set j (some (.int ((0 : Int) + (k : Int))))) [j] = wipe τ [j] ∧ _
      rw [e0]
      have sx2 := (sx.wipe [j]).set j (some (.int (k : Int)))
      have hl : (((List.range k).filter f).map g).length < 2000000 := by
        have := List.length_filter_le f (List.range k)
        rw [List.length_map]; rw [List.length_range] at this; omega
      refine ⟨wipe_one _ _ _, comp_turn (f := f k) (y := g k) hD s (fun τ' H' a b => ht k (by omega) τ' H' (sx2.trans a) ((e.trans e2).trans b)) (fun hf τ' H' a b => he k (by omega) hf τ' H' (sx2.trans a) ((e.trans e2).trans b)) hl fun H3 s3 => ?_⟩
      rw [List.range_succ, List.filter_append, List.map_append, List.filter_cons, List.filter_nil]
      cases hf : f k with
      | true => rw [hf] at s3; simpa using s3
      | false => rw [hf] at s3; simpa using s3) fun Hc s => q Dl Hc (e2.free hD) ((same_upd e2).trans s)⟩
/-- [e for x in xs if t] -/
theorem en_lcL (f : V → Bool) (g : V → V) (h : EvR tl σ H (IsQ K xs)) (hz : xs.length ≤ 1000000) (ht : ∀ x ∈ xs, EvT tt ((wipe σ [j]).set j (some x)) H (f x)) (he : ∀ x ∈ xs, f x = true → Ev te ((wipe σ [j]).set j (some x)) H (g x)) :
    EvN (tLc (iList K tl) (gName j) tt te [j]) σ H (.lst ((xs.filter f).map g)) := fun τ H1 sx e Q q =>
  h τ H1 sx e _ fun w H2 e2 ⟨a, ew, ha⟩ => ⟨a, ew, ⟨xs, ha⟩, fun Dl hD =>
    lc_list (xs := xs) (fun k Hc => Same (upd H2 Dl (.lst (((xs.take k).filter f).map g))) Hc) (by simpa using Same.refl _) (fun k Hc _ s => same_l ((same_new hD).trans s) ha) (fun k x Hc hx s => by
      have sx2 := (sx.wipe [j]).set j (some x)
      have hm : x ∈ xs := List.mem_of_getElem? hx
      have hl : (((xs.take k).filter f).map g).length < 2000000 := by
        have h1 := List.length_filter_le f (xs.take k)
        rw [List.length_map]; rw [List.length_take] at h1; omega
      show wipe ((wipe τ [j]).set j (some x)) [j] = wipe τ [j] ∧ _
      refine ⟨wipe_one _ _ _, comp_turn (f := f x) (y := g x) hD s (fun τ' H' a b => ht x hm τ' H' (sx2.trans a) ((e.trans e2).trans b)) (fun hf τ' H' a b => he x hm hf τ' H' (sx2.trans a) ((e.trans e2).trans b)) hl fun H3 s3 => ?_⟩
      rw [List.take_add_one, hx, List.filter_append, List.map_append]
      cases hf : f x with
      | true => rw [hf] at s3; simpa [hf] using s3
      | false => rw [hf] at s3; simpa [hf] using s3) fun Hc s => q Dl Hc (e2.free hD) ((same_upd e2).trans (by simpa using s))⟩
/-- tuples stay -/
def SameT (H H' : Hp) : Prop := ∀ b xs, H b = some (.tup xs) → H' b = some (.tup xs)
theorem tups_of {H H' : Hp} (s : Same H H') : SameT H H' := fun b xs h => s b _ h
theorem sameT_lst {H : Hp} {p : Addr} {xs ys : List V} (h : H p = some (.lst xs)) : SameT H (upd H p (.lst ys)) := fun b zs e => by
  rw [upd_ne (ne_of e h (by intro z; cases z))]; exact e
theorem sameT_lst' {H : Hp} {p : Addr} {ys : List V} (h : H p = none) : SameT H (upd H p (.lst ys)) := fun b zs e => by
  rw [upd_ne (ne_of_none e h)]; exact e
theorem SameT.trans {H H1 H2 : Hp} (a : SameT H H1) (b : SameT H1 H2) : SameT H H2 := fun c xs h => b c xs (a c xs h)
def StabT (R : V → Hp → Prop) : Prop := ∀ v H H', SameT H H' → R v H → R v H'
theorem StabT.s {R : V → Hp → Prop} (h : StabT R) : Stab R := fun v H H' s r => h v H H' (tups_of s) r
/-- [e for k in range(n)], the items told by the tuples that stand behind them -/
theorem er_lcR {tA : TA} {n : Int} (R : Nat → V → Hp → Prop) (sR : ∀ k, StabT (R k)) (h : EvA tA σ H [.int n]) (hn : -1000000000 ≤ n ∧ n ≤ 1000000)
    (he : ∀ k : Nat, (k : Int) < n → EvR te ((wipe σ [j]).set j (some (.int (k : Int)))) H (R k)) : EvR (tLc (iRng1 tA) (gName j) tYes te [j]) σ H fun w H' => ∃ p xs, w = .ref p ∧ H' p = some (.lst xs) ∧ xs.length = n.toNat ∧ ∀ k x, xs[k]? = some x → R k x H' := fun τ H1 sx e Q q =>
  h τ H1 sx e _ fun H2 e2 => ⟨n, rfl, by omega, by omega, fun Dl hD =>
    lc_range (lo := 0) (n := n.toNat) (fun k Hc => Same H2 Hc ∧ ∃ xs, Hc Dl = some (.lst xs) ∧ xs.length = k ∧ ∀ m x, xs[m]? = some x → R m x Hc)
      ⟨same_new hD, [], upd_same, rfl, fun m x hx => by simp at hx⟩ (fun k Hc hk ⟨s, xs, h1, h2, h3⟩ => by
      have e0 : (0 : Int) + (k : Int) = (k : Int) := Int.zero_add _
      show wipe ((wipe τ [j]).set j (some (.int ((0 : Int) + (k : Int))))) [j] = wipe τ [j] ∧ te ((wipe τ [j]).set j (some (.int ((0 : Int) + (k : Int))))) Hc _
      rw [e0]
      have sx2 := (sx.wipe [j]).set j (some (.int (k : Int)))
      refine ⟨wipe_one _ _ _, he k (by omega) _ Hc sx2 ((e.trans e2).trans s) _ fun y H4 s4 hy => ⟨xs, s4 _ _ h1, sz_lt (by omega), same_mut (s.trans s4) hD, xs ++ [y], upd_same, by simp [h2], fun m x hx => ?_⟩⟩
      have tS : SameT H4 (upd H4 Dl (.lst (xs ++ [y]))) := sameT_lst (s4 _ _ h1)
      by_cases hm : m < xs.length
      · rw [List.getElem?_append_left hm] at hx
        exact sR m _ _ _ ((tups_of s4).trans tS) (h3 m x hx)
      · rw [List.getElem?_append_right (by omega)] at hx
        have e5 : m = k := by
          by_cases hz : m - xs.length = 0
          · omega
          · rw [show m - xs.length = (m - xs.length - 1) + 1 by omega] at hx; simp at hx
        subst e5
        rw [show m - xs.length = 0 by omega] at hx
        cases hx
        exact sR m _ _ _ tS hy) fun Hc ⟨s, xs, h1, h2, h3⟩ => q _ Hc (e2.trans s) ⟨Dl, xs, rfl, h1, h2, h3⟩⟩
/-! ### for k in d -/
theorem same_unlock {G H1 : Hp} {o : Obj} {kvs : List (Key × V)} (hG : G d = some (.dK kvs)) (s : Same (upd G d (.frz o (.dK kvs))) H1) : Same G (upd H1 d (.dK kvs)) := fun b u hb => by
  by_cases e : b = d
  · subst e; rw [upd_same, ← hG]; exact hb
  · rw [upd_ne e]; exact s b u (by rw [upd_ne e]; exact hb)
def DLk {α : Type} (D : Ends) (tz : TS) (o : Obj) (d : Addr) (kvs : List (Key × V)) (I : α → Prop) (S : α → Sl) (G : α → Hp) : Ends where
  nx := Lp I S fun x => upd (G x) d (.frz o (.dK kvs))
  ct := Lp I S fun x => upd (G x) d (.frz o (.dK kvs))
  bk := fun σ' H' => H' d = some (.frz o (.dK kvs)) ∧ tz D σ' (upd H' d (.dK kvs))
  rt := fun v H' => H' d = some (.frz o (.dK kvs)) ∧ D.rt v (upd H' d (.dK kvs))
theorem g_forK {td : TE} {kvs : List (Key × V)} {α : Type} (I : Nat → α → Prop) (S : Nat → α → Sl) (G : Nat → α → Hp) (hd : H d = some (.dK kvs)) (htd : ∀ H', Ev td σ H' (.ref d))
    (h0 : ∃ x, I 0 x ∧ Sx (S 0 x) σ ∧ Same (G 0 x) H) (hG : ∀ k x, I k x → G k x d = some (.dK kvs))
    (hs : ∀ (o : Obj) (k : Nat) key v x, kvs[k]? = some (key, v) → I k x → Go tu (DLk D tz o d kvs (I (k + 1)) (S (k + 1)) (G (k + 1))) ((S k x).set j (some (kV key))) (upd (G k x) d (.frz o (.dK kvs))))
    (hd2 : ∀ x, I kvs.length x → Go tz D (S kvs.length x) (G kvs.length x)) : Go (tSeq (tLock (tFor (iKeys td) (gName j) tu)) tz) D σ H := fun τ H1 sx e =>
  ⟨d, .dK kvs, e _ _ hd, trivial, fun od => htd (upd H1 d (.frz od (.dK kvs))) τ _ sx (Same.refl _) _ fun H2 s2 => ⟨d, od, rfl, .inl ⟨kvs, s2 _ _ upd_same,
    fun i m σ' H' => m = kvs.length - i ∧ i ≤ kvs.length ∧ Lp (I i) (S i) (fun x => upd (G i x) d (.frz od (.dK kvs))) σ' H', ⟨_, rfl, Nat.zero_le _, by
      obtain ⟨x, a, b, c⟩ := h0
      exact ⟨x, a, b.trans sx, (same_upd (c.trans e)).trans s2⟩⟩, fun i m σ' H' ⟨em, hi, x, a, b, c⟩ => by
      by_cases hlt : i < kvs.length
      · refine .inr ⟨⟨c _ _ upd_same, hlt⟩, Lp (I (i + 1)) (S (i + 1)) (fun x => upd (G (i + 1) x) d (.frz od (.dK kvs))), fun σ3 H3 h3 => ⟨kvs.length - (i + 1), by omega, rfl, hlt, h3⟩, fun y H3 ⟨e3, key, v, hk, ey⟩ => ?_⟩
        subst e3 ey
        exact hs od i key v x hk a _ _ (b.set j _) c
      · have ei : i = kvs.length := by omega
        subst ei
        refine .inl ⟨⟨c _ _ upd_same, Nat.le_refl _⟩, c _ _ upd_same, hd2 x a _ _ b (same_unlock (hG _ x a) c)⟩⟩⟩⟩
/-- a turn over a dict ends -/
theorem gk_next {α : Type} {o : Obj} {kvs : List (Key × V)} {I : α → Prop} {S : α → Sl} {G : α → Hp} (x : α) (h : I x) (sx : Sx (S x) σ) (s : Same (upd (G x) d (.frz o (.dK kvs))) H) : Go tNext (DLk D tz o d kvs I S G) σ H := fun τ H1 a b => ⟨x, h, sx.trans a, s.trans b⟩
/-! ### for (a, b) in xs -/
theorem g_forL2 {jj : Nat} {α : Type} (I : Nat → α → Prop) (S : Nat → α → Sl) (G : Nat → α → Hp) (h : Ev tl σ H (.ref a)) (hx : SqL K H a xs)
    (h0 : ∃ x, I 0 x ∧ Sx (S 0 x) σ ∧ Same (G 0 x) H) (hl : ∀ k x, k ≤ xs.length → I k x → SqL K (G k x) a xs)
    (hs : ∀ (k : Nat) v x, xs[k]? = some v → I k x → ∃ q y z, v = .ref q ∧ SqT K (G k x) q [y, z] ∧ Go tu { D with nx := Lp (I (k + 1)) (S (k + 1)) (G (k + 1)), ct := Lp (I (k + 1)) (S (k + 1)) (G (k + 1)), bk := tz D } (((S k x).set j (some y)).set jj (some z)) (G k x))
    (hd : ∀ x, I xs.length x → Go tz D (S xs.length x) (G xs.length x)) : Go (tSeq (tFor (iList K tl) (gTup K 2 (gCons (gName j) (gCons (gName jj) gNil))) tu) tz) D σ H := fun τ H1 sx e =>
  h τ H1 sx e _ fun H2 e2 => ⟨a, rfl, ⟨xs, same_l (e.trans e2) hx⟩, for_list (xs := xs) (fun k => Lp (I k) (S k) (G k))
    (by obtain ⟨x, a, b, c⟩ := h0; exact ⟨x, a, b.trans sx, c.trans (e.trans e2)⟩)
    (fun k σ' H' hk ⟨x, a, b, c⟩ => same_l c (hl k x hk a))
    (fun k v σ' H' hk ⟨x, a, b, c⟩ => by
      obtain ⟨q, y, z, ev, hq, hg⟩ := hs k v x hk a
      exact ⟨q, [y, z], ev, same_t c hq, rfl, y, [z], rfl, z, [], rfl, rfl, hg _ _ ((b.set j _).set jj _) c⟩)
    (fun σ' H' ⟨x, a, b, c⟩ => hd x a _ _ b c)⟩
end
end Kw
namespace Kw
open PySem PySem.Spec PyProof.Rows L2
section
variable {K : PySem.W.Frag} {D : Ends} {σ : Sl} {H : Hp} {te ta : TE} {tA : TA} {tz : TS} {v : V} {vs : List V} {a C dx : Addr} {fs : List (Str × V)} {f : Str} {sp : Sp} {E : XK} {R : V → Hp → Prop} {F : Hp → Hp}
/-- C(..) -/
theorem er_make (h : EvA tA σ H vs) (hs : ∀ H1 x dx, Same H H1 → H1 x = none → H1 dx = none → dx ≠ x → ∀ Q : Hp → Prop, (∀ H2, Same H1 H2 → R (.ref x) H2 → Q H2) →
    sp (.ref x :: vs) (upd (upd H1 dx (.own x)) x (.ins C dx [])) (fun w H2 => w = .non ∧ Q H2) E) : EvR (tMake C sp [] E tA) σ H R := fun τ H1 sx e Q q =>
  h τ H1 sx e _ fun H2 e2 => fun x dx hx hdx hne => by
    show sp (.ref x :: (vs ++ [])) _ _ E
    rw [List.append_nil]
    exact hs H2 x dx (e.trans e2) hx hdx hne (Q (.ref x)) fun H3 e3 h3 => q _ H3 (e2.trans e3) h3
theorem g_fldR (hi : H a = some (.ins C dx fs)) (h : EvR te σ H R) (ho : Ev ta σ H (.ref a)) (hc : Cls K C) (hn : NoAttr K C f) (hz : fs.length < 1000) (k : ∀ v H2, Same H H2 → R v H2 → Go tz D σ (upd H2 a (.ins C dx (putF f v fs)))) :
    Go (tSeq (sFld K ta te f) tz) D σ H := fun τ H1 sx e => h τ H1 sx e _ fun v H2 e2 hv => ho τ H2 sx (e.trans e2) _ fun H3 e3 =>
  ⟨a, C, dx, fs, rfl, ((e.trans e2).trans e3) _ _ hi, hc, hn, hz, k v H2 (e.trans e2) hv τ _ sx (same_upd e3)⟩
theorem g_retE' (h : EvM te σ H v F) (hF : Mono F) (k : ∀ H1, Same (F H) H1 → D.rt v H1) : Go (tSeq (tRet te) tz) D σ H := g_retE h hF k
/-- a promise on the way to a tail call -/
theorem em_call {vs : List V} (h : EvA tA σ H vs) (hF : Mono F) (hs : ∀ H1, Same H H1 → ∀ Q : VK, (∀ H2, Same (F H1) H2 → Q v H2) → sp vs H1 Q E) : EvM (tCall sp [] E tA) σ H v F := fun τ H1 sx e Q q =>
  h τ H1 sx e _ fun H2 e2 => by
    show sp (vs ++ []) H2 Q E
    rw [List.append_nil]
    exact hs H2 (e.trans e2) Q fun H3 e3 => q H3 ((hF _ _ e2).trans e3)
theorem g_dropR {te : TE} (h : EvR te σ H R) (k : ∀ v H2, Same H H2 → R v H2 → Go tz D σ H2) : Go (tSeq (tDrop te) tz) D σ H := fun τ H1 sx e =>
  h τ H1 sx e _ fun v H2 e2 hv => k v H2 (e.trans e2) hv τ H2 sx (Same.refl _)
theorem fresh_ne {H : Hp} {a b : Addr} {o : HO} (h : H a = some o) (h' : H b = none) : b ≠ a := (ne_of_none h h').symm
end
end Kw

set_option Elab.async false
set_option linter.all false
set_option maxRecDepth 100000
/-! sorted of pairs (a tuple of ints, an int) whose tuples ascend already. -/
namespace Kw
open PySem PySem.W PySem.Calls PyProof.Rows Builtin L2
theorem ints_fun : ∀ {vs : List Value} {p q : List Int}, IntsAre vs p → IntsAre vs q → p = q
  | _, _, _, .nil, h => by cases h; rfl
  | _, _, _, .cons n t r, h => by
    cases h with
    | cons n' t' r' => rw [ints_fun r r']
section
variable {prog : Program} {w : World} {A : Around} {s : Shared}
theorem eqs_all : ∀ {p q : List Int}, ((List.range (min p.length q.length)).all (fun j => decide (p.getD j 0 = q.getD j 0)) && p.length == q.length) = decide (p = q) := by
  intro p q
  by_cases e : p = q
  · subst e; simp
  · rw [decide_eq_false e]
    cases hb : ((List.range (min p.length q.length)).all (fun j => decide (p.getD j 0 = q.getD j 0)) && p.length == q.length) with
    | false => rfl
    | true =>
      exfalso
      apply e
      rw [Bool.and_eq_true] at hb
      obtain ⟨h1, h2⟩ := hb
      have h2' : p.length = q.length := by simpa using h2
      refine List.ext_getElem h2' fun j hj hj' => ?_
      have h3 := List.all_eq_true.mp h1 j (List.mem_range.mpr (by omega))
      have h4 := of_decide_eq_true h3
      simpa [List.getD, hj, hj'] using h4
theorem tup_eqAt {b b' : Addr} {vs vs' : List Value} {p q : List Int} (hb : s.heap.IsTuple b vs.toArray) (hb' : s.heap.IsTuple b' vs'.toArray) (hi : IntsAre vs p) (hj : IntsAre vs' q) (hu : A.units < cLine) : SeqAt.EqAt A s (.ref b) (.ref b') (decide (p = q)) := by
  by_cases e : b = b'
  · subst e
    obtain ⟨o, h1, _, n, h2⟩ := hb
    obtain ⟨o', h1', _, n', h2'⟩ := hb'
    rw [h1] at h1'
    cases h1'
    rw [h2] at h2'
    injection h2' with h3 _
    have h4 : vs = vs' := by simpa using congrArg Array.toList h3
    subst h4
    rw [ints_fun hi hj, decide_eq_true rfl]
    exact SeqAt.EqAt.same _
  · refine SeqAt.EqAt.of_refs e ?_
    have e1 : vs.toArray.size = p.length := by rw [List.size_toArray]; exact hi.length
    have e2 : vs'.toArray.size = q.length := by rw [List.size_toArray]; exact hj.length
    have at1 : ∀ j (h1 : j < vs.toArray.size), ∃ t, vs.toArray[j] = .int (p.getD j 0) t := fun j h1 => PyProof.Rows.IntsAre.int_at hi _ _ (by simp at h1; simp [h1])
    have at2 : ∀ j (h1 : j < vs'.toArray.size), ∃ t, vs'.toArray[j] = .int (q.getD j 0) t := fun j h1 => PyProof.Rows.IntsAre.int_at hj _ _ (by simp at h1; simp [h1])
    have R := SeqAt.RcAt.tuples (A := A) (s := s) (e := fun j => decide (p.getD j 0 = q.getD j 0)) hb hb' hu fun j h1 h2 => by
      obtain ⟨t, et⟩ := at1 j h1
      obtain ⟨t', et'⟩ := at2 j h2
      rw [et, et']
      have z : (p.getD j 0 == q.getD j 0) = decide (p.getD j 0 = q.getD j 0) := by
        by_cases h : p.getD j 0 = q.getD j 0
        · rw [decide_eq_true h]; exact beq_iff_eq.mpr h
        · rw [decide_eq_false h]; exact beq_eq_false_iff_ne.mpr h
      rw [← z]
      exact SeqAt.EqAt.int_int _ _ _ _
    rw [e1, e2, eqs_all] at R
    exact R
/-- v: a tuple of a tuple of ints and an int -/
def IsTP (h : Heap) (v : Value) (p : List Int) (x : Int) : Prop := ∃ a o b t n vs, v = .ref a ∧ h.get? a = some o ∧ o.cls = .type "tuple" ∧ o.data = .seq #[.ref b, .int x t] n ∧ h.IsTuple b (List.toArray vs) ∧ IntsAre vs p
theorem IsTP.keeps {h h' : Heap} {v : Value} {p : List Int} {x : Int} (z : IsTP h v p x) (k : ∀ b o, h.get? b = some o → o.cls = .type "tuple" → h'.get? b = some o) : IsTP h' v p x := by
  obtain ⟨a, o, b, t, n, vs, e, ho, hc, hd, ⟨ob, h1, h2, h3⟩, hi⟩ := z
  exact ⟨a, o, b, t, n, vs, e, k _ _ ho hc, hc, hd, ⟨ob, k _ _ h1 h2, h2, h3⟩, hi⟩
theorem tp_cmp {vs : List Value} {k : Value → List Int × Int} (hu : A.units < cLine) (hp : ∀ v ∈ vs, IsTP s.heap v (k v).1 (k v).2) (hk : ∀ u ∈ vs, ∀ v ∈ vs, (k u).1 = (k v).1 → (k u).2 = (k v).2) :
    SrtO.Cmp prog w A s (tuples' false) (fun p => p.1 ∈ vs) (SrtO.lt2 fun v u => HT.lexLt (k v).1 (k u).1) := by
  intro p q hm hm'
  have h1 := hp _ hm
  have h2 := hp _ hm'
  have h3 := hk _ hm _ hm'
  show wpAny (model prog w) A (keyLt' (tuples' false) p.1 q.1) (fun r s' => s' = s ∧ r = HT.lexLt (k p.1).1 (k q.1).1) (fun _ _ => False) s
  generalize (k p.1).1 = x at h1 h3 ⊢
  generalize (k p.1).2 = y at h1 h3 ⊢
  generalize (k q.1).1 = x' at h2 h3 ⊢
  generalize (k q.1).2 = y' at h2 h3 ⊢
  obtain ⟨a, o, b, t, n, us, e, ho, hc, hd, hb, hi⟩ := h1
  obtain ⟨a', o', b', t', n', us', e', ho', hc', hd', hb', hi'⟩ := h2
  rw [e, e']
  refine PySem.W.kat_lt ho hd ho' hd' ?_
  show PySem.W.KatLex prog w A false (decide (2 < 2)) _ [(.ref b, .ref b'), (.int y t, .int y' t')] 0 s
  refine PySem.W.kat_cons (tup_eqAt hb hb' hi hi' hu prog w _ _ ?_)
  refine PySem.W.kat_go (fun e1 => ?_) (fun e1 => ?_)
  · have ex : x = x' := of_decide_eq_true e1
    refine PySem.W.kat_yes (PySem.W.kat_cons (SeqAt.EqAt.int_int y t y' t' prog w _ _ ?_))
    refine PySem.W.kat_go (fun e2 => ?_) (fun e2 => ?_)
    · refine PySem.W.kat_yes (PySem.W.kat_nil ⟨rfl, ?_⟩)
      rw [← ex, NtL.swo_lexL (fun z : List Int => z) |>.refl x]
      rfl
    · exact absurd (h3 ex) (by simpa using e2)
  · exact PySem.W.kat_no (PySem.W.kat_one _ _ (HT.lt_tupInts (s := s) hb hb' hi hi' hu ⟨rfl, rfl⟩))
theorem tp_firsts {h : Heap} {k : Value → List Int × Int} : ∀ {vs : List Value}, (∀ v ∈ vs, IsTP h v (k v).1 (k v).2) → ∃ fs : List Value, PySem.W.KatTups h vs fs ∧ fs.length = vs.length ∧ ∀ f ∈ fs, ∃ b us, f = Value.ref b ∧ h.IsTuple b us
  | [], _ => ⟨[], PySem.W.KatTups.nil, rfl, fun _ hm => by simp at hm⟩
  | v :: vs, hp => by
    obtain ⟨fs, h1, h2, h3⟩ := tp_firsts (vs := vs) fun v' hm => hp v' (List.mem_cons_of_mem _ hm)
    obtain ⟨a, o, b, t, n, us, e, ho, hc, hd, hb, hi⟩ := hp v (List.mem_cons_self ..)
    refine ⟨.ref b :: fs, by rw [e]; exact PySem.W.KatTups.cons ho hc hd rfl h1, by rw [List.length_cons, List.length_cons, h2], fun f hm => ?_⟩
    rcases List.mem_cons.mp hm with rfl | hm
    · exact ⟨b, _, rfl, hb⟩
    · exact h3 f hm
theorem tp_sortable {a : Addr} {vs : List Value} {k : Value → List Int × Int} (h0 : 0 < vs.length) (hu : A.units < cLine) (hp : ∀ v ∈ vs, IsTP s.heap v (k v).1 (k v).2) (hk : ∀ u ∈ vs, ∀ v ∈ vs, (k u).1 = (k v).1 → (k u).2 = (k v).2) (ha : ∀ o, s.heap.get? a = some o → o.cls ≠ .type "tuple") :
    SrtO.SortableO prog w A s a vs fun v u => HT.lexLt (k v).1 (k u).1 := by
  intro h' keep
  have hp' : ∀ v ∈ vs, IsTP h' v (k v).1 (k v).2 := fun v hm => (hp v hm).keeps fun b o e c => keep b o (fun z => by subst z; exact ha o e c) e
  obtain ⟨fs, h1, h2, h3⟩ := tp_firsts hp'
  refine ⟨tuples' false, fun Q E hq => ?_, tp_cmp (s := { s with heap := h' }) hu hp' hk⟩
  refine PySem.W.kat_kind (T := .type "tuple") h1 (by omega) (fun f hm => ?_) (by rfl) ?_
  · obtain ⟨b, us, rfl, o, ho, hc, _⟩ := h3 f hm
    have e5 : PySem.W.Looks (model prog w) h' (typeOf (.ref b)) o.cls := (PySem.W.Looks.ld ho).andThen .now
    rw [hc] at e5
    exact e5
  · have e : (Value.type "tuple" != Value.type "tuple") = false := by first | decide +kernel | rfl | decide
    rw [e]
    exact hq
end
end Kw
namespace Kw
open PySem PySem.Spec PyProof.Rows L2
/-- sorted(xs), xs pairs (a tuple of ints, an int), the tuples ascending -/
abbrev rSortedTP (K : PySem.W.Frag) : List V → Hp → VK → Prop := fun vs H Q => ∃ (a : Addr) (xs : List V) (k : V → List Int × Int), vs = [V.ref a] ∧ SqL K H a xs ∧ (∀ x ∈ xs, ∃ t u, x = V.ref t ∧ H t = some (.tup [.ref u, .int (k x).2]) ∧ H u = some (.tup ((k x).1.map V.int))) ∧
  (xs.Pairwise fun x y => HT.lexLt (k x).1 (k y).1 = true) ∧ ∀ p, H p = none → Q (.ref p) (upd H p (.lst xs))
theorem pw_all {α : Type} {R : α → α → Prop} : ∀ {xs : List α}, xs.Pairwise R → ∀ x ∈ xs, ∀ y ∈ xs, x = y ∨ R x y ∨ R y x
  | [], _, x, hx, _, _ => by cases hx
  | z :: xs, h, x, hx, y, hy => by
    obtain ⟨h1, h2⟩ := List.pairwise_cons.mp h
    rcases List.mem_cons.mp hx with e1 | hx'
    · rcases List.mem_cons.mp hy with e2 | hy'
      · exact .inl (e1.trans e2.symm)
      · exact .inr (.inl (e1 ▸ h1 y hy'))
    · rcases List.mem_cons.mp hy with e2 | hy'
      · exact .inr (.inr (e2 ▸ h1 x hx'))
      · exact pw_all h2 x hx' y hy'
theorem cr_sortedTP {X : Cx} (hu : X.A.units + 64 < cLine) : CallR X (.builtin "sorted") (rSortedTP X.K) := by
  intro pins s σ H vs us Q I r h
  obtain ⟨a, xs, k, rfl, hs, hx, hw, q⟩ := h
  obtain ⟨its, rv, hl, hz⟩ := I.list hs
  obtain ⟨u, rfl, ru⟩ := vals1 r
  obtain rfl : u = Value.ref a := ru
  obtain ⟨e1, e2⟩ := refs_back rv fun x m => by
    obtain ⟨t, _, e, _⟩ := hx x m
    exact ⟨t, e⟩
  have hTP : ∀ v ∈ its, IsTP s.heap v (k (backV v)).1 (k (backV v)).2 := fun v hv => by
    obtain ⟨t, rfl⟩ := e2 v hv
    have hm : V.ref t ∈ xs := by rw [e1]; exact List.mem_map.mpr ⟨_, hv, rfl⟩
    obtain ⟨t', u', e, ht, hu'⟩ := hx _ hm
    cases e
    obtain ⟨_, its2, r2, o, ho, hc, n, hd⟩ := I.hok _ _ ht
    obtain ⟨u1, u2, rfl, ri, rj⟩ := vals2 r2
    obtain rfl : u1 = Value.ref u' := ri
    obtain ⟨t2, rfl⟩ := rj
    obtain ⟨_, its3, r3, o3, ho3, hc3, n3, hd3⟩ := I.hok _ _ hu'
    exact ⟨t, o, u', t2, n, its3, rfl, ho, hc, hd, ⟨o3, ho3, hc3, n3, hd3⟩, Vals.ints r3⟩
  have hkk : ∀ u ∈ its, ∀ v ∈ its, (k (backV u)).1 = (k (backV v)).1 → (k (backV u)).2 = (k (backV v)).2 := fun u hu' v hv e => by
    have m1 : backV u ∈ xs := by rw [e1]; exact List.mem_map.mpr ⟨_, hu', rfl⟩
    have m2 : backV v ∈ xs := by rw [e1]; exact List.mem_map.mpr ⟨_, hv, rfl⟩
    have rr : ∀ z : List Int, HT.lexLt z z = false := fun z => (NtL.swo_lexL (fun z : List Int => z)).refl z
    rcases pw_all hw _ m1 _ m2 with e3 | e3 | e3
    · rw [e3]
    · rw [e, rr] at e3; cases e3
    · rw [e, rr] at e3; cases e3
  refine SrtO.sorted_ord (NtL.swo_lexL fun v => (k (backV v)).1) hl.isList (by rw [← rv.length]; exact hz) (fun h2 h₁ b hb kk => ?_) fun out hs' hb' => ?_
  · refine tp_sortable (s := { s with heap := h₁ }) (by omega) (by show X.A.units + _ + _ < cLine; omega) (fun v hm => (hTP v hm).keeps fun b o e _ => (kk b o e).2) hkk fun o e => ?_
    have e' : some o = some (seqObj "list" its.toArray 0) := e.symm.trans hb
    cases e'
    intro c
    exact absurd (Value.type.inj c) (by decide)
  · have hsi : SrtO.Srtd (fun v u => HT.lexLt (k (backV v)).1 (k (backV u)).1) its := by
      have h5 : (its.map backV).Pairwise fun x y => HT.lexLt (k x).1 (k y).1 = true := by rw [← e1]; exact hw
      exact (List.pairwise_map.mp h5).imp fun {x y} z => NtL.lex_asym _ _ z
    have eo : out = its := SrtO.stb_uniq (NtL.swo_lexL fun v => (k (backV v)).1) hs' hsi hb'
    subst eo
    refine ⟨.ref (s.heap.objs.size + 1), upd H (s.heap.objs.size + 1) (.lst xs), I.laid (t' := s.toks) (fun b o e => sortedAll_old e) (Nat.le_succ _) ⟨?_, out, ?_⟩, rfl, q _ (I.hok.fresh (Nat.le_succ _))⟩
    · exact hz
    · obtain ⟨n, hn⟩ := sortedAll_at s.heap out out.toArray
      exact ⟨n, rv, hn⟩
end Kw

set_option Elab.async false
set_option linter.all false
set_option maxRecDepth 100000
/-! More rules: lists and tuples told by what stands behind them. -/
namespace Kw
open PySem PySem.Spec PyProof.Rows L2
section
variable {K : PySem.W.Frag} {D : Ends} {σ : Sl} {H : Hp} {te ta tb tl : TE} {tA : TA} {tz tu : TS} {v x y : V} {vs xs ys zs : List V} {a l : Addr} {i j : Nat} {R S : V → Hp → Prop}
/-- the list at an address, told -/
def IsLR (RL : List V → Hp → Prop) (v : V) (H : Hp) : Prop := ∃ p xs, v = .ref p ∧ H p = some (.lst xs) ∧ RL xs H
theorem givN_l {Q : VK} (q : ∀ v H2, Same H H2 → IsL xs v H2 → Q v H2) : GivN (.lst xs) H Q := fun p H1 hp s => q _ H1 ((same_new hp).trans s) ⟨p, rfl, s _ _ upd_same⟩
/-- a tuple that stands as an object -/
def IsTp (zs : List V) (v : V) (H : Hp) : Prop := ∃ u, v = .ref u ∧ H u = some (.tup zs)
theorem stab_tp : StabT (IsTp zs) := fun _ _ _ s ⟨u, e, h⟩ => ⟨u, e, s _ _ h⟩
theorem EvN.tp (h : EvN te σ H (.tup zs)) : EvR te σ H (IsTp zs) := fun τ H1 sx e Q q => h τ H1 sx e Q fun p H2 hp e2 => q _ H2 ((same_new hp).trans e2) ⟨p, rfl, e2 _ _ upd_same⟩
theorem Ev.tp (h : Ev te σ H (.ref a)) (ha : H a = some (.tup zs)) : EvR te σ H (IsTp zs) := fun τ H1 sx e Q q => h τ H1 sx e Q fun H2 e2 => q _ H2 e2 ⟨a, rfl, (e.trans e2) _ _ ha⟩
theorem EvR.imp (h : EvR te σ H R) (f : ∀ v H', R v H' → S v H') : EvR te σ H S := fun τ H1 sx e Q q => h τ H1 sx e Q fun v H2 e2 hv => q v H2 e2 (f v H2 hv)
/-- (e, f), the first told by what stands -/
theorem er_tup2 (h : EvR ta σ H R) (sR : StabT R) (h2 : Ev tb σ H y) : EvR (tTup (tCons ta (tCons tb tNil))) σ H fun v H' => ∃ t x, v = .ref t ∧ H' t = some (.tup [x, y]) ∧ R x H' := fun τ H1 sx e Q q =>
  h τ H1 sx e _ fun x H2 e2 hx => h2 τ H2 sx (e.trans e2) _ fun H3 e3 => ⟨(of_decide_eq_true rfl), fun p hp => q _ _ ((e2.trans e3).trans (same_new hp)) ⟨p, x, rfl, upd_same, sR _ _ _ (tups_of (e3.trans (same_new hp))) hx⟩⟩
theorem g_extR {RL : List V → Hp → Prop} (hl : H l = some (.lst xs)) (ha : Ev ta σ H (.ref l)) (h : EvR te σ H (IsLR RL)) (hz : ∀ ys H', RL ys H' → xs.length + ys.length ≤ 2000000) (k : ∀ ys H2, Same H H2 → RL ys H2 → Go tz D σ (upd H2 l (.lst (xs ++ ys)))) :
    Go (tSeq (tDrop (tBM K "list" rExtend ta (tCons te tNil))) tz) D σ H := fun τ H1 sx e => ha τ H1 sx e _ fun H2 e2 =>
  ⟨.inl ⟨rfl, xs, SqL.of ((e.trans e2) l _ hl)⟩, h τ H2 sx (e.trans e2) _ fun v H3 e3 ⟨b, ys, ev, hb, hr⟩ =>
    ⟨l, b, xs, ys, rfl, by rw [ev], ((e.trans e2).trans e3) l _ hl, hb, sz_le (hz _ _ hr), k ys H3 ((e.trans e2).trans e3) hr τ _ sx (Same.refl _)⟩⟩
/-- for x in a new list -/
theorem g_forF {tl : TE} {j : Nat} {α : Type} (I : Addr → Nat → α → Prop) (S : Addr → Nat → α → Sl) (G : Addr → Nat → α → Hp) (h : EvN tl σ H (.lst xs))
    (h0 : ∀ p, H p = none → ∃ x, I p 0 x ∧ Sx (S p 0 x) σ ∧ Same (G p 0 x) (upd H p (.lst xs))) (hl : ∀ p k x, k ≤ xs.length → I p k x → SqL K (G p k x) p xs)
    (hs : ∀ p (k : Nat) v x, xs[k]? = some v → I p k x → Go tu { D with nx := Lp (I p (k + 1)) (S p (k + 1)) (G p (k + 1)), ct := Lp (I p (k + 1)) (S p (k + 1)) (G p (k + 1)), bk := tz D } ((S p k x).set j (some v)) (G p k x))
    (hd : ∀ p x, I p xs.length x → Go tz D (S p xs.length x) (G p xs.length x)) : Go (tSeq (tFor (iList K tl) (gName j) tu) tz) D σ H := fun τ H1 sx e =>
  h τ H1 sx e _ fun p H2 hp e2 => ⟨p, rfl, ⟨xs, SqL.of (e2 _ _ upd_same)⟩, for_list (xs := xs) (fun k => Lp (I p k) (S p k) (G p k))
    (by obtain ⟨x, a, b, c⟩ := h0 p (e.free hp); exact ⟨x, a, b.trans sx, c.trans ((same_upd e).trans e2)⟩)
    (fun k σ' H' hk ⟨x, a, b, c⟩ => same_l c (hl p k x hk a))
    (fun k v σ' H' hk ⟨x, a, b, c⟩ => hs p k v x hk a _ _ (b.set j _) c)
    (fun σ' H' ⟨x, a, b, c⟩ => hd p x a _ _ b c)⟩
theorem lb_seq {b : Bool} {p q : Prop} [Decidable p] [Decidable q] (h : p ↔ q) (e : b = decide p) : b = decide q := by rw [e]; exact decide_eq_decide.mpr h
end
end Kw

set_option Elab.async false
set_option linter.all false
set_option maxRecDepth 100000
/-! isinstance, tests of whole numbers, list(range(n)). -/
namespace Kw
open PySem PySem.Spec PyProof.Rows L2
section
variable {K : PySem.W.Frag} {D : Ends} {σ : Sl} {H : Hp} {te ta tb tl : TE} {tA : TA} {tz tu : TS} {v x y : V} {vs xs ys zs : List V} {a l : Addr} {i j : Int} {R S : V → Hp → Prop}
theorem ev_isi {T U : String} {b : Bool} (h : EvR ta σ H R) (hr : ∀ v H', R v H' → TyX K H' v (.type U)) (ht : (V.ty T) = (V.ty T)) (hc : ClsV (V.ty T) (.type T)) (hk : PySem.W.kitOne K (.type U) (.type T) = some b) : Ev (tCB (rIsi K) (tCons ta (tCons (tC (.ty T)) tNil))) σ H (.bl b) := fun τ H1 sx e Q q =>
  h τ H1 sx e _ fun v H2 e2 hv => ⟨v, .ty T, .type U, .type T, b, rfl, hc, hr v H2 hv, hk, q H2 e2⟩
theorem ev_isiInt (h : Ev ta σ H (.int i)) : Ev (tCB (rIsi K) (tCons ta (tCons (tC (.ty "int")) tNil))) σ H (.bl true) := ev_isi (U := "int") h.rr (fun v H' e => by rw [e]; exact .base (.int i)) rfl (by constructor) (by rfl)
theorem ev_isiBool (h : Ev ta σ H (.int i)) : Ev (tCB (rIsi K) (tCons ta (tCons (tC (.ty "bool")) tNil))) σ H (.bl false) := ev_isi (U := "int") h.rr (fun v H' e => by rw [e]; exact .base (.int i)) rfl (by constructor) (by rfl)
theorem ev_isiL (h : EvR ta σ H (IsL xs)) : Ev (tCB (rIsi K) (tCons ta (tCons (tC (.ty "list")) tNil))) σ H (.bl true) := ev_isi (U := "list") h (fun v H' ⟨p, e, hp⟩ => by rw [e]; exact .base (.lst hp)) rfl (by constructor) (by rfl)
theorem ev_isiT (h : EvR ta σ H (IsTp xs)) : Ev (tCB (rIsi K) (tCons ta (tCons (tC (.ty "tuple")) tNil))) σ H (.bl true) := ev_isi (U := "tuple") h (fun v H' ⟨p, e, hp⟩ => by rw [e]; exact .base (.tup hp)) rfl (by constructor) (by rfl)
/-- a dict stands -/
def IsD (kvs : List (Key × V)) (v : V) (H : Hp) : Prop := ∃ p, v = .ref p ∧ H p = some (.dK kvs)
theorem Ev.d {kvs : List (Key × V)} (h : Ev te σ H (.ref a)) (ha : H a = some (.dK kvs)) : EvR te σ H (IsD kvs) := fun τ H1 sx e Q q => h τ H1 sx e Q fun H2 e2 => q _ H2 e2 ⟨a, rfl, (e.trans e2) _ _ ha⟩
theorem ev_isiD {kvs : List (Key × V)} (h : EvR ta σ H (IsD kvs)) : Ev (tCB (rIsi K) (tCons ta (tCons (tC (.ty "dict")) tNil))) σ H (.bl true) := ev_isi (U := "dict") h (fun v H' ⟨p, e, hp⟩ => by rw [e]; exact .base (.dK hp)) rfl (by constructor) (by rfl)
theorem et_eqI (ha : Ev ta σ H (.int i)) (hb : Ev tb σ H (.int j)) : EvT (tTest (tOp rEq ta tb)) σ H (decide (i = j)) := et_test (Ev.is (ev_op ha hb (rv_eq rfl)) (by rw [kd_int]))
theorem et_neI (ha : Ev ta σ H (.int i)) (hb : Ev tb σ H (.int j)) : EvT (tTest (tOp rNe ta tb)) σ H (!decide (i = j)) := et_test (Ev.is (ev_op ha hb (rv_ne rfl)) (by rw [kd_int]))
theorem ev_eqI (ha : Ev ta σ H (.int i)) (hb : Ev tb σ H (.int j)) : Ev (tOp rEq ta tb) σ H (.bl (decide (i = j))) := Ev.is (ev_op ha hb (rv_eq rfl)) (by rw [kd_int])
theorem et_ltI (ha : Ev ta σ H (.int i)) (hb : Ev tb σ H (.int j)) : EvT (tTest (tOp oLt ta tb)) σ H (decide (i < j)) := et_test (ev_op ha hb rv_I0)
theorem et_leI (ha : Ev ta σ H (.int i)) (hb : Ev tb σ H (.int j)) : EvT (tTest (tOp oLe ta tb)) σ H (decide (i ≤ j)) := et_test (ev_op ha hb rv_I0)
theorem et_gtI (ha : Ev ta σ H (.int i)) (hb : Ev tb σ H (.int j)) : EvT (tTest (tOp oGt ta tb)) σ H (decide (j < i)) := et_test (ev_op ha hb rv_I0)
theorem et_geI (ha : Ev ta σ H (.int i)) (hb : Ev tb σ H (.int j)) : EvT (tTest (tOp oGe ta tb)) σ H (decide (j ≤ i)) := et_test (ev_op ha hb rv_I0)
theorem ev_add (ha : Ev ta σ H (.int i)) (hb : Ev tb σ H (.int j)) : Ev (tOp oAdd ta tb) σ H (.int (i + j)) := ev_op ha hb rv_I0
theorem ev_sub (ha : Ev ta σ H (.int i)) (hb : Ev tb σ H (.int j)) : Ev (tOp oSub ta tb) σ H (.int (i - j)) := ev_op ha hb rv_I0
theorem ev_mul (ha : Ev ta σ H (.int i)) (hb : Ev tb σ H (.int j)) (h : CMulX i j) : Ev (tOp oMul ta tb) σ H (.int (i * j)) := ev_op ha hb (rv_I h)
theorem ev_mod (ha : Ev ta σ H (.int i)) (hb : Ev tb σ H (.int j)) (h : 0 < j) : Ev (tOp oMod ta tb) σ H (.int (i % j)) := ev_op ha hb (rv_I h)
theorem ev_div (ha : Ev ta σ H (.int i)) (hb : Ev tb σ H (.int j)) (h : 0 < j) (h2 : j < 1073741824) : Ev (tOp oDiv ta tb) σ H (.int (i / j)) := ev_op ha hb (rv_I ⟨h, h2⟩)
theorem en_rg {n : Nat} (ha : Ev ta σ H (.int (n : Int))) (hn : n ≤ 1000000) : EvN (tLstRg (tRg1 ta)) σ H (.lst ((List.range n).map fun (k : Nat) => V.int (k : Int))) := fun τ H1 sx e Q q =>
  ha τ H1 sx e _ fun H2 e2 => ⟨(n : Int), rfl, RgOk.of_le (by omega) (by omega) (by omega) (by omega), fun p hp => q p _ (e2.free hp) (by
    have e3 : rgV 0 (n : Int) = (List.range n).map fun (k : Nat) => V.int (k : Int) := by
      unfold rgV
      rw [show ((n : Int) - 0).toNat = n by omega]
      exact List.map_congr_left fun k _ => by rw [Int.zero_add]
    rw [e3]
    exact same_upd e2)⟩
end
end Kw

set_option Elab.async false
set_option linter.all false
set_option maxRecDepth 100000
/-! Tests and calls with an effect on the heap, by a function of it. -/
namespace Kw
open PySem PySem.Spec PyProof.Rows L2
def EvTM (tt : TT) (σ : Sl) (H : Hp) (b : Bool) (F : Hp → Hp) : Prop := ∀ τ H1, Sx σ τ → Same H H1 → ∀ Q : Bool → Hp → Prop, (∀ H2, Same (F H1) H2 → Q b H2) → tt τ H1 Q
section
variable {K : PySem.W.Frag} {D : Ends} {σ : Sl} {H : Hp} {te ta : TE} {tr : TA} {tt : TT} {tz tu tw : TS} {v z : V} {vs : List V} {sp : Sp} {E : XK} {F : Hp → Hp} {b : Bool}
theorem em_callM (h : EvM ta σ H v F) (hF : Mono F) (hr : EvA tr σ (F H) vs) (hs : SpV sp (v :: vs) (F H) z) : EvM (tCall sp [] E (tCons ta tr)) σ H z F := fun τ H1 sx e Q q =>
  h τ H1 sx e _ fun H2 e2 => hr τ H2 sx ((hF _ _ e).trans e2) _ fun H3 e3 => by
    show sp ((v :: vs) ++ []) H3 Q E
    rw [List.append_nil]
    exact hs H3 (((hF _ _ e).trans e2).trans e3) Q E fun H4 e4 => q H4 ((e2.trans e3).trans e4)
theorem etm_B (h : EvM te σ H (.bl b) F) : EvTM (tB te) σ H b F := fun τ H1 sx e _ q => h τ H1 sx e _ fun H2 e2 => ⟨b, rfl, q H2 e2⟩
theorem etm_not {a : Bool} (h : EvTM tt σ H a F) : EvTM (tNot tt) σ H (!a) F := fun τ H1 sx e _ q => h τ H1 sx e _ fun H2 e2 => q H2 e2
theorem g_ifM (h : EvTM tt σ H b F) (hF : Mono F) (h1 : b = true → Go tu { D with nx := tz D } σ (F H)) (h2 : b = false → Go tw { D with nx := tz D } σ (F H)) : Go (tSeq (tIfS tt tu tw) tz) D σ H := fun τ H1 sx e =>
  h τ H1 sx e _ fun H2 e2 => by
    cases b with
    | true => exact h1 rfl τ H2 sx ((hF _ _ e).trans e2)
    | false => exact h2 rfl τ H2 sx ((hF _ _ e).trans e2)
theorem EvM.is {w : V} (h : EvM te σ H v F) (e : v = w) : EvM te σ H w F := e ▸ h
end
end Kw

set_option Elab.async false
set_option linter.all false
set_option maxRecDepth 100000
/-! A written dict; a dict's keys sorted; arguments of which the last is told. -/
namespace Kw
open PySem PySem.Spec PyProof.Rows L2
section
variable {K : PySem.W.Frag} {D : Ends} {σ : Sl} {H : Hp} {te ta tk tv : TE} {tA tr : TA} {tz tu : TS} {v x y : V} {vs xs ys zs : List V} {a l : Addr} {i : Nat} {R : V → Hp → Prop} {k : Key}
/-- d = {k: a tuple} -/
theorem g_disp1 (hk : ∀ H', Ev tk σ H' (kV k)) (hv : ∀ H', EvN tv σ H' (.tup zs)) (g : ∀ p t H2, H p = none → Same H H2 → H2 p = some (.dK [(k, .ref t)]) → H2 t = some (.tup zs) → Go tz D (σ.set i (some (.ref p))) H2) :
    Go (tSeq (tAsg (tDisp [(tk, tv)]) (gName i)) tz) D σ H := fun τ H1 sx e p hp =>
  hk (upd H1 p (.dK [])) τ _ sx (Same.refl _) _ fun H2 s2 => hv H2 τ H2 sx (Same.refl _) _ fun t H3 ht s3 => by
    have h2p : H2 p = some (.dK []) := s2 _ _ upd_same
    have h3p : H3 p = some (.dK []) := s3 _ _ ((upd_ne (ne_of_none h2p ht)).trans h2p)
    have h3t : H3 t = some (.tup zs) := s3 _ _ upd_same
    refine ⟨h3p, [(k, .ref t)], rfl, (of_decide_eq_true rfl), ?_⟩
    show tz D (τ.set i (some (.ref p))) (upd H3 p (.dK (mergeK [] [(k, .ref t)])))
    have s13 : Same H1 H3 := ((same_new hp).trans s2).trans ((same_new ht).trans s3)
    refine g p t _ (e.free hp) (e.trans (same_mut s13 hp)) upd_same ?_ _ _ (sx.set i _) (Same.refl _)
    rw [upd_ne (ne_of h3t h3p (by intro z; cases z))]
    exact h3t
/-- sorted(d) -/
theorem er_sortedDK {kvs : List (Key × V)} {ks zs : List Int} (h : Ev te σ H (.ref a)) (ha : H a = some (.dK kvs)) (hk : kvs.map (·.1) = ks.map Sum.inl) (hz : ∀ ys : List Int, ys.Perm ks → ys.Pairwise (· ≤ ·) → ys = zs) : EvR (tCB rSortedDK (tCons te tNil)) σ H (IsL (zs.map V.int)) := fun τ H1 sx e Q q =>
  h τ H1 sx e _ fun H2 e2 => ⟨a, kvs, ks, rfl, .inl ((e.trans e2) _ _ ha), hk, fun ys p hp hs hn => by
    rw [hz ys hp hs]
    exact q _ _ (e2.trans (same_new hn)) ⟨p, rfl, upd_same⟩⟩
theorem era_pre {Rs : List V → Hp → Prop} (h : Ev ta σ H x) (hr : EvAR tr σ H Rs) : EvAR (tCons ta tr) σ H (fun ws H => ∃ vs, ws = x :: vs ∧ Rs vs H) := fun τ H1 sx e _ q =>
  h τ H1 sx e _ fun H2 e2 => hr τ H2 sx (e.trans e2) _ fun vs H3 e3 hvs => q _ H3 (e2.trans e3) ⟨vs, rfl, hvs⟩
end
end Kw

set_option Elab.async false
set_option linter.all false
set_option maxRecDepth 100000
namespace K64
open PySem PySem.Spec PyProof.Rows L2 Kw
/-! ### the store and the space, as they stand -/
structure SA where
  st : Addr
  dx : Addr
  wl : Addr
  pl : Addr
abbrev fsS (r e : Int) (wl pl : Addr) (l : Int) : List (Str × V) := [("room", .int r), ("entries", .int e), ("words", .ref wl), ("_places", .ref pl), ("_least", .int l)]
abbrev cS (K : PySem.W.Frag) : Addr := He.ga K "Store"
abbrev cP (K : PySem.W.Frag) : Addr := He.ga K "Space"
abbrev oS (K : PySem.W.Frag) (a : SA) (r e l : Int) : HO := .ins (cS K) a.dx (fsS r e a.wl a.pl l)
/-- the words of the objects that lie one behind another -/
def enc : List (Int × List Int) → List Int
  | [] => []
  | (n, r) :: bs => n :: ((r.length : Int) - 1) :: (r ++ enc bs)
/-- where the object n begins -/
def off : List (Int × List Int) → Int → Option Nat
  | [], _ => none
  | (m, r) :: bs, n => if m = n then some 0 else (off bs n).map (· + (r.length + 2))
def rowOf (bs : List (Int × List Int)) (n : Int) : Option (List Int) := bs.lookup n
/-- the places' dict tells where each object begins -/
structure Plc (bs : List (Int × List Int)) (kvs : List (Key × V)) : Prop where
  at_ : ∀ n : Int, valV kvs (.inl n) = (off bs n).map fun k => V.int (k : Int)
  keys : ∃ ks : List Int, kvs.map (·.1) = ks.map Sum.inl ∧ ks.Perm (bs.map (·.1))
structure StoreAt (K : PySem.W.Frag) (a : SA) (r e l : Int) (bs : List (Int × List Int)) (kvs : List (Key × V)) (H : Hp) : Prop where
  st : H a.st = some (oS K a r e l)
  wl : H a.wl = some (.lst ((enc bs).map V.int))
  pl : H a.pl = some (.dK kvs)
  plc : Plc bs kvs
  ne : ∀ b ∈ bs, b.2 ≠ []
  nd : (bs.map (·.1)).Nodup
  sz : (enc bs).length ≤ 200000
theorem StoreAt.mono {K : PySem.W.Frag} {a : SA} {r e l : Int} {bs : List (Int × List Int)} {kvs : List (Key × V)} {H H1 : Hp} (h : StoreAt K a r e l bs kvs H) (s : Same H H1) : StoreAt K a r e l bs kvs H1 :=
  ⟨s _ _ h.st, s _ _ h.wl, s _ _ h.pl, h.plc, h.ne, h.nd, h.sz⟩
/-! ### promises -/
def sp_is_ref (K : PySem.W.Frag) : Sp := spI1 (fun _ => True) fun w => .bl (decide (w % 2 = 0))
def sp_ref_of (K : PySem.W.Frag) : Sp := spI1 (fun w => w % 2 = 0) fun w => .int (w / 2)
def sp_Store_exists (K : PySem.W.Frag) : Sp := sp2 fun s n H Q => ∃ a r e l bs kvs i, s = .ref a.st ∧ StoreAt K a r e l bs kvs H ∧ n = .int i ∧ Giv (.bl (rowOf bs i).isSome) H Q
def sp_Store_size (K : PySem.W.Frag) : Sp := sp2 fun s n H Q => ∃ a r e l bs kvs i row, s = .ref a.st ∧ StoreAt K a r e l bs kvs H ∧ n = .int i ∧ rowOf bs i = some row ∧ Giv (.int ((row.length : Int) - 1)) H Q
def sp_Store_kind (K : PySem.W.Frag) : Sp := sp2 fun s n H Q => ∃ a r e l bs kvs i row, s = .ref a.st ∧ StoreAt K a r e l bs kvs H ∧ n = .int i ∧ rowOf bs i = some row ∧ Giv (.int (row.getD 0 0)) H Q
def sp_Store_slots (K : PySem.W.Frag) : Sp := sp2 fun s n H Q => ∃ a r e l bs kvs i row, s = .ref a.st ∧ StoreAt K a r e l bs kvs H ∧ n = .int i ∧ rowOf bs i = some row ∧ GivN (.lst (row.tail.map V.int)) H Q
/-- a slot gets another word -/
def putRow (bs : List (Int × List Int)) (n : Int) (j : Nat) (w : Int) : List (Int × List Int) := bs.map fun b => if b.1 = n then (b.1, b.2.set j w) else b
def sp_Store_put (K : PySem.W.Frag) : Sp := sp4 fun s n t w H Q => ∃ a r e l bs kvs i row k z, s = .ref a.st ∧ StoreAt K a r e l bs kvs H ∧ n = .int i ∧ t = .int k ∧ w = .int z ∧ rowOf bs i = some row ∧ 0 ≤ k ∧ k + 1 < row.length ∧
  ∀ H1, Same (upd H a.wl (.lst ((enc (putRow bs i (k.toNat + 1) z)).map V.int))) H1 → Q .non H1
def sp_Store_numbers (K : PySem.W.Frag) : Sp := sp1 fun s H Q => ∃ a r e l bs kvs, s = .ref a.st ∧ StoreAt K a r e l bs kvs H ∧ ∀ ys : List Int, ys.Perm (bs.map (·.1)) → ys.Pairwise (· ≤ ·) → GivN (.lst (ys.map V.int)) H Q
/-- the least number that no object has -/
structure Free (bs : List (Int × List Int)) (l m : Int) : Prop where
  le : l ≤ m
  all : ∀ j, l ≤ j → j < m → (rowOf bs j).isSome = true
  no : rowOf bs m = none
def sp_Store_free_number (K : PySem.W.Frag) : Sp := sp1 fun s H Q => ∃ a r e l bs kvs m, s = .ref a.st ∧ StoreAt K a r e l bs kvs H ∧ Free bs l m ∧ m < e ∧
  ∀ H1, Same (upd H a.st (oS K a r e m)) H1 → Q (.int m) H1
def newRow (k s : Int) : List Int := k :: List.replicate s.toNat 0
def sp_Store_allocate (K : PySem.W.Frag) : Sp := sp3 fun s k z H Q => ∃ a r e l bs kvs m i n, s = .ref a.st ∧ StoreAt K a r e l bs kvs H ∧ Free bs l m ∧ m < e ∧ k = .int i ∧ z = .int n ∧ 0 ≤ n ∧ ((enc bs).length : Int) + 3 + n ≤ r ∧ r ≤ 200000 ∧
  ∀ H1, Same (upd (upd (upd H a.st (oS K a r e m)) a.pl (.dK (putK kvs (.inl m) (.int (enc bs).length)))) a.wl (.lst ((enc (bs ++ [(m, newRow i n)])).map V.int))) H1 → Q (.int m) H1
def sp_Store_init_ (K : PySem.W.Frag) : Sp := sp3 fun s r e H Q => ∃ x dx i j, s = .ref x ∧ H x = some (.ins (cS K) dx []) ∧ r = .int i ∧ e = .int j ∧
  ∀ wl pl H1, H wl = none → H pl = none → wl ≠ pl → Same (upd (upd (upd H wl (.lst [])) pl (.dK [])) x (.ins (cS K) dx (fsS i j wl pl 0))) H1 → Q .non H1
end K64

set_option Elab.async false
set_option linter.all false
set_option maxRecDepth 100000
namespace K64
open PySem PySem.Spec PyProof.Rows L2 Kw
abbrev N_is_ref : List Str := ["word"]
def t_is_ref (K : PySem.W.Frag) : TS :=
 tSeq (tRet (tOp rEq (tOp oMod (tVar 0) (tC (.int 2))) (tC (.int 0))))
 (tNext)
abbrev N_ref_of : List Str := ["word"]
def t_ref_of (K : PySem.W.Frag) : TS :=
 tSeq (tIfS (tNot (tB (tCall (sp_is_ref K) [] E0 (tCons (tVar 0) (tNil)))))
 (tSeq (tNever)
 (tNext))
 (tNext))
 (tSeq (tRet (tOp oDiv (tVar 0) (tC (.int 2))))
 (tNext))
abbrev N_Store_init_ : List Str := ["self", "room", "entries"]
def t_Store_init_ (K : PySem.W.Frag) : TS :=
 tSeq (sFld K (tVar 0) (tVar 1) "room")
 (tSeq (sFld K (tVar 0) (tVar 2) "entries")
 (tSeq (sFld K (tVar 0) (tLst (tNil)) "words")
 (tSeq (sFld K (tVar 0) (tDNewK) "_places")
 (tSeq (sFld K (tVar 0) (tC (.int 0)) "_least")
 (tNext)))))
abbrev N_Store_exists : List Str := ["self", "number"]
def t_Store_exists (K : PySem.W.Frag) : TS :=
 tSeq (tRet (tDIn (tVar 1) (tFld K (tVar 0) "_places")))
 (tNext)
abbrev N_Store_numbers : List Str := ["self"]
def t_Store_numbers (K : PySem.W.Frag) : TS :=
 tSeq (tRet (tCB (rSortedDK) (tCons (tFld K (tVar 0) "_places") (tNil))))
 (tNext)
abbrev N_Store_free_number : List Str := ["self"]
def t_Store_free_number (K : PySem.W.Frag) : TS :=
 tSeq (tWhile (tB (tDIn (tFld K (tVar 0) "_least") (tFld K (tVar 0) "_places")))
 (tSeq (sFld K (tVar 0) (tOp oAdd (tFld K (tVar 0) "_least") (tC (.int 1))) "_least")
 (tNext)))
 (tSeq (tIfS (tTest (tOp oGe (tFld K (tVar 0) "_least") (tFld K (tVar 0) "entries")))
 (tSeq (tNever)
 (tNext))
 (tNext))
 (tSeq (tRet (tFld K (tVar 0) "_least"))
 (tNext)))
abbrev N_Store_allocate : List Str := ["self", "kind", "size", "number"]
def t_Store_allocate (K : PySem.W.Frag) : TS :=
 tSeq (tIfS (tTest (tOp oGt (tOp oAdd (tOp oAdd (tCB (rLenS K) (tCons (tFld K (tVar 0) "words") (tNil))) (tC (.int 3))) (tVar 2)) (tFld K (tVar 0) "room")))
 (tSeq (tNever)
 (tNext))
 (tNext))
 (tSeq (tAsg (tMeth (He.ga K "Store") "free_number" (sp_Store_free_number K) [] E0 (tVar 0) tNil) (gName 3))
 (tSeq (sDPut (tFld K (tVar 0) "_places") (tVar 3) (tCB (rLenS K) (tCons (tFld K (tVar 0) "words") (tNil))))
 (tSeq (tDrop (tBM K "list" rExtend (tFld K (tVar 0) "words") (tCons (tLst (tCons (tVar 3) (tCons (tVar 2) (tCons (tVar 1) (tNil))))) (tNil))))
 (tSeq (tDrop (tBM K "list" rExtend (tFld K (tVar 0) "words") (tCons (tOp rRep (tLst (tCons (tC (.int 0)) (tNil))) (tVar 2)) (tNil))))
 (tSeq (tRet (tVar 3))
 (tNext))))))
abbrev N_Store_size : List Str := ["self", "number"]
def t_Store_size (K : PySem.W.Frag) : TS :=
 tSeq (tRet (tOp (rIxL K) (tFld K (tVar 0) "words") (tOp oAdd (tDGet (tFld K (tVar 0) "_places") (tVar 1)) (tC (.int 1)))))
 (tNext)
abbrev N_Store_kind : List Str := ["self", "number"]
def t_Store_kind (K : PySem.W.Frag) : TS :=
 tSeq (tRet (tOp (rIxL K) (tFld K (tVar 0) "words") (tOp oAdd (tDGet (tFld K (tVar 0) "_places") (tVar 1)) (tC (.int 2)))))
 (tNext)
abbrev N_Store_put : List Str := ["self", "number", "at", "word"]
def t_Store_put (K : PySem.W.Frag) : TS :=
 tSeq (tAsg (tVar 3) (gSub (tFld K (tVar 0) "words") (tOp oAdd (tOp oAdd (tDGet (tFld K (tVar 0) "_places") (tVar 1)) (tC (.int 3))) (tVar 2)) rSetL))
 (tNext)
abbrev N_Store_slots : List Str := ["self", "number", "place"]
def t_Store_slots (K : PySem.W.Frag) : TS :=
 tSeq (tAsg (tOp oAdd (tDGet (tFld K (tVar 0) "_places") (tVar 1)) (tC (.int 3))) (gName 2))
 (tSeq (tRet (L2.tSl (rSlL K) (tFld K (tVar 0) "words") (tPart (tVar 2)) (tPart (tOp oAdd (tVar 2) (tMeth (He.ga K "Store") "size" (sp_Store_size K) [] E0 (tVar 0) (tCons (tVar 1) (tNil)))))))
 (tNext))
end K64

set_option Elab.async false
set_option linter.all false
set_option maxRecDepth 100000
set_option maxHeartbeats 0
namespace K64
open PySem PySem.Spec PyProof.Rows L2
def topS (i : Nat) : Stmt := PySem.Challenge.pw_kilnwarden_k64_best_paths.main.body.getD i (.Pass ⟨0, 0, 0, 0⟩)
abbrev s__wall : Stmt := topS 0
abbrev m_BadWord_init_ : Stmt := inClass (topS 3) 0
abbrev m_NoRoom_init_ : Stmt := inClass (topS 4) 0
abbrev m_NoNumber_init_ : Stmt := inClass (topS 5) 0
abbrev m_Wrong_init_ : Stmt := inClass (topS 6) 0
abbrev s_is_ref : Stmt := topS 9
abbrev s_ref_of : Stmt := topS 10
abbrev s_reached : Stmt := topS 12
abbrev s_collect : Stmt := topS 13
abbrev s_object_of : Stmt := topS 16
abbrev s_row_of : Stmt := topS 17
abbrev s_word_at : Stmt := topS 18
abbrev s_paths : Stmt := topS 19
abbrev s_garbage : Stmt := topS 20
abbrev m_Store_init_ : Stmt := inClass (topS 23) 0
abbrev m_Store_used : Stmt := inClass (topS 23) 1
abbrev m_Store_exists : Stmt := inClass (topS 23) 2
abbrev m_Store_numbers : Stmt := inClass (topS 23) 3
abbrev m_Store_free_number : Stmt := inClass (topS 23) 4
abbrev m_Store_allocate : Stmt := inClass (topS 23) 5
abbrev m_Store_size : Stmt := inClass (topS 23) 6
abbrev m_Store_kind : Stmt := inClass (topS 23) 7
abbrev m_Store_set_kind : Stmt := inClass (topS 23) 8
abbrev m_Store_get : Stmt := inClass (topS 23) 9
abbrev m_Store_put : Stmt := inClass (topS 23) 10
abbrev m_Store_slots : Stmt := inClass (topS 23) 11
abbrev m_Store_drop : Stmt := inClass (topS 23) 12
abbrev m_Store_close_up : Stmt := inClass (topS 23) 13
abbrev m_Store_snapshot : Stmt := inClass (topS 23) 14
abbrev m_Store_restore : Stmt := inClass (topS 23) 15
abbrev m_Store_exchange : Stmt := inClass (topS 23) 16
abbrev m_Space_init_ : Stmt := inClass (topS 26) 0
abbrev m_Space_press : Stmt := inClass (topS 26) 1
abbrev m_Space_root : Stmt := inClass (topS 26) 2
abbrev m_Space_set_root : Stmt := inClass (topS 26) 3
abbrev m_Space_hold : Stmt := inClass (topS 26) 4
abbrev m_Space_drop : Stmt := inClass (topS 26) 5
abbrev m_Space_held : Stmt := inClass (topS 26) 6
abbrev m_Space_all_roots : Stmt := inClass (topS 26) 7
abbrev m_Space_collect : Stmt := inClass (topS 26) 8
abbrev m_Space_collect_with : Stmt := inClass (topS 26) 9
abbrev m_Space_live_words : Stmt := inClass (topS 26) 10
abbrev m_Space_new : Stmt := inClass (topS 26) 11
abbrev m_Space_fitted : Stmt := inClass (topS 26) 12
abbrev m_Space_begin : Stmt := inClass (topS 26) 13
abbrev m_Space_commit : Stmt := inClass (topS 26) 14
abbrev m_Space_abort : Stmt := inClass (topS 26) 15
abbrev s__law_number : Stmt := topS 28
abbrev s__law_word : Stmt := topS 29
abbrev s__law_is : Stmt := topS 30
abbrev s__law_same : Stmt := topS 31
abbrev s__law_sizes : Stmt := topS 32
abbrev s__law_rows : Stmt := topS 33
abbrev s__law_roots : Stmt := topS 34
abbrev s__law_space : Stmt := topS 35
abbrev s__law_walk : Stmt := topS 36
abbrev s__law_extended : Stmt := topS 37
abbrev s__law_best : Stmt := topS 38
abbrev s__law_path_is : Stmt := topS 39
abbrev s__law_told : Stmt := topS 40
abbrev s__law_drawn : Stmt := topS 41
abbrev s__law_kept : Stmt := topS 42
abbrev s__law_long : Stmt := topS 43
abbrev s_law : Stmt := topS 44
abbrev FnP (K : PySem.W.Frag) (x q : Str) (st : Stmt) (f : Addr) (fd : FuncData) : Prop := FunD K x q (defArgs st) (defBody st) (defScope st) [] [] f fd
def ds__wall : He.DefD := ⟨("_wall", none), "_wall", "_wall", defArgs s__wall, defBody s__wall, defScope s__wall, [], []⟩
def dm_BadWord_init_ : He.DefD := ⟨("BadWord", some "__init__"), "__init__", "BadWord.__init__", defArgs m_BadWord_init_, defBody m_BadWord_init_, defScope m_BadWord_init_, [], []⟩
def dm_NoRoom_init_ : He.DefD := ⟨("NoRoom", some "__init__"), "__init__", "NoRoom.__init__", defArgs m_NoRoom_init_, defBody m_NoRoom_init_, defScope m_NoRoom_init_, [], []⟩
def dm_NoNumber_init_ : He.DefD := ⟨("NoNumber", some "__init__"), "__init__", "NoNumber.__init__", defArgs m_NoNumber_init_, defBody m_NoNumber_init_, defScope m_NoNumber_init_, [], []⟩
def dm_Wrong_init_ : He.DefD := ⟨("Wrong", some "__init__"), "__init__", "Wrong.__init__", defArgs m_Wrong_init_, defBody m_Wrong_init_, defScope m_Wrong_init_, [], []⟩
def ds_is_ref : He.DefD := ⟨("is_ref", none), "is_ref", "is_ref", defArgs s_is_ref, defBody s_is_ref, defScope s_is_ref, [], []⟩
def ds_ref_of : He.DefD := ⟨("ref_of", none), "ref_of", "ref_of", defArgs s_ref_of, defBody s_ref_of, defScope s_ref_of, [], []⟩
def ds_reached : He.DefD := ⟨("reached", none), "reached", "reached", defArgs s_reached, defBody s_reached, defScope s_reached, [], []⟩
def ds_collect : He.DefD := ⟨("collect", none), "collect", "collect", defArgs s_collect, defBody s_collect, defScope s_collect, [], []⟩
def ds_object_of : He.DefD := ⟨("object_of", none), "object_of", "object_of", defArgs s_object_of, defBody s_object_of, defScope s_object_of, [], []⟩
def ds_row_of : He.DefD := ⟨("row_of", none), "row_of", "row_of", defArgs s_row_of, defBody s_row_of, defScope s_row_of, [], []⟩
def ds_word_at : He.DefD := ⟨("word_at", none), "word_at", "word_at", defArgs s_word_at, defBody s_word_at, defScope s_word_at, [], []⟩
def ds_paths : He.DefD := ⟨("paths", none), "paths", "paths", defArgs s_paths, defBody s_paths, defScope s_paths, [], []⟩
def ds_garbage : He.DefD := ⟨("garbage", none), "garbage", "garbage", defArgs s_garbage, defBody s_garbage, defScope s_garbage, [], []⟩
def dm_Store_init_ : He.DefD := ⟨("Store", some "__init__"), "__init__", "Store.__init__", defArgs m_Store_init_, defBody m_Store_init_, defScope m_Store_init_, [], []⟩
def dm_Store_used : He.DefD := ⟨("Store", some "used"), "used", "Store.used", defArgs m_Store_used, defBody m_Store_used, defScope m_Store_used, [], []⟩
def dm_Store_exists : He.DefD := ⟨("Store", some "exists"), "exists", "Store.exists", defArgs m_Store_exists, defBody m_Store_exists, defScope m_Store_exists, [], []⟩
def dm_Store_numbers : He.DefD := ⟨("Store", some "numbers"), "numbers", "Store.numbers", defArgs m_Store_numbers, defBody m_Store_numbers, defScope m_Store_numbers, [], []⟩
def dm_Store_free_number : He.DefD := ⟨("Store", some "free_number"), "free_number", "Store.free_number", defArgs m_Store_free_number, defBody m_Store_free_number, defScope m_Store_free_number, [], []⟩
def dm_Store_allocate : He.DefD := ⟨("Store", some "allocate"), "allocate", "Store.allocate", defArgs m_Store_allocate, defBody m_Store_allocate, defScope m_Store_allocate, [], []⟩
def dm_Store_size : He.DefD := ⟨("Store", some "size"), "size", "Store.size", defArgs m_Store_size, defBody m_Store_size, defScope m_Store_size, [], []⟩
def dm_Store_kind : He.DefD := ⟨("Store", some "kind"), "kind", "Store.kind", defArgs m_Store_kind, defBody m_Store_kind, defScope m_Store_kind, [], []⟩
def dm_Store_set_kind : He.DefD := ⟨("Store", some "set_kind"), "set_kind", "Store.set_kind", defArgs m_Store_set_kind, defBody m_Store_set_kind, defScope m_Store_set_kind, [], []⟩
def dm_Store_get : He.DefD := ⟨("Store", some "get"), "get", "Store.get", defArgs m_Store_get, defBody m_Store_get, defScope m_Store_get, [], []⟩
def dm_Store_put : He.DefD := ⟨("Store", some "put"), "put", "Store.put", defArgs m_Store_put, defBody m_Store_put, defScope m_Store_put, [], []⟩
def dm_Store_slots : He.DefD := ⟨("Store", some "slots"), "slots", "Store.slots", defArgs m_Store_slots, defBody m_Store_slots, defScope m_Store_slots, [], []⟩
def dm_Store_drop : He.DefD := ⟨("Store", some "drop"), "drop", "Store.drop", defArgs m_Store_drop, defBody m_Store_drop, defScope m_Store_drop, [], []⟩
def dm_Store_close_up : He.DefD := ⟨("Store", some "close_up"), "close_up", "Store.close_up", defArgs m_Store_close_up, defBody m_Store_close_up, defScope m_Store_close_up, [], []⟩
def dm_Store_snapshot : He.DefD := ⟨("Store", some "snapshot"), "snapshot", "Store.snapshot", defArgs m_Store_snapshot, defBody m_Store_snapshot, defScope m_Store_snapshot, [], []⟩
def dm_Store_restore : He.DefD := ⟨("Store", some "restore"), "restore", "Store.restore", defArgs m_Store_restore, defBody m_Store_restore, defScope m_Store_restore, [], []⟩
def dm_Store_exchange : He.DefD := ⟨("Store", some "exchange"), "exchange", "Store.exchange", defArgs m_Store_exchange, defBody m_Store_exchange, defScope m_Store_exchange, [], []⟩
def dm_Space_init_ : He.DefD := ⟨("Space", some "__init__"), "__init__", "Space.__init__", defArgs m_Space_init_, defBody m_Space_init_, defScope m_Space_init_, [], []⟩
def dm_Space_press : He.DefD := ⟨("Space", some "press"), "press", "Space.press", defArgs m_Space_press, defBody m_Space_press, defScope m_Space_press, [], []⟩
def dm_Space_root : He.DefD := ⟨("Space", some "root"), "root", "Space.root", defArgs m_Space_root, defBody m_Space_root, defScope m_Space_root, [], []⟩
def dm_Space_set_root : He.DefD := ⟨("Space", some "set_root"), "set_root", "Space.set_root", defArgs m_Space_set_root, defBody m_Space_set_root, defScope m_Space_set_root, [], []⟩
def dm_Space_hold : He.DefD := ⟨("Space", some "hold"), "hold", "Space.hold", defArgs m_Space_hold, defBody m_Space_hold, defScope m_Space_hold, [], []⟩
def dm_Space_drop : He.DefD := ⟨("Space", some "drop"), "drop", "Space.drop", defArgs m_Space_drop, defBody m_Space_drop, defScope m_Space_drop, [], []⟩
def dm_Space_held : He.DefD := ⟨("Space", some "held"), "held", "Space.held", defArgs m_Space_held, defBody m_Space_held, defScope m_Space_held, [], []⟩
def dm_Space_all_roots : He.DefD := ⟨("Space", some "all_roots"), "all_roots", "Space.all_roots", defArgs m_Space_all_roots, defBody m_Space_all_roots, defScope m_Space_all_roots, [], []⟩
def dm_Space_collect : He.DefD := ⟨("Space", some "collect"), "collect", "Space.collect", defArgs m_Space_collect, defBody m_Space_collect, defScope m_Space_collect, [], []⟩
def dm_Space_collect_with : He.DefD := ⟨("Space", some "collect_with"), "collect_with", "Space.collect_with", defArgs m_Space_collect_with, defBody m_Space_collect_with, defScope m_Space_collect_with, [], []⟩
def dm_Space_live_words : He.DefD := ⟨("Space", some "live_words"), "live_words", "Space.live_words", defArgs m_Space_live_words, defBody m_Space_live_words, defScope m_Space_live_words, [], []⟩
def dm_Space_new : He.DefD := ⟨("Space", some "new"), "new", "Space.new", defArgs m_Space_new, defBody m_Space_new, defScope m_Space_new, [], []⟩
def dm_Space_fitted : He.DefD := ⟨("Space", some "fitted"), "fitted", "Space.fitted", defArgs m_Space_fitted, defBody m_Space_fitted, defScope m_Space_fitted, [], []⟩
def dm_Space_begin : He.DefD := ⟨("Space", some "begin"), "begin", "Space.begin", defArgs m_Space_begin, defBody m_Space_begin, defScope m_Space_begin, [], []⟩
def dm_Space_commit : He.DefD := ⟨("Space", some "commit"), "commit", "Space.commit", defArgs m_Space_commit, defBody m_Space_commit, defScope m_Space_commit, [], []⟩
def dm_Space_abort : He.DefD := ⟨("Space", some "abort"), "abort", "Space.abort", defArgs m_Space_abort, defBody m_Space_abort, defScope m_Space_abort, [], []⟩
def ds__law_number : He.DefD := ⟨("_law_number", none), "_law_number", "_law_number", defArgs s__law_number, defBody s__law_number, defScope s__law_number, [], []⟩
def ds__law_word : He.DefD := ⟨("_law_word", none), "_law_word", "_law_word", defArgs s__law_word, defBody s__law_word, defScope s__law_word, [], []⟩
def ds__law_is : He.DefD := ⟨("_law_is", none), "_law_is", "_law_is", defArgs s__law_is, defBody s__law_is, defScope s__law_is, [], []⟩
def ds__law_same : He.DefD := ⟨("_law_same", none), "_law_same", "_law_same", defArgs s__law_same, defBody s__law_same, defScope s__law_same, [], []⟩
def ds__law_sizes : He.DefD := ⟨("_law_sizes", none), "_law_sizes", "_law_sizes", defArgs s__law_sizes, defBody s__law_sizes, defScope s__law_sizes, [], []⟩
def ds__law_rows : He.DefD := ⟨("_law_rows", none), "_law_rows", "_law_rows", defArgs s__law_rows, defBody s__law_rows, defScope s__law_rows, [], []⟩
def ds__law_roots : He.DefD := ⟨("_law_roots", none), "_law_roots", "_law_roots", defArgs s__law_roots, defBody s__law_roots, defScope s__law_roots, [], []⟩
def ds__law_space : He.DefD := ⟨("_law_space", none), "_law_space", "_law_space", defArgs s__law_space, defBody s__law_space, defScope s__law_space, [], []⟩
def ds__law_walk : He.DefD := ⟨("_law_walk", none), "_law_walk", "_law_walk", defArgs s__law_walk, defBody s__law_walk, defScope s__law_walk, [], []⟩
def ds__law_extended : He.DefD := ⟨("_law_extended", none), "_law_extended", "_law_extended", defArgs s__law_extended, defBody s__law_extended, defScope s__law_extended, [], []⟩
def ds__law_best : He.DefD := ⟨("_law_best", none), "_law_best", "_law_best", defArgs s__law_best, defBody s__law_best, defScope s__law_best, [], []⟩
def ds__law_path_is : He.DefD := ⟨("_law_path_is", none), "_law_path_is", "_law_path_is", defArgs s__law_path_is, defBody s__law_path_is, defScope s__law_path_is, [], []⟩
def ds__law_told : He.DefD := ⟨("_law_told", none), "_law_told", "_law_told", defArgs s__law_told, defBody s__law_told, defScope s__law_told, [], []⟩
def ds__law_drawn : He.DefD := ⟨("_law_drawn", none), "_law_drawn", "_law_drawn", defArgs s__law_drawn, defBody s__law_drawn, defScope s__law_drawn, [], []⟩
def ds__law_kept : He.DefD := ⟨("_law_kept", none), "_law_kept", "_law_kept", defArgs s__law_kept, defBody s__law_kept, defScope s__law_kept, [], []⟩
def ds__law_long : He.DefD := ⟨("_law_long", none), "_law_long", "_law_long", defArgs s__law_long, defBody s__law_long, defScope s__law_long, [], []⟩
def ds_law : He.DefD := ⟨("law", none), "law", "law", defArgs s_law, defBody s_law, defScope s_law, [], []⟩
def fn0 : List He.DefD := [ds__wall, ds_is_ref, ds_ref_of, ds_reached, ds_collect, ds_object_of, ds_row_of, ds_word_at, ds_paths, ds_garbage, dm_Store_init_, dm_Store_used, dm_Store_exists, dm_Store_numbers, dm_Store_free_number, dm_Store_allocate, dm_Store_size, dm_Store_kind, dm_Store_set_kind, dm_Store_get, dm_Store_put, dm_Store_slots, dm_Store_drop, dm_Store_close_up, dm_Store_snapshot, dm_Store_restore, dm_Store_exchange, dm_Space_init_, dm_Space_root, dm_Space_set_root]
def fn1 : List He.DefD := [dm_Space_hold, dm_Space_drop, dm_Space_held, dm_Space_all_roots, dm_Space_collect, dm_Space_collect_with, dm_Space_live_words, dm_Space_new, dm_Space_fitted, dm_Space_begin, dm_Space_commit, dm_Space_abort, ds__law_number, ds__law_word, ds__law_is, ds__law_same, ds__law_sizes, ds__law_rows, ds__law_roots, ds__law_space, ds__law_walk, ds__law_extended, ds__law_best, ds__law_path_is, ds__law_told, ds__law_drawn, ds__law_kept, ds__law_long, ds_law]
def fn : List He.DefD := fn0 ++ fn1
def fa0 : List He.Fa := [.glo "_wall", .glo "KilnwardenError", .glo "BadWord", .glo "NoRoom", .glo "NoNumber", .glo "Wrong", .int "NIL" 0, .glo "is_ref", .glo "ref_of", .glo "reached", .glo "collect", .glo "collect_collecting", .glo "object_of", .glo "row_of", .glo "word_at", .glo "paths", .glo "garbage", .int "HEADER" 3, .glo "Store", .int "ROOTS" 16, .glo "Space", .glo "_law_number", .glo "_law_word", .glo "_law_is", .glo "_law_same", .glo "_law_sizes", .glo "_law_rows", .glo "_law_roots", .glo "_law_space", .glo "_law_walk"]
def fa1 : List He.Fa := [.glo "_law_extended", .glo "_law_best", .glo "_law_path_is", .glo "_law_told", .glo "_law_drawn", .glo "_law_kept", .glo "_law_long", .glo "law", .free "ValueError", .free "bool", .free "dict", .free "int", .free "isinstance", .free "len", .free "list", .free "min", .free "range", .free "sorted", .free "str", .free "super", .free "tuple", .cls "Store", .mkr "Store", .noat "Store" "room", .noat "Store" "entries", .noat "Store" "words", .noat "Store" "_places", .noat "Store" "_least", .meth "Store" "used", .meth "Store" "exists"]
def fa2 : List He.Fa := [.meth "Store" "numbers", .meth "Store" "free_number", .meth "Store" "allocate", .meth "Store" "size", .meth "Store" "kind", .meth "Store" "set_kind", .meth "Store" "get", .meth "Store" "put", .meth "Store" "slots", .meth "Store" "drop", .meth "Store" "close_up", .meth "Store" "snapshot", .meth "Store" "restore", .meth "Store" "exchange", .cls "Space", .mkr "Space", .noat "Space" "store", .noat "Space" "pressure", .noat "Space" "always", .noat "Space" "allocations", .noat "Space" "collections", .noat "Space" "_roots", .noat "Space" "_held", .noat "Space" "_saved", .meth "Space" "press", .meth "Space" "root", .meth "Space" "set_root", .meth "Space" "hold", .meth "Space" "drop", .meth "Space" "held"]
def fa3 : List He.Fa := [.meth "Space" "all_roots", .meth "Space" "collect", .meth "Space" "collect_with", .meth "Space" "live_words", .meth "Space" "new", .meth "Space" "fitted", .meth "Space" "begin", .meth "Space" "commit", .meth "Space" "abort"]
def fa : List He.Fa := fa0 ++ fa1 ++ fa2 ++ fa3
def loose0 : List PySem.Str := ["_wall", "KilnwardenError", "BadWord", "NoRoom", "NoNumber", "Wrong", "NIL", "is_ref", "ref_of", "reached", "collect", "collect_collecting", "object_of", "row_of", "word_at", "paths", "garbage", "HEADER", "Store", "ROOTS", "Space", "_law_number", "_law_word", "_law_is", "_law_same", "_law_sizes", "_law_rows", "_law_roots", "_law_space", "_law_walk"]
def loose1 : List PySem.Str := ["_law_extended", "_law_best", "_law_path_is", "_law_told", "_law_drawn", "_law_kept", "_law_long"]
def loose : List PySem.Str := loose0 ++ loose1
abbrev R : PySem.W.OpenRow := PySem.W.OpenLaw.row PySem.Challenge.rw_kilnwarden_k64_best_paths
abbrev qv : PySem.Program := PySem.W.view R.prog [44]
abbrev hk : PySem.W.Hook := He.hookD 5 fa fn
def ob (s : PySem.W.SharedT) : He.AlD := He.obsDG 5 fa fn (HandSHeadRun.getT s)
theorem ob_eq (s : PySem.W.SharedT) : ob s = hk.obs s.abs := He.obsDG_eq (HandSHeadRun.getT_eq s)
theorem run (w : World) : HandSHeadRun.RunEq R qv hk ob 8000 loose w := by
  intro os
  kernel_rfl
structure Tx (K : PySem.W.Frag) (mg : Str → Option Value) : Prop where
  says : He.SaysD fa fn K
  inn : ∃ h : Heap, K.In h ∧ h.Ns mainGlobals mg
section
variable {K : PySem.W.Frag} {mg : Str → Option Value}
theorem Tx.g__wall (T : Tx K mg) : mg "_wall" = some (.ref (He.ga K "_wall")) := by
  obtain ⟨_, X, G⟩ := T.inn
  exact He.glo_ok X G (T.says.fact 0 rfl)
theorem Tx.g_KilnwardenError (T : Tx K mg) : mg "KilnwardenError" = some (.ref (He.ga K "KilnwardenError")) := by
  obtain ⟨_, X, G⟩ := T.inn
  exact He.glo_ok X G (T.says.fact 1 rfl)
theorem Tx.g_BadWord (T : Tx K mg) : mg "BadWord" = some (.ref (He.ga K "BadWord")) := by
  obtain ⟨_, X, G⟩ := T.inn
  exact He.glo_ok X G (T.says.fact 2 rfl)
theorem Tx.g_NoRoom (T : Tx K mg) : mg "NoRoom" = some (.ref (He.ga K "NoRoom")) := by
  obtain ⟨_, X, G⟩ := T.inn
  exact He.glo_ok X G (T.says.fact 3 rfl)
theorem Tx.g_NoNumber (T : Tx K mg) : mg "NoNumber" = some (.ref (He.ga K "NoNumber")) := by
  obtain ⟨_, X, G⟩ := T.inn
  exact He.glo_ok X G (T.says.fact 4 rfl)
theorem Tx.g_Wrong (T : Tx K mg) : mg "Wrong" = some (.ref (He.ga K "Wrong")) := by
  obtain ⟨_, X, G⟩ := T.inn
  exact He.glo_ok X G (T.says.fact 5 rfl)
theorem Tx.c_NIL (T : Tx K mg) : ∃ u, mg "NIL" = some u ∧ RelV (.int 0) u := by
  obtain ⟨_, X, G⟩ := T.inn
  obtain ⟨t, e⟩ := He.int_ok X G (T.says.fact 6 rfl)
  exact ⟨_, e, t, rfl⟩
theorem Tx.g_is_ref (T : Tx K mg) : mg "is_ref" = some (.ref (He.ga K "is_ref")) := by
  obtain ⟨_, X, G⟩ := T.inn
  exact He.glo_ok X G (T.says.fact 7 rfl)
theorem Tx.g_ref_of (T : Tx K mg) : mg "ref_of" = some (.ref (He.ga K "ref_of")) := by
  obtain ⟨_, X, G⟩ := T.inn
  exact He.glo_ok X G (T.says.fact 8 rfl)
theorem Tx.g_reached (T : Tx K mg) : mg "reached" = some (.ref (He.ga K "reached")) := by
  obtain ⟨_, X, G⟩ := T.inn
  exact He.glo_ok X G (T.says.fact 9 rfl)
theorem Tx.g_collect (T : Tx K mg) : mg "collect" = some (.ref (He.ga K "collect")) := by
  obtain ⟨_, X, G⟩ := T.inn
  exact He.glo_ok X G (T.says.fact 10 rfl)
theorem Tx.g_collect_collecting (T : Tx K mg) : mg "collect_collecting" = some (.ref (He.ga K "collect_collecting")) := by
  obtain ⟨_, X, G⟩ := T.inn
  exact He.glo_ok X G (T.says.fact 11 rfl)
theorem Tx.g_object_of (T : Tx K mg) : mg "object_of" = some (.ref (He.ga K "object_of")) := by
  obtain ⟨_, X, G⟩ := T.inn
  exact He.glo_ok X G (T.says.fact 12 rfl)
theorem Tx.g_row_of (T : Tx K mg) : mg "row_of" = some (.ref (He.ga K "row_of")) := by
  obtain ⟨_, X, G⟩ := T.inn
  exact He.glo_ok X G (T.says.fact 13 rfl)
theorem Tx.g_word_at (T : Tx K mg) : mg "word_at" = some (.ref (He.ga K "word_at")) := by
  obtain ⟨_, X, G⟩ := T.inn
  exact He.glo_ok X G (T.says.fact 14 rfl)
theorem Tx.g_paths (T : Tx K mg) : mg "paths" = some (.ref (He.ga K "paths")) := by
  obtain ⟨_, X, G⟩ := T.inn
  exact He.glo_ok X G (T.says.fact 15 rfl)
theorem Tx.g_garbage (T : Tx K mg) : mg "garbage" = some (.ref (He.ga K "garbage")) := by
  obtain ⟨_, X, G⟩ := T.inn
  exact He.glo_ok X G (T.says.fact 16 rfl)
theorem Tx.c_HEADER (T : Tx K mg) : ∃ u, mg "HEADER" = some u ∧ RelV (.int 3) u := by
  obtain ⟨_, X, G⟩ := T.inn
  obtain ⟨t, e⟩ := He.int_ok X G (T.says.fact 17 rfl)
  exact ⟨_, e, t, rfl⟩
theorem Tx.g_Store (T : Tx K mg) : mg "Store" = some (.ref (He.ga K "Store")) := by
  obtain ⟨_, X, G⟩ := T.inn
  exact He.glo_ok X G (T.says.fact 18 rfl)
theorem Tx.c_ROOTS (T : Tx K mg) : ∃ u, mg "ROOTS" = some u ∧ RelV (.int 16) u := by
  obtain ⟨_, X, G⟩ := T.inn
  obtain ⟨t, e⟩ := He.int_ok X G (T.says.fact 19 rfl)
  exact ⟨_, e, t, rfl⟩
theorem Tx.g_Space (T : Tx K mg) : mg "Space" = some (.ref (He.ga K "Space")) := by
  obtain ⟨_, X, G⟩ := T.inn
  exact He.glo_ok X G (T.says.fact 20 rfl)
theorem Tx.g__law_number (T : Tx K mg) : mg "_law_number" = some (.ref (He.ga K "_law_number")) := by
  obtain ⟨_, X, G⟩ := T.inn
  exact He.glo_ok X G (T.says.fact 21 rfl)
theorem Tx.g__law_word (T : Tx K mg) : mg "_law_word" = some (.ref (He.ga K "_law_word")) := by
  obtain ⟨_, X, G⟩ := T.inn
  exact He.glo_ok X G (T.says.fact 22 rfl)
theorem Tx.g__law_is (T : Tx K mg) : mg "_law_is" = some (.ref (He.ga K "_law_is")) := by
  obtain ⟨_, X, G⟩ := T.inn
  exact He.glo_ok X G (T.says.fact 23 rfl)
theorem Tx.g__law_same (T : Tx K mg) : mg "_law_same" = some (.ref (He.ga K "_law_same")) := by
  obtain ⟨_, X, G⟩ := T.inn
  exact He.glo_ok X G (T.says.fact 24 rfl)
theorem Tx.g__law_sizes (T : Tx K mg) : mg "_law_sizes" = some (.ref (He.ga K "_law_sizes")) := by
  obtain ⟨_, X, G⟩ := T.inn
  exact He.glo_ok X G (T.says.fact 25 rfl)
theorem Tx.g__law_rows (T : Tx K mg) : mg "_law_rows" = some (.ref (He.ga K "_law_rows")) := by
  obtain ⟨_, X, G⟩ := T.inn
  exact He.glo_ok X G (T.says.fact 26 rfl)
theorem Tx.g__law_roots (T : Tx K mg) : mg "_law_roots" = some (.ref (He.ga K "_law_roots")) := by
  obtain ⟨_, X, G⟩ := T.inn
  exact He.glo_ok X G (T.says.fact 27 rfl)
theorem Tx.g__law_space (T : Tx K mg) : mg "_law_space" = some (.ref (He.ga K "_law_space")) := by
  obtain ⟨_, X, G⟩ := T.inn
  exact He.glo_ok X G (T.says.fact 28 rfl)
theorem Tx.g__law_walk (T : Tx K mg) : mg "_law_walk" = some (.ref (He.ga K "_law_walk")) := by
  obtain ⟨_, X, G⟩ := T.inn
  exact He.glo_ok X G (T.says.fact 29 rfl)
theorem Tx.g__law_extended (T : Tx K mg) : mg "_law_extended" = some (.ref (He.ga K "_law_extended")) := by
  obtain ⟨_, X, G⟩ := T.inn
  exact He.glo_ok X G (T.says.fact 30 rfl)
theorem Tx.g__law_best (T : Tx K mg) : mg "_law_best" = some (.ref (He.ga K "_law_best")) := by
  obtain ⟨_, X, G⟩ := T.inn
  exact He.glo_ok X G (T.says.fact 31 rfl)
theorem Tx.g__law_path_is (T : Tx K mg) : mg "_law_path_is" = some (.ref (He.ga K "_law_path_is")) := by
  obtain ⟨_, X, G⟩ := T.inn
  exact He.glo_ok X G (T.says.fact 32 rfl)
theorem Tx.g__law_told (T : Tx K mg) : mg "_law_told" = some (.ref (He.ga K "_law_told")) := by
  obtain ⟨_, X, G⟩ := T.inn
  exact He.glo_ok X G (T.says.fact 33 rfl)
theorem Tx.g__law_drawn (T : Tx K mg) : mg "_law_drawn" = some (.ref (He.ga K "_law_drawn")) := by
  obtain ⟨_, X, G⟩ := T.inn
  exact He.glo_ok X G (T.says.fact 34 rfl)
theorem Tx.g__law_kept (T : Tx K mg) : mg "_law_kept" = some (.ref (He.ga K "_law_kept")) := by
  obtain ⟨_, X, G⟩ := T.inn
  exact He.glo_ok X G (T.says.fact 35 rfl)
theorem Tx.g__law_long (T : Tx K mg) : mg "_law_long" = some (.ref (He.ga K "_law_long")) := by
  obtain ⟨_, X, G⟩ := T.inn
  exact He.glo_ok X G (T.says.fact 36 rfl)
theorem Tx.g_law (T : Tx K mg) : mg "law" = some (.ref (He.ga K "law")) := by
  obtain ⟨_, X, G⟩ := T.inn
  exact He.glo_ok X G (T.says.fact 37 rfl)
theorem Tx.f_ValueError (T : Tx K mg) : mg "ValueError" = none := by
  obtain ⟨_, X, G⟩ := T.inn
  exact He.free_ok X G (T.says.fact 38 rfl)
theorem Tx.f_bool (T : Tx K mg) : mg "bool" = none := by
  obtain ⟨_, X, G⟩ := T.inn
  exact He.free_ok X G (T.says.fact 39 rfl)
theorem Tx.f_dict (T : Tx K mg) : mg "dict" = none := by
  obtain ⟨_, X, G⟩ := T.inn
  exact He.free_ok X G (T.says.fact 40 rfl)
theorem Tx.f_int (T : Tx K mg) : mg "int" = none := by
  obtain ⟨_, X, G⟩ := T.inn
  exact He.free_ok X G (T.says.fact 41 rfl)
theorem Tx.f_isinstance (T : Tx K mg) : mg "isinstance" = none := by
  obtain ⟨_, X, G⟩ := T.inn
  exact He.free_ok X G (T.says.fact 42 rfl)
theorem Tx.f_len (T : Tx K mg) : mg "len" = none := by
  obtain ⟨_, X, G⟩ := T.inn
  exact He.free_ok X G (T.says.fact 43 rfl)
theorem Tx.f_list (T : Tx K mg) : mg "list" = none := by
  obtain ⟨_, X, G⟩ := T.inn
  exact He.free_ok X G (T.says.fact 44 rfl)
theorem Tx.f_min (T : Tx K mg) : mg "min" = none := by
  obtain ⟨_, X, G⟩ := T.inn
  exact He.free_ok X G (T.says.fact 45 rfl)
theorem Tx.f_range (T : Tx K mg) : mg "range" = none := by
  obtain ⟨_, X, G⟩ := T.inn
  exact He.free_ok X G (T.says.fact 46 rfl)
theorem Tx.f_sorted (T : Tx K mg) : mg "sorted" = none := by
  obtain ⟨_, X, G⟩ := T.inn
  exact He.free_ok X G (T.says.fact 47 rfl)
theorem Tx.f_str (T : Tx K mg) : mg "str" = none := by
  obtain ⟨_, X, G⟩ := T.inn
  exact He.free_ok X G (T.says.fact 48 rfl)
theorem Tx.f_super (T : Tx K mg) : mg "super" = none := by
  obtain ⟨_, X, G⟩ := T.inn
  exact He.free_ok X G (T.says.fact 49 rfl)
theorem Tx.f_tuple (T : Tx K mg) : mg "tuple" = none := by
  obtain ⟨_, X, G⟩ := T.inn
  exact He.free_ok X G (T.says.fact 50 rfl)
theorem Tx.cls_Store (T : Tx K mg) : Cls K (He.ga K "Store") := He.cls_ok (T.says.fact 51 rfl)
theorem Tx.mk_Store (T : Tx K mg) : Mk K (He.ga K "Store") (He.ma K (He.ga K "Store") "__init__") := He.mkr_ok (T.says.fact 52 rfl)
theorem Tx.na_Store_room (T : Tx K mg) : NoAttr K (He.ga K "Store") "room" := He.noat_ok (T.says.fact 53 rfl)
theorem Tx.na_Store_entries (T : Tx K mg) : NoAttr K (He.ga K "Store") "entries" := He.noat_ok (T.says.fact 54 rfl)
theorem Tx.na_Store_words (T : Tx K mg) : NoAttr K (He.ga K "Store") "words" := He.noat_ok (T.says.fact 55 rfl)
theorem Tx.na_Store__places (T : Tx K mg) : NoAttr K (He.ga K "Store") "_places" := He.noat_ok (T.says.fact 56 rfl)
theorem Tx.na_Store__least (T : Tx K mg) : NoAttr K (He.ga K "Store") "_least" := He.noat_ok (T.says.fact 57 rfl)
theorem Tx.me_Store_used (T : Tx K mg) : Meth K (He.ga K "Store") "used" (He.ma K (He.ga K "Store") "used") := He.meth_ok (T.says.fact 58 rfl)
theorem Tx.me_Store_exists (T : Tx K mg) : Meth K (He.ga K "Store") "exists" (He.ma K (He.ga K "Store") "exists") := He.meth_ok (T.says.fact 59 rfl)
theorem Tx.me_Store_numbers (T : Tx K mg) : Meth K (He.ga K "Store") "numbers" (He.ma K (He.ga K "Store") "numbers") := He.meth_ok (T.says.fact 60 rfl)
theorem Tx.me_Store_free_number (T : Tx K mg) : Meth K (He.ga K "Store") "free_number" (He.ma K (He.ga K "Store") "free_number") := He.meth_ok (T.says.fact 61 rfl)
theorem Tx.me_Store_allocate (T : Tx K mg) : Meth K (He.ga K "Store") "allocate" (He.ma K (He.ga K "Store") "allocate") := He.meth_ok (T.says.fact 62 rfl)
theorem Tx.me_Store_size (T : Tx K mg) : Meth K (He.ga K "Store") "size" (He.ma K (He.ga K "Store") "size") := He.meth_ok (T.says.fact 63 rfl)
theorem Tx.me_Store_kind (T : Tx K mg) : Meth K (He.ga K "Store") "kind" (He.ma K (He.ga K "Store") "kind") := He.meth_ok (T.says.fact 64 rfl)
theorem Tx.me_Store_set_kind (T : Tx K mg) : Meth K (He.ga K "Store") "set_kind" (He.ma K (He.ga K "Store") "set_kind") := He.meth_ok (T.says.fact 65 rfl)
theorem Tx.me_Store_get (T : Tx K mg) : Meth K (He.ga K "Store") "get" (He.ma K (He.ga K "Store") "get") := He.meth_ok (T.says.fact 66 rfl)
theorem Tx.me_Store_put (T : Tx K mg) : Meth K (He.ga K "Store") "put" (He.ma K (He.ga K "Store") "put") := He.meth_ok (T.says.fact 67 rfl)
theorem Tx.me_Store_slots (T : Tx K mg) : Meth K (He.ga K "Store") "slots" (He.ma K (He.ga K "Store") "slots") := He.meth_ok (T.says.fact 68 rfl)
theorem Tx.me_Store_drop (T : Tx K mg) : Meth K (He.ga K "Store") "drop" (He.ma K (He.ga K "Store") "drop") := He.meth_ok (T.says.fact 69 rfl)
theorem Tx.me_Store_close_up (T : Tx K mg) : Meth K (He.ga K "Store") "close_up" (He.ma K (He.ga K "Store") "close_up") := He.meth_ok (T.says.fact 70 rfl)
theorem Tx.me_Store_snapshot (T : Tx K mg) : Meth K (He.ga K "Store") "snapshot" (He.ma K (He.ga K "Store") "snapshot") := He.meth_ok (T.says.fact 71 rfl)
theorem Tx.me_Store_restore (T : Tx K mg) : Meth K (He.ga K "Store") "restore" (He.ma K (He.ga K "Store") "restore") := He.meth_ok (T.says.fact 72 rfl)
theorem Tx.me_Store_exchange (T : Tx K mg) : Meth K (He.ga K "Store") "exchange" (He.ma K (He.ga K "Store") "exchange") := He.meth_ok (T.says.fact 73 rfl)
theorem Tx.cls_Space (T : Tx K mg) : Cls K (He.ga K "Space") := He.cls_ok (T.says.fact 74 rfl)
theorem Tx.mk_Space (T : Tx K mg) : Mk K (He.ga K "Space") (He.ma K (He.ga K "Space") "__init__") := He.mkr_ok (T.says.fact 75 rfl)
theorem Tx.na_Space_store (T : Tx K mg) : NoAttr K (He.ga K "Space") "store" := He.noat_ok (T.says.fact 76 rfl)
theorem Tx.na_Space_pressure (T : Tx K mg) : NoAttr K (He.ga K "Space") "pressure" := He.noat_ok (T.says.fact 77 rfl)
theorem Tx.na_Space_always (T : Tx K mg) : NoAttr K (He.ga K "Space") "always" := He.noat_ok (T.says.fact 78 rfl)
theorem Tx.na_Space_allocations (T : Tx K mg) : NoAttr K (He.ga K "Space") "allocations" := He.noat_ok (T.says.fact 79 rfl)
theorem Tx.na_Space_collections (T : Tx K mg) : NoAttr K (He.ga K "Space") "collections" := He.noat_ok (T.says.fact 80 rfl)
theorem Tx.na_Space__roots (T : Tx K mg) : NoAttr K (He.ga K "Space") "_roots" := He.noat_ok (T.says.fact 81 rfl)
theorem Tx.na_Space__held (T : Tx K mg) : NoAttr K (He.ga K "Space") "_held" := He.noat_ok (T.says.fact 82 rfl)
theorem Tx.na_Space__saved (T : Tx K mg) : NoAttr K (He.ga K "Space") "_saved" := He.noat_ok (T.says.fact 83 rfl)
theorem Tx.me_Space_press (T : Tx K mg) : Meth K (He.ga K "Space") "press" (He.ma K (He.ga K "Space") "press") := He.meth_ok (T.says.fact 84 rfl)
theorem Tx.me_Space_root (T : Tx K mg) : Meth K (He.ga K "Space") "root" (He.ma K (He.ga K "Space") "root") := He.meth_ok (T.says.fact 85 rfl)
theorem Tx.me_Space_set_root (T : Tx K mg) : Meth K (He.ga K "Space") "set_root" (He.ma K (He.ga K "Space") "set_root") := He.meth_ok (T.says.fact 86 rfl)
theorem Tx.me_Space_hold (T : Tx K mg) : Meth K (He.ga K "Space") "hold" (He.ma K (He.ga K "Space") "hold") := He.meth_ok (T.says.fact 87 rfl)
theorem Tx.me_Space_drop (T : Tx K mg) : Meth K (He.ga K "Space") "drop" (He.ma K (He.ga K "Space") "drop") := He.meth_ok (T.says.fact 88 rfl)
theorem Tx.me_Space_held (T : Tx K mg) : Meth K (He.ga K "Space") "held" (He.ma K (He.ga K "Space") "held") := He.meth_ok (T.says.fact 89 rfl)
theorem Tx.me_Space_all_roots (T : Tx K mg) : Meth K (He.ga K "Space") "all_roots" (He.ma K (He.ga K "Space") "all_roots") := He.meth_ok (T.says.fact 90 rfl)
theorem Tx.me_Space_collect (T : Tx K mg) : Meth K (He.ga K "Space") "collect" (He.ma K (He.ga K "Space") "collect") := He.meth_ok (T.says.fact 91 rfl)
theorem Tx.me_Space_collect_with (T : Tx K mg) : Meth K (He.ga K "Space") "collect_with" (He.ma K (He.ga K "Space") "collect_with") := He.meth_ok (T.says.fact 92 rfl)
theorem Tx.me_Space_live_words (T : Tx K mg) : Meth K (He.ga K "Space") "live_words" (He.ma K (He.ga K "Space") "live_words") := He.meth_ok (T.says.fact 93 rfl)
theorem Tx.me_Space_new (T : Tx K mg) : Meth K (He.ga K "Space") "new" (He.ma K (He.ga K "Space") "new") := He.meth_ok (T.says.fact 94 rfl)
theorem Tx.me_Space_fitted (T : Tx K mg) : Meth K (He.ga K "Space") "fitted" (He.ma K (He.ga K "Space") "fitted") := He.meth_ok (T.says.fact 95 rfl)
theorem Tx.me_Space_begin (T : Tx K mg) : Meth K (He.ga K "Space") "begin" (He.ma K (He.ga K "Space") "begin") := He.meth_ok (T.says.fact 96 rfl)
theorem Tx.me_Space_commit (T : Tx K mg) : Meth K (He.ga K "Space") "commit" (He.ma K (He.ga K "Space") "commit") := He.meth_ok (T.says.fact 97 rfl)
theorem Tx.me_Space_abort (T : Tx K mg) : Meth K (He.ga K "Space") "abort" (He.ma K (He.ga K "Space") "abort") := He.meth_ok (T.says.fact 98 rfl)
theorem Tx.d_s__wall (T : Tx K mg) : ∃ fd, FunD K "_wall" "_wall" (defArgs s__wall) (defBody s__wall) (defScope s__wall) [] [] (He.fAd K ("_wall", none)) fd := T.says.def_ 0 (d := ds__wall) rfl
theorem Tx.d_s_is_ref (T : Tx K mg) : ∃ fd, FunD K "is_ref" "is_ref" (defArgs s_is_ref) (defBody s_is_ref) (defScope s_is_ref) [] [] (He.fAd K ("is_ref", none)) fd := T.says.def_ 1 (d := ds_is_ref) rfl
theorem Tx.d_s_ref_of (T : Tx K mg) : ∃ fd, FunD K "ref_of" "ref_of" (defArgs s_ref_of) (defBody s_ref_of) (defScope s_ref_of) [] [] (He.fAd K ("ref_of", none)) fd := T.says.def_ 2 (d := ds_ref_of) rfl
theorem Tx.d_s_reached (T : Tx K mg) : ∃ fd, FunD K "reached" "reached" (defArgs s_reached) (defBody s_reached) (defScope s_reached) [] [] (He.fAd K ("reached", none)) fd := T.says.def_ 3 (d := ds_reached) rfl
theorem Tx.d_s_collect (T : Tx K mg) : ∃ fd, FunD K "collect" "collect" (defArgs s_collect) (defBody s_collect) (defScope s_collect) [] [] (He.fAd K ("collect", none)) fd := T.says.def_ 4 (d := ds_collect) rfl
theorem Tx.d_s_object_of (T : Tx K mg) : ∃ fd, FunD K "object_of" "object_of" (defArgs s_object_of) (defBody s_object_of) (defScope s_object_of) [] [] (He.fAd K ("object_of", none)) fd := T.says.def_ 5 (d := ds_object_of) rfl
theorem Tx.d_s_row_of (T : Tx K mg) : ∃ fd, FunD K "row_of" "row_of" (defArgs s_row_of) (defBody s_row_of) (defScope s_row_of) [] [] (He.fAd K ("row_of", none)) fd := T.says.def_ 6 (d := ds_row_of) rfl
theorem Tx.d_s_word_at (T : Tx K mg) : ∃ fd, FunD K "word_at" "word_at" (defArgs s_word_at) (defBody s_word_at) (defScope s_word_at) [] [] (He.fAd K ("word_at", none)) fd := T.says.def_ 7 (d := ds_word_at) rfl
theorem Tx.d_s_paths (T : Tx K mg) : ∃ fd, FunD K "paths" "paths" (defArgs s_paths) (defBody s_paths) (defScope s_paths) [] [] (He.fAd K ("paths", none)) fd := T.says.def_ 8 (d := ds_paths) rfl
theorem Tx.d_s_garbage (T : Tx K mg) : ∃ fd, FunD K "garbage" "garbage" (defArgs s_garbage) (defBody s_garbage) (defScope s_garbage) [] [] (He.fAd K ("garbage", none)) fd := T.says.def_ 9 (d := ds_garbage) rfl
theorem Tx.d_m_Store_init_ (T : Tx K mg) : ∃ fd, FunD K "__init__" "Store.__init__" (defArgs m_Store_init_) (defBody m_Store_init_) (defScope m_Store_init_) [] [] (He.fAd K ("Store", some "__init__")) fd := T.says.def_ 10 (d := dm_Store_init_) rfl
theorem Tx.d_m_Store_used (T : Tx K mg) : ∃ fd, FunD K "used" "Store.used" (defArgs m_Store_used) (defBody m_Store_used) (defScope m_Store_used) [] [] (He.fAd K ("Store", some "used")) fd := T.says.def_ 11 (d := dm_Store_used) rfl
theorem Tx.d_m_Store_exists (T : Tx K mg) : ∃ fd, FunD K "exists" "Store.exists" (defArgs m_Store_exists) (defBody m_Store_exists) (defScope m_Store_exists) [] [] (He.fAd K ("Store", some "exists")) fd := T.says.def_ 12 (d := dm_Store_exists) rfl
theorem Tx.d_m_Store_numbers (T : Tx K mg) : ∃ fd, FunD K "numbers" "Store.numbers" (defArgs m_Store_numbers) (defBody m_Store_numbers) (defScope m_Store_numbers) [] [] (He.fAd K ("Store", some "numbers")) fd := T.says.def_ 13 (d := dm_Store_numbers) rfl
theorem Tx.d_m_Store_free_number (T : Tx K mg) : ∃ fd, FunD K "free_number" "Store.free_number" (defArgs m_Store_free_number) (defBody m_Store_free_number) (defScope m_Store_free_number) [] [] (He.fAd K ("Store", some "free_number")) fd := T.says.def_ 14 (d := dm_Store_free_number) rfl
theorem Tx.d_m_Store_allocate (T : Tx K mg) : ∃ fd, FunD K "allocate" "Store.allocate" (defArgs m_Store_allocate) (defBody m_Store_allocate) (defScope m_Store_allocate) [] [] (He.fAd K ("Store", some "allocate")) fd := T.says.def_ 15 (d := dm_Store_allocate) rfl
theorem Tx.d_m_Store_size (T : Tx K mg) : ∃ fd, FunD K "size" "Store.size" (defArgs m_Store_size) (defBody m_Store_size) (defScope m_Store_size) [] [] (He.fAd K ("Store", some "size")) fd := T.says.def_ 16 (d := dm_Store_size) rfl
theorem Tx.d_m_Store_kind (T : Tx K mg) : ∃ fd, FunD K "kind" "Store.kind" (defArgs m_Store_kind) (defBody m_Store_kind) (defScope m_Store_kind) [] [] (He.fAd K ("Store", some "kind")) fd := T.says.def_ 17 (d := dm_Store_kind) rfl
theorem Tx.d_m_Store_set_kind (T : Tx K mg) : ∃ fd, FunD K "set_kind" "Store.set_kind" (defArgs m_Store_set_kind) (defBody m_Store_set_kind) (defScope m_Store_set_kind) [] [] (He.fAd K ("Store", some "set_kind")) fd := T.says.def_ 18 (d := dm_Store_set_kind) rfl
theorem Tx.d_m_Store_get (T : Tx K mg) : ∃ fd, FunD K "get" "Store.get" (defArgs m_Store_get) (defBody m_Store_get) (defScope m_Store_get) [] [] (He.fAd K ("Store", some "get")) fd := T.says.def_ 19 (d := dm_Store_get) rfl
theorem Tx.d_m_Store_put (T : Tx K mg) : ∃ fd, FunD K "put" "Store.put" (defArgs m_Store_put) (defBody m_Store_put) (defScope m_Store_put) [] [] (He.fAd K ("Store", some "put")) fd := T.says.def_ 20 (d := dm_Store_put) rfl
theorem Tx.d_m_Store_slots (T : Tx K mg) : ∃ fd, FunD K "slots" "Store.slots" (defArgs m_Store_slots) (defBody m_Store_slots) (defScope m_Store_slots) [] [] (He.fAd K ("Store", some "slots")) fd := T.says.def_ 21 (d := dm_Store_slots) rfl
theorem Tx.d_m_Store_drop (T : Tx K mg) : ∃ fd, FunD K "drop" "Store.drop" (defArgs m_Store_drop) (defBody m_Store_drop) (defScope m_Store_drop) [] [] (He.fAd K ("Store", some "drop")) fd := T.says.def_ 22 (d := dm_Store_drop) rfl
theorem Tx.d_m_Store_close_up (T : Tx K mg) : ∃ fd, FunD K "close_up" "Store.close_up" (defArgs m_Store_close_up) (defBody m_Store_close_up) (defScope m_Store_close_up) [] [] (He.fAd K ("Store", some "close_up")) fd := T.says.def_ 23 (d := dm_Store_close_up) rfl
theorem Tx.d_m_Store_snapshot (T : Tx K mg) : ∃ fd, FunD K "snapshot" "Store.snapshot" (defArgs m_Store_snapshot) (defBody m_Store_snapshot) (defScope m_Store_snapshot) [] [] (He.fAd K ("Store", some "snapshot")) fd := T.says.def_ 24 (d := dm_Store_snapshot) rfl
theorem Tx.d_m_Store_restore (T : Tx K mg) : ∃ fd, FunD K "restore" "Store.restore" (defArgs m_Store_restore) (defBody m_Store_restore) (defScope m_Store_restore) [] [] (He.fAd K ("Store", some "restore")) fd := T.says.def_ 25 (d := dm_Store_restore) rfl
theorem Tx.d_m_Store_exchange (T : Tx K mg) : ∃ fd, FunD K "exchange" "Store.exchange" (defArgs m_Store_exchange) (defBody m_Store_exchange) (defScope m_Store_exchange) [] [] (He.fAd K ("Store", some "exchange")) fd := T.says.def_ 26 (d := dm_Store_exchange) rfl
theorem Tx.d_m_Space_init_ (T : Tx K mg) : ∃ fd, FunD K "__init__" "Space.__init__" (defArgs m_Space_init_) (defBody m_Space_init_) (defScope m_Space_init_) [] [] (He.fAd K ("Space", some "__init__")) fd := T.says.def_ 27 (d := dm_Space_init_) rfl
theorem Tx.d_m_Space_root (T : Tx K mg) : ∃ fd, FunD K "root" "Space.root" (defArgs m_Space_root) (defBody m_Space_root) (defScope m_Space_root) [] [] (He.fAd K ("Space", some "root")) fd := T.says.def_ 28 (d := dm_Space_root) rfl
theorem Tx.d_m_Space_set_root (T : Tx K mg) : ∃ fd, FunD K "set_root" "Space.set_root" (defArgs m_Space_set_root) (defBody m_Space_set_root) (defScope m_Space_set_root) [] [] (He.fAd K ("Space", some "set_root")) fd := T.says.def_ 29 (d := dm_Space_set_root) rfl
theorem Tx.d_m_Space_hold (T : Tx K mg) : ∃ fd, FunD K "hold" "Space.hold" (defArgs m_Space_hold) (defBody m_Space_hold) (defScope m_Space_hold) [] [] (He.fAd K ("Space", some "hold")) fd := T.says.def_ 30 (d := dm_Space_hold) rfl
theorem Tx.d_m_Space_drop (T : Tx K mg) : ∃ fd, FunD K "drop" "Space.drop" (defArgs m_Space_drop) (defBody m_Space_drop) (defScope m_Space_drop) [] [] (He.fAd K ("Space", some "drop")) fd := T.says.def_ 31 (d := dm_Space_drop) rfl
theorem Tx.d_m_Space_held (T : Tx K mg) : ∃ fd, FunD K "held" "Space.held" (defArgs m_Space_held) (defBody m_Space_held) (defScope m_Space_held) [] [] (He.fAd K ("Space", some "held")) fd := T.says.def_ 32 (d := dm_Space_held) rfl
theorem Tx.d_m_Space_all_roots (T : Tx K mg) : ∃ fd, FunD K "all_roots" "Space.all_roots" (defArgs m_Space_all_roots) (defBody m_Space_all_roots) (defScope m_Space_all_roots) [] [] (He.fAd K ("Space", some "all_roots")) fd := T.says.def_ 33 (d := dm_Space_all_roots) rfl
theorem Tx.d_m_Space_collect (T : Tx K mg) : ∃ fd, FunD K "collect" "Space.collect" (defArgs m_Space_collect) (defBody m_Space_collect) (defScope m_Space_collect) [] [] (He.fAd K ("Space", some "collect")) fd := T.says.def_ 34 (d := dm_Space_collect) rfl
theorem Tx.d_m_Space_collect_with (T : Tx K mg) : ∃ fd, FunD K "collect_with" "Space.collect_with" (defArgs m_Space_collect_with) (defBody m_Space_collect_with) (defScope m_Space_collect_with) [] [] (He.fAd K ("Space", some "collect_with")) fd := T.says.def_ 35 (d := dm_Space_collect_with) rfl
theorem Tx.d_m_Space_live_words (T : Tx K mg) : ∃ fd, FunD K "live_words" "Space.live_words" (defArgs m_Space_live_words) (defBody m_Space_live_words) (defScope m_Space_live_words) [] [] (He.fAd K ("Space", some "live_words")) fd := T.says.def_ 36 (d := dm_Space_live_words) rfl
theorem Tx.d_m_Space_new (T : Tx K mg) : ∃ fd, FunD K "new" "Space.new" (defArgs m_Space_new) (defBody m_Space_new) (defScope m_Space_new) [] [] (He.fAd K ("Space", some "new")) fd := T.says.def_ 37 (d := dm_Space_new) rfl
theorem Tx.d_m_Space_fitted (T : Tx K mg) : ∃ fd, FunD K "fitted" "Space.fitted" (defArgs m_Space_fitted) (defBody m_Space_fitted) (defScope m_Space_fitted) [] [] (He.fAd K ("Space", some "fitted")) fd := T.says.def_ 38 (d := dm_Space_fitted) rfl
theorem Tx.d_m_Space_begin (T : Tx K mg) : ∃ fd, FunD K "begin" "Space.begin" (defArgs m_Space_begin) (defBody m_Space_begin) (defScope m_Space_begin) [] [] (He.fAd K ("Space", some "begin")) fd := T.says.def_ 39 (d := dm_Space_begin) rfl
theorem Tx.d_m_Space_commit (T : Tx K mg) : ∃ fd, FunD K "commit" "Space.commit" (defArgs m_Space_commit) (defBody m_Space_commit) (defScope m_Space_commit) [] [] (He.fAd K ("Space", some "commit")) fd := T.says.def_ 40 (d := dm_Space_commit) rfl
theorem Tx.d_m_Space_abort (T : Tx K mg) : ∃ fd, FunD K "abort" "Space.abort" (defArgs m_Space_abort) (defBody m_Space_abort) (defScope m_Space_abort) [] [] (He.fAd K ("Space", some "abort")) fd := T.says.def_ 41 (d := dm_Space_abort) rfl
theorem Tx.d_s__law_number (T : Tx K mg) : ∃ fd, FunD K "_law_number" "_law_number" (defArgs s__law_number) (defBody s__law_number) (defScope s__law_number) [] [] (He.fAd K ("_law_number", none)) fd := T.says.def_ 42 (d := ds__law_number) rfl
theorem Tx.d_s__law_word (T : Tx K mg) : ∃ fd, FunD K "_law_word" "_law_word" (defArgs s__law_word) (defBody s__law_word) (defScope s__law_word) [] [] (He.fAd K ("_law_word", none)) fd := T.says.def_ 43 (d := ds__law_word) rfl
theorem Tx.d_s__law_is (T : Tx K mg) : ∃ fd, FunD K "_law_is" "_law_is" (defArgs s__law_is) (defBody s__law_is) (defScope s__law_is) [] [] (He.fAd K ("_law_is", none)) fd := T.says.def_ 44 (d := ds__law_is) rfl
theorem Tx.d_s__law_same (T : Tx K mg) : ∃ fd, FunD K "_law_same" "_law_same" (defArgs s__law_same) (defBody s__law_same) (defScope s__law_same) [] [] (He.fAd K ("_law_same", none)) fd := T.says.def_ 45 (d := ds__law_same) rfl
theorem Tx.d_s__law_sizes (T : Tx K mg) : ∃ fd, FunD K "_law_sizes" "_law_sizes" (defArgs s__law_sizes) (defBody s__law_sizes) (defScope s__law_sizes) [] [] (He.fAd K ("_law_sizes", none)) fd := T.says.def_ 46 (d := ds__law_sizes) rfl
theorem Tx.d_s__law_rows (T : Tx K mg) : ∃ fd, FunD K "_law_rows" "_law_rows" (defArgs s__law_rows) (defBody s__law_rows) (defScope s__law_rows) [] [] (He.fAd K ("_law_rows", none)) fd := T.says.def_ 47 (d := ds__law_rows) rfl
theorem Tx.d_s__law_roots (T : Tx K mg) : ∃ fd, FunD K "_law_roots" "_law_roots" (defArgs s__law_roots) (defBody s__law_roots) (defScope s__law_roots) [] [] (He.fAd K ("_law_roots", none)) fd := T.says.def_ 48 (d := ds__law_roots) rfl
theorem Tx.d_s__law_space (T : Tx K mg) : ∃ fd, FunD K "_law_space" "_law_space" (defArgs s__law_space) (defBody s__law_space) (defScope s__law_space) [] [] (He.fAd K ("_law_space", none)) fd := T.says.def_ 49 (d := ds__law_space) rfl
theorem Tx.d_s__law_walk (T : Tx K mg) : ∃ fd, FunD K "_law_walk" "_law_walk" (defArgs s__law_walk) (defBody s__law_walk) (defScope s__law_walk) [] [] (He.fAd K ("_law_walk", none)) fd := T.says.def_ 50 (d := ds__law_walk) rfl
theorem Tx.d_s__law_extended (T : Tx K mg) : ∃ fd, FunD K "_law_extended" "_law_extended" (defArgs s__law_extended) (defBody s__law_extended) (defScope s__law_extended) [] [] (He.fAd K ("_law_extended", none)) fd := T.says.def_ 51 (d := ds__law_extended) rfl
theorem Tx.d_s__law_best (T : Tx K mg) : ∃ fd, FunD K "_law_best" "_law_best" (defArgs s__law_best) (defBody s__law_best) (defScope s__law_best) [] [] (He.fAd K ("_law_best", none)) fd := T.says.def_ 52 (d := ds__law_best) rfl
theorem Tx.d_s__law_path_is (T : Tx K mg) : ∃ fd, FunD K "_law_path_is" "_law_path_is" (defArgs s__law_path_is) (defBody s__law_path_is) (defScope s__law_path_is) [] [] (He.fAd K ("_law_path_is", none)) fd := T.says.def_ 53 (d := ds__law_path_is) rfl
theorem Tx.d_s__law_told (T : Tx K mg) : ∃ fd, FunD K "_law_told" "_law_told" (defArgs s__law_told) (defBody s__law_told) (defScope s__law_told) [] [] (He.fAd K ("_law_told", none)) fd := T.says.def_ 54 (d := ds__law_told) rfl
theorem Tx.d_s__law_drawn (T : Tx K mg) : ∃ fd, FunD K "_law_drawn" "_law_drawn" (defArgs s__law_drawn) (defBody s__law_drawn) (defScope s__law_drawn) [] [] (He.fAd K ("_law_drawn", none)) fd := T.says.def_ 55 (d := ds__law_drawn) rfl
theorem Tx.d_s__law_kept (T : Tx K mg) : ∃ fd, FunD K "_law_kept" "_law_kept" (defArgs s__law_kept) (defBody s__law_kept) (defScope s__law_kept) [] [] (He.fAd K ("_law_kept", none)) fd := T.says.def_ 56 (d := ds__law_kept) rfl
theorem Tx.d_s__law_long (T : Tx K mg) : ∃ fd, FunD K "_law_long" "_law_long" (defArgs s__law_long) (defBody s__law_long) (defScope s__law_long) [] [] (He.fAd K ("_law_long", none)) fd := T.says.def_ 57 (d := ds__law_long) rfl
theorem Tx.d_s_law (T : Tx K mg) : ∃ fd, FunD K "law" "law" (defArgs s_law) (defBody s_law) (defScope s_law) [] [] (He.fAd K ("law", none)) fd := T.says.def_ 58 (d := ds_law) rfl
end
end K64

set_option Elab.async false
set_option linter.all false
set_option maxRecDepth 100000
set_option maxHeartbeats 2000000
namespace K64
open PySem PySem.Spec PyProof.Rows L2 Kw
local macro_rules | `(tactic| walk_at "hp") => `(tactic| first
  | assumption
  | exact upd_same
  | (refine Eq.trans (upd_ne ?_) ?_; (first | assumption | (apply Ne.symm; assumption)); walk_at "hp"))
local macro_rules | `(tactic| walk_at "sq") => `(tactic| first
  | assumption
  | (apply SqL.of; walk_at "hp")
  | (apply SqT.of; walk_at "hp"))
local macro_rules | `(tactic| walk_at "rv") => `(tactic| first
  | ((with_reducible exact rv_I0))
  | ((with_reducible apply rv_I); first | assumption | decide | omega | (exact ⟨by omega, by omega⟩) | skip)
  | ((with_reducible apply rv_eq); rfl)
  | ((with_reducible apply rv_ne); rfl)
  | ((with_reducible exact rv_isN))
  | ((with_reducible exact rv_notN))
  | skip)
local macro_rules | `(tactic| walk_at "sp") => `(tactic| first
  | (apply spv_I1; first | trivial | assumption | skip)
  | (apply spv_I2; first | trivial | assumption | skip)
  | skip)
local macro_rules | `(tactic| walk_at "ev") => `(tactic| first
  | ((with_reducible apply ev_var); rfl)
  | ((with_reducible exact ev_c))
  | ((with_reducible exact ea_nil))
  | ((with_reducible apply ea_cons); walk_at "ev"; walk_at "ev")
  | ((with_reducible apply ev_op); walk_at "ev"; walk_at "ev"; walk_at "rv")
  | ((with_reducible apply ev_neg); walk_at "ev")
  | ((with_reducible apply ev_int); walk_at "ev")
  | ((with_reducible apply ev_fld); walk_at "ev"; walk_at "hp"; walk_at "tx"; walk_at "tx"; rfl)
  | ((with_reducible apply ev_call); walk_at "ev"; walk_at "sp")
  | ((with_reducible apply et_test); walk_at "ev")
  | ((with_reducible apply et_B); walk_at "ev")
  | ((with_reducible apply et_not); walk_at "ev")
  | ((with_reducible apply ev_notV); walk_at "ev")
  | ((with_reducible apply eo_some); walk_at "ev")
  | ((with_reducible exact eo_none))
  | ((with_reducible apply en_lst); walk_at "ev"; exact of_decide_eq_true rfl)
  | ((with_reducible apply en_tup); walk_at "ev"; exact of_decide_eq_true rfl)
  | ((with_reducible exact en_dK))
  | skip)
local macro_rules | `(tactic| walk_at "tx") => `(tactic| first
  | assumption
  | (with_reducible exact Tx.cls_Store (by assumption))
  | (with_reducible exact Tx.na_Store_room (by assumption))
  | (with_reducible exact Tx.na_Store_entries (by assumption))
  | (with_reducible exact Tx.na_Store_words (by assumption))
  | (with_reducible exact Tx.na_Store__places (by assumption))
  | (with_reducible exact Tx.na_Store__least (by assumption))
  | (with_reducible exact Tx.cls_Space (by assumption))
  | (with_reducible exact Tx.na_Space_store (by assumption))
  | (with_reducible exact Tx.na_Space_pressure (by assumption))
  | (with_reducible exact Tx.na_Space_always (by assumption))
  | (with_reducible exact Tx.na_Space_allocations (by assumption))
  | (with_reducible exact Tx.na_Space_collections (by assumption))
  | (with_reducible exact Tx.na_Space__roots (by assumption))
  | (with_reducible exact Tx.na_Space__held (by assumption))
  | (with_reducible exact Tx.na_Space__saved (by assumption)))
theorem enc_at : ∀ {bs : List (Int × List Int)} {n : Int} {row : List Int}, rowOf bs n = some row → ∃ pre post, enc bs = pre ++ (n :: ((row.length : Int) - 1) :: (row ++ post)) ∧ off bs n = some pre.length
  | [], _, _, h => by cases h
  | (m, r) :: bs, n, row, h => by
    by_cases e : m = n
    · subst e
      have h2 : some r = some row := by simpa [rowOf, List.lookup_cons] using h
      cases h2
      exact ⟨[], enc bs, rfl, by simp [off]⟩
    · have h2 : rowOf bs n = some row := by
        have e2 : (n == m) = false := by simpa using fun z => e z.symm
        simpa [rowOf, List.lookup_cons, e2] using h
      obtain ⟨pre, post, h3, h4⟩ := enc_at h2
      refine ⟨m :: ((r.length : Int) - 1) :: (r ++ pre), post, ?_, ?_⟩
      · simp [enc, h3]
      · simp [off, e, h4]; omega
theorem off_none : ∀ {bs : List (Int × List Int)} {n : Int}, rowOf bs n = none → off bs n = none
  | [], _, _ => rfl
  | (m, r) :: bs, n, h => by
    by_cases e : m = n
    · subst e; simp [rowOf, List.lookup_cons] at h
    · have e2 : (n == m) = false := by simpa using fun z => e z.symm
      have h2 : rowOf bs n = none := by simpa [rowOf, List.lookup_cons, e2] using h
      simp [off, e, off_none h2]
theorem Plc.some {bs : List (Int × List Int)} {kvs : List (Key × V)} (p : Plc bs kvs) {n : Int} : (valV kvs (.inl n)).isSome = (rowOf bs n).isSome := by
  rw [p.at_]
  cases h : rowOf bs n with
  | none => rw [off_none h]; rfl
  | some row =>
    obtain ⟨pre, post, _, h4⟩ := enc_at h
    rw [h4]; rfl
theorem getD_mid {pre post : List Int} {x : Int} {xs : List Int} (h : xs = pre ++ x :: post) : xs.getD pre.length 0 = x := by
  subst h; simp [List.getD]
theorem getD_mid1 {pre post : List Int} {x y : Int} {xs : List Int} (h : xs = pre ++ x :: y :: post) : xs.getD (pre.length + 1) 0 = y := by
  subst h; simp [List.getD, List.getElem?_append_right]
theorem getD_mid2 {pre post : List Int} {x y z : Int} {xs : List Int} (h : xs = pre ++ x :: y :: z :: post) : xs.getD (pre.length + 2) 0 = z := by
  subst h; simp [List.getD, List.getElem?_append_right]
theorem mem_of_lookup : ∀ {bs : List (Int × List Int)} {n : Int} {row : List Int}, rowOf bs n = some row → (n, row) ∈ bs
  | [], _, _, h => by cases h
  | (m, r) :: bs, n, row, h => by
    by_cases e : m = n
    · subst e
      have h2 : some r = some row := by simpa [rowOf, List.lookup_cons] using h
      cases h2; exact List.mem_cons_self
    · have e2 : (n == m) = false := by simpa using fun z => e z.symm
      exact List.mem_cons_of_mem _ (mem_of_lookup (by simpa [rowOf, List.lookup_cons, e2] using h))
theorem StoreAt.sw {K : PySem.W.Frag} {a : SA} {r e l : Int} {bs : List (Int × List Int)} {kvs : List (Key × V)} {H : Hp} (S : StoreAt K a r e l bs kvs H) : a.st ≠ a.wl := ne_of S.st S.wl (by intro z; cases z)
theorem StoreAt.sp {K : PySem.W.Frag} {a : SA} {r e l : Int} {bs : List (Int × List Int)} {kvs : List (Key × V)} {H : Hp} (S : StoreAt K a r e l bs kvs H) : a.st ≠ a.pl := ne_of S.st S.pl (by intro z; cases z)
theorem StoreAt.wp {K : PySem.W.Frag} {a : SA} {r e l : Int} {bs : List (Int × List Int)} {kvs : List (Key × V)} {H : Hp} (S : StoreAt K a r e l bs kvs H) : a.wl ≠ a.pl := ne_of S.wl S.pl (by intro z; cases z)
theorem enc_app : ∀ (bs cs : List (Int × List Int)), enc (bs ++ cs) = enc bs ++ enc cs
  | [], _ => rfl
  | (m, r) :: bs, cs => by simp [enc, enc_app bs cs]
theorem row_ne {bs : List (Int × List Int)} {n : Int} {w : Int} {j : Nat} (h : n ∉ bs.map (·.1)) : putRow bs n j w = bs := by
  unfold putRow
  induction bs with
  | nil => rfl
  | cons b bs ih =>
    have h1 : ¬ b.1 = n := fun z => h (by simp [z])
    have h2 : n ∉ bs.map (·.1) := fun z => h (by simp at z ⊢; exact .inr z)
    rw [List.map_cons, if_neg h1, ih h2]
theorem enc_put : ∀ {bs : List (Int × List Int)} {n w : Int} {row : List Int} {k j : Nat}, (bs.map (·.1)).Nodup → rowOf bs n = some row → off bs n = some k → j < row.length → enc (putRow bs n j w) = (enc bs).set (k + 2 + j) w
  | [], _, _, _, _, _, _, h, _, _ => by cases h
  | (m, r) :: bs, n, w, row, k, j, nd, h, ho, hj => by
    have nd2 : (bs.map (·.1)).Nodup := (List.nodup_cons.mp nd).2
    by_cases e : m = n
    · subst e
      have h2 : some r = some row := by simpa [rowOf, List.lookup_cons] using h
      cases h2
      have hk : k = 0 := by simpa [off] using ho.symm
      subst hk
      have hm : m ∉ bs.map (·.1) := (List.nodup_cons.mp nd).1
      have e1 : putRow ((m, r) :: bs) m j w = (m, r.set j w) :: bs := by
        have := row_ne (w := w) (j := j) hm
        unfold putRow at this ⊢
        rw [List.map_cons, if_pos rfl, this]
      rw [e1]
      show m :: (((r.set j w).length : Int) - 1) :: (r.set j w ++ enc bs) = (m :: ((r.length : Int) - 1) :: (r ++ enc bs)).set (0 + 2 + j) w
      rw [List.length_set, show 0 + 2 + j = j + 1 + 1 by omega, List.set_cons_succ, List.set_cons_succ, List.set_append_left _ _ hj]
    · have e2 : (n == m) = false := by simpa using fun z => e z.symm
      have h2 : rowOf bs n = some row := by simpa [rowOf, List.lookup_cons, e2] using h
      obtain ⟨k', hk', rfl⟩ : ∃ k', off bs n = some k' ∧ k = k' + (r.length + 2) := by
        cases hb : off bs n with
        | none => simp [off, e, hb] at ho
        | some k' => exact ⟨k', rfl, by simp [off, e, hb] at ho; omega⟩
      have ih := enc_put (w := w) nd2 h2 hk' hj
      have e1 : putRow ((m, r) :: bs) n j w = (m, r) :: putRow bs n j w := by
        unfold putRow; rw [List.map_cons, if_neg e]
      rw [e1]
      show m :: ((r.length : Int) - 1) :: (r ++ enc (putRow bs n j w)) = (m :: ((r.length : Int) - 1) :: (r ++ enc bs)).set (k' + (r.length + 2) + 2 + j) w
      rw [ih, show k' + (r.length + 2) + 2 + j = (r.length + (k' + 2 + j)) + 1 + 1 by omega, List.set_cons_succ, List.set_cons_succ, List.set_append_right _ _ (by omega), Nat.add_sub_cancel_left]
theorem keys_some {bs : List (Int × List Int)} {n : Int} : (rowOf bs n).isSome = true ↔ n ∈ bs.map (·.1) := by
  induction bs with
  | nil => simp [rowOf]
  | cons b bs ih =>
    obtain ⟨m, r⟩ := b
    by_cases e : m = n
    · subst e; simp [rowOf, List.lookup_cons]
    · have e2 : (n == m) = false := by simpa using fun z => e z.symm
      simp only [rowOf, List.lookup_cons, e2, List.map_cons, List.mem_cons] at ih ⊢
      rw [ih]
      constructor
      · exact .inr
      · rintro (h | h)
        · exact absurd h.symm e
        · exact h
theorem enc_len_ge : ∀ bs : List (Int × List Int), bs.length ≤ (enc bs).length
  | [] => Nat.le_refl _
  | (m, r) :: bs => by
    have := enc_len_ge bs
    simp [enc]; omega
section
variable {K : PySem.W.Frag} {mg : Str → Option Value}
theorem rd_is_ref (T : Tx K mg) (vs : List V) (H : Hp) (Q : VK) (E : XK) (h : sp_is_ref K vs H Q E) : t_is_ref K { nx := fun _ H' => Q .non H', rt := Q } (start N_is_ref vs) H := by
  obtain ⟨_, rfl, w, rfl, _, q⟩ := h
  refine enter (σ := [some (.int w)]) (g_ret (by walk_at "ev") ?_)
  rw [kd_int]
  exact q
theorem rd_ref_of (T : Tx K mg) (vs : List V) (H : Hp) (Q : VK) (E : XK) (h : sp_ref_of K vs H Q E) : t_ref_of K { nx := fun _ H' => Q .non H', rt := Q } (start N_ref_of vs) H := by
  obtain ⟨_, rfl, w, rfl, hw, q⟩ := h
  refine enter (σ := [some (.int w)]) (g_if (by walk_at "ev") (fun hb => ?_) fun _ => g_end ?_)
  · simp [hw] at hb
  · refine g_ret (by walk_at "ev") q
theorem rd_Store_exists (T : Tx K mg) (vs : List V) (H : Hp) (Q : VK) (E : XK) (h : sp_Store_exists K vs H Q E) : t_Store_exists K { nx := fun _ H' => Q .non H', rt := Q } (start N_Store_exists vs) H := by
  obtain ⟨_, _, rfl, a, r, e, l, bs, kvs, i, rfl, S, rfl, q⟩ := h
  have h1 := S.st
  refine enter (σ := [some (.ref a.st), some (.int i)]) (g_ret (ev_din (k := .inl i) (by walk_at "ev") (by walk_at "ev") (.inl S.pl)) ?_)
  rw [S.plc.some]
  exact q
theorem rd_Store_size (T : Tx K mg) (vs : List V) (H : Hp) (Q : VK) (E : XK) (h : sp_Store_size K vs H Q E) : t_Store_size K { nx := fun _ H' => Q .non H', rt := Q } (start N_Store_size vs) H := by
  obtain ⟨_, _, rfl, a, r, e, l, bs, kvs, i, row, rfl, S, rfl, hr, q⟩ := h
  obtain ⟨pre, post, he, ho⟩ := enc_at hr
  have h1 := S.st
  refine enter (σ := [some (.ref a.st), some (.int i)]) (g_ret (ev_op (by walk_at "ev") (ev_op (ev_dget (k := .inl i) (by walk_at "ev") (by walk_at "ev") (.inl S.pl) (by rw [S.plc.at_, ho]; rfl)) ev_c rv_I0) (rv_ixI (SqL.of S.wl) (by omega) (by rw [he]; simp; omega))) ?_)
  rw [show ((pre.length : Int) + 1).toNat = pre.length + 1 by omega, getD_mid1 he]
  exact q
theorem rd_Store_kind (T : Tx K mg) (vs : List V) (H : Hp) (Q : VK) (E : XK) (h : sp_Store_kind K vs H Q E) : t_Store_kind K { nx := fun _ H' => Q .non H', rt := Q } (start N_Store_kind vs) H := by
  obtain ⟨_, _, rfl, a, r, e, l, bs, kvs, i, row, rfl, S, rfl, hr, q⟩ := h
  obtain ⟨pre, post, he, ho⟩ := enc_at hr
  have h1 := S.st
  obtain ⟨x, row', rfl⟩ : ∃ x r', row = x :: r' := by
    cases row with
    | nil => exact absurd rfl (S.ne _ (mem_of_lookup hr))
    | cons x r' => exact ⟨x, r', rfl⟩
  refine enter (σ := [some (.ref a.st), some (.int i)]) (g_ret (ev_op (by walk_at "ev") (ev_op (ev_dget (k := .inl i) (by walk_at "ev") (by walk_at "ev") (.inl S.pl) (by rw [S.plc.at_, ho]; rfl)) ev_c rv_I0) (rv_ixI (SqL.of S.wl) (by omega) (by rw [he]; simp; omega))) ?_)
  rw [show ((pre.length : Int) + 2).toNat = pre.length + 2 by omega, getD_mid2 he]
  exact q
end
section
variable {K : PySem.W.Frag} {mg : Str → Option Value}
theorem rd_Store_slots (T : Tx K mg) (vs : List V) (H : Hp) (Q : VK) (E : XK) (h : sp_Store_slots K vs H Q E) : t_Store_slots K { nx := fun _ H' => Q .non H', rt := Q } (start N_Store_slots vs) H := by
  obtain ⟨_, _, rfl, a, r, e, l, bs, kvs, i, row, rfl, S, rfl, hr, q⟩ := h
  obtain ⟨pre, post, he, ho⟩ := enc_at hr
  have h1 := S.st
  have hne := S.ne _ (mem_of_lookup hr)
  have hlen : 0 < row.length := List.length_pos_iff.mpr hne
  refine enter (σ := [some (.ref a.st), some (.int i), none]) (g_asg (ev_op (ev_dget (k := .inl i) (by walk_at "ev") (by walk_at "ev") (.inl S.pl) (by rw [S.plc.at_, ho]; rfl)) ev_c rv_I0) ?_)
  refine g_retN (en_sl (by walk_at "ev") (SqL.of S.wl) (eo_some (ev_var rfl)) (eo_some (ev_op (ev_var rfl) (ev_meth (ev_var rfl) h1 rfl (by walk_at "ev") fun H1 s Q E q => ⟨_, _, rfl, a, r, e, l, bs, kvs, i, row, rfl, S.mono s, rfl, hr, q⟩) rv_I0))) ?_
  have el : (enc bs).length = pre.length + (2 + (row.length + post.length)) := by rw [he]; simp; omega
  rw [cut_ints (by omega) (by omega) (by omega)]
  have e1 : ((enc bs).drop ((pre.length : Int) + 3).toNat).take ((pre.length : Int) + 3 + ((row.length : Int) - 1) - ((pre.length : Int) + 3)).toNat = row.tail := by
    cases row with
    | nil => exact absurd rfl hne
    | cons x row' =>
      rw [he, show ((pre.length : Int) + 3).toNat = pre.length + 3 by omega, show ((pre.length : Int) + 3 + (((x :: row').length : Int) - 1) - ((pre.length : Int) + 3)).toNat = row'.length by simp only [List.length_cons]; omega]
      rw [← List.drop_drop, List.drop_left]
      simp
  rw [e1]
  exact q
theorem rd_Store_put (T : Tx K mg) (vs : List V) (H : Hp) (Q : VK) (E : XK) (h : sp_Store_put K vs H Q E) : t_Store_put K { nx := fun _ H' => Q .non H', rt := Q } (start N_Store_put vs) H := by
  obtain ⟨_, _, _, _, rfl, a, r, e, l, bs, kvs, i, row, k, z, rfl, S, rfl, rfl, rfl, hr, hk0, hk1, q⟩ := h
  obtain ⟨pre, post, he, ho⟩ := enc_at hr
  have h1 := S.st
  obtain ⟨j, rfl⟩ := Int.eq_ofNat_of_zero_le hk0
  have el : (enc bs).length = pre.length + (2 + (row.length + post.length)) := by rw [he]; simp; omega
  refine enter (σ := [some (.ref a.st), some (.int i), some (.int (j : Int)), some (.int z)]) (g_setL S.wl (ev_var rfl) (by walk_at "ev") (ev_op (ev_op (ev_dget (k := .inl i) (by walk_at "ev") (by walk_at "ev") (.inl S.pl) (by rw [S.plc.at_, ho]; rfl)) ev_c rv_I0) (ev_var rfl) rv_I0) (ix_nat (by omega) (by rw [List.length_map]; omega)) ?_)
  refine g_next fun _ H1 _ s => q H1 ?_
  rw [enc_put S.nd hr ho (by omega), List.map_set]
  rw [show ((pre.length : Int) + 3 + (j : Int)).toNat = pre.length + 2 + (((j : Int)).toNat + 1) by omega] at s
  exact s
theorem rd_Store_numbers (T : Tx K mg) (vs : List V) (H : Hp) (Q : VK) (E : XK) (h : sp_Store_numbers K vs H Q E) : t_Store_numbers K { nx := fun _ H' => Q .non H', rt := Q } (start N_Store_numbers vs) H := by
  obtain ⟨_, rfl, a, r, e, l, bs, kvs, rfl, S, q⟩ := h
  obtain ⟨ks, hks, hp⟩ := S.plc.keys
  have h1 := S.st
  have hf : Ev (tFld K (tVar 0) "_places") [some (.ref a.st)] H (.ref a.pl) := by walk_at "ev"
  refine enter (σ := [some (.ref a.st)]) fun τ H1 sx s => hf τ H1 sx s _ fun H2 s2 => ?_
  exact ⟨a.pl, kvs, ks, rfl, .inl ((s.trans s2) _ _ S.pl), hks, fun ys p pm so hn => q ys (pm.trans hp) so p _ ((s.trans s2).free hn) (same_upd (s.trans s2))⟩
theorem rd_Store_free_number (T : Tx K mg) (vs : List V) (H : Hp) (Q : VK) (E : XK) (h : sp_Store_free_number K vs H Q E) : t_Store_free_number K { nx := fun _ H' => Q .non H', rt := Q } (start N_Store_free_number vs) H := by
  obtain ⟨_, rfl, a, r, e, l, bs, kvs, m, rfl, S, hm, hme, q⟩ := h
  have nep : a.pl ≠ a.st := S.sp.symm
  refine enter (σ := [some (.ref a.st)]) (g_while (α := Int) (fun j => l ≤ j ∧ j ≤ m) (fun _ => [some (.ref a.st)]) (fun j => upd H a.st (oS K a r e j)) (fun j => (m - j).toNat) ⟨l, ⟨by omega, hm.le⟩, Sx.refl _, same_self S.st⟩ fun j hj => ?_)
  have h1 : upd H a.st (oS K a r e j) a.st = some (oS K a r e j) := upd_same
  have h2 : upd H a.st (oS K a r e j) a.pl = some (.dK kvs) := (upd_ne nep).trans S.pl
  refine ⟨_, et_B (ev_din (k := .inl j) (by walk_at "ev") (by walk_at "ev") (.inl h2)), fun hb => ?_, fun hb => ?_⟩
  · rw [S.plc.some] at hb
    have hlt : j < m := by
      rcases Int.lt_or_eq_of_le hj.2 with z | z
      · exact z
      · rw [z, hm.no] at hb; cases hb
    refine g_fld h1 (by walk_at "ev") (by walk_at "ev") T.cls_Store T.na_Store__least (of_decide_eq_true rfl) (g_next (Lp.cl (j + 1) ⟨⟨by omega, by omega⟩, by omega⟩ (Sx.refl _) ?_))
    rw [upd_upd]
    exact Same.refl _
  · rw [S.plc.some] at hb
    obtain rfl : j = m := by
      rcases Int.lt_or_eq_of_le hj.2 with z | z
      · rw [hm.all j hj.1 z] at hb; cases hb
      · exact z
    refine g_if (by walk_at "ev") (fun hc => ?_) fun _ => g_end (g_ret (by walk_at "ev") q)
    exact absurd (of_decide_eq_true hc) (by omega)
theorem rd_Store_allocate (T : Tx K mg) (vs : List V) (H : Hp) (Q : VK) (E : XK) (h : sp_Store_allocate K vs H Q E) : t_Store_allocate K { nx := fun _ H' => Q .non H', rt := Q } (start N_Store_allocate vs) H := by
  obtain ⟨_, _, _, rfl, a, r, e, l, bs, kvs, m, i, n, rfl, S, hm, hme, rfl, rfl, hn, hz, hr2, q⟩ := h
  have h1 := S.st
  have n1 := S.sw
  have n2 := S.sp
  have n3 := S.wp
  refine enter (σ := [some (.ref a.st), some (.int i), some (.int n), none]) (g_if (b := false) (et_test (Ev.is (ev_op (ev_op (ev_op (ev_len (xs := (enc bs).map V.int) (Ev.q (by walk_at "ev") (SqL.of S.wl))) ev_c rv_I0) (ev_var rfl) rv_I0) (by walk_at "ev") rv_I0) ?_)) (fun hb => by cases hb) fun _ => g_end ?_)
  · rw [List.length_map, decide_eq_false (by omega)]
  refine g_asgE (em_meth (v := .int m) (F := fun H => upd H a.st (oS K a r e m)) (ev_var rfl) h1 rfl ea_nil mono_upd fun H1 s Q q => ⟨_, rfl, a, r, e, l, bs, kvs, m, rfl, S.mono s, hm, hme, q⟩) mono_upd ?_
  have h1' : upd H a.st (oS K a r e m) a.st = some (oS K a r e m) := upd_same
  have h2' : upd H a.st (oS K a r e m) a.pl = some (.dK kvs) := (upd_ne n2.symm).trans S.pl
  have h3' : upd H a.st (oS K a r e m) a.wl = some (.lst ((enc bs).map V.int)) := (upd_ne n1.symm).trans S.wl
  have hkl : kvs.length < 2000000 := by
    obtain ⟨ks, hks, hp⟩ := S.plc.keys
    have e1 : kvs.length = bs.length := by
      have := congrArg List.length hks
      simp at this
      have h2 := hp.length_eq
      simp at h2
      omega
    have e2 : bs.length ≤ (enc bs).length := enc_len_ge bs
    have := S.sz
    omega
  refine g_dput (k := .inl m) h2' (ev_len (xs := (enc bs).map V.int) (Ev.q (by walk_at "ev") (SqL.of h3'))) (by walk_at "ev") (ev_var rfl) hkl ?_
  generalize hG : upd (upd H a.st (oS K a r e m)) a.pl (.dK (putK kvs (.inl m) (.int (((enc bs).map V.int).length : Int)))) = G
  have g1 : G a.st = some (oS K a r e m) := by rw [← hG, upd_ne n2]; exact h1'
  have g3 : G a.wl = some (.lst ((enc bs).map V.int)) := by rw [← hG, upd_ne n3]; exact h3'
  have hsz := S.sz
  refine g_ext (ys := [.int m, .int n, .int i]) g3 (by walk_at "ev") (EvN.l (by walk_at "ev")) (by simp; omega) ?_
  have g1' : upd G a.wl (.lst ((enc bs).map V.int ++ [.int m, .int n, .int i])) a.st = some (oS K a r e m) := (upd_ne n1).trans g1
  refine g_ext (ys := (List.replicate n.toNat [V.int 0]).flatten) upd_same (by walk_at "ev") (EvN.l (en_rep (EvN.l (by walk_at "ev")) (ev_var rfl) (by omega) (by omega) (by simp; omega))) (by simp; omega) ?_
  refine g_ret (ev_var rfl) fun H1 s => q H1 ?_
  rw [upd_upd, ← hG] at s
  rw [List.length_map] at s
  have e4 : ((enc (bs ++ [(m, newRow i n)])).map V.int) = (enc bs).map V.int ++ [.int m, .int n, .int i] ++ (List.replicate n.toNat [V.int 0]).flatten := by
    rw [enc_app]
    have e5 : (List.replicate n.toNat [V.int 0]).flatten = (List.replicate n.toNat (0 : Int)).map V.int := by
      rw [List.map_replicate, List.flatten_replicate_singleton]
    have e6 : ((n.toNat : Int)) = n := by omega
    simp [enc, newRow, e5, e6]
  rw [e4]
  exact s
theorem rd_Store_init_ (T : Tx K mg) (vs : List V) (H : Hp) (Q : VK) (E : XK) (h : sp_Store_init_ K vs H Q E) : t_Store_init_ K { nx := fun _ H' => Q .non H', rt := Q } (start N_Store_init_ vs) H := by
  obtain ⟨_, _, _, rfl, x, dx, i, j, rfl, hx, rfl, rfl, q⟩ := h
  refine enter (σ := [some (.ref x), some (.int i), some (.int j)]) (g_fld hx (ev_var rfl) (ev_var rfl) T.cls_Store T.na_Store_room (of_decide_eq_true rfl) ?_)
  refine g_fld upd_same (ev_var rfl) (ev_var rfl) T.cls_Store T.na_Store_entries (of_decide_eq_true rfl) ?_
  rw [upd_upd]
  refine g_fldN (o := .lst []) upd_same (by walk_at "ev") (ev_var rfl) T.cls_Store T.na_Store_words (of_decide_eq_true rfl) fun wl hw => ?_
  have nx : x ≠ wl := ne_of_none upd_same hw
  have hw' : H wl = none := by rw [upd_ne nx.symm] at hw; exact hw
  rw [upd_swap nx, upd_upd]
  refine g_fldN (o := .dK []) upd_same (by walk_at "ev") (ev_var rfl) T.cls_Store T.na_Store__places (of_decide_eq_true rfl) fun pl hp => ?_
  have ny : x ≠ pl := ne_of_none upd_same hp
  have hp' : H pl = none := by
    rw [upd_ne ny.symm] at hp
    by_cases e : pl = wl
    · rw [e, upd_same] at hp; cases hp
    · rw [upd_ne e] at hp; exact hp
  have nz : wl ≠ pl := fun e => by
    rw [upd_ne ny.symm, ← e, upd_same] at hp; cases hp
  rw [upd_swap ny, upd_upd]
  refine g_fld upd_same ev_c (ev_var rfl) T.cls_Store T.na_Store__least (of_decide_eq_true rfl) ?_
  rw [upd_upd]
  exact g_next fun _ H1 _ s => q wl pl H1 hw' hp' nz s
end
end K64

set_option Elab.async false
set_option linter.all false
set_option maxRecDepth 100000
namespace K64
open PySem PySem.Spec PyProof.Rows L2 Kw
/-! ### spaces -/
structure PA where
  a : SA
  sp : Addr
  sx : Addr
  rl : Addr
  hl : Addr
  pr : Addr
structure PS where
  r : Int
  e : Int
  l : Int
  al : Int
  co : Int
  bs : List (Int × List Int)
  kvs : List (Key × V)
  rs : List Int
  hs : List Int
abbrev fsP (p : PA) (al co : Int) : List (Str × V) := [("store", .ref p.a.st), ("pressure", .ref p.pr), ("always", .bl false), ("allocations", .int al), ("collections", .int co), ("_roots", .ref p.rl), ("_held", .ref p.hl), ("_saved", .non)]
abbrev oP (K : PySem.W.Frag) (p : PA) (al co : Int) : HO := .ins (cP K) p.sx (fsP p al co)
structure SpaceAt (K : PySem.W.Frag) (p : PA) (s : PS) (H : Hp) : Prop where
  sp : H p.sp = some (oP K p s.al s.co)
  S : StoreAt K p.a s.r s.e s.l s.bs s.kvs H
  rl : H p.rl = some (.lst (s.rs.map V.int))
  hl : H p.hl = some (.lst (s.hs.map V.int))
  pr : H p.pr = some (.lst [])
  d1 : p.sp ≠ p.a.st
  d2 : p.rl ≠ p.a.wl
  d3 : p.hl ≠ p.a.wl
  d4 : p.pr ≠ p.a.wl
  d5 : p.rl ≠ p.hl
  d6 : p.rl ≠ p.pr
  d7 : p.hl ≠ p.pr
  rn : s.rs.length = 16
  hn : s.hs.length ≤ 1000
theorem SpaceAt.mono {K : PySem.W.Frag} {p : PA} {s : PS} {H H1 : Hp} (h : SpaceAt K p s H) (m : Same H H1) : SpaceAt K p s H1 :=
  ⟨m _ _ h.sp, h.S.mono m, m _ _ h.rl, m _ _ h.hl, m _ _ h.pr, h.d1, h.d2, h.d3, h.d4, h.d5, h.d6, h.d7, h.rn, h.hn⟩
def PA.dom (p : PA) : List Addr := [p.sp, p.a.st, p.a.wl, p.a.pl, p.rl, p.hl, p.pr]
/-- the words that all_roots tells -/
def PS.ws (s : PS) : List Int := 0 :: (s.rs ++ s.hs)
def emptyPS (r e : Int) : PS := ⟨r, e, 0, 0, 0, [], [], List.replicate 16 0, []⟩
def sp_Space_init_ (K : PySem.W.Frag) : Sp := sp3 fun s r e H Q => ∃ x dx i j, s = .ref x ∧ H x = some (.ins (cP K) dx []) ∧ r = .int i ∧ e = .int j ∧
  ∀ (p : PA) H1, p.sp = x → (∀ b ∈ p.dom, b ≠ x → H b = none) → SpaceAt K p (emptyPS i j) H1 → (∀ b o, H b = some o → b ≠ x → H1 b = some o) → Q .non H1
def sp_Space_set_root (K : PySem.W.Frag) : Sp := sp3 fun s k w H Q => ∃ p st i z, s = .ref p.sp ∧ SpaceAt K p st H ∧ k = .int i ∧ w = .int z ∧ 0 ≤ i ∧ i < 16 ∧
  ∀ H1, Same (upd H p.rl (.lst ((st.rs.set i.toNat z).map V.int))) H1 → Q .non H1
def sp_Space_hold (K : PySem.W.Frag) : Sp := sp2 fun s w H Q => ∃ p st z, s = .ref p.sp ∧ SpaceAt K p st H ∧ w = .int z ∧
  ∀ H1, Same (upd H p.hl (.lst ((st.hs ++ [z]).map V.int))) H1 → Q (.int z) H1
def sp_Space_all_roots (K : PySem.W.Frag) : Sp := sp1 fun s H Q => ∃ p st, s = .ref p.sp ∧ SpaceAt K p st H ∧ GivN (.lst (st.ws.map V.int)) H Q
/-- the heap behind a new object -/
def allocH (K : PySem.W.Frag) (a : SA) (r e : Int) (bs : List (Int × List Int)) (kvs : List (Key × V)) (m i n : Int) (H : Hp) : Hp :=
  upd (upd (upd H a.st (oS K a r e m)) a.pl (.dK (putK kvs (.inl m) (.int (enc bs).length)))) a.wl (.lst ((enc (bs ++ [(m, newRow i n)])).map V.int))
/-- there is room and a number -/
structure Fits (s : PS) (m n : Int) : Prop where
  free : Free s.bs s.l m
  me : m < s.e
  n0 : 0 ≤ n
  room : ((enc s.bs).length : Int) + 3 + n ≤ s.r
  r2 : s.r ≤ 200000
def sp_Space_fitted (K : PySem.W.Frag) : Sp := sp3 fun s k z H Q => ∃ p st m i n, s = .ref p.sp ∧ SpaceAt K p st H ∧ k = .int i ∧ z = .int n ∧ Fits st m n ∧
  ∀ H1, Same (allocH K p.a st.r st.e st.bs st.kvs m i n H) H1 → Q (.int m) H1
def sp_Space_new (K : PySem.W.Frag) : Sp := sp3 fun s k z H Q => ∃ p st m i n, s = .ref p.sp ∧ SpaceAt K p st H ∧ k = .int i ∧ z = .int n ∧ Fits st m n ∧
  ∀ H1, Same (allocH K p.a st.r st.e st.bs st.kvs m i n (upd H p.sp (oP K p (st.al + 1) st.co))) H1 → Q (.int m) H1
/-! ### what is reached -/
inductive Rch (bs : List (Int × List Int)) (ws : List Int) : Int → Prop
  | root {w : Int} (h : w ∈ ws) (h2 : w % 2 = 0) (h3 : (rowOf bs (w / 2)).isSome = true) : Rch bs ws (w / 2)
  | step {n w : Int} {row : List Int} (h : Rch bs ws n) (hr : rowOf bs n = some row) (hw : w ∈ row) (h2 : w % 2 = 0) (h3 : (rowOf bs (w / 2)).isSome = true) : Rch bs ws (w / 2)
def sp_reached (K : PySem.W.Frag) : Sp := sp2 fun s r H Q => ∃ a rr e l bs kvs q ws, s = .ref a.st ∧ StoreAt K a rr e l bs kvs H ∧ r = .ref q ∧ SqL K H q (ws.map V.int) ∧ ws.length ≤ 200000 ∧
  ∀ (ks : List Int) (fv : List (Key × V)), ks.Nodup → fv.map (·.1) = ks.map Sum.inl → (∀ n, n ∈ ks ↔ Rch bs ws n) → GivN (.dK fv) H Q
def optV : Option Int → V
  | none => .non
  | some i => .int i
/-- the object that a word refers to -/
def objOf (bs : List (Int × List Int)) (w : Int) : Option Int := if w % 2 = 0 ∧ (rowOf bs (w / 2)).isSome = true then some (w / 2) else none
def sp_object_of (K : PySem.W.Frag) : Sp := sp2 fun s w H Q => ∃ p st z, s = .ref p.sp ∧ SpaceAt K p st H ∧ w = .int z ∧ Giv (optV (objOf st.bs z)) H Q
def sp_row_of (K : PySem.W.Frag) : Sp := sp2 fun s n H Q => ∃ p st i row, s = .ref p.sp ∧ SpaceAt K p st H ∧ n = .int i ∧ rowOf st.bs i = some row ∧ GivN (.lst (row.map V.int)) H Q
/-- an item of a row -/
def idx (row : List Int) (k : Int) : Option Int := if 0 ≤ k ∧ k < row.length then some (row.getD k.toNat 0) else none
/-- the word behind the first j steps of a path -/
def wlk (bs : List (Int × List Int)) (ws path : List Int) : Nat → Option Int
  | 0 => none
  | j + 1 => (if j = 0 then some ws else ((wlk bs ws path j).bind (objOf bs)).bind (rowOf bs)).bind fun row => idx row (path.getD j 0)
def walkB (bs : List (Int × List Int)) (ws path : List Int) : Option Int := wlk bs ws path path.length
def sp_word_at (K : PySem.W.Frag) : Sp := sp2 fun s t H Q => ∃ p st q path, s = .ref p.sp ∧ SpaceAt K p st H ∧ t = .ref q ∧ SqT K H q (path.map V.int) ∧ path.length ≤ 100000 ∧ Giv (optV (walkB st.bs st.ws path)) H Q
/-! ### best paths: level by level -/
def ext (bs : List (Int × List Int)) (e : Int × List Int) : List (List Int × Int) := (List.range ((rowOf bs e.1).getD []).length).map fun (k : Nat) => (e.2 ++ [(k : Int)], ((rowOf bs e.1).getD []).getD k 0)
def stepP (bs : List (Int × List Int)) (x : List (Int × List Int) × List (List Int × Int)) (y : List Int × Int) : List (Int × List Int) × List (List Int × Int) :=
  match objOf bs y.2 with
  | none => x
  | some n => if n ∈ x.1.map (·.1) then x else (x.1 ++ [(n, y.1)], x.2 ++ ext bs (n, y.1))
def level (bs : List (Int × List Int)) (found : List (Int × List Int)) (wt : List (List Int × Int)) : List (Int × List Int) × List (List Int × Int) := wt.foldl (stepP bs) (found, [])
def start1 (ws : List Int) : List (List Int × Int) := (List.range ws.length).map fun (k : Nat) => ([(k : Int)], ws.getD k 0)
def stg (bs : List (Int × List Int)) (ws : List Int) : Nat → List (Int × List Int) × List (List Int × Int)
  | 0 => ([], start1 ws)
  | k + 1 => level bs (stg bs ws k).1 (stg bs ws k).2
def pathsF (bs : List (Int × List Int)) (ws : List Int) : List (Int × List Int) := (stg bs ws (bs.length + 1)).1
/-- a dict of tuples stands -/
def DictP (p : Addr) (found : List (Int × List Int)) (H : Hp) : Prop :=
  ∃ kvs : List (Key × V), H p = some (.dK kvs) ∧ Paired (fun (z : Key × V) (f : Int × List Int) => z.1 = Sum.inl f.1 ∧ ∃ t, z.2 = V.ref t ∧ H t = some (.tup (f.2.map V.int))) kvs found
def sp_paths (K : PySem.W.Frag) : Sp := sp1 fun s H Q => ∃ p st, s = .ref p.sp ∧ SpaceAt K p st H ∧ GivR (fun v H1 => ∃ d, v = .ref d ∧ DictP d (pathsF st.bs st.ws) H1) H Q
def sp_garbage (K : PySem.W.Frag) : Sp := sp1 fun s H Q => ∃ p st, s = .ref p.sp ∧ SpaceAt K p st H ∧
  ∀ ys : List Int, ys.Pairwise (· < ·) → (∀ n, n ∈ ys ↔ (n ∈ st.bs.map (·.1) ∧ ¬ Rch st.bs st.ws n)) → GivN (.lst (ys.map V.int)) H Q
end K64

set_option Elab.async false
set_option linter.all false
set_option maxRecDepth 100000
namespace K64
open PySem PySem.Spec PyProof.Rows L2 Kw
abbrev N_Space_init_ : List Str := ["self", "room", "entries"]
def t_Space_init_ (K : PySem.W.Frag) : TS :=
 tSeq (sFld K (tVar 0) (tMake (He.ga K "Store") (sp_Store_init_ K) [] E0 (tCons (tVar 1) (tCons (tVar 2) (tNil)))) "store")
 (tSeq (sFld K (tVar 0) (tLst (tNil)) "pressure")
 (tSeq (sFld K (tVar 0) (tC (.bl false)) "always")
 (tSeq (sFld K (tVar 0) (tC (.int 0)) "allocations")
 (tSeq (sFld K (tVar 0) (tC (.int 0)) "collections")
 (tSeq (sFld K (tVar 0) (tOp rRep (tLst (tCons (tC (.int 0)) (tNil))) (tC (.int 16))) "_roots")
 (tSeq (sFld K (tVar 0) (tLst (tNil)) "_held")
 (tSeq (sFld K (tVar 0) (tC .non) "_saved")
 (tNext))))))))
abbrev N_Space_set_root : List Str := ["self", "k", "word"]
def t_Space_set_root (K : PySem.W.Frag) : TS :=
 tSeq (tAsg (tVar 2) (gSub (tFld K (tVar 0) "_roots") (tVar 1) rSetL))
 (tNext)
abbrev N_Space_hold : List Str := ["self", "word"]
def t_Space_hold (K : PySem.W.Frag) : TS :=
 tSeq (tDrop (tBM K "list" rAppend (tFld K (tVar 0) "_held") (tCons (tVar 1) (tNil))))
 (tSeq (tRet (tVar 1))
 (tNext))
abbrev N_Space_all_roots : List Str := ["self"]
def t_Space_all_roots (K : PySem.W.Frag) : TS :=
 tSeq (tRet (tOp rCat (tOp rCat (tLst (tCons (tC (.int 0)) (tNil))) (tFld K (tVar 0) "_roots")) (tFld K (tVar 0) "_held")))
 (tNext)
abbrev N_Space_fitted : List Str := ["self", "kind", "size"]
def t_Space_fitted (K : PySem.W.Frag) : TS :=
 tSeq (tSeq (tRet (tMeth (He.ga K "Store") "allocate" (sp_Store_allocate K) [] E0 (tFld K (tVar 0) "store") (tCons (tVar 1) (tCons (tVar 2) (tNil)))))
 (tNext))
 (tSeq (tRet (tMeth (He.ga K "Store") "allocate" (sp_Store_allocate K) [] E0 (tFld K (tVar 0) "store") (tCons (tVar 1) (tCons (tVar 2) (tNil)))))
 (tNext))
abbrev N_Space_new : List Str := ["self", "kind", "size"]
def t_Space_new (K : PySem.W.Frag) : TS :=
 tSeq (sFld K (tVar 0) (tOp oAdd (tFld K (tVar 0) "allocations") (tC (.int 1))) "allocations")
 (tSeq (tIfS (tTest (tOp oNotN (tFld K (tVar 0) "_saved") (tC .non)))
 (tSeq (tNever)
 (tNext))
 (tNext))
 (tSeq (tIfS (tOr (tB (tFld K (tVar 0) "always")) (tTest (tOp (rIn K false) (tFld K (tVar 0) "allocations") (tFld K (tVar 0) "pressure"))))
 (tSeq (tNever)
 (tNext))
 (tNext))
 (tSeq (tRet (tMeth (He.ga K "Space") "fitted" (sp_Space_fitted K) [] E0 (tVar 0) (tCons (tVar 1) (tCons (tVar 2) (tNil)))))
 (tNext))))
abbrev N_reached : List Str := ["store", "roots", "found", "waiting", "word", "number"]
def t_reached (K : PySem.W.Frag) : TS :=
 tSeq (tAsg (tDNewK) (gName 2))
 (tSeq (tAsg (tLc (iList K (tVar 1)) (gName 4) (tB (tCall (sp_is_ref K) [] E0 (tCons (tVar 4) (tNil)))) (tCall (sp_ref_of K) [] E0 (tCons (tVar 4) (tNil))) [4]) (gName 3))
 (tSeq (tWhile (tTru K (tVar 3))
 (tSeq (tAsg (tBM0 K "list" rPop (tVar 3)) (gName 5))
 (tSeq (tIfS (tAnd (tB (tDNotIn (tVar 5) (tVar 2))) (tB (tMeth (He.ga K "Store") "exists" (sp_Store_exists K) [] E0 (tVar 0) (tCons (tVar 5) (tNil)))))
 (tSeq (sDPut (tVar 2) (tVar 5) (tC (.bl true)))
 (tSeq (tFor (iList K (tOp rCat (tLst (tCons (tMeth (He.ga K "Store") "kind" (sp_Store_kind K) [] E0 (tVar 0) (tCons (tVar 5) (tNil))) (tNil))) (tMeth (He.ga K "Store") "slots" (sp_Store_slots K) [] E0 (tVar 0) (tCons (tVar 5) (tNil))))) (gName 4)
 (tSeq (tIfS (tAnd (tB (tCall (sp_is_ref K) [] E0 (tCons (tVar 4) (tNil)))) (tB (tDNotIn (tCall (sp_ref_of K) [] E0 (tCons (tVar 4) (tNil))) (tVar 2))))
 (tSeq (tDrop (tBM K "list" rAppend (tVar 3) (tCons (tCall (sp_ref_of K) [] E0 (tCons (tVar 4) (tNil))) (tNil))))
 (tNext))
 (tNext))
 (tNext)))
 (tNext)))
 (tNext))
 (tNext))))
 (tSeq (tRet (tVar 2))
 (tNext))))
abbrev N_object_of : List Str := ["space", "word"]
def t_object_of (K : PySem.W.Frag) : TS :=
 tSeq (tIfS (tAnd (tB (tCall (sp_is_ref K) [] E0 (tCons (tVar 1) (tNil)))) (tB (tMeth (He.ga K "Store") "exists" (sp_Store_exists K) [] E0 (tFld K (tVar 0) "store") (tCons (tCall (sp_ref_of K) [] E0 (tCons (tVar 1) (tNil))) (tNil)))))
 (tSeq (tRet (tCall (sp_ref_of K) [] E0 (tCons (tVar 1) (tNil))))
 (tNext))
 (tNext))
 (tSeq (tRet (tC .non))
 (tNext))
abbrev N_row_of : List Str := ["space", "number"]
def t_row_of (K : PySem.W.Frag) : TS :=
 tSeq (tRet (tOp rCat (tLst (tCons (tMeth (He.ga K "Store") "kind" (sp_Store_kind K) [] E0 (tFld K (tVar 0) "store") (tCons (tVar 1) (tNil))) (tNil))) (tMeth (He.ga K "Store") "slots" (sp_Store_slots K) [] E0 (tFld K (tVar 0) "store") (tCons (tVar 1) (tNil)))))
 (tNext)
abbrev N_word_at : List Str := ["space", "path", "row", "word", "k", "number"]
def t_word_at (K : PySem.W.Frag) : TS :=
 tSeq (tAsg (tMeth (He.ga K "Space") "all_roots" (sp_Space_all_roots K) [] E0 (tVar 0) tNil) (gName 2))
 (tSeq (tAsg (tC .non) (gName 3))
 (tSeq (tFor (iRng1 (tCons (tCB (rLenS K) (tCons (tVar 1) (tNil))) (tNil))) (gName 4)
 (tSeq (tIfS (tTest (tOp oGt (tVar 4) (tC (.int 0))))
 (tSeq (tAsg (tCall (sp_object_of K) [] E0 (tCons (tVar 0) (tCons (tVar 3) (tNil)))) (gName 5))
 (tSeq (tIfS (tTest (tOp oIsN (tVar 5) (tC .non)))
 (tSeq (tRet (tC .non))
 (tNext))
 (tNext))
 (tSeq (tAsg (tCall (sp_row_of K) [] E0 (tCons (tVar 0) (tCons (tVar 5) (tNil)))) (gName 2))
 (tNext))))
 (tNext))
 (tSeq (tIfS (tNot (tTest (tChain oLe oLt (tC (.int 0)) (tOp (rIxT K) (tVar 1) (tVar 4)) (tCB (rLenS K) (tCons (tVar 2) (tNil))))))
 (tSeq (tRet (tC .non))
 (tNext))
 (tNext))
 (tSeq (tAsg (tOp (rIxL K) (tVar 2) (tOp (rIxT K) (tVar 1) (tVar 4))) (gName 3))
 (tNext)))))
 (tSeq (tRet (tVar 3))
 (tNext))))
abbrev N_paths : List Str := ["space", "found", "words", "waiting", "k", "later", "path", "word", "number", "row"]
def t_paths (K : PySem.W.Frag) : TS :=
 tSeq (tAsg (tDNewK) (gName 1))
 (tSeq (tAsg (tMeth (He.ga K "Space") "all_roots" (sp_Space_all_roots K) [] E0 (tVar 0) tNil) (gName 2))
 (tSeq (tAsg (tLc (iRng1 (tCons (tCB (rLenS K) (tCons (tVar 2) (tNil))) (tNil))) (gName 4) (tYes) (tTup (tCons (tTup (tCons (tVar 4) (tNil))) (tCons (tOp (rIxL K) (tVar 2) (tVar 4)) (tNil)))) [4]) (gName 3))
 (tSeq (tWhile (tTru K (tVar 3))
 (tSeq (tAsg (tLst (tNil)) (gName 5))
 (tSeq (tFor (iList K (tVar 3)) (gTup K 2 (gCons (gName 6) (gCons (gName 7) (gNil))))
 (tSeq (tAsg (tCall (sp_object_of K) [] E0 (tCons (tVar 0) (tCons (tVar 7) (tNil)))) (gName 8))
 (tSeq (tIfS (tAnd (tTest (tOp oNotN (tVar 8) (tC .non))) (tB (tDNotIn (tVar 8) (tVar 1))))
 (tSeq (sDPut (tVar 1) (tVar 8) (tVar 6))
 (tSeq (tAsg (tCall (sp_row_of K) [] E0 (tCons (tVar 0) (tCons (tVar 8) (tNil)))) (gName 9))
 (tSeq (tDrop (tBM K "list" rExtend (tVar 5) (tCons (tLc (iRng1 (tCons (tCB (rLenS K) (tCons (tVar 9) (tNil))) (tNil))) (gName 4) (tYes) (tTup (tCons (tOp (rCatA K) (tVar 6) (tTup (tCons (tVar 4) (tNil)))) (tCons (tOp (rIxL K) (tVar 9) (tVar 4)) (tNil)))) [4]) (tNil))))
 (tNext))))
 (tNext))
 (tNext))))
 (tSeq (tAsg (tVar 5) (gName 3))
 (tNext)))))
 (tSeq (tRet (tVar 1))
 (tNext)))))
abbrev N_garbage : List Str := ["space", "found", "number"]
def t_garbage (K : PySem.W.Frag) : TS :=
 tSeq (tAsg (tCall (sp_reached K) [] E0 (tCons (tFld K (tVar 0) "store") (tCons (tMeth (He.ga K "Space") "all_roots" (sp_Space_all_roots K) [] E0 (tVar 0) tNil) (tNil)))) (gName 1))
 (tSeq (tRet (tLc (iList K (tMeth (He.ga K "Store") "numbers" (sp_Store_numbers K) [] E0 (tFld K (tVar 0) "store") tNil)) (gName 2) (tB (tDNotIn (tVar 2) (tVar 1))) (tVar 2) [2]))
 (tNext))
end K64

set_option Elab.async false
set_option linter.all false
set_option maxRecDepth 100000
set_option maxHeartbeats 2000000
namespace K64
open PySem PySem.Spec PyProof.Rows L2 Kw
local macro_rules | `(tactic| walk_at "hp") => `(tactic| first
  | assumption
  | exact upd_same
  | (refine Eq.trans (upd_ne ?_) ?_; (first | assumption | (apply Ne.symm; assumption)); walk_at "hp"))
local macro_rules | `(tactic| walk_at "sq") => `(tactic| first
  | assumption
  | (apply SqL.of; walk_at "hp")
  | (apply SqT.of; walk_at "hp"))
local macro_rules | `(tactic| walk_at "rv") => `(tactic| first
  | ((with_reducible exact rv_I0))
  | ((with_reducible apply rv_I); first | assumption | decide | omega | (exact ⟨by omega, by omega⟩) | skip)
  | ((with_reducible apply rv_eq); rfl)
  | ((with_reducible apply rv_ne); rfl)
  | ((with_reducible exact rv_isN))
  | ((with_reducible exact rv_notN))
  | skip)
local macro_rules | `(tactic| walk_at "sp") => `(tactic| first
  | (apply spv_I1; first | trivial | assumption | skip)
  | (apply spv_I2; first | trivial | assumption | skip)
  | skip)
local macro_rules | `(tactic| walk_at "ev") => `(tactic| first
  | ((with_reducible apply ev_var); rfl)
  | ((with_reducible exact ev_c))
  | ((with_reducible exact ea_nil))
  | ((with_reducible apply ea_cons); walk_at "ev"; walk_at "ev")
  | ((with_reducible apply ev_op); walk_at "ev"; walk_at "ev"; walk_at "rv")
  | ((with_reducible apply ev_neg); walk_at "ev")
  | ((with_reducible apply ev_int); walk_at "ev")
  | ((with_reducible apply ev_fld); walk_at "ev"; walk_at "hp"; walk_at "tx"; walk_at "tx"; rfl)
  | ((with_reducible apply ev_call); walk_at "ev"; walk_at "sp")
  | ((with_reducible apply et_test); walk_at "ev")
  | ((with_reducible apply et_B); walk_at "ev")
  | ((with_reducible apply et_not); walk_at "ev")
  | ((with_reducible apply ev_notV); walk_at "ev")
  | ((with_reducible apply eo_some); walk_at "ev")
  | ((with_reducible exact eo_none))
  | ((with_reducible apply en_lst); walk_at "ev"; exact of_decide_eq_true rfl)
  | ((with_reducible apply en_tup); walk_at "ev"; exact of_decide_eq_true rfl)
  | ((with_reducible exact en_dK))
  | skip)
local macro_rules | `(tactic| walk_at "tx") => `(tactic| first
  | assumption
  | (with_reducible exact Tx.cls_Store (by assumption))
  | (with_reducible exact Tx.na_Store_room (by assumption))
  | (with_reducible exact Tx.na_Store_entries (by assumption))
  | (with_reducible exact Tx.na_Store_words (by assumption))
  | (with_reducible exact Tx.na_Store__places (by assumption))
  | (with_reducible exact Tx.na_Store__least (by assumption))
  | (with_reducible exact Tx.cls_Space (by assumption))
  | (with_reducible exact Tx.na_Space_store (by assumption))
  | (with_reducible exact Tx.na_Space_pressure (by assumption))
  | (with_reducible exact Tx.na_Space_always (by assumption))
  | (with_reducible exact Tx.na_Space_allocations (by assumption))
  | (with_reducible exact Tx.na_Space_collections (by assumption))
  | (with_reducible exact Tx.na_Space__roots (by assumption))
  | (with_reducible exact Tx.na_Space__held (by assumption))
  | (with_reducible exact Tx.na_Space__saved (by assumption)))
theorem allocH_mono {K : PySem.W.Frag} {a : SA} {r e : Int} {bs : List (Int × List Int)} {kvs : List (Key × V)} {m i n : Int} : Mono (allocH K a r e bs kvs m i n) := fun _ _ s => same_upd (same_upd (same_upd s))
theorem SpaceAt.ne {K : PySem.W.Frag} {p : PA} {s : PS} {H : Hp} (S : SpaceAt K p s H) : p.sp ≠ p.a.wl ∧ p.sp ≠ p.a.pl ∧ p.sp ≠ p.rl ∧ p.sp ≠ p.hl ∧ p.sp ≠ p.pr ∧ p.a.st ≠ p.rl ∧ p.a.st ≠ p.hl ∧ p.a.st ≠ p.pr ∧ p.a.pl ≠ p.rl ∧ p.a.pl ≠ p.hl ∧ p.a.pl ≠ p.pr :=
  ⟨ne_of S.sp S.S.wl (by intro z; cases z), ne_of S.sp S.S.pl (by intro z; cases z), ne_of S.sp S.rl (by intro z; cases z), ne_of S.sp S.hl (by intro z; cases z), ne_of S.sp S.pr (by intro z; cases z),
    ne_of S.S.st S.rl (by intro z; cases z), ne_of S.S.st S.hl (by intro z; cases z), ne_of S.S.st S.pr (by intro z; cases z), ne_of S.S.pl S.rl (by intro z; cases z), ne_of S.S.pl S.hl (by intro z; cases z), ne_of S.S.pl S.pr (by intro z; cases z)⟩
theorem SpaceAt.bump {K : PySem.W.Frag} {p : PA} {s : PS} {H : Hp} (S : SpaceAt K p s H) : SpaceAt K p { s with al := s.al + 1 } (upd H p.sp (oP K p (s.al + 1) s.co)) := by
  obtain ⟨n1, n2, n3, n4, n5, _⟩ := S.ne
  exact ⟨upd_same, ⟨(upd_ne S.d1.symm).trans S.S.st, (upd_ne n1.symm).trans S.S.wl, (upd_ne n2.symm).trans S.S.pl, S.S.plc, S.S.ne, S.S.nd, S.S.sz⟩, (upd_ne n3.symm).trans S.rl, (upd_ne n4.symm).trans S.hl, (upd_ne n5.symm).trans S.pr,
    S.d1, S.d2, S.d3, S.d4, S.d5, S.d6, S.d7, S.rn, S.hn⟩
section
variable {K : PySem.W.Frag} {mg : Str → Option Value}
theorem rd_Space_set_root (T : Tx K mg) (vs : List V) (H : Hp) (Q : VK) (E : XK) (h : sp_Space_set_root K vs H Q E) : t_Space_set_root K { nx := fun _ H' => Q .non H', rt := Q } (start N_Space_set_root vs) H := by
  obtain ⟨_, _, _, rfl, p, st, i, z, rfl, S, rfl, rfl, h0, h1, q⟩ := h
  have hs := S.sp
  refine enter (σ := [some (.ref p.sp), some (.int i), some (.int z)]) (g_setL S.rl (ev_var rfl) (by walk_at "ev") (ev_var rfl) (ix_nat h0 (by rw [List.length_map, S.rn]; exact h1)) (g_next fun _ H1 _ s => q H1 ?_))
  rw [List.map_set]
  exact s
theorem rd_Space_hold (T : Tx K mg) (vs : List V) (H : Hp) (Q : VK) (E : XK) (h : sp_Space_hold K vs H Q E) : t_Space_hold K { nx := fun _ H' => Q .non H', rt := Q } (start N_Space_hold vs) H := by
  obtain ⟨_, _, rfl, p, st, z, rfl, S, rfl, q⟩ := h
  have hs := S.sp
  have hh := S.hn
  refine enter (σ := [some (.ref p.sp), some (.int z)]) (g_app S.hl (by walk_at "ev") (ev_var rfl) (by rw [List.length_map]; omega) (g_ret (ev_var rfl) fun H1 s => q H1 ?_))
  rw [List.map_append]
  exact s
theorem rd_Space_all_roots (T : Tx K mg) (vs : List V) (H : Hp) (Q : VK) (E : XK) (h : sp_Space_all_roots K vs H Q E) : t_Space_all_roots K { nx := fun _ H' => Q .non H', rt := Q } (start N_Space_all_roots vs) H := by
  obtain ⟨_, rfl, p, st, rfl, S, q⟩ := h
  have hs := S.sp
  have hh := S.hn
  have hr := S.rn
  refine enter (σ := [some (.ref p.sp)]) (g_retN (en_cat (EvN.l (en_cat (xs := [V.int 0]) (EvN.l (by walk_at "ev")) (Ev.l (by walk_at "ev") S.rl) (by simp [hr]))) (Ev.l (by walk_at "ev") S.hl) (by simp [hr]; omega)) ?_)
  have e : [V.int 0] ++ st.rs.map V.int ++ st.hs.map V.int = st.ws.map V.int := by simp [PS.ws]
  rw [e]
  exact q
theorem rd_Space_fitted (T : Tx K mg) (vs : List V) (H : Hp) (Q : VK) (E : XK) (h : sp_Space_fitted K vs H Q E) : t_Space_fitted K { nx := fun _ H' => Q .non H', rt := Q } (start N_Space_fitted vs) H := by
  obtain ⟨_, _, _, rfl, p, st, m, i, n, rfl, S, rfl, rfl, F, q⟩ := h
  have hs := S.sp
  refine enter (σ := [some (.ref p.sp), some (.int i), some (.int n)]) (g_blk (g_retE (em_meth (v := .int m) (F := allocH K p.a st.r st.e st.bs st.kvs m i n) (by walk_at "ev") S.S.st rfl (by walk_at "ev") allocH_mono fun H1 s Q q => ?_) allocH_mono q))
  exact ⟨_, _, _, rfl, p.a, st.r, st.e, st.l, st.bs, st.kvs, m, i, n, rfl, S.S.mono s, F.free, F.me, rfl, rfl, F.n0, F.room, F.r2, q⟩
theorem rd_Space_new (T : Tx K mg) (vs : List V) (H : Hp) (Q : VK) (E : XK) (h : sp_Space_new K vs H Q E) : t_Space_new K { nx := fun _ H' => Q .non H', rt := Q } (start N_Space_new vs) H := by
  obtain ⟨_, _, _, rfl, p, st, m, i, n, rfl, S, rfl, rfl, F, q⟩ := h
  have hs := S.sp
  refine enter (σ := [some (.ref p.sp), some (.int i), some (.int n)]) (g_fld hs (by walk_at "ev") (ev_var rfl) T.cls_Space T.na_Space_allocations (of_decide_eq_true rfl) ?_)
  have S1 : SpaceAt K p { st with al := st.al + 1 } (upd H p.sp (oP K p (st.al + 1) st.co)) := S.bump
  generalize hG : upd H p.sp (.ins (cP K) p.sx (putF "allocations" (.int (st.al + 1)) (fsP p st.al st.co))) = G
  have eG : upd H p.sp (oP K p (st.al + 1) st.co) = G := by rw [← hG]; rfl
  rw [eG] at S1
  have hs1 : G p.sp = some (oP K p (st.al + 1) st.co) := S1.sp
  refine g_if (b := false) (et_test (Ev.is (by walk_at "ev") (by rfl))) (fun hb => by cases hb) fun _ => g_end ?_
  refine g_if (b := false) (EvT.is (et_or (a := false) (b := false) (et_B (by walk_at "ev")) fun _ => et_test (Ev.is (ev_op (by walk_at "ev") (by walk_at "ev") (rv_inL (xs := []) (SqL.of S1.pr) rfl rfl)) (by rfl))) rfl) (fun hb => by cases hb) fun _ => g_end ?_
  refine g_retE (em_meth (v := .int m) (F := allocH K p.a st.r st.e st.bs st.kvs m i n) (ev_var rfl) hs1 rfl (by walk_at "ev") allocH_mono fun H1 s Q q => ?_) allocH_mono fun H1 s => q H1 (by rw [eG]; exact s)
  exact ⟨_, _, _, rfl, p, { st with al := st.al + 1 }, m, i, n, rfl, S1.mono s, rfl, rfl, ⟨F.free, F.me, F.n0, F.room, F.r2⟩, q⟩
theorem rd_Space_init_ (T : Tx K mg) (vs : List V) (H : Hp) (Q : VK) (E : XK) (h : sp_Space_init_ K vs H Q E) : t_Space_init_ K { nx := fun _ H' => Q .non H', rt := Q } (start N_Space_init_ vs) H := by
  obtain ⟨_, _, _, rfl, x, dx, i, j, rfl, hx, rfl, rfl, q⟩ := h
  refine enter (σ := [some (.ref x), some (.int i), some (.int j)]) (g_fldR (R := fun v H2 => ∃ a : SA, v = .ref a.st ∧ StoreAt K a i j 0 [] [] H2 ∧ H a.st = none ∧ H a.wl = none ∧ H a.pl = none) hx (er_make (vs := [.int i, .int j]) (by walk_at "ev") fun H1 y dy s hy hdy hne Q q => ?_) (ev_var rfl) T.cls_Space T.na_Space_store (of_decide_eq_true rfl) fun v H2 s hv => ?_)
  · refine ⟨_, _, _, rfl, y, dy, i, j, rfl, upd_same, rfl, rfl, fun wl pl H3 hwl hpl hwp s3 => ⟨rfl, ?_⟩⟩
    have n1 : wl ≠ y := fun e => by rw [e, upd_same] at hwl; cases hwl
    have n2 : pl ≠ y := fun e => by rw [e, upd_same] at hpl; cases hpl
    have n3 : wl ≠ dy := fun e => by rw [e, upd_ne hne, upd_same] at hwl; cases hwl
    have n4 : pl ≠ dy := fun e => by rw [e, upd_ne hne, upd_same] at hpl; cases hpl
    have f1 : H1 wl = none := by rw [upd_ne n1, upd_ne n3] at hwl; exact hwl
    have f2 : H1 pl = none := by rw [upd_ne n2, upd_ne n4] at hpl; exact hpl
    refine q H3 (Same.trans ?_ s3) ⟨⟨y, dy, wl, pl⟩, rfl, ⟨s3 _ _ upd_same, s3 _ _ ?_, s3 _ _ ?_, ⟨fun n => rfl, [], rfl, .nil⟩, fun b hb => (by cases hb), .nil, by simp [enc]⟩, s.free hy, s.free f1, s.free f2⟩
    · exact same_mut (same_mut (same_mut (same_mut (same_mut (Same.refl _) hdy) hy) f1) f2) hy
    · rw [upd_ne n1, upd_ne hwp, upd_same]; rfl
    · rw [upd_ne n2, upd_same]
  obtain ⟨a, rfl, SA, f1, f2, f3⟩ := hv
  have x1 : x ≠ a.st := ne_of_none hx f1
  have x2 : x ≠ a.wl := ne_of_none hx f2
  have x3 : x ≠ a.pl := ne_of_none hx f3
  have hx2 := s _ _ hx
  refine g_fldN (o := .lst []) upd_same (by walk_at "ev") (ev_var rfl) T.cls_Space T.na_Space_pressure (of_decide_eq_true rfl) fun pr hp => ?_
  have x4 : x ≠ pr := ne_of_none upd_same hp
  have hp2 : H2 pr = none := by rw [upd_ne x4.symm] at hp; exact hp
  rw [upd_swap x4, upd_upd]
  refine g_fld upd_same ev_c (ev_var rfl) T.cls_Space T.na_Space_always (of_decide_eq_true rfl) ?_
  rw [upd_upd]
  refine g_fld upd_same ev_c (ev_var rfl) T.cls_Space T.na_Space_allocations (of_decide_eq_true rfl) ?_
  rw [upd_upd]
  refine g_fld upd_same ev_c (ev_var rfl) T.cls_Space T.na_Space_collections (of_decide_eq_true rfl) ?_
  rw [upd_upd]
  refine g_fldN (o := .lst ((List.replicate 16 (0 : Int)).map V.int)) upd_same ?_ (ev_var rfl) T.cls_Space T.na_Space__roots (of_decide_eq_true rfl) fun rl hr => ?_
  · exact en_rep (xs := [V.int 0]) (k := 16) (EvN.l (by walk_at "ev")) ev_c (by decide) (by decide) (by decide)
  have x5 : x ≠ rl := ne_of_none upd_same hr
  have hr1 : upd H2 pr (.lst []) rl = none := by rw [upd_ne x5.symm] at hr; exact hr
  rw [upd_swap x5, upd_upd]
  refine g_fldN (o := .lst []) upd_same (by walk_at "ev") (ev_var rfl) T.cls_Space T.na_Space__held (of_decide_eq_true rfl) fun hl hh => ?_
  have x6 : x ≠ hl := ne_of_none upd_same hh
  have hh1 : upd (upd H2 pr (.lst [])) rl (.lst ((List.replicate 16 (0 : Int)).map V.int)) hl = none := by rw [upd_ne x6.symm] at hh; exact hh
  rw [upd_swap x6, upd_upd]
  refine g_fld upd_same ev_c (ev_var rfl) T.cls_Space T.na_Space__saved (of_decide_eq_true rfl) ?_
  rw [upd_upd]
  have y1 : pr ≠ rl := fun e => by rw [← e, upd_same] at hr1; cases hr1
  have hr2 : H2 rl = none := by rw [upd_ne y1.symm] at hr1; exact hr1
  have y2 : rl ≠ hl := fun e => by rw [← e, upd_same] at hh1; cases hh1
  have hh2 : upd H2 pr (.lst []) hl = none := by rw [upd_ne y2.symm] at hh1; exact hh1
  have y3 : pr ≠ hl := fun e => by rw [← e, upd_same] at hh2; cases hh2
  have hh3 : H2 hl = none := by rw [upd_ne y3.symm] at hh2; exact hh2
  have w1 : pr ≠ a.wl := fresh_ne SA.wl hp2
  have w2 : rl ≠ a.wl := fresh_ne SA.wl hr2
  have w3 : hl ≠ a.wl := fresh_ne SA.wl hh3
  generalize hB : upd (upd (upd H2 pr (.lst [])) rl (.lst ((List.replicate 16 (0 : Int)).map V.int))) hl (.lst []) = B
  have sB : Same H2 B := by rw [← hB]; exact same_mut (same_mut (same_mut (Same.refl _) hp2) hr2) hh3
  refine g_next fun _ H3 _ s3 => q ⟨a, x, dx, rl, hl, pr⟩ H3 rfl (fun b hb hbx => ?_) ?_ fun b o hb hbx => s3 _ _ (by rw [upd_ne hbx]; exact sB _ _ (s _ _ hb))
  · simp only [PA.dom, List.mem_cons, List.not_mem_nil, or_false] at hb
    rcases hb with rfl | rfl | rfl | rfl | rfl | rfl | rfl
    · exact absurd rfl hbx
    · exact f1
    · exact f2
    · exact f3
    · exact s.free hr2
    · exact s.free hh3
    · exact s.free hp2
  · have g1 : B pr = some (.lst []) := by rw [← hB, upd_ne y3, upd_ne y1, upd_same]
    have g2 : B rl = some (.lst ((List.replicate 16 (0 : Int)).map V.int)) := by rw [← hB, upd_ne y2, upd_same]
    have g3 : B hl = some (.lst []) := by rw [← hB, upd_same]
    refine SpaceAt.mono ⟨upd_same, ⟨?_, ?_, ?_, SA.plc, SA.ne, SA.nd, SA.sz⟩, (upd_ne x5.symm).trans g2, (upd_ne x6.symm).trans g3, (upd_ne x4.symm).trans g1, x1, w2, w3, w1, y2, y1.symm, y3.symm, rfl, Nat.zero_le _⟩ s3
    · exact (upd_ne x1.symm).trans (sB _ _ SA.st)
    · exact (upd_ne x2.symm).trans (sB _ _ SA.wl)
    · exact (upd_ne x3.symm).trans (sB _ _ SA.pl)
end
end K64

set_option Elab.async false
set_option linter.all false
set_option maxRecDepth 100000
namespace K64
open PySem PySem.Spec PyProof.Rows L2 Kw
/-! ### paths, in plain Lean -/
theorem lex_app1 : ∀ (p : List Int) (i j : Int), HT.lexLt (p ++ [i]) (p ++ [j]) = decide (i < j)
  | [], i, j => by
    show HT.lexLt (i :: []) (j :: []) = _
    rw [HT.lexLt_cons, HT.lexLt_nil_nil]
    by_cases h : i = j
    · rw [if_pos h, decide_eq_false (by omega)]
    · rw [if_neg h]
  | x :: p, i, j => by
    show HT.lexLt (x :: (p ++ [i])) (x :: (p ++ [j])) = _
    rw [HT.lexLt_cons, if_pos rfl]
    exact lex_app1 p i j
theorem lex_app2 : ∀ (p q s t : List Int), p.length = q.length → HT.lexLt p q = true → HT.lexLt (p ++ s) (q ++ t) = true
  | [], [], s, t, _, h => by rw [HT.lexLt_nil_nil] at h; cases h
  | [], _ :: _, _, _, h, _ => by simp at h
  | _ :: _, [], _, _, h, _ => by simp at h
  | x :: p, y :: q, s, t, h, h2 => by
    show HT.lexLt (x :: (p ++ s)) (y :: (q ++ t)) = true
    rw [HT.lexLt_cons] at h2 ⊢
    by_cases e : x = y
    · rw [if_pos e] at h2 ⊢
      exact lex_app2 p q s t (by simpa using h) h2
    · rw [if_neg e] at h2 ⊢
      exact h2
theorem wlk_app (bs : List (Int × List Int)) (ws p q : List Int) : ∀ j, j ≤ p.length → wlk bs ws (p ++ q) j = wlk bs ws p j
  | 0, _ => rfl
  | j + 1, h => by
    have e : (p ++ q).getD j 0 = p.getD j 0 := by simp [List.getD, List.getElem?_append_left (show j < p.length by omega)]
    unfold wlk
    rw [wlk_app bs ws p q j (by omega), e]
theorem walk_snoc {bs : List (Int × List Int)} {ws p : List Int} (k : Int) (h : p ≠ []) : walkB bs ws (p ++ [k]) = (((walkB bs ws p).bind (objOf bs)).bind (rowOf bs)).bind fun row => idx row k := by
  have hl : 0 < p.length := List.length_pos_iff.mpr h
  unfold walkB
  rw [List.length_append, List.length_singleton]
  have e : (p ++ [k]).getD p.length 0 = k := by simp [List.getD]
  show (if p.length = 0 then some ws else ((wlk bs ws (p ++ [k]) p.length).bind (objOf bs)).bind (rowOf bs)).bind _ = _
  rw [if_neg (by omega), wlk_app bs ws p [k] _ (Nat.le_refl _), e]
theorem walk_one {bs : List (Int × List Int)} {ws : List Int} (k : Int) : walkB bs ws [k] = idx ws k := rfl
theorem wlk_none {bs : List (Int × List Int)} {ws p : List Int} {j : Nat} (h0 : 0 < j) (h : wlk bs ws p j = none) : ∀ m, wlk bs ws p (j + m) = none
  | 0 => h
  | m + 1 => by
    have ih := wlk_none h0 h m
    show (if j + m = 0 then some ws else ((wlk bs ws p (j + m)).bind (objOf bs)).bind (rowOf bs)).bind _ = none
    rw [if_neg (by omega), ih]; rfl
theorem obj_iff {bs : List (Int × List Int)} {w n : Int} : objOf bs w = some n ↔ w % 2 = 0 ∧ n = w / 2 ∧ (rowOf bs n).isSome = true := by
  unfold objOf
  by_cases h : w % 2 = 0 ∧ (rowOf bs (w / 2)).isSome = true
  · rw [if_pos h]
    constructor
    · intro e; cases e; exact ⟨h.1, rfl, h.2⟩
    · rintro ⟨_, rfl, _⟩; rfl
  · rw [if_neg h]
    constructor
    · intro e; cases e
    · rintro ⟨h1, rfl, h2⟩; exact absurd ⟨h1, h2⟩ h
theorem obj_two {bs : List (Int × List Int)} {n : Int} (h : (rowOf bs n).isSome = true) : objOf bs (2 * n) = some n := obj_iff.mpr ⟨by omega, by omega, h⟩
theorem obj_word {bs : List (Int × List Int)} {w n : Int} (h : objOf bs w = some n) : w = 2 * n := by
  obtain ⟨h1, h2, _⟩ := obj_iff.mp h
  omega
/-! ### one level -/
structure Lvl (bs : List (Int × List Int)) (f : List (Int × List Int)) (wt : List (List Int × Int)) (a new : List (Int × List Int)) : Prop where
  eq : wt.foldl (stepP bs) (f ++ a, a.flatMap (ext bs)) = (f ++ (a ++ new), (a ++ new).flatMap (ext bs))
  nd : ((f ++ a).map (·.1)).Nodup → ((f ++ (a ++ new)).map (·.1)).Nodup
  src : ∀ e ∈ new, ∃ w, (e.2, w) ∈ wt ∧ objOf bs w = some e.1
  all : ∀ y ∈ wt, ∀ n, objOf bs y.2 = some n → n ∈ (f ++ (a ++ new)).map (·.1)
  sub : (new.map (·.2)).Sublist (wt.map (·.1))
theorem lvl_of (bs f : List (Int × List Int)) : ∀ (wt : List (List Int × Int)) (a : List (Int × List Int)), ∃ new, Lvl bs f wt a new
  | [], a => ⟨[], by simp, by simp, by simp, by simp, by simp⟩
  | (p, w) :: wt, a => by
    cases ho : objOf bs w with
    | none =>
      obtain ⟨new, L⟩ := lvl_of bs f wt a
      refine ⟨new, ?_, L.nd, fun e he => ?_, fun y hy n hn => ?_, L.sub.cons _⟩
      · rw [List.foldl_cons]
        show wt.foldl (stepP bs) (stepP bs (f ++ a, _) (p, w)) = _
        have e1 : stepP bs (f ++ a, a.flatMap (ext bs)) (p, w) = (f ++ a, a.flatMap (ext bs)) := by
          unfold stepP; rw [show objOf bs (p, w).2 = none from ho]
        rw [e1]; exact L.eq
      · obtain ⟨w', h1, h2⟩ := L.src e he
        exact ⟨w', List.mem_cons_of_mem _ h1, h2⟩
      · rcases List.mem_cons.mp hy with rfl | hy
        · rw [show objOf bs (p, w).2 = none from ho] at hn; cases hn
        · exact L.all y hy n hn
    | some n =>
      by_cases hm : n ∈ (f ++ a).map (·.1)
      · obtain ⟨new, L⟩ := lvl_of bs f wt a
        refine ⟨new, ?_, L.nd, fun e he => ?_, fun y hy n' hn => ?_, L.sub.cons _⟩
        · rw [List.foldl_cons]
          have e1 : stepP bs (f ++ a, a.flatMap (ext bs)) (p, w) = (f ++ a, a.flatMap (ext bs)) := by
            unfold stepP; rw [show objOf bs (p, w).2 = some n from ho]; exact if_pos hm
          rw [e1]; exact L.eq
        · obtain ⟨w', h1, h2⟩ := L.src e he
          exact ⟨w', List.mem_cons_of_mem _ h1, h2⟩
        · rcases List.mem_cons.mp hy with rfl | hy
          · rw [show objOf bs (p, w).2 = some n from ho] at hn
            cases hn
            rw [← List.append_assoc, List.map_append]
            exact List.mem_append_left _ hm
          · exact L.all y hy n' hn
      · obtain ⟨new, L⟩ := lvl_of bs f wt (a ++ [(n, p)])
        have ea : a ++ [(n, p)] ++ new = a ++ ((n, p) :: new) := by simp
        refine ⟨(n, p) :: new, ?_, fun nd => ?_, fun e he => ?_, fun y hy n' hn => ?_, ?_⟩
        · rw [List.foldl_cons]
          have e1 : stepP bs (f ++ a, a.flatMap (ext bs)) (p, w) = (f ++ (a ++ [(n, p)]), (a ++ [(n, p)]).flatMap (ext bs)) := by
            unfold stepP; rw [show objOf bs (p, w).2 = some n from ho]
            show (if n ∈ (f ++ a).map (·.1) then _ else _) = _
            rw [if_neg hm]; simp
          rw [e1, L.eq, ea]
        · rw [← ea]
          refine L.nd ?_
          rw [← List.append_assoc, List.map_append]
          exact List.nodup_append.mpr ⟨nd, by simp, fun x hx y hy => by
            have : y = n := by simpa using hy
            rintro rfl
            exact hm (this ▸ hx)⟩
        · rcases List.mem_cons.mp he with rfl | he
          · exact ⟨w, List.mem_cons_self, ho⟩
          · obtain ⟨w', h1, h2⟩ := L.src e he
            exact ⟨w', List.mem_cons_of_mem _ h1, h2⟩
        · rw [← ea]
          rcases List.mem_cons.mp hy with rfl | hy
          · rw [show objOf bs (p, w).2 = some n from ho] at hn
            cases hn
            simp
          · exact L.all y hy n' hn
        · exact L.sub.cons₂ _
/-! ### the levels -/
structure Stg (bs : List (Int × List Int)) (ws : List Int) (k : Nat) (f : List (Int × List Int)) (wt : List (List Int × Int)) : Prop where
  nd : (f.map (·.1)).Nodup
  f1 : ∀ e ∈ f, (rowOf bs e.1).isSome = true ∧ e.2 ≠ [] ∧ e.2.length ≤ k ∧ walkB bs ws e.2 = some (2 * e.1) ∧ Rch bs ws e.1
  w1 : ∀ y ∈ wt, y.1.length = k + 1 ∧ walkB bs ws y.1 = some y.2 ∧ ∀ n, objOf bs y.2 = some n → Rch bs ws n
  pw : wt.Pairwise fun x y => HT.lexLt x.1 y.1 = true
  c1 : ∀ w ∈ ws, ∀ n, objOf bs w = some n → n ∈ f.map (·.1) ∨ ∃ y ∈ wt, y.2 = w
  c2 : ∀ e ∈ f, ∀ row, rowOf bs e.1 = some row → ∀ w ∈ row, ∀ n, objOf bs w = some n → n ∈ f.map (·.1) ∨ ∃ y ∈ wt, y.2 = w
  big : wt ≠ [] → k ≤ f.length
theorem ext_mem {bs : List (Int × List Int)} {e : Int × List Int} {row : List Int} (h : rowOf bs e.1 = some row) {y : List Int × Int} : y ∈ ext bs e ↔ ∃ k, k < row.length ∧ y = (e.2 ++ [(k : Int)], row.getD k 0) := by
  unfold ext
  rw [h]
  simp only [Option.getD_some, List.mem_map, List.mem_range]
  constructor
  · rintro ⟨k, h1, h2⟩; exact ⟨k, h1, h2.symm⟩
  · rintro ⟨k, h1, h2⟩; exact ⟨k, h1, h2.symm⟩
theorem idx_nat {row : List Int} {k : Nat} (h : k < row.length) : idx row (k : Int) = some (row.getD k 0) := by
  unfold idx
  rw [if_pos ⟨by omega, by omega⟩, Int.toNat_natCast]
theorem mem_getD {row : List Int} {w : Int} (h : w ∈ row) : ∃ k, k < row.length ∧ row.getD k 0 = w := by
  obtain ⟨k, hk, e⟩ := List.getElem_of_mem h
  exact ⟨k, hk, by simp [List.getD, hk, e]⟩
theorem getD_mem {row : List Int} {k : Nat} (h : k < row.length) : row.getD k 0 ∈ row := by
  simp [List.getD, h]
theorem stg_start (bs : List (Int × List Int)) (ws : List Int) : Stg bs ws 0 [] (start1 ws) := by
  refine ⟨by simp, by simp, fun y hy => ?_, ?_, fun w hw n hn => .inr ?_, by simp, fun _ => Nat.le_refl _⟩
  · unfold start1 at hy
    obtain ⟨k, hk, rfl⟩ := List.mem_map.mp hy
    have hk' := List.mem_range.mp hk
    refine ⟨rfl, ?_, fun n hn => ?_⟩
    · rw [walk_one, idx_nat hk']
    · obtain ⟨h1, h2, h3⟩ := obj_iff.mp hn
      subst h2
      exact .root (getD_mem hk') h1 h3
  · unfold start1
    refine List.pairwise_map.mpr (List.Pairwise.imp (fun {a b} hab => ?_) List.pairwise_lt_range)
    have h := lex_app1 [] (a : Int) (b : Int)
    exact h.trans (decide_eq_true (by omega))
  · obtain ⟨k, hk, e⟩ := mem_getD hw
    exact ⟨([(k : Int)], ws.getD k 0), List.mem_map.mpr ⟨k, List.mem_range.mpr hk, rfl⟩, e⟩
theorem stg_step {bs : List (Int × List Int)} {ws : List Int} {k : Nat} {f : List (Int × List Int)} {wt : List (List Int × Int)} (S : Stg bs ws k f wt) : Stg bs ws (k + 1) (level bs f wt).1 (level bs f wt).2 := by
  obtain ⟨new, L⟩ := lvl_of bs f wt []
  have e1 : level bs f wt = (f ++ new, new.flatMap (ext bs)) := by
    have := L.eq
    simp only [List.append_nil, List.nil_append, List.flatMap_nil] at this
    exact this
  have e2 : (level bs f wt).1 = f ++ new := by rw [e1]
  have e3 : (level bs f wt).2 = new.flatMap (ext bs) := by rw [e1]
  rw [e2, e3]
  have src : ∀ e ∈ new, ∃ w, (e.2, w) ∈ wt ∧ objOf bs w = some e.1 := L.src
  have nw : ∀ e ∈ new, (rowOf bs e.1).isSome = true ∧ e.2.length = k + 1 ∧ walkB bs ws e.2 = some (2 * e.1) ∧ Rch bs ws e.1 := fun e he => by
    obtain ⟨w, h1, h2⟩ := src e he
    obtain ⟨g1, g2, g3⟩ := S.w1 _ h1
    exact ⟨(obj_iff.mp h2).2.2, g1, by rw [g2, obj_word h2], g3 _ h2⟩
  have all : ∀ y ∈ wt, ∀ n, objOf bs y.2 = some n → n ∈ (f ++ new).map (·.1) := fun y hy n hn => by simpa using L.all y hy n hn
  refine ⟨by have := L.nd; simp only [List.append_nil, List.nil_append] at this; exact this S.nd, fun e he => ?_, fun y hy => ?_, ?_, fun w hw n hn => .inl ?_, fun e he row hr w hw n hn => ?_, fun hne => ?_⟩
  · rcases List.mem_append.mp he with he | he
    · obtain ⟨a, b, c, d, g⟩ := S.f1 e he
      exact ⟨a, b, by omega, d, g⟩
    · obtain ⟨a, b, c, d⟩ := nw e he
      exact ⟨a, fun z => by rw [z] at b; simp at b, by omega, c, d⟩
  · obtain ⟨e, he, hy⟩ := List.mem_flatMap.mp hy
    obtain ⟨a, b, c, d⟩ := nw e he
    obtain ⟨row, hr⟩ := Option.isSome_iff_exists.mp a
    obtain ⟨j, hj, rfl⟩ := (ext_mem hr).mp hy
    refine ⟨by simp [b], ?_, fun n hn => ?_⟩
    · rw [walk_snoc _ (fun z => by rw [z] at b; simp at b), c]
      show (((objOf bs (2 * e.1))).bind (rowOf bs)).bind _ = _
      rw [obj_two a]
      show (rowOf bs e.1).bind _ = _
      rw [hr]
      exact idx_nat hj
    · obtain ⟨h1, h2, h3⟩ := obj_iff.mp hn
      subst h2
      exact .step d hr (getD_mem hj) h1 h3
  · refine List.pairwise_flatMap.mpr ⟨fun e he => ?_, ?_⟩
    · unfold ext
      refine List.pairwise_map.mpr (List.Pairwise.imp (fun {a b} hab => ?_) List.pairwise_lt_range)
      exact (lex_app1 e.2 (a : Int) (b : Int)).trans (decide_eq_true (by omega))
    · have h1 : (wt.map (·.1)).Pairwise fun p q => HT.lexLt p q = true := List.pairwise_map.mpr S.pw
      have h2 : new.Pairwise fun a b => HT.lexLt a.2 b.2 = true := List.pairwise_map.mp (h1.sublist L.sub)
      refine (List.Pairwise.and_mem.mp h2).imp fun {a b} ⟨ha, hb, hab⟩ x hx y hy => ?_
      obtain ⟨a1, a2, _⟩ := nw a ha
      obtain ⟨b1, b2, _⟩ := nw b hb
      obtain ⟨ra, hra⟩ := Option.isSome_iff_exists.mp a1
      obtain ⟨rb, hrb⟩ := Option.isSome_iff_exists.mp b1
      obtain ⟨i, _, rfl⟩ := (ext_mem hra).mp hx
      obtain ⟨j, _, rfl⟩ := (ext_mem hrb).mp hy
      exact lex_app2 _ _ _ _ (a2.trans b2.symm) hab
  · rcases S.c1 w hw n hn with h | ⟨y, hy, rfl⟩
    · rw [List.map_append]; exact List.mem_append_left _ h
    · exact all y hy n hn
  · rcases List.mem_append.mp he with he | he
    · rcases S.c2 e he row hr w hw n hn with h | ⟨y, hy, rfl⟩
      · left; rw [List.map_append]; exact List.mem_append_left _ h
      · exact .inl (all y hy n hn)
    · right
      obtain ⟨j, hj, rfl⟩ := mem_getD hw
      exact ⟨(e.2 ++ [(j : Int)], row.getD j 0), List.mem_flatMap.mpr ⟨e, he, (ext_mem hr).mpr ⟨j, hj, rfl⟩⟩, rfl⟩
  · have hn : new ≠ [] := fun z => by rw [z] at hne; exact hne rfl
    have hw : wt ≠ [] := fun z => by
      subst z
      cases new with
      | nil => exact hn rfl
      | cons e r =>
        obtain ⟨w, h1, _⟩ := src e List.mem_cons_self
        cases h1
    have h1 := S.big hw
    have h2 : 0 < new.length := List.length_pos_iff.mpr hn
    rw [List.length_append]
    omega
theorem stg_ok (bs : List (Int × List Int)) (ws : List Int) : ∀ k, Stg bs ws k (stg bs ws k).1 (stg bs ws k).2
  | 0 => stg_start bs ws
  | k + 1 => stg_step (stg_ok bs ws k)
theorem Stg.len {bs : List (Int × List Int)} {ws : List Int} {k : Nat} {f : List (Int × List Int)} {wt : List (List Int × Int)} (S : Stg bs ws k f wt) : f.length ≤ bs.length := by
  have h : (f.map (·.1)).length ≤ (bs.map (·.1)).length := by
    refine S.nd.length_le_of_subset fun n hn => ?_
    obtain ⟨e, he, rfl⟩ := List.mem_map.mp hn
    exact keys_some.mp (S.f1 e he).1
  simpa using h
theorem stg_end (bs : List (Int × List Int)) (ws : List Int) : (stg bs ws (bs.length + 1)).2 = [] := by
  have S := stg_ok bs ws (bs.length + 1)
  by_cases h : (stg bs ws (bs.length + 1)).2 = []
  · exact h
  · have h1 := S.big h
    have h2 := S.len
    omega
theorem stg_stop {bs : List (Int × List Int)} {ws : List Int} {k : Nat} (h : (stg bs ws k).2 = []) : ∀ m, stg bs ws (k + m) = stg bs ws k
  | 0 => rfl
  | m + 1 => by
    have ih := stg_stop h m
    show level bs (stg bs ws (k + m)).1 (stg bs ws (k + m)).2 = _
    rw [ih, h]
    show ((stg bs ws k).1, []) = _
    rw [← h]
theorem paths_eq {bs : List (Int × List Int)} {ws : List Int} {k : Nat} (h : (stg bs ws k).2 = []) (hk : k ≤ bs.length + 1) : (stg bs ws k).1 = pathsF bs ws := by
  unfold pathsF
  have := stg_stop h (bs.length + 1 - k)
  rw [show k + (bs.length + 1 - k) = bs.length + 1 by omega] at this
  rw [this]
theorem paths_ok (bs : List (Int × List Int)) (ws : List Int) : Stg bs ws (bs.length + 1) (pathsF bs ws) [] := by
  have S := stg_ok bs ws (bs.length + 1)
  rw [stg_end] at S
  exact S
theorem paths_keys {bs : List (Int × List Int)} {ws : List Int} {n : Int} : n ∈ (pathsF bs ws).map (·.1) ↔ Rch bs ws n := by
  have S := paths_ok bs ws
  constructor
  · intro h
    obtain ⟨e, he, rfl⟩ := List.mem_map.mp h
    exact (S.f1 e he).2.2.2.2
  · intro h
    induction h with
    | root hw h2 h3 =>
      rcases S.c1 _ hw _ (obj_iff.mpr ⟨h2, rfl, h3⟩) with h | ⟨_, h, _⟩
      · exact h
      · cases h
    | step _ hr hw h2 h3 ih =>
      obtain ⟨e, he, rfl⟩ := List.mem_map.mp ih
      rcases S.c2 e he _ hr _ hw _ (obj_iff.mpr ⟨h2, rfl, h3⟩) with h | ⟨_, h, _⟩
      · exact h
      · cases h
/-- what the law's next words are -/
theorem stg_filter (bs : List (Int × List Int)) (ws : List Int) (k : Nat) : ((stg bs ws (k + 1)).1.filter fun e => decide (e.2.length = k + 1)).flatMap (ext bs) = (stg bs ws (k + 1)).2 := by
  have S := stg_ok bs ws k
  obtain ⟨new, L⟩ := lvl_of bs (stg bs ws k).1 (stg bs ws k).2 []
  have e1 : level bs (stg bs ws k).1 (stg bs ws k).2 = ((stg bs ws k).1 ++ new, new.flatMap (ext bs)) := by
    have := L.eq
    simp only [List.append_nil, List.nil_append, List.flatMap_nil] at this
    exact this
  show ((level bs (stg bs ws k).1 (stg bs ws k).2).1.filter _).flatMap (ext bs) = (level bs (stg bs ws k).1 (stg bs ws k).2).2
  rw [e1]
  show (((stg bs ws k).1 ++ new).filter _).flatMap (ext bs) = new.flatMap (ext bs)
  have h1 : (stg bs ws k).1.filter (fun e => decide (e.2.length = k + 1)) = [] := List.filter_eq_nil_iff.mpr fun e he => by
    have := (S.f1 e he).2.2.1
    simp; omega
  have h2 : new.filter (fun e => decide (e.2.length = k + 1)) = new := List.filter_eq_self.mpr fun e he => by
    obtain ⟨w, g1, _⟩ := L.src e he
    have := (S.w1 _ g1).1
    simpa using this
  rw [List.filter_append, h1, h2, List.nil_append]
/-! ### sizes -/
theorem sum_one {m : Int} {c : Nat} {g : Int → Nat} : ∀ {ks : List Int}, ks.Nodup → (ks.map fun n => if n = m then c else g n).sum ≤ c + (ks.map g).sum
  | [], _ => by simp
  | k :: ks, h => by
    obtain ⟨h1, h2⟩ := List.nodup_cons.mp h
    by_cases e : k = m
    · have h3 : (ks.map fun n => if n = m then c else g n) = ks.map g := List.map_congr_left fun n hn => if_neg (fun z => h1 (by rw [e, ← z]; exact hn))
      rw [List.map_cons, List.map_cons, List.sum_cons, List.sum_cons, if_pos e, h3]
      omega
    · have ih := sum_one (m := m) (c := c) (g := g) h2
      rw [List.map_cons, List.map_cons, List.sum_cons, List.sum_cons, if_neg e]
      omega
theorem sum_rows : ∀ (bs : List (Int × List Int)) {ks : List Int}, ks.Nodup → (ks.map fun n => ((rowOf bs n).getD []).length).sum ≤ (enc bs).length
  | [], ks, _ => by
    have : (ks.map fun n => ((rowOf [] n).getD []).length) = ks.map fun _ => 0 := List.map_congr_left fun n _ => rfl
    rw [this]
    have : ∀ l : List Int, (l.map fun _ => 0).sum = 0 := fun l => by induction l <;> simp_all
    rw [this]; exact Nat.zero_le _
  | (m, r) :: bs, ks, h => by
    have e : (ks.map fun n => ((rowOf ((m, r) :: bs) n).getD []).length) = ks.map fun n => if n = m then r.length else ((rowOf bs n).getD []).length := List.map_congr_left fun n _ => by
      unfold rowOf
      rw [List.lookup_cons]
      by_cases q : n = m
      · rw [if_pos q, show (n == m) = true by simpa using q]; rfl
      · rw [if_neg q, show (n == m) = false by simpa using q]
    rw [e]
    have h1 := sum_one (m := m) (c := r.length) (g := fun n => ((rowOf bs n).getD []).length) h
    have h2 := sum_rows bs h
    simp only [enc, List.length_cons, List.length_append]
    omega
theorem ext_len (bs : List (Int × List Int)) (e : Int × List Int) : (ext bs e).length = ((rowOf bs e.1).getD []).length := by
  unfold ext; rw [List.length_map, List.length_range]
theorem flat_len {bs : List (Int × List Int)} {es : List (Int × List Int)} (h : (es.map (·.1)).Nodup) : (es.flatMap (ext bs)).length ≤ (enc bs).length := by
  have h1 := sum_rows bs h
  rw [List.map_map] at h1
  rw [List.length_flatMap]
  have e : (es.map fun x => (ext bs x).length) = es.map ((fun n => ((rowOf bs n).getD []).length) ∘ fun x => x.1) := List.map_congr_left fun x _ => ext_len bs x
  rw [e]; exact h1
theorem row_len {bs : List (Int × List Int)} {n : Int} {row : List Int} (h : rowOf bs n = some row) : row.length ≤ (enc bs).length := by
  have := sum_rows bs (ks := [n]) (by simp)
  simpa [h] using this
/-- the words of the objects not yet found -/
def left (bs : List (Int × List Int)) (ks : List Int) : Nat := ((bs.filter fun b => decide (b.1 ∉ ks)).map fun b => b.2.length).sum
theorem left_le (bs : List (Int × List Int)) (ks : List Int) : left bs ks ≤ (enc bs).length := by
  unfold left
  induction bs with
  | nil => simp
  | cons b bs ih =>
    obtain ⟨m, r⟩ := b
    rw [List.filter_cons]
    split
    · rw [List.map_cons, List.sum_cons]
      simp only [enc, List.length_cons, List.length_append]
      omega
    · simp only [enc, List.length_cons, List.length_append]
      omega
theorem left_mono (bs : List (Int × List Int)) (ks : List Int) (n : Int) : left bs (ks ++ [n]) ≤ left bs ks := by
  unfold left
  induction bs with
  | nil => simp
  | cons b bs ih =>
    rw [List.filter_cons, List.filter_cons]
    by_cases h1 : b.1 ∈ ks
    · rw [if_neg (by simp [h1]), if_neg (by simp [h1])]; exact ih
    · rw [if_pos (c := decide (b.1 ∉ ks) = true) (by simpa using h1), List.map_cons, List.sum_cons]
      split
      · rw [List.map_cons, List.sum_cons]; omega
      · omega
theorem left_lt {bs : List (Int × List Int)} {ks : List Int} {n : Int} {row : List Int} (hr : rowOf bs n = some row) (hn : n ∉ ks) : left bs (ks ++ [n]) + row.length ≤ left bs ks := by
  induction bs with
  | nil => cases hr
  | cons b bs ih =>
    obtain ⟨m, r⟩ := b
    unfold left at ih ⊢
    rw [List.filter_cons, List.filter_cons]
    unfold rowOf at hr ih
    rw [List.lookup_cons] at hr
    by_cases q : n = m
    · subst q
      rw [show (n == n) = true by simp] at hr
      cases hr
      rw [if_neg (by simp), if_pos (by simpa using hn), List.map_cons, List.sum_cons]
      have := left_mono bs ks n
      unfold left at this
      show _ + row.length ≤ row.length + _
      omega
    · rw [show (n == m) = false by simpa using q] at hr
      have ih := ih hr
      by_cases h1 : m ∈ ks
      · rw [if_neg (by simp [h1]), if_neg (by simp [h1])]; exact ih
      · rw [if_pos (by simp [h1]; exact fun z => q z.symm), if_pos (by simpa using h1), List.map_cons, List.sum_cons, List.map_cons, List.sum_cons]
        omega
end K64

set_option Elab.async false
set_option linter.all false
set_option maxRecDepth 100000
namespace K64
open PySem PySem.Spec PyProof.Rows L2 Kw
/-! ### the law's defs -/
/-- a pair (a path, a word) stands -/
def TPat (y : List Int × Int) (v : V) (H : Hp) : Prop := ∃ t u, v = .ref t ∧ H t = some (.tup [.ref u, .int y.2]) ∧ H u = some (.tup (y.1.map V.int))
/-- a list of such pairs -/
def WtR (wt : List (List Int × Int)) (xs : List V) (H : Hp) : Prop := xs.length = wt.length ∧ ∀ (k : Nat) x, xs[k]? = some x → ∃ y, wt[k]? = some y ∧ TPat y x H

def lawN (c k : Int) : Int := if 1000000000000000000 ≤ c then c else ((c * 48271 + k * 69621 + 11) % 2147483647 * ((c * 48271 + k * 69621 + 11) % 2147483647) + k * 40692) % 2147483399
def sp__law_number (K : PySem.W.Frag) : Sp := spI2 (fun c k => Bn 1048600 c ∧ k.natAbs < 2 ^ 40) fun c k => .int (lawN c k)
def lawW (x m : Int) : Int :=
  if x % 8 = 0 then 4 * (x / 8 * 48271 % 536870912 - 268435456) + 1 else if x % 8 = 1 then 4 * (x / 8 * 48271 % 100000) + 3 else if x % 8 = 2 then 0 else 2 * (x / 8 % (m + 1))
def sp__law_word (K : PySem.W.Frag) : Sp := spI2 (fun x m => Bn 1048700 x ∧ 0 ≤ m ∧ m < 1000000) fun x m => .int (lawW x m)
def sp__law_is (K : PySem.W.Frag) : Sp := spI2 (fun _ _ => True) fun i j => .bl (decide (i = j))
def sp__law_same (K : PySem.W.Frag) : Sp := sp2 fun a d H Q => ∃ (p q : Addr) (xs ys : List Int), a = .ref p ∧ d = .ref q ∧ H p = some (.lst (xs.map V.int)) ∧ SqL K H q (ys.map V.int) ∧ ys.length ≤ 1000000 ∧ Giv (.bl (decide (xs = ys))) H Q
def sp__law_path_is (K : PySem.W.Frag) : Sp := sp2 fun a d H Q => ∃ (p q : Addr) (xs ys : List Int), a = .ref p ∧ d = .ref q ∧ H p = some (.tup (xs.map V.int)) ∧ SqT K H q (ys.map V.int) ∧ ys.length ≤ 1000000 ∧ Giv (.bl (decide (xs = ys))) H Q
def sp__law_sizes (K : PySem.W.Frag) : Sp := sp1 fun x H Q => ∃ i, x = .int i ∧ Bn 1048590 i ∧ ∀ ns : List Int, ns.length ≤ 39 → (∀ n ∈ ns, 0 ≤ n ∧ n ≤ 19) → GivN (.lst (ns.map V.int)) H Q
/-- a word that refers has no sign -/
def OkW (w : Int) : Prop := w % 2 = 0 → 0 ≤ w
def RowsOk (rows : List (List Int)) : Prop := rows.length ≤ 39 ∧ ∀ r ∈ rows, 1 ≤ r.length ∧ r.length ≤ 20 ∧ ∀ w ∈ r, OkW w
/-- a list of lists stands -/
def RowsV (rows : List (List Int)) (v : V) (H : Hp) : Prop := ∃ p xs, v = .ref p ∧ H p = some (.lst xs) ∧ xs.length = rows.length ∧ ∀ (k : Nat) x, xs[k]? = some x → ∃ row, rows[k]? = some row ∧ ∃ q, x = .ref q ∧ H q = some (.lst (row.map V.int))
theorem RowsV.mono {rows : List (List Int)} {v : V} {H H1 : Hp} (h : RowsV rows v H) (s : Same H H1) : RowsV rows v H1 := by
  obtain ⟨p, xs, e, h1, h2, h3⟩ := h
  refine ⟨p, xs, e, s _ _ h1, h2, fun k x hx => ?_⟩
  obtain ⟨row, g1, q, g2, g3⟩ := h3 k x hx
  exact ⟨row, g1, q, g2, s _ _ g3⟩
def sp__law_rows (K : PySem.W.Frag) : Sp := sp2 fun s x H Q => ∃ (p : Addr) (ns : List Int) (i : Int), s = .ref p ∧ SqL K H p (ns.map V.int) ∧ ns.length ≤ 39 ∧ (∀ n ∈ ns, 0 ≤ n ∧ n ≤ 19) ∧ x = .int i ∧ Bn 1048590 i ∧
  ∀ rows, RowsOk rows → GivR (RowsV rows) H Q
def RootsOk (ws : List Int) : Prop := 16 ≤ ws.length ∧ ws.length ≤ 20 ∧ ∀ w ∈ ws, OkW w
def sp__law_roots (K : PySem.W.Frag) : Sp := sp2 fun m x H Q => ∃ j i, m = .int j ∧ 0 ≤ j ∧ j < 1000000 ∧ x = .int i ∧ Bn 1048590 i ∧ ∀ ws, RootsOk ws → GivN (.lst (ws.map V.int)) H Q
/-- the rows with their numbers -/
def numB (rows : List (List Int)) : List (Int × List Int) := (List.range rows.length).map fun (k : Nat) => ((k : Int), rows.getD k [])
/-- a list of whole numbers -/
def IsI (ns : List Int) (v : V) (H : Hp) : Prop := ∃ p, v = .ref p ∧ H p = some (.lst (ns.map V.int))
def sp__law_space (K : PySem.W.Frag) : Sp := sp2 fun r w H Q => ∃ rows ws, RowsV rows r H ∧ RowsOk rows ∧ IsI ws w H ∧ RootsOk ws ∧ GivR (fun v H1 => ∃ p st, v = .ref p.sp ∧ SpaceAt K p st H1 ∧ st.bs = numB rows ∧ st.ws = 0 :: ws) H Q
def sp__law_walk (K : PySem.W.Frag) : Sp := sp3 fun r w t H Q => ∃ (rows : List (List Int)) (ws : List Int) (q : Addr) (path : List Int), RowsV rows r H ∧ RowsOk rows ∧ IsI ws w H ∧ RootsOk ws ∧ t = .ref q ∧ (SqL K H q (path.map V.int) ∨ SqT K H q (path.map V.int)) ∧ path.length ≤ 100000 ∧
  Giv (optV (walkB (numB rows) (0 :: ws) path)) H Q
def sp__law_extended (K : PySem.W.Frag) : Sp := sp3 fun r f n H Q => ∃ (rows : List (List Int)) (d : Addr) (F : List (Int × List Int)) (k : Int), RowsV rows r H ∧ RowsOk rows ∧ f = .ref d ∧ DictP d F H ∧ n = .int k ∧ (F.map (·.1)).Nodup ∧ (∀ e ∈ F, (rowOf (numB rows) e.1).isSome = true ∧ e.2 ≠ [] ∧ e.2.length ≤ 1000) ∧
  GivR (fun v H1 => ∃ p xs, v = .ref p ∧ H1 p = some (.lst xs) ∧ WtR ((F.filter fun e => decide ((e.2.length : Int) = k)).flatMap (ext (numB rows))) xs H1) H Q
def sp__law_best (K : PySem.W.Frag) : Sp := sp2 fun r w H Q => ∃ rows ws, RowsV rows r H ∧ RowsOk rows ∧ IsI ws w H ∧ RootsOk ws ∧ GivR (fun v H1 => ∃ d, v = .ref d ∧ DictP d (pathsF (numB rows) (0 :: ws)) H1) H Q
def sp__law_told (K : PySem.W.Frag) : Sp := sp4 fun s r w t H Q => ∃ (rows : List (List Int)) (ws : List Int) (p : PA) (st : PS) (q : Addr) (path : List Int), RowsV rows r H ∧ RowsOk rows ∧ IsI ws w H ∧ RootsOk ws ∧ s = .ref p.sp ∧ SpaceAt K p st H ∧ st.bs = numB rows ∧ st.ws = 0 :: ws ∧ t = .ref q ∧ SqT K H q (path.map V.int) ∧ path.length ≤ 100000 ∧
  Giv (.bl true) H Q
def sp__law_drawn (K : PySem.W.Frag) : Sp := sp3 fun x r w H Q => ∃ rows ws i, x = .int i ∧ RowsV rows r H ∧ RowsOk rows ∧ IsI ws w H ∧ RootsOk ws ∧ ∀ path : List Int, path.length ≤ 5 → GivN (.tup (path.map V.int)) H Q
def sp__law_kept (K : PySem.W.Frag) : Sp := sp3 fun s r w H Q => ∃ rows ws p st, RowsV rows r H ∧ RowsOk rows ∧ IsI ws w H ∧ RootsOk ws ∧ s = .ref p.sp ∧ SpaceAt K p st H ∧ st.bs = numB rows ∧ st.ws = 0 :: ws ∧ Giv (.bl true) H Q
def sp__law_long (K : PySem.W.Frag) : Sp := sp1 fun x H Q => ∃ i, x = .int i ∧ Giv (.bl true) H Q
def sp_law (K : PySem.W.Frag) : Sp := sp1 fun s H Q => ∃ (a : Addr) (ns : List Int), s = .ref a ∧ SqL K H a (ns.map V.int) ∧ ns.length ≤ 63 ∧ (∀ n ∈ ns, Bn 1048576 n) ∧ ∀ H1, Q (.bl true) H1
end K64

set_option Elab.async false
set_option linter.all false
set_option maxRecDepth 100000
set_option maxHeartbeats 4000000
namespace K64
open PySem PySem.Spec PyProof.Rows L2 Kw
abbrev N__law_number : List Str := ["cell", "k", "mixed"]
def t__law_number (K : PySem.W.Frag) : TS :=
 tSeq (tIfS (tTest (tOp oGe (tVar 0) (tOp oPow (tC (.int 10)) (tC (.int 18)))))
 (tSeq (tRet (tVar 0))
 (tNext))
 (tNext))
 (tSeq (tAsg (tOp oMod (tCB (rInt1) (tCons (tOp oAdd (tOp oAdd (tOp oMul (tVar 0) (tC (.int 48271))) (tOp oMul (tVar 1) (tC (.int 69621)))) (tC (.int 11))) (tNil))) (tC (.int 2147483647))) (gName 2))
 (tSeq (tRet (tOp oMod (tCB (rInt1) (tCons (tOp oAdd (tOp oMul (tVar 2) (tVar 2)) (tOp oMul (tVar 1) (tC (.int 40692)))) (tNil))) (tC (.int 2147483399))))
 (tNext)))
abbrev N__law_word : List Str := ["x", "many", "rest"]
def t__law_word (K : PySem.W.Frag) : TS :=
 tSeq (tAsg (tOp oDiv (tVar 0) (tC (.int 8))) (gName 2))
 (tSeq (tIfS (tTest (tOp rEq (tOp oMod (tCB (rInt1) (tCons (tVar 0) (tNil))) (tC (.int 8))) (tC (.int 0))))
 (tSeq (tRet (tOp oAdd (tOp oMul (tC (.int 4)) (tOp oSub (tOp oMod (tCB (rInt1) (tCons (tOp oMul (tVar 2) (tC (.int 48271))) (tNil))) (tC (.int 536870912))) (tC (.int 268435456)))) (tC (.int 1))))
 (tNext))
 (tNext))
 (tSeq (tIfS (tTest (tOp rEq (tOp oMod (tCB (rInt1) (tCons (tVar 0) (tNil))) (tC (.int 8))) (tC (.int 1))))
 (tSeq (tRet (tOp oAdd (tOp oMul (tC (.int 4)) (tOp oMod (tCB (rInt1) (tCons (tOp oMul (tVar 2) (tC (.int 48271))) (tNil))) (tC (.int 100000)))) (tC (.int 3))))
 (tNext))
 (tNext))
 (tSeq (tIfS (tTest (tOp rEq (tOp oMod (tCB (rInt1) (tCons (tVar 0) (tNil))) (tC (.int 8))) (tC (.int 2))))
 (tSeq (tRet (tC (.int 0)))
 (tNext))
 (tNext))
 (tSeq (tRet (tOp oMul (tC (.int 2)) (tOp oMod (tCB (rInt1) (tCons (tVar 2) (tNil))) (tOp oAdd (tVar 1) (tC (.int 1))))))
 (tNext)))))
abbrev N__law_is : List Str := ["actual", "due"]
def t__law_is (K : PySem.W.Frag) : TS :=
 tSeq (tRet (tAndV (tCB (rIsi K) (tCons (tVar 0) (tCons (tC (.ty "int")) (tNil)))) (tAndV (tNotV (tCB (rIsi K) (tCons (tVar 0) (tCons (tC (.ty "bool")) (tNil))))) (tOp rEq (tVar 0) (tVar 1)))))
 (tNext)
abbrev N__law_same : List Str := ["actual", "due", "k"]
def t__law_same (K : PySem.W.Frag) : TS :=
 tSeq (tIfS (tOr (tNot (tB (tCB (rIsi K) (tCons (tVar 0) (tCons (tC (.ty "list")) (tNil)))))) (tTest (tOp rNe (tCB (rLenS K) (tCons (tVar 0) (tNil))) (tCB (rLenS K) (tCons (tVar 1) (tNil))))))
 (tSeq (tRet (tC (.bl false)))
 (tNext))
 (tNext))
 (tSeq (tFor (iRng1 (tCons (tCB (rLenS K) (tCons (tVar 1) (tNil))) (tNil))) (gName 2)
 (tSeq (tIfS (tNot (tB (tCall (sp__law_is K) [] E0 (tCons (tOp (rIxL K) (tVar 0) (tVar 2)) (tCons (tOp (rIxL K) (tVar 1) (tVar 2)) (tNil))))))
 (tSeq (tRet (tC (.bl false)))
 (tNext))
 (tNext))
 (tNext)))
 (tSeq (tRet (tC (.bl true)))
 (tNext)))
abbrev N__law_sizes : List Str := ["x", "count", "rest", "sizes", "k", "y"]
def t__law_sizes (K : PySem.W.Frag) : TS :=
 tSeq (tAsg (tOp oMod (tCB (rInt1) (tCons (tVar 0) (tNil))) (tC (.int 11))) (gName 1))
 (tSeq (tIfS (tTest (tOp rEq (tOp oMod (tOp oDiv (tVar 0) (tC (.int 11))) (tC (.int 8))) (tC (.int 1))))
 (tSeq (tAsg (tOp oMod (tOp oDiv (tVar 0) (tC (.int 88))) (tC (.int 40))) (gName 1))
 (tNext))
 (tNext))
 (tSeq (tAsg (tOp oDiv (tVar 0) (tC (.int 7040))) (gName 2))
 (tSeq (tAsg (tLst (tNil)) (gName 3))
 (tSeq (tFor (iRng1 (tCons (tVar 1) (tNil))) (gName 4)
 (tSeq (tAsg (tCall (sp__law_number K) [] E0 (tCons (tOp oAdd (tVar 2) (tVar 4)) (tCons (tOp oAdd (tVar 4) (tC (.int 90))) (tNil)))) (gName 5))
 (tSeq (tAsg (tOp oDiv (tVar 2) (tC (.int 10007))) (gName 2))
 (tSeq (tDrop (tBM K "list" rAppend (tVar 3) (tCons (tOp oMod (tCB (rInt1) (tCons (tVar 5) (tNil))) (tC (.int 4))) (tNil))))
 (tSeq (tIfS (tTest (tOp rEq (tOp oMod (tOp oDiv (tVar 5) (tC (.int 4))) (tC (.int 16))) (tC (.int 3))))
 (tSeq (tAsg (tOp oMod (tOp oDiv (tVar 5) (tC (.int 64))) (tC (.int 20))) (gSub (tVar 3) (tVar 4) rSetL))
 (tNext))
 (tNext))
 (tSeq (tIfS (tAnd (tTest (tOp rEq (tVar 4) (tC (.int 0)))) (tTest (tOp oGt (tOp oMod (tOp oDiv (tVar 5) (tC (.int 4))) (tC (.int 4))) (tC (.int 0)))))
 (tSeq (tAsg (tC (.int 0)) (gSub (tVar 3) (tVar 4) rSetL))
 (tNext))
 (tNext))
 (tNext)))))))
 (tSeq (tRet (tVar 3))
 (tNext))))))
abbrev N__law_rows : List Str := ["sizes", "x", "rows", "rest", "k", "y", "row", "at"]
def t__law_rows (K : PySem.W.Frag) : TS :=
 tSeq (tAsg (tLst (tNil)) (gName 2))
 (tSeq (tAsg (tVar 1) (gName 3))
 (tSeq (tFor (iRng1 (tCons (tCB (rLenS K) (tCons (tVar 0) (tNil))) (tNil))) (gName 4)
 (tSeq (tAsg (tCall (sp__law_number K) [] E0 (tCons (tOp oAdd (tVar 3) (tVar 4)) (tCons (tVar 4) (tNil)))) (gName 5))
 (tSeq (tAsg (tOp oDiv (tVar 3) (tC (.int 1000003))) (gName 3))
 (tSeq (tAsg (tLc (iRng1 (tCons (tOp oAdd (tC (.int 1)) (tOp (rIxL K) (tVar 0) (tVar 4))) (tNil))) (gName 7) (tYes) (tCall (sp__law_word K) [] E0 (tCons (tOp oAdd (tOp oAdd (tOp oDiv (tVar 5) (tC (.int 36))) (tOp oMul (tVar 7) (tC (.int 104729)))) (tOp oMul (tVar 7) (tVar 7))) (tCons (tCB (rLenS K) (tCons (tVar 0) (tNil))) (tNil)))) [7]) (gName 6))
 (tSeq (tIfS (tTest (tOp rEq (tOp oMod (tCB (rInt1) (tCons (tVar 5) (tNil))) (tC (.int 3))) (tC (.int 0))))
 (tSeq (tAsg (tC (.int 0)) (gSub (tVar 6) (tC (.int 0)) rSetL))
 (tNext))
 (tNext))
 (tSeq (tIfS (tAnd (tTest (tOp rEq (tOp oMod (tCB (rInt1) (tCons (tVar 5) (tNil))) (tC (.int 4))) (tC (.int 0)))) (tAnd (tTest (tOp oGt (tOp (rIxL K) (tVar 0) (tVar 4)) (tC (.int 0)))) (tTest (tOp oGt (tVar 4) (tC (.int 0))))))
 (tSeq (tAsg (tOp oMul (tC (.int 2)) (tOp oSub (tVar 4) (tC (.int 1)))) (gSub (tVar 6) (tC (.int 1)) rSetL))
 (tNext))
 (tNext))
 (tSeq (tDrop (tBM K "list" rAppend (tVar 2) (tCons (tVar 6) (tNil))))
 (tNext))))))))
 (tSeq (tRet (tVar 2))
 (tNext))))
abbrev N__law_roots : List Str := ["many", "x", "words", "rest", "k", "y"]
def t__law_roots (K : PySem.W.Frag) : TS :=
 tSeq (tAsg (tLst (tNil)) (gName 2))
 (tSeq (tAsg (tVar 1) (gName 3))
 (tSeq (tFor (iRng1 (tCons (tC (.int 20)) (tNil))) (gName 4)
 (tSeq (tAsg (tCall (sp__law_number K) [] E0 (tCons (tOp oAdd (tVar 3) (tVar 4)) (tCons (tOp oAdd (tVar 4) (tC (.int 300))) (tNil)))) (gName 5))
 (tSeq (tAsg (tOp oDiv (tVar 3) (tC (.int 1009))) (gName 3))
 (tSeq (tIfS (tTest (tOp oGt (tVar 4) (tC (.int 15))))
 (tSeq (tIfS (tTest (tOp rEq (tOp oMod (tCB (rInt1) (tCons (tVar 5) (tNil))) (tC (.int 2))) (tC (.int 0))))
 (tSeq (tDrop (tBM K "list" rAppend (tVar 2) (tCons (tCall (sp__law_word K) [] E0 (tCons (tOp oDiv (tVar 5) (tC (.int 2))) (tCons (tVar 0) (tNil)))) (tNil))))
 (tNext))
 (tNext))
 (tNext))
 (tSeq (tIfS (tTest (tOp rEq (tOp oMod (tCB (rInt1) (tCons (tVar 5) (tNil))) (tC (.int 5))) (tC (.int 0))))
 (tSeq (tDrop (tBM K "list" rAppend (tVar 2) (tCons (tCall (sp__law_word K) [] E0 (tCons (tOp oDiv (tVar 5) (tC (.int 5))) (tCons (tVar 0) (tNil)))) (tNil))))
 (tNext))
 (tSeq (tDrop (tBM K "list" rAppend (tVar 2) (tCons (tC (.int 0)) (tNil))))
 (tNext)))
 (tNext)))
 (tNext)))))
 (tSeq (tRet (tVar 2))
 (tNext))))
abbrev N__law_space : List Str := ["rows", "words", "space", "k", "at"]
def t__law_space (K : PySem.W.Frag) : TS :=
 tSeq (tAsg (tMake (He.ga K "Space") (sp_Space_init_ K) [] E0 (tCons (tC (.int 100000)) (tCons (tC (.int 100000)) (tNil)))) (gName 2))
 (tSeq (tFor (iRng1 (tCons (tCB (rLenS K) (tCons (tVar 0) (tNil))) (tNil))) (gName 3)
 (tSeq (tIfS (tNot (tB (tCall (sp__law_is K) [] E0 (tCons (tMeth (He.ga K "Space") "new" (sp_Space_new K) [] E0 (tVar 2) (tCons (tOp (rIxL K) (tOp (rIxL K) (tVar 0) (tVar 3)) (tC (.int 0))) (tCons (tOp oSub (tCB (rLenS K) (tCons (tOp (rIxL K) (tVar 0) (tVar 3)) (tNil))) (tC (.int 1))) (tNil)))) (tCons (tVar 3) (tNil))))))
 (tSeq (tRet (tC .non))
 (tNext))
 (tNext))
 (tNext)))
 (tSeq (tFor (iRng1 (tCons (tCB (rLenS K) (tCons (tVar 0) (tNil))) (tNil))) (gName 3)
 (tSeq (tFor (iRng1 (tCons (tOp oSub (tCB (rLenS K) (tCons (tOp (rIxL K) (tVar 0) (tVar 3)) (tNil))) (tC (.int 1))) (tNil))) (gName 4)
 (tSeq (tDrop (tMeth (He.ga K "Store") "put" (sp_Store_put K) [] E0 (tFld K (tVar 2) "store") (tCons (tVar 3) (tCons (tVar 4) (tCons (tOp (rIxL K) (tOp (rIxL K) (tVar 0) (tVar 3)) (tOp oAdd (tVar 4) (tC (.int 1)))) (tNil))))))
 (tNext)))
 (tNext)))
 (tSeq (tFor (iRng1 (tCons (tCB (rLenS K) (tCons (tVar 1) (tNil))) (tNil))) (gName 3)
 (tSeq (tIfS (tTest (tOp oLt (tVar 3) (tC (.int 16))))
 (tSeq (tDrop (tMeth (He.ga K "Space") "set_root" (sp_Space_set_root K) [] E0 (tVar 2) (tCons (tVar 3) (tCons (tOp (rIxL K) (tVar 1) (tVar 3)) (tNil)))))
 (tNext))
 (tSeq (tDrop (tMeth (He.ga K "Space") "hold" (sp_Space_hold K) [] E0 (tVar 2) (tCons (tOp (rIxL K) (tVar 1) (tVar 3)) (tNil))))
 (tNext)))
 (tNext)))
 (tSeq (tRet (tVar 2))
 (tNext)))))
abbrev N__law_walk : List Str := ["rows", "words", "path", "row", "word", "k"]
def t__law_walk (K : PySem.W.Frag) : TS :=
 tSeq (tAsg (tOp rCat (tLst (tCons (tC (.int 0)) (tNil))) (tVar 1)) (gName 3))
 (tSeq (tAsg (tC .non) (gName 4))
 (tSeq (tFor (iRng1 (tCons (tCB (rLenS K) (tCons (tVar 2) (tNil))) (tNil))) (gName 5)
 (tSeq (tIfS (tTest (tOp oGt (tVar 5) (tC (.int 0))))
 (tSeq (tIfS (tOr (tTest (tOp rEq (tOp oMod (tVar 4) (tC (.int 2))) (tC (.int 1)))) (tTest (tOp oGe (tOp oDiv (tVar 4) (tC (.int 2))) (tCB (rLenS K) (tCons (tVar 0) (tNil))))))
 (tSeq (tRet (tC .non))
 (tNext))
 (tNext))
 (tSeq (tAsg (tOp (rIxL K) (tVar 0) (tOp oDiv (tVar 4) (tC (.int 2)))) (gName 3))
 (tNext)))
 (tNext))
 (tSeq (tIfS (tOr (tTest (tOp oLt (tOp (rIx K) (tVar 2) (tVar 5)) (tC (.int 0)))) (tTest (tOp oGe (tOp (rIx K) (tVar 2) (tVar 5)) (tCB (rLenS K) (tCons (tVar 3) (tNil))))))
 (tSeq (tRet (tC .non))
 (tNext))
 (tNext))
 (tSeq (tAsg (tOp (rIxL K) (tVar 3) (tOp (rIx K) (tVar 2) (tVar 5))) (gName 4))
 (tNext)))))
 (tSeq (tRet (tVar 4))
 (tNext))))
abbrev N__law_extended : List Str := ["rows", "found", "paths_here", "later", "number", "step"]
def t__law_extended (K : PySem.W.Frag) : TS :=
 tSeq (tAsg (tLst (tNil)) (gName 3))
 (tSeq (tLock (tFor (iKeys (tVar 1)) (gName 4)
 (tSeq (tIfS (tTest (tOp rEq (tCB (rLenS K) (tCons (tDGet (tVar 1) (tVar 4)) (tNil))) (tVar 2)))
 (tSeq (tFor (iRng1 (tCons (tCB (rLenS K) (tCons (tOp (rIxL K) (tVar 0) (tVar 4)) (tNil))) (tNil))) (gName 5)
 (tSeq (tDrop (tBM K "list" rAppend (tVar 3) (tCons (tTup (tCons (tOp (rCatA K) (tDGet (tVar 1) (tVar 4)) (tTup (tCons (tVar 5) (tNil)))) (tCons (tOp (rIxL K) (tOp (rIxL K) (tVar 0) (tVar 4)) (tVar 5)) (tNil)))) (tNil))))
 (tNext)))
 (tNext))
 (tNext))
 (tNext))))
 (tSeq (tRet (tVar 3))
 (tNext)))
abbrev N__law_best : List Str := ["rows", "words", "found", "row", "waiting", "k", "length", "pair", "number"]
def t__law_best (K : PySem.W.Frag) : TS :=
 tSeq (tAsg (tDNewK) (gName 2))
 (tSeq (tAsg (tOp rCat (tLst (tCons (tC (.int 0)) (tNil))) (tVar 1)) (gName 3))
 (tSeq (tAsg (tLc (iRng1 (tCons (tCB (rLenS K) (tCons (tVar 3) (tNil))) (tNil))) (gName 5) (tYes) (tTup (tCons (tTup (tCons (tVar 5) (tNil))) (tCons (tOp (rIxL K) (tVar 3) (tVar 5)) (tNil)))) [5]) (gName 4))
 (tSeq (tFor (iRng2 (tCons (tC (.int 1)) (tCons (tOp oAdd (tCB (rLenS K) (tCons (tVar 0) (tNil))) (tC (.int 2))) (tNil)))) (gName 6)
 (tSeq (tFor (iList K (tCB (rSortedTP K) (tCons (tVar 4) (tNil)))) (gName 7)
 (tSeq (tAsg (tOp oDiv (tOp (rIxT K) (tVar 7) (tC (.int 1))) (tC (.int 2))) (gName 8))
 (tSeq (tIfS (tAnd (tTest (tOp rEq (tOp oMod (tOp (rIxT K) (tVar 7) (tC (.int 1))) (tC (.int 2))) (tC (.int 0)))) (tAnd (tTest (tOp oLt (tVar 8) (tCB (rLenS K) (tCons (tVar 0) (tNil))))) (tB (tDNotIn (tVar 8) (tVar 2)))))
 (tSeq (sDPut (tVar 2) (tVar 8) (tOp (rIxT K) (tVar 7) (tC (.int 0))))
 (tNext))
 (tNext))
 (tNext))))
 (tSeq (tAsg (tCall (sp__law_extended K) [] E0 (tCons (tVar 0) (tCons (tVar 2) (tCons (tVar 6) (tNil))))) (gName 4))
 (tNext))))
 (tSeq (tRet (tVar 2))
 (tNext)))))
abbrev N__law_path_is : List Str := ["told", "due", "k"]
def t__law_path_is (K : PySem.W.Frag) : TS :=
 tSeq (tIfS (tOr (tNot (tB (tCB (rIsi K) (tCons (tVar 0) (tCons (tC (.ty "tuple")) (tNil)))))) (tTest (tOp rNe (tCB (rLenS K) (tCons (tVar 0) (tNil))) (tCB (rLenS K) (tCons (tVar 1) (tNil))))))
 (tSeq (tRet (tC (.bl false)))
 (tNext))
 (tNext))
 (tSeq (tFor (iRng1 (tCons (tCB (rLenS K) (tCons (tVar 1) (tNil))) (tNil))) (gName 2)
 (tSeq (tIfS (tNot (tB (tCall (sp__law_is K) [] E0 (tCons (tOp (rIxT K) (tVar 0) (tVar 2)) (tCons (tOp (rIxT K) (tVar 1) (tVar 2)) (tNil))))))
 (tSeq (tRet (tC (.bl false)))
 (tNext))
 (tNext))
 (tNext)))
 (tSeq (tRet (tC (.bl true)))
 (tNext)))
abbrev N__law_told : List Str := ["space", "rows", "words", "path", "due", "told"]
def t__law_told (K : PySem.W.Frag) : TS :=
 tSeq (tAsg (tCall (sp__law_walk K) [] E0 (tCons (tVar 1) (tCons (tVar 2) (tCons (tVar 3) (tNil))))) (gName 4))
 (tSeq (tAsg (tCall (sp_word_at K) [] E0 (tCons (tVar 0) (tCons (tVar 3) (tNil)))) (gName 5))
 (tSeq (tIfS (tTest (tOp oIsN (tVar 4) (tC .non)))
 (tSeq (tRet (tOp oIsN (tVar 5) (tC .non)))
 (tNext))
 (tNext))
 (tSeq (tRet (tCall (sp__law_is K) [] E0 (tCons (tVar 5) (tCons (tVar 4) (tNil)))))
 (tNext))))
abbrev N__law_drawn : List Str := ["x", "rows", "words", "path", "row", "rest", "k", "step", "word"]
def t__law_drawn (K : PySem.W.Frag) : TS :=
 tSeq (tAsg (tLst (tNil)) (gName 3))
 (tSeq (tAsg (tOp rCat (tLst (tCons (tC (.int 0)) (tNil))) (tVar 2)) (gName 4))
 (tSeq (tAsg (tOp oDiv (tVar 0) (tC (.int 6))) (gName 5))
 (tSeq (tFor (iRng1 (tCons (tOp oMod (tCB (rInt1) (tCons (tVar 0) (tNil))) (tC (.int 6))) (tNil))) (gName 6)
 (tSeq (tAsg (tOp oSub (tOp oMod (tCB (rInt1) (tCons (tVar 5) (tNil))) (tOp oAdd (tCB (rLenS K) (tCons (tVar 4) (tNil))) (tC (.int 2)))) (tC (.int 1))) (gName 7))
 (tSeq (tAsg (tOp oDiv (tVar 5) (tC (.int 23))) (gName 5))
 (tSeq (tDrop (tBM K "list" rAppend (tVar 3) (tCons (tVar 7) (tNil))))
 (tSeq (tAsg (tLst (tNil)) (gName 4))
 (tSeq (tAsg (tCall (sp__law_walk K) [] E0 (tCons (tVar 1) (tCons (tVar 2) (tCons (tVar 3) (tNil))))) (gName 8))
 (tSeq (tIfS (tAnd (tTest (tOp oNotN (tVar 8) (tC .non))) (tAnd (tTest (tOp rEq (tOp oMod (tCB (rInt1) (tCons (tVar 8) (tNil))) (tC (.int 2))) (tC (.int 0)))) (tTest (tOp oLt (tOp oDiv (tVar 8) (tC (.int 2))) (tCB (rLenS K) (tCons (tVar 1) (tNil)))))))
 (tSeq (tAsg (tOp (rIxL K) (tVar 1) (tOp oDiv (tVar 8) (tC (.int 2)))) (gName 4))
 (tNext))
 (tNext))
 (tNext))))))))
 (tSeq (tRet (tCB (rTupS K) (tCons (tVar 3) (tNil))))
 (tNext)))))
abbrev N__law_kept : List Str := ["space", "rows", "words", "k", "numbers"]
def t__law_kept (K : PySem.W.Frag) : TS :=
 tSeq (tFor (iRng1 (tCons (tCB (rLenS K) (tCons (tVar 1) (tNil))) (tNil))) (gName 3)
 (tSeq (tIfS (tOr (tTest (tOp rNe (tMeth (He.ga K "Store") "kind" (sp_Store_kind K) [] E0 (tFld K (tVar 0) "store") (tCons (tVar 3) (tNil))) (tOp (rIxL K) (tOp (rIxL K) (tVar 1) (tVar 3)) (tC (.int 0))))) (tNot (tB (tCall (sp__law_same K) [] E0 (tCons (tMeth (He.ga K "Store") "slots" (sp_Store_slots K) [] E0 (tFld K (tVar 0) "store") (tCons (tVar 3) (tNil))) (tCons (L2.tSl (rSlL K) (tOp (rIxL K) (tVar 1) (tVar 3)) (tPart (tC (.int 1))) (tNoPart)) (tNil)))))))
 (tSeq (tRet (tC (.bl false)))
 (tNext))
 (tNext))
 (tNext)))
 (tSeq (tAsg (tLc (iRng1 (tCons (tCB (rLenS K) (tCons (tVar 1) (tNil))) (tNil))) (gName 3) (tYes) (tVar 3) [3]) (gName 4))
 (tSeq (tRet (tAndV (tCall (sp__law_same K) [] E0 (tCons (tMeth (He.ga K "Store") "numbers" (sp_Store_numbers K) [] E0 (tFld K (tVar 0) "store") tNil) (tCons (tVar 4) (tNil)))) (tCall (sp__law_same K) [] E0 (tCons (tMeth (He.ga K "Space") "all_roots" (sp_Space_all_roots K) [] E0 (tVar 0) tNil) (tCons (tOp rCat (tLst (tCons (tC (.int 0)) (tNil))) (tVar 2)) (tNil))))))
 (tNext)))
abbrev N__law_long : List Str := ["x", "space", "many", "due", "path", "k", "size", "at", "told", "number"]
def t__law_long (K : PySem.W.Frag) : TS :=
 tSeq (tAsg (tMake (He.ga K "Space") (sp_Space_init_ K) [] E0 (tCons (tC (.int 100000)) (tCons (tC (.int 100000)) (tNil)))) (gName 1))
 (tSeq (tAsg (tOp oAdd (tC (.int 2)) (tOp oMod (tCB (rInt1) (tCons (tVar 0) (tNil))) (tC (.int 200)))) (gName 2))
 (tSeq (tAsg (tDisp (((tC (.int 0)), (tTup (tCons (tC (.int 0)) (tNil)))) :: [])) (gName 3))
 (tSeq (tAsg (tTup (tCons (tC (.int 8)) (tNil))) (gName 4))
 (tSeq (tFor (iRng1 (tCons (tVar 2) (tNil))) (gName 5)
 (tSeq (tAsg (tOp oAdd (tC (.int 1)) (tOp oMod (tCB (rInt1) (tCons (tOp oDiv (tVar 0) (tOp oAdd (tVar 5) (tC (.int 7)))) (tNil))) (tC (.int 3)))) (gName 6))
 (tSeq (tAsg (tOp oMod (tCB (rInt1) (tCons (tOp oDiv (tVar 0) (tOp oAdd (tVar 5) (tC (.int 11)))) (tNil))) (tVar 6)) (gName 7))
 (tSeq (tIfS (tNot (tB (tCall (sp__law_is K) [] E0 (tCons (tMeth (He.ga K "Space") "new" (sp_Space_new K) [] E0 (tVar 1) (tCons (tC (.int 1)) (tCons (tVar 6) (tNil)))) (tCons (tVar 5) (tNil))))))
 (tSeq (tRet (tC (.bl false)))
 (tNext))
 (tNext))
 (tSeq (tIfS (tTest (tOp oGt (tVar 5) (tC (.int 0))))
 (tSeq (sDPut (tVar 3) (tVar 5) (tVar 4))
 (tSeq (tAsg (tOp (rCatA K) (tVar 4) (tTup (tCons (tOp oAdd (tVar 7) (tC (.int 1))) (tNil)))) (gName 4))
 (tSeq (tIfS (tTest (tOp oLt (tOp oAdd (tVar 5) (tC (.int 1))) (tVar 2)))
 (tSeq (tDrop (tMeth (He.ga K "Store") "put" (sp_Store_put K) [] E0 (tFld K (tVar 1) "store") (tCons (tVar 5) (tCons (tVar 7) (tCons (tOp oAdd (tOp oMul (tC (.int 2)) (tVar 5)) (tC (.int 2))) (tNil))))))
 (tNext))
 (tNext))
 (tNext))))
 (tNext))
 (tNext))))))
 (tSeq (tDrop (tMeth (He.ga K "Space") "set_root" (sp_Space_set_root K) [] E0 (tVar 1) (tCons (tC (.int 7)) (tCons (tC (.int 2)) (tNil)))))
 (tSeq (tAsg (tCall (sp_paths K) [] E0 (tCons (tVar 1) (tNil))) (gName 8))
 (tSeq (tIfS (tOr (tNot (tB (tCB (rIsi K) (tCons (tVar 8) (tCons (tC (.ty "dict")) (tNil)))))) (tNot (tB (tCall (sp__law_same K) [] E0 (tCons (tCB (rSortedDK) (tCons (tVar 8) (tNil))) (tCons (tLstRg (tRg1 (tVar 2))) (tNil)))))))
 (tSeq (tRet (tC (.bl false)))
 (tNext))
 (tNext))
 (tSeq (tLock (tFor (iKeys (tVar 3)) (gName 9)
 (tSeq (tIfS (tNot (tB (tCall (sp__law_path_is K) [] E0 (tCons (tDGet (tVar 8) (tVar 9)) (tCons (tDGet (tVar 3) (tVar 9)) (tNil))))))
 (tSeq (tRet (tC (.bl false)))
 (tNext))
 (tNext))
 (tNext))))
 (tSeq (tRet (tAndV (tCall (sp__law_is K) [] E0 (tCons (tCall (sp_word_at K) [] E0 (tCons (tVar 1) (tCons (tDGet (tVar 3) (tOp oSub (tVar 2) (tC (.int 1)))) (tNil)))) (tCons (tOp oSub (tOp oMul (tC (.int 2)) (tVar 2)) (tC (.int 2))) (tNil)))) (tCall (sp__law_same K) [] E0 (tCons (tCall (sp_garbage K) [] E0 (tCons (tVar 1) (tNil))) (tCons (tLst (tNil)) (tNil))))))
 (tNext))))))))))
abbrev N_law : List Str := ["script", "cells", "cell", "x", "rows", "words", "space", "due", "told", "number", "k"]
def t_law (K : PySem.W.Frag) : TS :=
 tSeq (tAsg (tLc (iList K (tVar 0)) (gName 2) (tYes) (tCB (rInt1) (tCons (tVar 2) (tNil))) [2]) (gName 1))
 (tSeq (tWhile (tTest (tOp oLt (tCB (rLenS K) (tCons (tVar 1) (tNil))) (tC (.int 3))))
 (tSeq (tDrop (tBM K "list" rAppend (tVar 1) (tCons (tC (.int 7)) (tNil))))
 (tNext)))
 (tSeq (tAsg (tCall (sp__law_number K) [] E0 (tCons (tOp (rIxL K) (tVar 1) (tC (.int 0))) (tCons (tC (.int 0)) (tNil)))) (gName 3))
 (tSeq (tIfS (tAnd (tTest (tOp rEq (tOp oMod (tOp oDiv (tVar 3) (tC (.int 16))) (tC (.int 16))) (tC (.int 3)))) (tNot (tB (tCall (sp__law_long K) [] E0 (tCons (tOp oDiv (tVar 3) (tC (.int 256))) (tNil))))))
 (tSeq (tRet (tC (.bl false)))
 (tNext))
 (tNext))
 (tSeq (tAsg (tCall (sp__law_rows K) [] E0 (tCons (tCall (sp__law_sizes K) [] E0 (tCons (tCall (sp__law_number K) [] E0 (tCons (tOp (rIxL K) (tVar 1) (tC (.int 0))) (tCons (tC (.int 0)) (tNil)))) (tNil))) (tCons (tOp (rIxL K) (tVar 1) (tC (.int 1))) (tNil)))) (gName 4))
 (tSeq (tAsg (tCall (sp__law_roots K) [] E0 (tCons (tCB (rLenS K) (tCons (tVar 4) (tNil))) (tCons (tOp (rIxL K) (tVar 1) (tC (.int 2))) (tNil)))) (gName 5))
 (tSeq (tAsg (tCall (sp__law_space K) [] E0 (tCons (tVar 4) (tCons (tVar 5) (tNil)))) (gName 6))
 (tSeq (tIfS (tTest (tOp oIsN (tVar 6) (tC .non)))
 (tSeq (tRet (tC (.bl false)))
 (tNext))
 (tNext))
 (tSeq (tAsg (tCall (sp__law_best K) [] E0 (tCons (tVar 4) (tCons (tVar 5) (tNil)))) (gName 7))
 (tSeq (tAsg (tCall (sp_paths K) [] E0 (tCons (tVar 6) (tNil))) (gName 8))
 (tSeq (tIfS (tOr (tNot (tB (tCB (rIsi K) (tCons (tVar 8) (tCons (tC (.ty "dict")) (tNil)))))) (tNot (tB (tCall (sp__law_same K) [] E0 (tCons (tCB (rSortedDK) (tCons (tVar 8) (tNil))) (tCons (tCB (rSortedDK) (tCons (tVar 7) (tNil))) (tNil)))))))
 (tSeq (tRet (tC (.bl false)))
 (tNext))
 (tNext))
 (tSeq (tLock (tFor (iKeys (tVar 7)) (gName 9)
 (tSeq (tIfS (tOr (tNot (tB (tCall (sp__law_path_is K) [] E0 (tCons (tDGet (tVar 8) (tVar 9)) (tCons (tDGet (tVar 7) (tVar 9)) (tNil)))))) (tNot (tB (tCall (sp__law_told K) [] E0 (tCons (tVar 6) (tCons (tVar 4) (tCons (tVar 5) (tCons (tDGet (tVar 7) (tVar 9)) (tNil)))))))))
 (tSeq (tRet (tC (.bl false)))
 (tNext))
 (tNext))
 (tNext))))
 (tSeq (tIfS (tNot (tB (tCall (sp__law_same K) [] E0 (tCons (tCall (sp_garbage K) [] E0 (tCons (tVar 6) (tNil))) (tCons (tLc (iRng1 (tCons (tCB (rLenS K) (tCons (tVar 4) (tNil))) (tNil))) (gName 10) (tB (tDNotIn (tVar 10) (tVar 7))) (tVar 10) [10]) (tNil))))))
 (tSeq (tRet (tC (.bl false)))
 (tNext))
 (tNext))
 (tSeq (tFor (iRng2 (tCons (tC (.int 3)) (tCons (tCB (rLenS K) (tCons (tVar 1) (tNil))) (tNil)))) (gName 10)
 (tSeq (tAsg (tCall (sp__law_number K) [] E0 (tCons (tOp (rIxL K) (tVar 1) (tVar 10)) (tCons (tVar 10) (tNil)))) (gName 3))
 (tSeq (tIfS (tNot (tB (tCall (sp__law_told K) [] E0 (tCons (tVar 6) (tCons (tVar 4) (tCons (tVar 5) (tCons (tCall (sp__law_drawn K) [] E0 (tCons (tVar 3) (tCons (tVar 4) (tCons (tVar 5) (tNil))))) (tNil))))))))
 (tSeq (tRet (tC (.bl false)))
 (tNext))
 (tNext))
 (tSeq (tIfS (tNot (tB (tCall (sp__law_told K) [] E0 (tCons (tVar 6) (tCons (tVar 4) (tCons (tVar 5) (tCons (tCall (sp__law_drawn K) [] E0 (tCons (tOp oDiv (tVar 3) (tC (.int 1000003))) (tCons (tVar 4) (tCons (tVar 5) (tNil))))) (tNil))))))))
 (tSeq (tRet (tC (.bl false)))
 (tNext))
 (tNext))
 (tNext)))))
 (tSeq (tIfS (tTest (tOp oNotN (tCall (sp_word_at K) [] E0 (tCons (tVar 6) (tCons (tTup (tNil)) (tNil)))) (tC .non)))
 (tSeq (tRet (tC (.bl false)))
 (tNext))
 (tNext))
 (tSeq (tRet (tCall (sp__law_kept K) [] E0 (tCons (tVar 6) (tCons (tVar 4) (tCons (tVar 5) (tNil))))))
 (tNext))))))))))))))))
end K64

set_option Elab.async false
set_option linter.all false
set_option maxRecDepth 100000
set_option maxHeartbeats 2000000
namespace K64
open PySem PySem.Spec PyProof.Rows L2 Kw
local macro_rules | `(tactic| walk_at "hp") => `(tactic| first
  | assumption
  | exact upd_same
  | (refine Eq.trans (upd_ne ?_) ?_; (first | assumption | (apply Ne.symm; assumption)); walk_at "hp"))
local macro_rules | `(tactic| walk_at "sq") => `(tactic| first
  | assumption
  | (apply SqL.of; walk_at "hp")
  | (apply SqT.of; walk_at "hp"))
local macro_rules | `(tactic| walk_at "rv") => `(tactic| first
  | ((with_reducible exact rv_I0))
  | ((with_reducible apply rv_I); first | assumption | decide | omega | (exact ⟨by omega, by omega⟩) | skip)
  | ((with_reducible apply rv_eq); rfl)
  | ((with_reducible apply rv_ne); rfl)
  | ((with_reducible exact rv_isN))
  | ((with_reducible exact rv_notN))
  | skip)
local macro_rules | `(tactic| walk_at "sp") => `(tactic| first
  | (apply spv_I1; first | trivial | assumption | skip)
  | (apply spv_I2; first | trivial | assumption | skip)
  | skip)
local macro_rules | `(tactic| walk_at "ev") => `(tactic| first
  | ((with_reducible apply ev_var); rfl)
  | ((with_reducible exact ev_c))
  | ((with_reducible exact ea_nil))
  | ((with_reducible apply ea_cons); walk_at "ev"; walk_at "ev")
  | ((with_reducible apply ev_op); walk_at "ev"; walk_at "ev"; walk_at "rv")
  | ((with_reducible apply ev_neg); walk_at "ev")
  | ((with_reducible apply ev_int); walk_at "ev")
  | ((with_reducible apply ev_fld); walk_at "ev"; walk_at "hp"; walk_at "tx"; walk_at "tx"; rfl)
  | ((with_reducible apply ev_call); walk_at "ev"; walk_at "sp")
  | ((with_reducible apply et_test); walk_at "ev")
  | ((with_reducible apply et_B); walk_at "ev")
  | ((with_reducible apply et_not); walk_at "ev")
  | ((with_reducible apply ev_notV); walk_at "ev")
  | ((with_reducible apply eo_some); walk_at "ev")
  | ((with_reducible exact eo_none))
  | ((with_reducible apply en_lst); walk_at "ev"; exact of_decide_eq_true rfl)
  | ((with_reducible apply en_tup); walk_at "ev"; exact of_decide_eq_true rfl)
  | ((with_reducible exact en_dK))
  | skip)
local macro_rules | `(tactic| walk_at "tx") => `(tactic| first
  | assumption
  | (with_reducible exact Tx.cls_Store (by assumption))
  | (with_reducible exact Tx.na_Store_room (by assumption))
  | (with_reducible exact Tx.na_Store_entries (by assumption))
  | (with_reducible exact Tx.na_Store_words (by assumption))
  | (with_reducible exact Tx.na_Store__places (by assumption))
  | (with_reducible exact Tx.na_Store__least (by assumption))
  | (with_reducible exact Tx.cls_Space (by assumption))
  | (with_reducible exact Tx.na_Space_store (by assumption))
  | (with_reducible exact Tx.na_Space_pressure (by assumption))
  | (with_reducible exact Tx.na_Space_always (by assumption))
  | (with_reducible exact Tx.na_Space_allocations (by assumption))
  | (with_reducible exact Tx.na_Space_collections (by assumption))
  | (with_reducible exact Tx.na_Space__roots (by assumption))
  | (with_reducible exact Tx.na_Space__held (by assumption))
  | (with_reducible exact Tx.na_Space__saved (by assumption)))
section
variable {K : PySem.W.Frag} {mg : Str → Option Value}
theorem spv_is_ref {w : Int} {H : Hp} : SpV (sp_is_ref K) [.int w] H (.bl (decide (w % 2 = 0))) := spv_I1 trivial
theorem spv_ref_of {w : Int} {H : Hp} (h : w % 2 = 0) : SpV (sp_ref_of K) [.int w] H (.int (w / 2)) := spv_I1 h
theorem spv_exists {a : SA} {r e l : Int} {bs : List (Int × List Int)} {kvs : List (Key × V)} {H : Hp} {i : Int} (S : StoreAt K a r e l bs kvs H) : SpV (sp_Store_exists K) [.ref a.st, .int i] H (.bl (rowOf bs i).isSome) :=
  fun H1 s Q E q => ⟨_, _, rfl, a, r, e, l, bs, kvs, i, rfl, S.mono s, rfl, q⟩
theorem spv_object_of {p : PA} {st : PS} {H : Hp} {z : Int} (S : SpaceAt K p st H) : SpV (sp_object_of K) [.ref p.sp, .int z] H (optV (objOf st.bs z)) :=
  fun H1 s Q E q => ⟨_, _, rfl, p, st, z, rfl, S.mono s, rfl, q⟩
theorem rd_object_of (T : Tx K mg) (vs : List V) (H : Hp) (Q : VK) (E : XK) (h : sp_object_of K vs H Q E) : t_object_of K { nx := fun _ H' => Q .non H', rt := Q } (start N_object_of vs) H := by
  obtain ⟨_, _, rfl, p, st, z, rfl, S, rfl, q⟩ := h
  have hs := S.sp
  have h1 := S.S.st
  refine enter (σ := [some (.ref p.sp), some (.int z)]) (g_if (et_and (et_B (ev_call (by walk_at "ev") spv_is_ref)) fun hb => et_B (ev_meth (by walk_at "ev") h1 rfl (ea_cons (ev_call (by walk_at "ev") (spv_ref_of (of_decide_eq_true hb))) ea_nil) (spv_exists S.S))) (fun hb => ?_) fun hb => g_end ?_)
  · obtain ⟨hb1, hb2⟩ := Bool.and_eq_true_iff.mp hb
    have e : objOf st.bs z = some (z / 2) := obj_iff.mpr ⟨of_decide_eq_true hb1, rfl, hb2⟩
    rw [e] at q
    exact g_ret (ev_call (by walk_at "ev") (spv_ref_of (of_decide_eq_true hb1))) q
  · have e : objOf st.bs z = none := by
      unfold objOf
      rw [if_neg]
      rintro ⟨h2, h3⟩
      rw [decide_eq_true h2, h3] at hb
      cases hb
    rw [e] at q
    exact g_ret ev_c q
theorem er_row {σ : Sl} {H : Hp} {to tn : TE} {a : SA} {r e l : Int} {bs : List (Int × List Int)} {kvs : List (Key × V)} {n : Int} {row : List Int} (S : StoreAt K a r e l bs kvs H) (ho : Ev to σ H (.ref a.st)) (hn : Ev tn σ H (.int n)) (hr : rowOf bs n = some row) :
    EvN (tOp rCat (tLst (tCons (tMeth (He.ga K "Store") "kind" (sp_Store_kind K) [] E0 to (tCons tn tNil)) tNil)) (tMeth (He.ga K "Store") "slots" (sp_Store_slots K) [] E0 to (tCons tn tNil))) σ H (.lst (row.map V.int)) := by
  have hne := S.ne _ (mem_of_lookup hr)
  have e1 : [V.int (row.getD 0 0)] ++ row.tail.map V.int = row.map V.int := by
    cases row with
    | nil => exact absurd rfl hne
    | cons x row => simp [List.getD]
  have hl := row_len hr
  have hsz := S.sz
  rw [← e1]
  refine en_cat (EvN.l (en_lst (ea_cons (ev_meth ho S.st rfl (ea_cons hn ea_nil) fun H1 s Q E q => ⟨_, _, rfl, a, r, e, l, bs, kvs, n, row, rfl, S.mono s, rfl, hr, q⟩) ea_nil) (of_decide_eq_true rfl))) (er_meth ho S.st rfl (ea_cons hn ea_nil) fun H1 s Q q => ⟨_, _, rfl, a, r, e, l, bs, kvs, n, row, rfl, S.mono s, rfl, hr, givN_l q⟩) ?_
  simp
  omega
theorem rd_row_of (T : Tx K mg) (vs : List V) (H : Hp) (Q : VK) (E : XK) (h : sp_row_of K vs H Q E) : t_row_of K { nx := fun _ H' => Q .non H', rt := Q } (start N_row_of vs) H := by
  obtain ⟨_, _, rfl, p, st, i, row, rfl, S, rfl, hr, q⟩ := h
  have hs := S.sp
  exact enter (σ := [some (.ref p.sp), some (.int i)]) (g_retN (er_row S.S (by walk_at "ev") (by walk_at "ev") hr) q)
theorem er_row_of {σ : Sl} {H : Hp} {to tn : TE} {E : XK} {p : PA} {st : PS} {n : Int} {row : List Int} (S : SpaceAt K p st H) (ho : Ev to σ H (.ref p.sp)) (hn : Ev tn σ H (.int n)) (hr : rowOf st.bs n = some row) :
    EvR (tCall (sp_row_of K) [] E (tCons to (tCons tn tNil))) σ H (IsL (row.map V.int)) :=
  er_call (ea_cons ho (ea_cons hn ea_nil)) fun H1 s Q q => ⟨_, _, rfl, p, st, n, row, rfl, S.mono s, rfl, hr, givN_l q⟩
theorem er_all_roots {σ : Sl} {H : Hp} {to : TE} {E : XK} {p : PA} {st : PS} (S : SpaceAt K p st H) (ho : Ev to σ H (.ref p.sp)) :
    EvR (tMeth (He.ga K "Space") "all_roots" (sp_Space_all_roots K) [] E to tNil) σ H (IsL (st.ws.map V.int)) :=
  er_meth ho S.sp rfl ea_nil fun H1 s Q q => ⟨_, rfl, p, st, rfl, S.mono s, givN_l q⟩
theorem PS.ws_len {K : PySem.W.Frag} {p : PA} {st : PS} {H : Hp} (S : SpaceAt K p st H) : st.ws.length ≤ 1017 := by
  have := S.rn
  have := S.hn
  unfold PS.ws
  simp
  omega
theorem rd_word_at (T : Tx K mg) (vs : List V) (H : Hp) (Q : VK) (E : XK) (h : sp_word_at K vs H Q E) : t_word_at K { nx := fun _ H' => Q .non H', rt := Q } (start N_word_at vs) H := by
  obtain ⟨_, _, rfl, p, st, tq, path, rfl, S, rfl, hp, hz, q⟩ := h
  have hs := S.sp
  have hw := PS.ws_len S
  unfold walkB at q
  refine enter (σ := [some (.ref p.sp), some (.ref tq), none, none, none, none]) (g_asgR (er_all_roots S (by walk_at "ev")) fun v H2 s2 ⟨r0, ev0, hr0⟩ => ?_)
  subst ev0
  refine g_asg ev_c (g_forR (α := Addr × Hp) (fun k x => Same H x.2 ∧ (k = 0 → x.2 x.1 = some (.lst (st.ws.map V.int))) ∧ (0 < k → (wlk st.bs st.ws path k).isSome = true))
    (fun k x => [some (.ref p.sp), some (.ref tq), some (.ref x.1), some (optV (wlk st.bs st.ws path k)), none, none]) (fun k x => x.2) (n := (path.length : Int)) ?_ (by omega) ⟨(r0, H2), ⟨s2, fun _ => hr0, fun z => by omega⟩, ?_, Same.refl _⟩ ?_ ?_)
  · have h1 := ev_lenT (K := K) (xs := path.map V.int) (σ := [some (.ref p.sp), some (.ref tq), some (.ref r0), some .non, none, none]) (H := H2) (ta := tVar 1) (Ev.tt (a := tq) (by walk_at "ev") (same_t s2 hp))
    rw [List.length_map] at h1
    exact ea_cons h1 ea_nil
  · exact Sx.refl _
  · rintro k ⟨r, G⟩ hk ⟨sG, hr, hw0⟩
    have hk' : k < path.length := by omega
    have SG := S.mono sG
    have rest : ∀ (r : Addr) (xs : List Int) (G : Hp) (o : Option V), Same H G → G r = some (.lst (xs.map V.int)) → (if k = 0 then some st.ws else ((wlk st.bs st.ws path k).bind (objOf st.bs)).bind (rowOf st.bs)) = some xs →
        Go (tSeq (tIfS (tNot (tTest (tChain oLe oLt (tC (.int 0)) (tOp (rIxT K) (tVar 1) (tVar 4)) (tCB (rLenS K) (tCons (tVar 2) (tNil)))))) (tSeq (tRet (tC .non)) (tNext)) (tNext)) (tSeq (tAsg (tOp (rIxL K) (tVar 2) (tOp (rIxT K) (tVar 1) (tVar 4))) (gName 3)) (tNext)))
          { nx := Lp (fun x : Addr × Hp => Same H x.2 ∧ (k + 1 = 0 → x.2 x.1 = some (.lst (st.ws.map V.int))) ∧ (0 < k + 1 → (wlk st.bs st.ws path (k + 1)).isSome = true)) (fun x => [some (.ref p.sp), some (.ref tq), some (.ref x.1), some (optV (wlk st.bs st.ws path (k + 1))), none, none]) (fun x => x.2),
            ct := Lp (fun x : Addr × Hp => Same H x.2 ∧ (k + 1 = 0 → x.2 x.1 = some (.lst (st.ws.map V.int))) ∧ (0 < k + 1 → (wlk st.bs st.ws path (k + 1)).isSome = true)) (fun x => [some (.ref p.sp), some (.ref tq), some (.ref x.1), some (optV (wlk st.bs st.ws path (k + 1))), none, none]) (fun x => x.2),
            bk := tSeq (tRet (tVar 3)) tNext { nx := fun _ H' => Q .non H', rt := Q }, rt := Q } [some (.ref p.sp), some (.ref tq), some (.ref r), some (optV (wlk st.bs st.ws path k)), some (.int (k : Int)), o] G := by
      intro r xs G o sG hr hx
      have ev1 : Ev (tOp (rIxT K) (tVar 1) (tVar 4)) [some (.ref p.sp), some (.ref tq), some (.ref r), some (optV (wlk st.bs st.ws path k)), some (.int (k : Int)), o] G (.int (path.getD k 0)) := ev_op (ev_var rfl) (ev_var rfl) (rv_ixTI (same_t sG hp) (by omega) (by omega))
      have hlen := ev_len (K := K) (xs := xs.map V.int) (ta := tVar 2) (σ := [some (.ref p.sp), some (.ref tq), some (.ref r), some (optV (wlk st.bs st.ws path k)), some (.int (k : Int)), o]) (H := G) (Ev.q (a := r) (ev_var rfl) (SqL.of hr))
      rw [List.length_map] at hlen
      have ew : wlk st.bs st.ws path (k + 1) = idx xs (path.getD k 0) := by
        show (if k = 0 then some st.ws else ((wlk st.bs st.ws path k).bind (objOf st.bs)).bind (rowOf st.bs)).bind _ = _
        rw [hx]; rfl
      refine g_if (et_not (et_test (ev_chain ev_c ev1 rv_I0 (fun _ => hlen) fun _ => rv_I0))) (fun hb => ?_) fun hb => g_end ?_
      · have e : wlk st.bs st.ws path (k + 1) = none := by
          rw [ew]
          unfold idx
          rw [if_neg]
          rintro ⟨h1, h2⟩
          rw [decide_eq_true h1, decide_eq_true h2] at hb
          cases hb
        have e2 := wlk_none (by omega) e (path.length - (k + 1))
        rw [show k + 1 + (path.length - (k + 1)) = path.length by omega] at e2
        rw [e2] at q
        exact g_ret ev_c fun H3 s3 => q H3 (sG.trans s3)
      · have hb' : (decide (0 ≤ path.getD k 0) && decide (path.getD k 0 < xs.length)) = true := by
          revert hb
          cases (decide (0 ≤ path.getD k 0) && decide (path.getD k 0 < xs.length)) <;> simp
        obtain ⟨h1, h2⟩ := Bool.and_eq_true_iff.mp hb'
        have h1 := of_decide_eq_true h1
        have h2 := of_decide_eq_true h2
        have e : wlk st.bs st.ws path (k + 1) = some (xs.getD (path.getD k 0).toNat 0) := by
          rw [ew]; unfold idx; rw [if_pos ⟨h1, h2⟩]
        refine g_asg (ev_op (ev_var rfl) ev1 (rv_ixI (SqL.of hr) h1 h2)) (g_next (Lp.cl (r, G) ⟨sG, fun z => by omega, fun _ => by rw [e]; rfl⟩ ?_ (Same.refl _)))
        rw [e]
        exact Sx.eq (Sx.eq (Sx.eq (Sx.eq (Sx.any (Sx.any Sx.nil)))))
    refine g_if (et_test (ev_op (ev_var rfl) ev_c rv_I0)) (fun hb => ?_) fun hb => g_end ?_
    · have hk0 : 0 < k := by have := of_decide_eq_true hb; omega
      obtain ⟨z, hz'⟩ := Option.isSome_iff_exists.mp (hw0 hk0)
      have eS : (fun x : Addr × Hp => [some (V.ref p.sp), some (V.ref tq), some (V.ref x.1), some (optV (wlk st.bs st.ws path k)), (none : Option V), (none : Option V)]) (r, G) = [some (.ref p.sp), some (.ref tq), some (.ref r), some (optV (wlk st.bs st.ws path k)), none, none] := rfl
      refine g_asg (v := optV (objOf st.bs z)) (ev_call (ea_cons (ev_var rfl) (ea_cons (ev_var (v := .int z) (by show some (some (optV (wlk st.bs st.ws path k))) = _; rw [hz']; rfl)) ea_nil)) (spv_object_of SG)) ?_
      cases ho : objOf st.bs z with
      | none =>
        refine g_if (b := true) (et_test (Ev.is (ev_op (ev_var (v := .non) rfl) ev_c rv_isN) rfl)) (fun _ => ?_) fun hb => by cases hb
        have e : wlk st.bs st.ws path (k + 1) = none := by
          show (if k = 0 then some st.ws else ((wlk st.bs st.ws path k).bind (objOf st.bs)).bind (rowOf st.bs)).bind _ = _
          rw [if_neg (by omega), hz']
          show ((objOf st.bs z).bind _).bind _ = _
          rw [ho]; rfl
        have e2 := wlk_none (by omega) e (path.length - (k + 1))
        rw [show k + 1 + (path.length - (k + 1)) = path.length by omega] at e2
        rw [e2] at q
        exact g_ret ev_c fun H3 s3 => q H3 (sG.trans s3)
      | some n =>
        obtain ⟨_, _, h3⟩ := obj_iff.mp ho
        obtain ⟨row, hrow⟩ := Option.isSome_iff_exists.mp h3
        refine g_if (b := false) (et_test (Ev.is (ev_op (ev_var (v := .int n) rfl) ev_c rv_isN) rfl)) (fun hb => by cases hb) fun _ => g_end ?_
        refine g_asgR (er_row_of SG (ev_var rfl) (ev_var (v := .int n) rfl) hrow) fun v H3 s3 ⟨r', ev, hr'⟩ => g_end ?_
        subst ev
        refine rest r' row H3 _ (sG.trans s3) hr' ?_
        rw [if_neg (by omega), hz']
        show ((objOf st.bs z).bind _) = _
        rw [ho]; exact hrow
    · have hk0 : k = 0 := by have := of_decide_eq_false hb; omega
      exact rest r st.ws G _ sG (hr hk0) (if_pos hk0)
  · rintro ⟨r, G⟩ ⟨sG, _, _⟩
    rw [Int.toNat_natCast]
    exact g_ret (ev_var rfl) fun H3 s3 => q H3 (sG.trans s3)
end
section
variable {K : PySem.W.Frag} {mg : Str → Option Value}
/-- a dict of found numbers -/
def kvT (ks : List Int) : List (Key × V) := ks.map fun n => (Sum.inl n, V.bl true)
theorem kvT_val (ks : List Int) (n : Int) : (valV (kvT ks) (.inl n)).isSome = decide (n ∈ ks) := by
  unfold kvT
  induction ks with
  | nil => rfl
  | cons k ks ih =>
    rw [List.map_cons]
    by_cases h : k = n
    · subst h
      rw [valV_pos rfl, decide_eq_true (by simp)]; rfl
    · rw [valV_neg (by intro z; exact h (Sum.inl.inj z)), ih]
      exact decide_eq_decide.mpr (by simp; intro z; exact absurd z.symm h)
theorem kvT_put {ks : List Int} {n : Int} (h : n ∉ ks) : putK (kvT ks) (.inl n) (.bl true) = kvT (ks ++ [n]) := by
  have e := kvT_val ks n
  rw [decide_eq_false h] at e
  rw [putK_new _ (by simpa using e)]
  simp [kvT]
structure RInv (bs : List (Int × List Int)) (ws ks wt : List Int) : Prop where
  nd : ks.Nodup
  kr : ∀ n ∈ ks, Rch bs ws n
  wr : ∀ n ∈ wt, (rowOf bs n).isSome = true → Rch bs ws n
  c1 : ∀ w ∈ ws, ∀ n, objOf bs w = some n → n ∈ ks ∨ n ∈ wt
  c2 : ∀ m ∈ ks, ∀ row, rowOf bs m = some row → ∀ w ∈ row, ∀ n, objOf bs w = some n → n ∈ ks ∨ n ∈ wt
  sz : wt.length + left bs ks ≤ 400000
theorem rinv_start {bs : List (Int × List Int)} {ws : List Int} (h1 : ws.length ≤ 200000) (h2 : (enc bs).length ≤ 200000) : RInv bs ws [] ((ws.filter fun w => decide (w % 2 = 0)).map fun w => w / 2) := by
  refine ⟨by simp, by simp, fun n hn hr => ?_, fun w hw n hn => .inr ?_, by simp, ?_⟩
  · obtain ⟨w, hw, rfl⟩ := List.mem_map.mp hn
    obtain ⟨hw1, hw2⟩ := List.mem_filter.mp hw
    exact .root hw1 (of_decide_eq_true hw2) hr
  · obtain ⟨a, b, c⟩ := obj_iff.mp hn
    subst b
    exact List.mem_map.mpr ⟨w, List.mem_filter.mpr ⟨hw, decide_eq_true a⟩, rfl⟩
  · have a := left_le bs []
    have b := List.length_filter_le (fun w : Int => decide (w % 2 = 0)) ws
    rw [List.length_map]
    omega
theorem rinv_drop {bs : List (Int × List Int)} {ws ks wt : List Int} {n : Int} (h : RInv bs ws ks (wt ++ [n])) (hn : n ∈ ks ∨ rowOf bs n = none) : RInv bs ws ks wt := by
  have key : ∀ m w, objOf bs w = some m → m ∈ ks ∨ m ∈ wt ++ [n] → m ∈ ks ∨ m ∈ wt := fun m w ho hm => by
    rcases hm with hm | hm
    · exact .inl hm
    · rcases List.mem_append.mp hm with hm | hm
      · exact .inr hm
      · have e : m = n := by simpa using hm
        subst e
        rcases hn with hn | hn
        · exact .inl hn
        · have := (obj_iff.mp ho).2.2
          rw [hn] at this; cases this
  refine ⟨h.nd, h.kr, fun m hm => h.wr m (List.mem_append_left _ hm), fun w hw m hm => key m w hm (h.c1 w hw m hm), fun k hk row hr w hw m hm => key m w hm (h.c2 k hk row hr w hw m hm), ?_⟩
  have := h.sz
  rw [List.length_append] at this
  omega
theorem rinv_add {bs : List (Int × List Int)} {ws ks wt : List Int} {n : Int} {row : List Int} (h : RInv bs ws ks (wt ++ [n])) (hn : n ∉ ks) (hr : rowOf bs n = some row) :
    RInv bs ws (ks ++ [n]) (wt ++ (row.filter fun w => decide (w % 2 = 0) && !decide (w / 2 ∈ ks ++ [n])).map fun w => w / 2) := by
  have rn : Rch bs ws n := h.wr n (by simp) (by rw [hr]; rfl)
  have key : ∀ m, m ∈ ks ∨ m ∈ wt ++ [n] → m ∈ ks ++ [n] ∨ m ∈ wt ++ (row.filter fun w => decide (w % 2 = 0) && !decide (w / 2 ∈ ks ++ [n])).map fun w => w / 2 := fun m hm => by
    rcases hm with hm | hm
    · exact .inl (List.mem_append_left _ hm)
    · rcases List.mem_append.mp hm with hm | hm
      · exact .inr (List.mem_append_left _ hm)
      · exact .inl (List.mem_append_right _ hm)
  refine ⟨?_, fun m hm => ?_, fun m hm hs => ?_, fun w hw m hm => key m (h.c1 w hw m hm), fun k hk row' hr' w hw m hm => ?_, ?_⟩
  · refine List.nodup_append.mpr ⟨h.nd, by simp, fun x hx y hy e => hn ?_⟩
    have e2 : y = n := by simpa using hy
    rw [← e2, ← e]
    exact hx
  · rcases List.mem_append.mp hm with hm | hm
    · exact h.kr m hm
    · rw [show m = n by simpa using hm]; exact rn
  · rcases List.mem_append.mp hm with hm | hm
    · exact h.wr m (List.mem_append_left _ hm) hs
    · obtain ⟨w, hw, rfl⟩ := List.mem_map.mp hm
      obtain ⟨hw1, hw2⟩ := List.mem_filter.mp hw
      exact .step rn hr hw1 (of_decide_eq_true (Bool.and_eq_true_iff.mp hw2).1) hs
  · rcases List.mem_append.mp hk with hk | hk
    · exact key m (h.c2 k hk row' hr' w hw m hm)
    · have e : k = n := by simpa using hk
      subst e
      rw [hr] at hr'
      cases hr'
      obtain ⟨a, b, c⟩ := obj_iff.mp hm
      subst b
      by_cases q : w / 2 ∈ ks ++ [k]
      · exact .inl q
      · exact .inr (List.mem_append_right _ (List.mem_map.mpr ⟨w, List.mem_filter.mpr ⟨hw, by rw [decide_eq_true a, decide_eq_false q]; rfl⟩, rfl⟩))
  · have h1 := h.sz
    have h2 := left_lt hr hn
    have h3 := List.length_filter_le (fun w : Int => decide (w % 2 = 0) && !decide (w / 2 ∈ ks ++ [n])) row
    rw [List.length_append] at h1
    rw [List.length_append, List.length_map]
    have : ([n] : List Int).length = 1 := rfl
    omega
theorem rinv_mu {bs : List (Int × List Int)} {ks wt : List Int} {n : Int} {row : List Int} (hn : n ∉ ks) (hr : rowOf bs n = some row) :
    (wt ++ (row.filter fun w => decide (w % 2 = 0) && !decide (w / 2 ∈ ks ++ [n])).map fun w => w / 2).length + left bs (ks ++ [n]) < (wt ++ [n]).length + left bs ks := by
  have h2 := left_lt hr hn
  have h3 := List.length_filter_le (fun w : Int => decide (w % 2 = 0) && !decide (w / 2 ∈ ks ++ [n])) row
  rw [List.length_append, List.length_map, List.length_append]
  have : ([n] : List Int).length = 1 := rfl
  omega
theorem rinv_end {bs : List (Int × List Int)} {ws ks : List Int} (h : RInv bs ws ks []) (n : Int) : n ∈ ks ↔ Rch bs ws n := by
  refine ⟨h.kr n, fun hr => ?_⟩
  induction hr with
  | root hw h2 h3 =>
    rcases h.c1 _ hw _ (obj_iff.mpr ⟨h2, rfl, h3⟩) with z | z
    · exact z
    · cases z
  | step _ hr hw h2 h3 ih =>
    rcases h.c2 _ ih _ hr _ hw _ (obj_iff.mpr ⟨h2, rfl, h3⟩) with z | z
    · exact z
    · cases z
theorem filter_ints (xs : List Int) (f : Int → Bool) (g : V → Bool) (h : ∀ i, g (.int i) = f i) : (xs.map V.int).filter g = (xs.filter f).map V.int := by
  induction xs with
  | nil => rfl
  | cons x xs ih =>
    rw [List.map_cons, List.filter_cons, List.filter_cons, h, ih]
    split <;> rfl
def iOf : V → Int
  | .int i => i
  | _ => 0
theorem snoc_of {xs : List Int} (h : xs ≠ []) : ∃ ys n, xs = ys ++ [n] := ⟨xs.dropLast, xs.getLast h, (List.dropLast_concat_getLast h).symm⟩
theorem rd_reached (T : Tx K mg) (vs : List V) (H : Hp) (Q : VK) (E : XK) (h : sp_reached K vs H Q E) : t_reached K { nx := fun _ H' => Q .non H', rt := Q } (start N_reached vs) H := by
  obtain ⟨_, _, rfl, a, rr, e, l, bs, kvs, rq, ws, rfl, S, rfl, hq, hz, q⟩ := h
  refine enter (σ := [some (.ref a.st), some (.ref rq), none, none, none, none]) (g_asgN en_dK fun f hf => ?_)
  have hq1 : SqL K (upd H f (.dK [])) rq (ws.map V.int) := same_l (same_new hf) hq
  refine g_asgN (o := .lst (((ws.filter fun w => decide (w % 2 = 0)).map fun w => w / 2).map V.int)) ?_ fun wl hwl => ?_
  · have h1 := en_lcL (K := K) (j := 4) (tl := tVar 1) (σ := [some (.ref a.st), some (.ref rq), some (.ref f), none, none, none]) (H := upd H f (.dK [])) (tt := tB (tCall (sp_is_ref K) [] E0 (tCons (tVar 4) (tNil)))) (te := tCall (sp_ref_of K) [] E0 (tCons (tVar 4) (tNil)))
      (fun v => decide (iOf v % 2 = 0)) (fun v => .int (iOf v / 2)) (Ev.q (ev_var rfl) hq1) (by rw [List.length_map]; omega) (fun x hx => ?_) (fun x hx hb => ?_)
    · rw [filter_ints ws (fun w => decide (w % 2 = 0)) _ (fun i => rfl), List.map_map] at h1
      rw [List.map_map]
      exact h1
    · obtain ⟨w, _, rfl⟩ := List.mem_map.mp hx
      exact et_B (ev_call (ea_cons (ev_var rfl) ea_nil) spv_is_ref)
    · obtain ⟨w, _, rfl⟩ := List.mem_map.mp hx
      exact ev_call (ea_cons (ev_var rfl) ea_nil) (spv_ref_of (of_decide_eq_true hb))
  have hfw : f ≠ wl := ne_of_none upd_same hwl
  have hwl0 : H wl = none := by rw [upd_ne hfw.symm] at hwl; exact hwl
  refine g_while (α := List Int × List Int × Hp) (fun x => RInv bs ws x.1 x.2.1 ∧ Same H x.2.2 ∧ x.2.2 f = some (.dK (kvT x.1)) ∧ x.2.2 wl = some (.lst (x.2.1.map V.int)))
    (fun _ => [some (.ref a.st), some (.ref rq), some (.ref f), some (.ref wl), none, none]) (fun x => x.2.2) (fun x => x.2.1.length + left bs x.1)
    ⟨([], _, upd (upd H f (.dK [])) wl _), ⟨rinv_start hz S.sz, same_mut (same_new hf) hwl0, (upd_ne hfw).trans upd_same, upd_same⟩, Sx.refl _, Same.refl _⟩ ?_
  rintro ⟨ks, wt, G⟩ ⟨R, sG, hf1, hw1⟩
  have SG := S.mono sG
  refine ⟨!(wt.map V.int).isEmpty, et_trL (Ev.q (ev_var rfl) (SqL.of hw1)), fun hb => ?_, fun hb => ?_⟩
  · have hne : wt ≠ [] := fun z => by subst z; cases hb
    obtain ⟨w0, n, rfl⟩ := snoc_of hne
    have hsz : (w0 ++ [n]).length + left bs ks ≤ 400000 := R.sz
    have hl0 : (w0 ++ [n]).length = w0.length + 1 := by simp
    refine g_asgPop (y := .int n) hw1 (ev_var rfl) ?_ ?_
    · rw [List.length_map, List.getElem?_map, hl0, Nat.add_sub_cancel]
      simp
    have ed : ((w0 ++ [n]).map V.int).dropLast = w0.map V.int := by simp
    rw [ed]
    have sG1 : Same H (upd G wl (.lst (w0.map V.int))) := same_mut sG hwl0
    have hf2 : upd G wl (.lst (w0.map V.int)) f = some (.dK (kvT ks)) := (upd_ne hfw).trans hf1
    have hw2 : upd G wl (.lst (w0.map V.int)) wl = some (.lst (w0.map V.int)) := upd_same
    have SG1 := S.mono sG1
    generalize upd G wl (.lst (w0.map V.int)) = G1 at sG1 hf2 hw2 SG1
    refine g_if (et_and (et_B (Ev.is (ev_dnin (k := .inl n) (ev_var rfl) (ev_var rfl) (.inl hf2)) (by rw [kvT_val]))) fun _ => et_B (ev_meth (ev_var rfl) SG1.st rfl (ea_cons (ev_var rfl) ea_nil) (spv_exists SG1))) (fun hb => ?_) fun hb => g_end (g_next (Lp.cl (ks, w0, G1) ⟨⟨rinv_drop R ?_, sG1, hf2, hw2⟩, ?_⟩ ?_ (Same.refl _)))
    · obtain ⟨hb1, hb2⟩ := Bool.and_eq_true_iff.mp hb
      have hn : n ∉ ks := by simpa using hb1
      obtain ⟨row, hr⟩ := Option.isSome_iff_exists.mp hb2
      have hkz : (kvT ks).length < 2000000 := by
        have h1 : ks.length ≤ bs.length := by
          have h2 : ks.length ≤ (bs.map (·.1)).length := R.nd.length_le_of_subset fun m hm => by
            have hm := R.kr m hm
            cases hm with
            | root _ _ h3 => exact keys_some.mp h3
            | step _ _ _ _ h3 => exact keys_some.mp h3
          simpa using h2
        have h2 := enc_len_ge bs
        have h3 := S.sz
        simp [kvT]
        omega
      refine g_dput (k := .inl n) hf2 ev_c (ev_var rfl) (ev_var rfl) hkz ?_
      rw [kvT_put hn]
      have sG2 : Same H (upd G1 f (.dK (kvT (ks ++ [n])))) := same_mut sG1 hf
      have hw3 : upd G1 f (.dK (kvT (ks ++ [n]))) wl = some (.lst (w0.map V.int)) := (upd_ne hfw.symm).trans hw2
      have hf3 : upd G1 f (.dK (kvT (ks ++ [n]))) f = some (.dK (kvT (ks ++ [n]))) := upd_same
      have SG2 := S.mono sG2
      generalize upd G1 f (.dK (kvT (ks ++ [n]))) = G2 at sG2 hf3 hw3 SG2
      have hrl := row_len hr
      have hss := S.sz
      refine g_forF (α := Hp) (fun p j x => Same H x ∧ x f = some (.dK (kvT (ks ++ [n]))) ∧ x wl = some (.lst ((w0 ++ ((row.take j).filter fun w => decide (w % 2 = 0) && !decide (w / 2 ∈ ks ++ [n])).map fun w => w / 2).map V.int)) ∧ x p = some (.lst (row.map V.int)) ∧ p ≠ wl)
        (fun p j x => [some (.ref a.st), some (.ref rq), some (.ref f), some (.ref wl), none, some (.int n)]) (fun p j x => x) (er_row SG2 (ev_var rfl) (ev_var rfl) hr) (fun p hp => ⟨_, ⟨sG2.trans (same_new hp), ?_, ?_, upd_same, ?_⟩, Sx.refl _, Same.refl _⟩) (fun p j x _ hx => SqL.of hx.2.2.2.1) ?_ ?_
      · rw [upd_ne (ne_of_none hf3 hp)]; exact hf3
      · rw [upd_ne (ne_of_none hw3 hp), hw3]; simp
      · exact (ne_of_none hw3 hp).symm
      · rintro p j v x hv ⟨sx, hfx, hwx, hpx, npw⟩
        obtain ⟨w, hw, rfl⟩ : ∃ w, row[j]? = some w ∧ V.int w = v := by
          rw [List.getElem?_map] at hv
          cases hrj : row[j]? with
          | none => rw [hrj] at hv; cases hv
          | some w => rw [hrj] at hv; exact ⟨w, rfl, Option.some.inj hv⟩
        have et : row.take (j + 1) = row.take j ++ [w] := by rw [List.take_add_one, hw]; rfl
        refine g_if (et_and (et_B (ev_call (ea_cons (ev_var rfl) ea_nil) spv_is_ref)) fun hb => et_B (Ev.is (ev_dnin (k := .inl (w / 2)) (ev_call (ea_cons (ev_var rfl) ea_nil) (spv_ref_of (of_decide_eq_true hb))) (ev_var rfl) (.inl hfx)) (by rw [kvT_val]))) (fun hb => ?_) fun hb => g_end (g_next (Lp.cl x ⟨sx, hfx, ?_, hpx, npw⟩ ?_ (Same.refl _)))
        · obtain ⟨hb1, hb2⟩ := Bool.and_eq_true_iff.mp hb
          have hlen : ((w0 ++ ((row.take j).filter fun w => decide (w % 2 = 0) && !decide (w / 2 ∈ ks ++ [n])).map fun w => w / 2).map V.int).length < 2000000 := by
            have h1 := List.length_filter_le (fun w : Int => decide (w % 2 = 0) && !decide (w / 2 ∈ ks ++ [n])) (row.take j)
            rw [List.length_take] at h1
            rw [List.length_map, List.length_append, List.length_map]
            omega
          refine g_app hwx (ev_var rfl) (ev_call (ea_cons (ev_var rfl) ea_nil) (spv_ref_of (of_decide_eq_true hb1))) hlen (g_next (g_end (g_next (Lp.cl _ ⟨same_mut sx hwl0, (upd_ne hfw).trans hfx, ?_, (upd_ne npw).trans hpx, npw⟩ ?_ (Same.refl _)))))
          · rw [upd_same, et, List.filter_append, List.filter_cons, if_pos (by simpa using hb)]
            simp
          · exact Sx.eq (Sx.eq (Sx.eq (Sx.eq (Sx.any (Sx.eq Sx.nil)))))
        · rw [hwx, et, List.filter_append, List.filter_cons, if_neg (by rw [hb]; decide)]
          simp
        · exact Sx.eq (Sx.eq (Sx.eq (Sx.eq (Sx.any (Sx.eq Sx.nil)))))
      · rintro p x ⟨sx, hfx, hwx, hpx, npw⟩
        rw [List.length_map, List.take_length] at hwx
        refine g_next (g_end (g_next (Lp.cl (ks ++ [n], _, x) ⟨⟨rinv_add R hn hr, sx, hfx, hwx⟩, rinv_mu hn hr⟩ ?_ (Same.refl _))))
        exact Sx.eq (Sx.eq (Sx.eq (Sx.eq (Sx.any (Sx.any Sx.nil)))))
    · cases hk : decide (n ∈ ks) with
      | true => exact .inl (of_decide_eq_true hk)
      | false =>
        right
        rw [hk] at hb
        cases hr : rowOf bs n with
        | none => rfl
        | some r => rw [hr] at hb; cases hb
    · show w0.length + left bs ks < (w0 ++ [n]).length + left bs ks
      omega
    · exact Sx.eq (Sx.eq (Sx.eq (Sx.eq (Sx.any (Sx.any Sx.nil)))))
  · have e0 : wt = [] := by
      cases wt with
      | nil => rfl
      | cons w wt => cases hb
    subst e0
    refine g_ret (ev_var rfl) fun H3 s3 => q ks (kvT ks) R.nd (by simp [kvT]) (rinv_end R) f H3 hf ?_
    intro b u hbu
    by_cases hbf : b = f
    · subst hbf
      rw [upd_same] at hbu
      rw [← hbu]
      exact s3 _ _ hf1
    · rw [upd_ne hbf] at hbu
      exact s3 _ _ (sG _ _ hbu)
end
section
variable {K : PySem.W.Frag} {mg : Str → Option Value}
theorem stab_tpat {y : List Int × Int} : StabT (TPat y) := fun _ _ _ s ⟨t, u, e, h1, h2⟩ => ⟨t, u, e, s _ _ h1, s _ _ h2⟩
theorem WtR.keep {wt : List (List Int × Int)} {xs : List V} {H H1 : Hp} (h : WtR wt xs H) (s : SameT H H1) : WtR wt xs H1 := ⟨h.1, fun k x hx => by
  obtain ⟨y, h1, h2⟩ := h.2 k x hx
  exact ⟨y, h1, stab_tpat _ _ _ s h2⟩⟩
theorem WtR.app {wt ut : List (List Int × Int)} {xs ys : List V} {H : Hp} (h : WtR wt xs H) (g : WtR ut ys H) : WtR (wt ++ ut) (xs ++ ys) H := by
  refine ⟨by rw [List.length_append, List.length_append, h.1, g.1], fun k x hx => ?_⟩
  by_cases hk : k < xs.length
  · rw [List.getElem?_append_left hk] at hx
    rw [List.getElem?_append_left (by rw [← h.1]; exact hk)]
    exact h.2 k x hx
  · rw [List.getElem?_append_right (by omega)] at hx
    rw [List.getElem?_append_right (by rw [← h.1]; omega), ← h.1]
    exact g.2 _ x hx
theorem WtR.nil {H : Hp} : WtR [] [] H := ⟨rfl, fun k x hx => by simp at hx⟩
/-- a dict of paths -/
def DP (f : Addr) (found : List (Int × List Int)) (H : Hp) : Prop := DictP f found H
theorem dp_val {kvs : List (Key × V)} {found : List (Int × List Int)} {H : Hp} (h : Paired (fun (z : Key × V) (f : Int × List Int) => z.1 = Sum.inl f.1 ∧ ∃ t, z.2 = V.ref t ∧ H t = some (.tup (f.2.map V.int))) kvs found) (n : Int) : (valV kvs (.inl n)).isSome = decide (n ∈ found.map (·.1)) := by
  induction h with
  | nil => rfl
  | @cons z f _ _ hz _ ih =>
    by_cases e : f.1 = n
    · rw [valV_pos (hz.1.trans (by rw [e]))]
      simp [e]
    · rw [valV_neg (by rw [hz.1]; exact fun w => e (Sum.inl.inj w)), ih]
      exact decide_eq_decide.mpr (by simp; intro w; exact absurd w.symm e)
theorem dp_none {kvs : List (Key × V)} {found : List (Int × List Int)} {H : Hp} {n : Int} (h : Paired (fun (z : Key × V) (f : Int × List Int) => z.1 = Sum.inl f.1 ∧ ∃ t, z.2 = V.ref t ∧ H t = some (.tup (f.2.map V.int))) kvs found) (hn : n ∉ found.map (·.1)) : valV kvs (.inl n) = none := by
  have := dp_val h n
  rw [decide_eq_false hn] at this
  simpa using this
theorem paired_imp {α β : Type} {R S : α → β → Prop} {xs : List α} {ys : List β} (h : Paired R xs ys) (f : ∀ a b, R a b → S a b) : Paired S xs ys := by
  induction h with
  | nil => exact .nil
  | cons a _ ih => exact .cons (f _ _ a) ih
theorem paired_app {α β : Type} {R : α → β → Prop} {xs us : List α} {ys ws : List β} (h : Paired R xs ys) (g : Paired R us ws) : Paired R (xs ++ us) (ys ++ ws) := by
  induction h with
  | nil => exact g
  | cons a _ ih => exact .cons a ih
theorem paired_len {α β : Type} {R : α → β → Prop} {xs : List α} {ys : List β} (h : Paired R xs ys) : xs.length = ys.length := by
  induction h with
  | nil => rfl
  | cons a _ ih => simp [ih]
theorem DictP.keep {f : Addr} {found : List (Int × List Int)} {H H1 : Hp} (h : DictP f found H) (s : SameT H H1) (e : H1 f = H f) : DictP f found H1 := by
  obtain ⟨kvs, h1, h2⟩ := h
  refine ⟨kvs, by rw [e]; exact h1, paired_imp h2 fun z y ⟨a, t, b, c⟩ => ⟨a, t, b, s _ _ c⟩⟩
theorem sameT_dk {H : Hp} {f : Addr} {kvs kvs' : List (Key × V)} (h : H f = some (.dK kvs)) : SameT H (upd H f (.dK kvs')) := fun b zs e => by
  rw [upd_ne (ne_of e h (by intro z; cases z))]; exact e
/-- the numbers in order -/
def sortI (xs : List Int) : List Int := xs.mergeSort fun a b => decide (a ≤ b)
theorem sortI_perm (xs : List Int) : (sortI xs).Perm xs := List.mergeSort_perm _ _
theorem sortI_le (xs : List Int) : (sortI xs).Pairwise (· ≤ ·) := (List.pairwise_mergeSort (le := fun a b : Int => decide (a ≤ b)) (fun a b c h1 h2 => by simp at *; omega) (fun a b => by simp; omega) xs).imp fun h => of_decide_eq_true h
theorem sort_uniq {ys zs : List Int} (hp : ys.Perm zs) (h1 : ys.Pairwise (· ≤ ·)) (h2 : zs.Pairwise (· ≤ ·)) : ys = zs := hp.eq_of_pairwise (fun a b _ _ x y => by omega) h1 h2
theorem sort_of {ys xs : List Int} (hp : ys.Perm xs) (h1 : ys.Pairwise (· ≤ ·)) : ys = sortI xs := sort_uniq (hp.trans (sortI_perm xs).symm) h1 (sortI_le xs)
theorem sortI_lt {xs : List Int} (h : xs.Nodup) : (sortI xs).Pairwise (· < ·) := by
  have h1 : (sortI xs).Pairwise (· ≠ ·) := (sortI_perm xs).nodup_iff.mpr h
  exact (List.Pairwise.and (sortI_le xs) h1).imp fun ⟨a, b⟩ => by omega
theorem er_numbers {σ : Sl} {H : Hp} {to : TE} {E : XK} {a : SA} {r e l : Int} {bs : List (Int × List Int)} {kvs : List (Key × V)} (S : StoreAt K a r e l bs kvs H) (ho : Ev to σ H (.ref a.st)) :
    EvR (tMeth (He.ga K "Store") "numbers" (sp_Store_numbers K) [] E to tNil) σ H (IsL ((sortI (bs.map (·.1))).map V.int)) :=
  er_meth ho S.st rfl ea_nil fun H1 s Q q => ⟨_, rfl, a, r, e, l, bs, kvs, rfl, S.mono s, fun ys hp ho => by
    rw [sort_of hp ho]
    exact givN_l q⟩
theorem rd_garbage (T : Tx K mg) (vs : List V) (H : Hp) (Q : VK) (E : XK) (h : sp_garbage K vs H Q E) : t_garbage K { nx := fun _ H' => Q .non H', rt := Q } (start N_garbage vs) H := by
  obtain ⟨_, rfl, p, st, rfl, S, q⟩ := h
  have hs := S.sp
  have hw := PS.ws_len S
  have hsz := S.S.sz
  have hbl := enc_len_ge st.bs
  refine enter (σ := [some (.ref p.sp), none, none]) (g_asgR (R := fun v H' => ∃ f ks, v = .ref f ∧ H' f = some (.dK (ks : List (Key × V))) ∧ ∃ ns : List Int, ks.map (·.1) = ns.map Sum.inl ∧ ∀ n, n ∈ ns ↔ Rch st.bs st.ws n) (er_callR (era2 (Ev.rr (by walk_at "ev")) stab_e (er_all_roots S (ev_var rfl))) fun us H1 s1 hus Q q => ?_) fun v H2 s2 hv => ?_)
  · obtain ⟨x, y, rfl, rfl, rq, rfl, hrq⟩ := hus
    refine ⟨_, _, rfl, p.a, _, _, _, _, _, rq, st.ws, rfl, S.S.mono s1, rfl, SqL.of hrq, by omega, fun ks fv nd hk hm f H3 hf s3 => q _ H3 ((same_new hf).trans s3) ⟨f, fv, rfl, s3 _ _ upd_same, ks, hk, hm⟩⟩
  · obtain ⟨f, fv, rfl, hf, ns, hk, hm⟩ := hv
    have S2 := S.mono s2
    have hin : ∀ n : Int, (valV fv (.inl n)).isSome = decide (n ∈ ns) := fun n => by
      clear hm hf
      revert ns
      induction fv with
      | nil =>
        intro ns hk
        have : ns = [] := by cases ns with | nil => rfl | cons a b => cases hk
        subst this; rfl
      | cons z fv ih =>
        intro ns hk
        cases ns with
        | nil => cases hk
        | cons m ns =>
          injection hk with hk1 hk2
          by_cases e : m = n
          · rw [valV_pos (hk1.trans (by rw [e]))]; simp [e]
          · rw [valV_neg (fun w => e (Sum.inl.inj (hk1.symm.trans w))), ih ns hk2]
            exact decide_eq_decide.mpr (by simp; intro w; exact absurd w.symm e)
    have ho : Ev (tFld K (tVar 0) "store") [some (.ref p.sp), some (.ref f), none] H2 (.ref p.a.st) := ev_fld (ev_var rfl) S2.sp (by walk_at "tx") (by walk_at "tx") rfl
    have hyl : (sortI (st.bs.map (·.1))).length = st.bs.length := by have := (sortI_perm (st.bs.map (·.1))).length_eq; simpa using this
    have h1 := en_lcL (K := K) (j := 2) (σ := [some (.ref p.sp), some (.ref f), none]) (H := H2) (tt := tB (tDNotIn (tVar 2) (tVar 1))) (te := tVar 2)
        (fun v => !decide (iOf v ∈ ns)) (fun v => v) (er_numbers (E := E0) S2.S ho).lq (by rw [List.length_map]; omega) (fun x hx => ?_) (fun x hx hb => ev_var rfl)
    · rw [filter_ints _ (fun n => !decide (n ∈ ns)) _ (fun i => rfl), List.map_id'] at h1
      refine g_retN h1 fun f2 H3 hf2 s3 => q _ ?_ (fun n => ?_) f2 H3 (s2.free hf2) ((same_upd s2).trans s3)
      · exact (sortI_lt S.S.nd).sublist List.filter_sublist
      · rw [List.mem_filter, (sortI_perm _).mem_iff]
        simp [hm]
    · obtain ⟨w, _, rfl⟩ := List.mem_map.mp hx
      exact et_B (Ev.is (ev_dnin (k := .inl w) (ev_var rfl) (ev_var rfl) (.inl hf)) (by rw [hin]; rfl))
end
section
variable {K : PySem.W.Frag} {mg : Str → Option Value}
theorem dk_put {kvs : List (Key × V)} {found : List (Int × List Int)} {H : Hp} {n : Int} {t : Addr} {path : List Int} (h : Paired (fun (z : Key × V) (f : Int × List Int) => z.1 = Sum.inl f.1 ∧ ∃ t, z.2 = V.ref t ∧ H t = some (.tup (f.2.map V.int))) kvs found) (hn : n ∉ found.map (·.1)) (ht : H t = some (.tup (path.map V.int))) :
    Paired (fun (z : Key × V) (f : Int × List Int) => z.1 = Sum.inl f.1 ∧ ∃ t, z.2 = V.ref t ∧ H t = some (.tup (f.2.map V.int))) (putK kvs (.inl n) (.ref t)) (found ++ [(n, path)]) := by
  rw [putK_new _ (dp_none h hn)]
  exact paired_app h (.cons ⟨rfl, t, rfl, ht⟩ .nil)
theorem step_none {bs : List (Int × List Int)} {x : List (Int × List Int) × List (List Int × Int)} {y : List Int × Int} (h : ∀ n, objOf bs y.2 = some n → n ∈ x.1.map (·.1)) : stepP bs x y = x := by
  unfold stepP
  cases ho : objOf bs y.2 with
  | none => rfl
  | some n => exact if_pos (h n ho)
theorem step_some {bs : List (Int × List Int)} {x : List (Int × List Int) × List (List Int × Int)} {y : List Int × Int} {n : Int} (ho : objOf bs y.2 = some n) (h : n ∉ x.1.map (·.1)) : stepP bs x y = (x.1 ++ [(n, y.1)], x.2 ++ ext bs (n, y.1)) := by
  unfold stepP
  rw [ho]
  exact if_neg h
theorem take_fold {bs : List (Int × List Int)} {wt : List (List Int × Int)} {x : List (Int × List Int) × List (List Int × Int)} {j : Nat} {y : List Int × Int} (h : wt[j]? = some y) : (wt.take (j + 1)).foldl (stepP bs) x = stepP bs ((wt.take j).foldl (stepP bs) x) y := by
  rw [List.take_add_one, h, List.foldl_append]; rfl
/-- what holds within a level -/
theorem fold_ok {bs : List (Int × List Int)} {ws : List Int} {k : Nat} {f : List (Int × List Int)} {wt : List (List Int × Int)} (S : Stg bs ws k f wt) (j : Nat) :
    ((((wt.take j).foldl (stepP bs) (f, [])).1).map (·.1)).Nodup ∧ ((wt.take j).foldl (stepP bs) (f, [])).2.length ≤ (enc bs).length ∧ ((wt.take j).foldl (stepP bs) (f, [])).1.length ≤ bs.length := by
  obtain ⟨new, L⟩ := lvl_of bs f (wt.take j) []
  have e1 : (wt.take j).foldl (stepP bs) (f, []) = (f ++ new, new.flatMap (ext bs)) := by
    have := L.eq
    simp only [List.append_nil, List.nil_append, List.flatMap_nil] at this
    exact this
  have nd : ((f ++ new).map (·.1)).Nodup := by have := L.nd; simp only [List.append_nil, List.nil_append] at this; exact this S.nd
  rw [e1]
  refine ⟨nd, ?_, ?_⟩
  · have nd2 : (new.map (·.1)).Nodup := by
      rw [List.map_append] at nd
      exact (List.nodup_append.mp nd).2.1
    exact flat_len nd2
  · have h : ((f ++ new).map (·.1)).length ≤ (bs.map (·.1)).length := by
      refine nd.length_le_of_subset fun n hn => ?_
      obtain ⟨e, he, rfl⟩ := List.mem_map.mp hn
      rcases List.mem_append.mp he with he | he
      · exact keys_some.mp (S.f1 e he).1
      · obtain ⟨w, _, h2⟩ := L.src e he
        exact keys_some.mp (obj_iff.mp h2).2.2
    simpa using h
/-- the comprehension that makes a level's words -/
theorem er_ext {σ : Sl} {H : Hp} {tn tp : TE} {i : Nat} {n : Int} {R : Nat → V → Hp → Prop} (hn : EvA (tCons tn tNil) σ H [.int n]) (h0 : -1000000000 ≤ n ∧ n ≤ 1000000) (sR : ∀ k, StabT (R k)) (he : ∀ k : Nat, (k : Int) < n → EvR tp ((wipe σ [i]).set i (some (.int (k : Int)))) H (R k)) :
    EvR (tLc (iRng1 (tCons tn tNil)) (gName i) tYes tp [i]) σ H (IsLR fun ys H' => ys.length = n.toNat ∧ ∀ k x, ys[k]? = some x → R k x H') :=
  er_lcR R sR hn h0 he
theorem rd_paths (T : Tx K mg) (vs : List V) (H : Hp) (Q : VK) (E : XK) (h : sp_paths K vs H Q E) : t_paths K { nx := fun _ H' => Q .non H', rt := Q } (start N_paths vs) H := by
  obtain ⟨_, rfl, p, st, rfl, S, q⟩ := h
  have hws := PS.ws_len S
  have hsz := S.S.sz
  have hbl := enc_len_ge st.bs
  refine enter (σ := [some (.ref p.sp), none, none, none, none, none, none, none, none, none]) (g_asgN en_dK fun f hf => ?_)
  have s1 : Same H (upd H f (.dK [])) := same_new hf
  have hf1 : upd H f (.dK []) f = some (.dK []) := upd_same
  generalize upd H f (.dK []) = G1 at s1 hf1
  refine g_asgR (er_all_roots (S.mono s1) (ev_var rfl)) fun v G2 s2 ⟨wa, ev, hwa⟩ => ?_
  subst ev
  have hf2 := s2 _ _ hf1
  have s12 := s1.trans s2
  have hlen : Ev (tCB (rLenS K) (tCons (tVar 2) (tNil))) [some (.ref p.sp), some (.ref f), some (.ref wa), none, none, none, none, none, none, none] G2 (.int (st.ws.length : Int)) := by
    have := ev_len (K := K) (xs := st.ws.map V.int) (ta := tVar 2) (σ := [some (.ref p.sp), some (.ref f), some (.ref wa), none, none, none, none, none, none, none]) (H := G2) (Ev.q (a := wa) (ev_var rfl) (SqL.of hwa))
    rw [List.length_map] at this
    exact this
  refine g_asgR (er_ext (R := fun k => TPat ([(k : Int)], st.ws.getD k 0)) (ea_cons hlen ea_nil) (by omega) (fun k => stab_tpat) fun k hk => ?_) fun v G3 s3 ⟨wl, xs, ev, hwl, hxl, hxs⟩ => ?_
  · refine (er_tup2 (R := IsTp [V.int (k : Int)]) (EvN.tp (en_tup (ea_cons (ev_var rfl) ea_nil) (of_decide_eq_true rfl))) stab_tp (ev_op (ev_var rfl) (ev_var rfl) (rv_ixI (SqL.of hwa) (by omega) (by omega)))).imp fun v H' ⟨t, x, e1, h1, u, e2, h2⟩ => ⟨t, u, e1, ?_, h2⟩
    rw [h1, e2, Int.toNat_natCast]
  subst ev
  have hf3 := s3 _ _ hf2
  have s123 := s12.trans s3
  have hW : WtR (start1 st.ws) xs G3 := by
    refine ⟨by unfold start1; rw [hxl, List.length_map, List.length_range]; omega, fun k x hx => ⟨_, ?_, hxs k x hx⟩⟩
    have hk : k < xs.length := by
      rcases Nat.lt_or_ge k xs.length with z | z
      · exact z
      · rw [List.getElem?_eq_none z] at hx; cases hx
    unfold start1
    rw [List.getElem?_map, List.getElem?_range (by omega)]; rfl
  refine g_while (α := Nat × Addr × List V × Hp) (fun x => x.1 ≤ st.bs.length + 1 ∧ Same H x.2.2.2 ∧ DictP f (stg st.bs st.ws x.1).1 x.2.2.2 ∧ x.2.2.2 x.2.1 = some (.lst x.2.2.1) ∧ WtR (stg st.bs st.ws x.1).2 x.2.2.1 x.2.2.2)
    (fun x => [some (.ref p.sp), some (.ref f), none, some (.ref x.2.1), none, none, none, none, none, none]) (fun x => x.2.2.2) (fun x => st.bs.length + 2 - x.1)
    ⟨(0, wl, xs, G3), ⟨Nat.zero_le _, s123, ⟨[], hf3, .nil⟩, hwl, hW⟩, Sx.eq (Sx.eq (Sx.any (Sx.refl _))), Same.refl _⟩ ?_
  rintro ⟨k, wl, xs, G⟩ ⟨hk, sG, hD, hwl, hW⟩
  have SK := stg_ok st.bs st.ws k
  refine ⟨!xs.isEmpty, et_trL (Ev.q (ev_var rfl) (SqL.of hwl)), fun hb => ?_, fun hb => ?_⟩
  · have hwne : (stg st.bs st.ws k).2 ≠ [] := fun z => by
      have := hW.1
      rw [z] at this
      cases xs with
      | nil => cases hb
      | cons a b => cases this
    have hk2 : k + 1 ≤ st.bs.length + 1 := by have := SK.big hwne; have := SK.len; omega
    refine g_asgN (o := .lst []) (en_lst ea_nil (of_decide_eq_true rfl)) fun l hl => ?_
    have sG1 : Same H (upd G l (.lst [])) := sG.trans (same_new hl)
    have nlw : wl ≠ l := ne_of_none hwl hl
    have hlH : H l = none := sG.free hl
    have hD1 : DictP f (stg st.bs st.ws k).1 (upd G l (.lst [])) := hD.keep (sameT_lst' hl) (by obtain ⟨kvs, h1, _⟩ := hD; exact upd_ne (ne_of_none h1 hl))
    have hwl1 : upd G l (.lst []) wl = some (.lst xs) := (upd_ne nlw).trans hwl
    have hl1 : upd G l (.lst []) l = some (.lst []) := upd_same
    have hW1 : WtR (stg st.bs st.ws k).2 xs (upd G l (.lst [])) := hW.keep (sameT_lst' hl)
    generalize upd G l (.lst []) = G4 at sG1 hD1 hwl1 hl1 hW1
    generalize hFW : stg st.bs st.ws k = FW at *
    obtain ⟨F, W⟩ := FW
    refine g_forL2 (α := Hp) (fun j x => Same H x ∧ x wl = some (.lst xs) ∧ WtR W xs x ∧ DictP f ((W.take j).foldl (stepP st.bs) (F, [])).1 x ∧ ∃ ys, x l = some (.lst ys) ∧ WtR ((W.take j).foldl (stepP st.bs) (F, [])).2 ys x)
      (fun j x => [some (.ref p.sp), some (.ref f), none, some (.ref wl), none, some (.ref l), none, none, none, none]) (fun j x => x) (ev_var rfl) (SqL.of hwl1) ⟨G4, ⟨sG1, hwl1, hW1, hD1, [], hl1, .nil⟩, Sx.refl _, Same.refl _⟩ (fun j x _ hx => SqL.of hx.2.1) ?_ ?_
    · rintro j v x hv ⟨sx, hwx, hWx, hDx, ys, hlx, hYx⟩
      obtain ⟨⟨path, word⟩, hy, t, u, rfl, ht, hu⟩ := hWx.2 j v hv
      have hym : (path, word) ∈ W := List.mem_of_getElem? hy
      have hpl : path.length = k + 1 := (SK.w1 _ hym).1
      have Sx1 := S.mono sx
      refine ⟨t, .ref u, .int word, rfl, SqT.of ht, ?_⟩
      rw [take_fold hy] 
      generalize hXX : (W.take j).foldl (stepP st.bs) (F, []) = XX at *
      have hok := fold_ok SK j
      rw [hXX] at hok
      obtain ⟨ok1, ok2, ok3⟩ := hok
      obtain ⟨kvs, hfx, hP⟩ := hDx
      refine g_asg (v := optV (objOf st.bs word)) (ev_call (ea_cons (ev_var rfl) (ea_cons (ev_var rfl) ea_nil)) (spv_object_of Sx1)) ?_
      have skip : ∀ σ', Sx [some (.ref p.sp), some (.ref f), none, some (.ref wl), none, some (.ref l), none, none, none, none] σ' → (∀ n, objOf st.bs word = some n → n ∈ XX.1.map (·.1)) →
          Cl (Lp (fun x : Hp => Same H x ∧ x wl = some (.lst xs) ∧ WtR W xs x ∧ DictP f (stepP st.bs XX (path, word)).1 x ∧ ∃ ys, x l = some (.lst ys) ∧ WtR (stepP st.bs XX (path, word)).2 ys x) (fun _ => [some (.ref p.sp), some (.ref f), none, some (.ref wl), none, some (.ref l), none, none, none, none]) fun x => x) σ' x := fun σ' sx' hn => by
        refine Lp.cl x ?_ sx' (Same.refl _)
        rw [step_none hn]
        exact ⟨sx, hwx, hWx, ⟨kvs, hfx, hP⟩, ys, hlx, hYx⟩
      cases ho : objOf st.bs word with
      | none =>
        refine g_if (b := false) (EvT.is (et_and (a := false) (b := false) (et_test (Ev.is (ev_op (ev_var (v := .non) rfl) ev_c rv_notN) rfl)) fun hb => by cases hb) rfl) (fun hb => by cases hb) fun _ => g_end (g_next (skip _ ?_ fun n hn => by rw [ho] at hn; cases hn))
        exact Sx.eq (Sx.eq (Sx.any (Sx.eq (Sx.any (Sx.eq (Sx.any (Sx.any (Sx.any (Sx.any Sx.nil)))))))))
      | some n =>
        obtain ⟨_, _, h3⟩ := obj_iff.mp ho
        obtain ⟨row, hrow⟩ := Option.isSome_iff_exists.mp h3
        have hrl := row_len hrow
        refine g_if (et_and (a := true) (et_test (Ev.is (ev_op (ev_var (v := .int n) rfl) ev_c rv_notN) rfl)) fun _ => et_B (Ev.is (ev_dnin (k := .inl n) (ev_var (v := .int n) rfl) (ev_var rfl) (.inl hfx)) (by rw [dp_val hP n]))) (fun hb => ?_) fun hb => g_end (g_next (skip _ ?_ fun m hm => ?_))
        · have hn : n ∉ XX.1.map (·.1) := by simpa using hb
          have hkl : kvs.length < 2000000 := by have := paired_len hP; omega
          refine g_dput (k := .inl n) hfx (ev_var rfl) (ev_var rfl) (ev_var (v := .int n) rfl) hkl ?_
          have sx2 : Same H (upd x f (.dK (putK kvs (.inl n) (.ref u)))) := same_mut sx hf
          have sT := sameT_dk (kvs' := putK kvs (.inl n) (.ref u)) hfx
          have n1 : f ≠ wl := ne_of hfx hwx (by intro z; cases z)
          have n2 : f ≠ l := ne_of hfx hlx (by intro z; cases z)
          have hfx2 : upd x f (.dK (putK kvs (.inl n) (.ref u))) f = some (.dK (putK kvs (.inl n) (.ref u))) := upd_same
          have hwx2 : upd x f (.dK (putK kvs (.inl n) (.ref u))) wl = some (.lst xs) := (upd_ne n1.symm).trans hwx
          have hlx2 : upd x f (.dK (putK kvs (.inl n) (.ref u))) l = some (.lst ys) := (upd_ne n2.symm).trans hlx
          have hu2 := sT _ _ hu
          have hP2 := dk_put hP hn hu
          have hP3 := paired_imp hP2 fun z y ⟨a, t, b, c⟩ => (⟨a, t, b, sT _ _ c⟩ : z.1 = Sum.inl y.1 ∧ ∃ t, z.2 = V.ref t ∧ L2.upd x f (HO.dK (putK kvs (.inl n) (V.ref u))) t = some (HO.tup (y.2.map V.int)))
          have hYx2 := hYx.keep sT
          have hWx2 := hWx.keep sT
          generalize upd x f (.dK (putK kvs (.inl n) (.ref u))) = x2 at *
          refine g_asgR (er_row_of (S.mono sx2) (ev_var rfl) (ev_var (v := .int n) rfl) hrow) fun v x3 s3 ⟨ra, ev, hra⟩ => ?_
          subst ev
          have hlen : Ev (tCB (rLenS K) (tCons (tVar 9) (tNil))) [some (.ref p.sp), some (.ref f), none, some (.ref wl), none, some (.ref l), some (.ref u), some (.int word), some (.int n), some (.ref ra)] x3 (.int (row.length : Int)) := by
            have := ev_len (K := K) (xs := row.map V.int) (ta := tVar 9) (σ := [some (.ref p.sp), some (.ref f), none, some (.ref wl), none, some (.ref l), some (.ref u), some (.int word), some (.int n), some (.ref ra)]) (H := x3) (Ev.q (a := ra) (ev_var rfl) (SqL.of hra))
            rw [List.length_map] at this
            exact this
          have hpne : path.map V.int ≠ [] := fun z => by
            have := congrArg List.length z
            rw [List.length_map, hpl] at this; cases this
          have hplz : path.length ≤ 1000000 := by have := SK.len; omega
          refine g_extR (s3 _ _ hlx2) (ev_var rfl) (er_ext (R := fun k => TPat (path ++ [(k : Int)], row.getD k 0)) (ea_cons hlen ea_nil) (by omega) (fun k => stab_tpat) fun k hk => ?_) (fun zs H' hz => ?_) fun zs x4 s4 ⟨hz1, hz2⟩ => g_next (g_end (g_next (Lp.cl _ ⟨?_, ?_, ?_, ?_, _, upd_same, ?_⟩ ?_ (Same.refl _))))
          · refine (er_tup2 (R := IsTp ((path ++ [(k : Int)]).map V.int)) ?_ stab_tp (ev_op (ev_var rfl) (ev_var rfl) (rv_ixI (SqL.of hra) (by omega) (by omega)))).imp fun v H' ⟨t, x, e1, h1, u, e2, h2⟩ => ⟨t, u, e1, ?_, h2⟩
            · have := EvN.tp (en_catT (K := K) (ta := tVar 6) (tb := tTup (tCons (tVar 4) tNil)) (σ := (wipe [some (.ref p.sp), some (.ref f), none, some (.ref wl), none, some (.ref l), some (.ref u), some (.int word), some (.int n), some (.ref ra)] [4]).set 4 (some (.int (k : Int)))) (H := x3) (xs := path.map V.int) (ys := [V.int (k : Int)]) (Ev.tt (a := u) (ev_var rfl) (SqT.of (s3 _ _ hu2))) (EvN.tt (en_tup (ea_cons (ev_var rfl) ea_nil) (of_decide_eq_true rfl))) hpne (by simp) (by rw [List.length_map]; simp; omega))
              rw [List.map_append]
              exact this
            · rw [h1, e2, Int.toNat_natCast]
          · have h5 := hz.1
            have h6 := hYx.1
            omega
          · exact same_mut (sx2.trans (s3.trans s4)) hlH
          · exact (upd_ne nlw).trans (s4 _ _ (s3 _ _ hwx2))
          · exact hWx2.keep ((tups_of (s3.trans s4)).trans (sameT_lst (s4 _ _ (s3 _ _ hlx2))))
          · rw [step_some ho hn]
            refine ⟨_, (upd_ne n2).trans (s4 _ _ (s3 _ _ hfx2)), paired_imp hP3 fun z y ⟨a, t, b, c⟩ => ⟨a, t, b, ?_⟩⟩
            exact sameT_lst (s4 _ _ (s3 _ _ hlx2)) _ _ (s4 _ _ (s3 _ _ c))
          · rw [step_some ho hn]
            have sTT : SameT x4 (upd x4 l (.lst (ys ++ zs))) := sameT_lst (s4 _ _ (s3 _ _ hlx2))
            refine WtR.app (hYx2.keep ((tups_of (s3.trans s4)).trans sTT)) (WtR.keep ⟨?_, fun k z hz => ⟨_, ?_, hz2 k z hz⟩⟩ sTT)
            · rw [ext_len, hrow, hz1]; simp
            · have hkz : k < zs.length := by
                rcases Nat.lt_or_ge k zs.length with z' | z'
                · exact z'
                · rw [List.getElem?_eq_none z'] at hz; cases hz
              unfold ext
              rw [hrow, List.getElem?_map, List.getElem?_range (by simp; omega)]; rfl
          · exact Sx.eq (Sx.eq (Sx.any (Sx.eq (Sx.any (Sx.eq (Sx.any (Sx.any (Sx.any (Sx.any Sx.nil)))))))))
        · exact Sx.eq (Sx.eq (Sx.any (Sx.eq (Sx.any (Sx.eq (Sx.any (Sx.any (Sx.any (Sx.any Sx.nil)))))))))
        · rw [ho] at hm
          cases hm
          simpa using hb
    · rintro x ⟨sx, hwx, hWx, hDx, ys, hlx, hYx⟩
      rw [hWx.1, List.take_length] at hDx hYx
      have e : stg st.bs st.ws (k + 1) = W.foldl (stepP st.bs) (F, []) := by
        show level st.bs (stg st.bs st.ws k).1 (stg st.bs st.ws k).2 = _
        rw [hFW]; rfl
      refine g_asg (ev_var rfl) (g_next (Lp.cl (k + 1, l, ys, x) ⟨⟨hk2, sx, by rw [e]; exact hDx, hlx, by rw [e]; exact hYx⟩, ?_⟩ ?_ (Same.refl _)))
      · show st.bs.length + 2 - (k + 1) < st.bs.length + 2 - k
        omega
      · exact Sx.eq (Sx.eq (Sx.any (Sx.eq (Sx.any (Sx.any (Sx.any (Sx.any (Sx.any (Sx.any Sx.nil)))))))))
  · have hw0 : (stg st.bs st.ws k).2 = [] := by
      have e0 : xs = [] := by
        cases xs with
        | nil => rfl
        | cons a b => cases hb
      have := hW.1
      rw [e0] at this
      exact List.eq_nil_of_length_eq_zero this.symm
    rw [paths_eq hw0 hk] at hD
    refine g_ret (ev_var rfl) fun H3 s3 => q _ H3 (sG.trans s3) ⟨f, rfl, hD.keep (tups_of s3) ?_⟩
    obtain ⟨kvs, h1, _⟩ := hD
    rw [h1]; exact s3 _ _ h1
end
end K64

set_option Elab.async false
set_option linter.all false
set_option maxRecDepth 100000
set_option maxHeartbeats 2000000
namespace K64
open PySem PySem.Spec PyProof.Rows L2 Kw
local macro_rules | `(tactic| walk_at "hp") => `(tactic| first
  | assumption
  | exact upd_same
  | (refine Eq.trans (upd_ne ?_) ?_; (first | assumption | (apply Ne.symm; assumption)); walk_at "hp"))
local macro_rules | `(tactic| walk_at "sq") => `(tactic| first
  | assumption
  | (apply SqL.of; walk_at "hp")
  | (apply SqT.of; walk_at "hp"))
local macro_rules | `(tactic| walk_at "rv") => `(tactic| first
  | ((with_reducible exact rv_I0))
  | ((with_reducible apply rv_I); first | assumption | decide | omega | (exact ⟨by omega, by omega⟩) | skip)
  | ((with_reducible apply rv_eq); rfl)
  | ((with_reducible apply rv_ne); rfl)
  | ((with_reducible exact rv_isN))
  | ((with_reducible exact rv_notN))
  | skip)
local macro_rules | `(tactic| walk_at "sp") => `(tactic| first
  | (apply spv_I1; first | trivial | assumption | skip)
  | (apply spv_I2; first | trivial | assumption | skip)
  | skip)
local macro_rules | `(tactic| walk_at "ev") => `(tactic| first
  | ((with_reducible apply ev_var); rfl)
  | ((with_reducible exact ev_c))
  | ((with_reducible exact ea_nil))
  | ((with_reducible apply ea_cons); walk_at "ev"; walk_at "ev")
  | ((with_reducible apply ev_op); walk_at "ev"; walk_at "ev"; walk_at "rv")
  | ((with_reducible apply ev_neg); walk_at "ev")
  | ((with_reducible apply ev_int); walk_at "ev")
  | ((with_reducible apply ev_fld); walk_at "ev"; walk_at "hp"; walk_at "tx"; walk_at "tx"; rfl)
  | ((with_reducible apply ev_call); walk_at "ev"; walk_at "sp")
  | ((with_reducible apply et_test); walk_at "ev")
  | ((with_reducible apply et_B); walk_at "ev")
  | ((with_reducible apply et_not); walk_at "ev")
  | ((with_reducible apply ev_notV); walk_at "ev")
  | ((with_reducible apply eo_some); walk_at "ev")
  | ((with_reducible exact eo_none))
  | ((with_reducible apply en_lst); walk_at "ev"; exact of_decide_eq_true rfl)
  | ((with_reducible apply en_tup); walk_at "ev"; exact of_decide_eq_true rfl)
  | ((with_reducible exact en_dK))
  | skip)
local macro_rules | `(tactic| walk_at "tx") => `(tactic| first
  | assumption
  | (with_reducible exact Tx.cls_Store (by assumption))
  | (with_reducible exact Tx.na_Store_room (by assumption))
  | (with_reducible exact Tx.na_Store_entries (by assumption))
  | (with_reducible exact Tx.na_Store_words (by assumption))
  | (with_reducible exact Tx.na_Store__places (by assumption))
  | (with_reducible exact Tx.na_Store__least (by assumption))
  | (with_reducible exact Tx.cls_Space (by assumption))
  | (with_reducible exact Tx.na_Space_store (by assumption))
  | (with_reducible exact Tx.na_Space_pressure (by assumption))
  | (with_reducible exact Tx.na_Space_always (by assumption))
  | (with_reducible exact Tx.na_Space_allocations (by assumption))
  | (with_reducible exact Tx.na_Space_collections (by assumption))
  | (with_reducible exact Tx.na_Space__roots (by assumption))
  | (with_reducible exact Tx.na_Space__held (by assumption))
  | (with_reducible exact Tx.na_Space__saved (by assumption)))
section
variable {K : PySem.W.Frag} {mg : Str → Option Value}
theorem bn_k {k : Int} (h : k.natAbs < 2 ^ 40) : k.natAbs < 2 ^ 64 := Nat.lt_trans h (by decide)
theorem rd__law_number (T : Tx K mg) (vs : List V) (H : Hp) (Q : VK) (E : XK) (h : sp__law_number K vs H Q E) : t__law_number K { nx := fun _ H' => Q .non H', rt := Q } (start N__law_number vs) H := by
  obtain ⟨_, _, rfl, c, k, rfl, rfl, ⟨hc, hk⟩, q⟩ := h
  unfold lawN at q
  dsimp only at q
  have h18 : Ev (tOp oPow (tC (.int 10)) (tC (.int 18))) [some (.int c), some (.int k), none] H (.int 1000000000000000000) := Ev.is (ev_op ev_c ev_c (rv_I ⟨by decide, by decide, by decide⟩)) (by decide)
  refine enter (σ := [some (.int c), some (.int k), none]) (g_if (et_geI (ev_var rfl) h18) (fun hb => ?_) fun hb => g_end ?_)
  · rw [if_pos (of_decide_eq_true hb)] at q
    exact g_ret (ev_var rfl) q
  · rw [if_neg (of_decide_eq_false hb)] at q
    refine g_asg (ev_mod (ev_int (ev_add (ev_add (ev_mul (ev_var rfl) ev_c (hc.mul (by decide) (by decide) (by decide))) (ev_mul (ev_var rfl) ev_c (cmul_small (bn_k hk) (by decide)))) ev_c)) ev_c (by decide)) ?_
    have hm : ((c * 48271 + k * 69621 + 11) % 2147483647).natAbs < 2 ^ 64 := by
      have h1 := Int.emod_nonneg (c * 48271 + k * 69621 + 11) (show (2147483647 : Int) ≠ 0 by decide)
      have h2 := Int.emod_lt_of_pos (c * 48271 + k * 69621 + 11) (show (0 : Int) < 2147483647 by decide)
      have : ((c * 48271 + k * 69621 + 11) % 2147483647).natAbs < 2147483647 := by omega
      exact Nat.lt_trans this (by decide)
    exact g_ret (ev_mod (ev_int (ev_add (ev_mul (ev_var rfl) (ev_var rfl) (cmul_small hm hm)) (ev_mul (ev_var rfl) ev_c (cmul_small (bn_k hk) (by decide))))) ev_c (by decide)) q
theorem rd__law_word (T : Tx K mg) (vs : List V) (H : Hp) (Q : VK) (E : XK) (h : sp__law_word K vs H Q E) : t__law_word K { nx := fun _ H' => Q .non H', rt := Q } (start N__law_word vs) H := by
  obtain ⟨_, _, rfl, x, m, rfl, rfl, ⟨hx, hm0, hm1⟩, q⟩ := h
  unfold lawW at q
  dsimp only at q
  have hd : Bn 1048700 (x / 8) := hx.div (by decide)
  have h8 : Ev (tOp oMod (tCB rInt1 (tCons (tVar 0) tNil)) (tC (.int 8))) [some (.int x), some (.int m), some (.int (x / 8))] H (.int (x % 8)) := ev_mod (ev_int (ev_var rfl)) ev_c (by decide)
  have small : ∀ n : Int, 0 < n → n < 1000000000 → ∀ y : Int, (y % n).natAbs < 2 ^ 64 := fun n h0 h1 y => by
    have h2 := Int.emod_nonneg y (show n ≠ 0 by omega)
    have h3 := Int.emod_lt_of_pos y h0
    have : (y % n).natAbs < 1000000000 := by omega
    exact Nat.lt_trans this (by decide)
  refine enter (σ := [some (.int x), some (.int m), none]) (g_asg (ev_div (ev_var rfl) ev_c (by decide) (by decide)) ?_)
  refine g_if (et_eqI h8 ev_c) (fun hb => ?_) fun hb => g_end ?_
  · rw [if_pos (of_decide_eq_true hb)] at q
    refine g_ret (ev_add (ev_mul ev_c (ev_sub (ev_mod (ev_int (ev_mul (ev_var rfl) ev_c (hd.mul (by decide) (by decide) (by decide)))) ev_c (by decide)) ev_c) (cmul_small (by decide) ?_)) ev_c) q
    have h1 := Int.emod_nonneg (x / 8 * 48271) (show (536870912 : Int) ≠ 0 by decide)
    have h2 := Int.emod_lt_of_pos (x / 8 * 48271) (show (0 : Int) < 536870912 by decide)
    have : (x / 8 * 48271 % 536870912 - 268435456).natAbs < 536870912 := by omega
    exact Nat.lt_trans this (by decide)
  rw [if_neg (of_decide_eq_false hb)] at q
  refine g_if (et_eqI h8 ev_c) (fun hb => ?_) fun hb => g_end ?_
  · rw [if_pos (of_decide_eq_true hb)] at q
    exact g_ret (ev_add (ev_mul ev_c (ev_mod (ev_int (ev_mul (ev_var rfl) ev_c (hd.mul (by decide) (by decide) (by decide)))) ev_c (by decide)) (cmul_small (by decide) (small _ (by decide) (by decide) _))) ev_c) q
  rw [if_neg (of_decide_eq_false hb)] at q
  refine g_if (et_eqI h8 ev_c) (fun hb => ?_) fun hb => g_end ?_
  · rw [if_pos (of_decide_eq_true hb)] at q
    exact g_ret ev_c q
  rw [if_neg (of_decide_eq_false hb)] at q
  exact g_ret (ev_mul ev_c (ev_mod (ev_int (ev_var rfl)) (ev_add (ev_var rfl) ev_c) (by omega)) (cmul_small (by decide) (small _ (by omega) (by omega) _))) q
theorem lawW_ok {x m : Int} (h : 0 ≤ m) : OkW (lawW x m) := by
  intro he
  unfold lawW at he ⊢
  have h1 := Int.emod_nonneg (x / 8) (show m + 1 ≠ 0 by omega)
  split at he <;> rename_i h2
  · omega
  rw [if_neg h2]
  split at he <;> rename_i h3
  · omega
  rw [if_neg h3]
  split at he <;> rename_i h4
  · rw [if_pos h4]; omega
  rw [if_neg h4]
  omega
theorem lawN_bn {e : Nat} {c k : Int} (h : Bn e c) (he : 64 ≤ e) : Bn e (lawN c k) := by
  unfold lawN
  split
  · exact h
  · refine Bn.small ?_ he
    generalize (c * 48271 + k * 69621 + 11) % 2147483647 * ((c * 48271 + k * 69621 + 11) % 2147483647) + k * 40692 = y
    have h1 := Int.emod_nonneg y (show (2147483399 : Int) ≠ 0 by decide)
    have h2 := Int.emod_lt_of_pos y (show (0 : Int) < 2147483399 by decide)
    have : (y % 2147483399).natAbs < 2147483399 := by omega
    exact Nat.lt_trans this (by decide)
theorem rd__law_is (T : Tx K mg) (vs : List V) (H : Hp) (Q : VK) (E : XK) (h : sp__law_is K vs H Q E) : t__law_is K { nx := fun _ H' => Q .non H', rt := Q } (start N__law_is vs) H := by
  obtain ⟨_, _, rfl, i, j, rfl, rfl, _, q⟩ := h
  refine enter (σ := [some (.int i), some (.int j)]) (g_ret (Ev.is (ev_andV (ev_isiInt (ev_var rfl)) fun _ => ev_andV (ev_notV (ev_isiBool (ev_var rfl))) fun _ => ev_eqI (ev_var rfl) (ev_var rfl)) rfl) ?_)
  intro H1 s
  have q' := q H1 s
  simpa using q'
theorem spv_law_is {i j : Int} {H : Hp} : SpV (sp__law_is K) [.int i, .int j] H (.bl (decide (i = j))) := spv_I2 trivial
theorem spv_law_number {c k : Int} {H : Hp} (h : Bn 1048600 c) (hk : k.natAbs < 2 ^ 40) : SpV (sp__law_number K) [.int c, .int k] H (.int (lawN c k)) := spv_I2 ⟨h, hk⟩
theorem spv_law_word {x m : Int} {H : Hp} (h : Bn 1048700 x) (h0 : 0 ≤ m) (h1 : m < 1000000) : SpV (sp__law_word K) [.int x, .int m] H (.int (lawW x m)) := spv_I2 ⟨h, h0, h1⟩
/-- two lists that agree at every place -/
theorem same_upto {xs ys : List Int} (hl : xs.length = ys.length) (h : ∀ k, k < ys.length → xs.getD k 0 = ys.getD k 0) : xs = ys := List.ext_getElem hl fun k h1 h2 => by
  have := h k h2
  simpa [List.getD, h1, h2] using this
theorem rd__law_same (T : Tx K mg) (vs : List V) (H : Hp) (Q : VK) (E : XK) (h : sp__law_same K vs H Q E) : t__law_same K { nx := fun _ H' => Q .non H', rt := Q } (start N__law_same vs) H := by
  obtain ⟨_, _, rfl, p, r, xs, ys, rfl, rfl, hp, hr, hz, q⟩ := h
  have h1 : Ev (tCB (rLenS K) (tCons (tVar 0) tNil)) [some (.ref p), some (.ref r), none] H (.int (xs.length : Int)) := Ev.is (ev_len (Ev.q (a := p) (ev_var rfl) (SqL.of hp))) (by rw [List.length_map])
  have h2 : Ev (tCB (rLenS K) (tCons (tVar 1) tNil)) [some (.ref p), some (.ref r), none] H (.int (ys.length : Int)) := Ev.is (ev_len (Ev.q (a := r) (ev_var rfl) hr)) (by rw [List.length_map])
  refine enter (σ := [some (.ref p), some (.ref r), none]) (g_if (et_or (a := false) (et_not (a := true) (et_B (ev_isiL (Ev.l (a := p) (ev_var rfl) hp)))) fun _ => et_neI h1 h2) (fun hb => ?_) fun hb => g_end ?_)
  · have : ¬ xs = ys := fun e => by subst e; simp at hb
    rw [decide_eq_false this] at q
    exact g_ret ev_c q
  · have hl : xs.length = ys.length := by
      have : ((xs.length : Int)) = (ys.length : Int) := by simpa using hb
      omega
    refine g_forR (α := Unit) (fun k _ => ∀ m, m < k → xs.getD m 0 = ys.getD m 0) (fun _ _ => [some (.ref p), some (.ref r), none]) (fun _ _ => H) (ea_cons h2 ea_nil) (by omega) ⟨(), fun m hm => by omega, Sx.refl _, Same.refl _⟩ (fun k _ hk hI => ?_) fun _ hI => ?_
    · refine g_if (et_not (et_B (ev_call (ea_cons (ev_op (ev_var rfl) (ev_var rfl) (rv_ixI (SqL.of hp) (by omega) (by omega))) (ea_cons (ev_op (ev_var rfl) (ev_var rfl) (rv_ixI hr (by omega) (by omega))) ea_nil)) spv_law_is))) (fun hb => ?_) fun hb => g_end (g_next (Lp.cl () (fun m hm => ?_) (Sx.eq (Sx.eq (Sx.any Sx.nil))) (Same.refl _)))
      · rw [Int.toNat_natCast] at hb
        have : ¬ xs = ys := fun e => by subst e; simp at hb
        rw [decide_eq_false this] at q
        exact g_ret ev_c q
      · rw [Int.toNat_natCast] at hb
        rcases Nat.lt_or_eq_of_le (Nat.le_of_lt_succ hm) with h | h
        · exact hI m h
        · subst h; simpa using hb
    · rw [decide_eq_true (same_upto hl (by rw [Int.toNat_natCast] at hI; exact hI))] at q
      exact g_ret ev_c q
theorem rd__law_path_is (T : Tx K mg) (vs : List V) (H : Hp) (Q : VK) (E : XK) (h : sp__law_path_is K vs H Q E) : t__law_path_is K { nx := fun _ H' => Q .non H', rt := Q } (start N__law_path_is vs) H := by
  obtain ⟨_, _, rfl, p, r, xs, ys, rfl, rfl, hp, hr, hz, q⟩ := h
  have h1 : Ev (tCB (rLenS K) (tCons (tVar 0) tNil)) [some (.ref p), some (.ref r), none] H (.int (xs.length : Int)) := Ev.is (ev_lenT (Ev.tt (a := p) (ev_var rfl) (SqT.of hp))) (by rw [List.length_map])
  have h2 : Ev (tCB (rLenS K) (tCons (tVar 1) tNil)) [some (.ref p), some (.ref r), none] H (.int (ys.length : Int)) := Ev.is (ev_lenT (Ev.tt (a := r) (ev_var rfl) hr)) (by rw [List.length_map])
  refine enter (σ := [some (.ref p), some (.ref r), none]) (g_if (et_or (a := false) (et_not (a := true) (et_B (ev_isiT (Ev.tp (a := p) (ev_var rfl) hp)))) fun _ => et_neI h1 h2) (fun hb => ?_) fun hb => g_end ?_)
  · have : ¬ xs = ys := fun e => by subst e; simp at hb
    rw [decide_eq_false this] at q
    exact g_ret ev_c q
  · have hl : xs.length = ys.length := by
      have : ((xs.length : Int)) = (ys.length : Int) := by simpa using hb
      omega
    refine g_forR (α := Unit) (fun k _ => ∀ m, m < k → xs.getD m 0 = ys.getD m 0) (fun _ _ => [some (.ref p), some (.ref r), none]) (fun _ _ => H) (ea_cons h2 ea_nil) (by omega) ⟨(), fun m hm => by omega, Sx.refl _, Same.refl _⟩ (fun k _ hk hI => ?_) fun _ hI => ?_
    · refine g_if (et_not (et_B (ev_call (ea_cons (ev_op (ev_var rfl) (ev_var rfl) (rv_ixTI (SqT.of hp) (by omega) (by omega))) (ea_cons (ev_op (ev_var rfl) (ev_var rfl) (rv_ixTI hr (by omega) (by omega))) ea_nil)) spv_law_is))) (fun hb => ?_) fun hb => g_end (g_next (Lp.cl () (fun m hm => ?_) (Sx.eq (Sx.eq (Sx.any Sx.nil))) (Same.refl _)))
      · rw [Int.toNat_natCast] at hb
        have : ¬ xs = ys := fun e => by subst e; simp at hb
        rw [decide_eq_false this] at q
        exact g_ret ev_c q
      · rw [Int.toNat_natCast] at hb
        rcases Nat.lt_or_eq_of_le (Nat.le_of_lt_succ hm) with h | h
        · exact hI m h
        · subst h; simpa using hb
    · rw [decide_eq_true (same_upto hl (by rw [Int.toNat_natCast] at hI; exact hI))] at q
      exact g_ret ev_c q
end
section
variable {K : PySem.W.Frag} {mg : Str → Option Value}
theorem mod_in {y n : Int} (h : 0 < n) : 0 ≤ y % n ∧ y % n < n := ⟨Int.emod_nonneg y (by omega), Int.emod_lt_of_pos y h⟩
theorem small_k {k : Nat} (h : k ≤ 1000000) (j : Int) (h0 : 0 ≤ j) (h1 : j ≤ 1000) : ((k : Int) + j).natAbs < 2 ^ 40 := by
  have : ((k : Int) + j).natAbs < 2000000 := by omega
  exact Nat.lt_trans this (by decide)
theorem bn_rest {i : Int} {k : Nat} (h : Bn 1048590 i) (hk : k ≤ 1000000) : Bn 1048600 (i + (k : Int)) :=
  (h.add (Bn.small (e := 1048590) (x := (k : Int)) (by have : ((k : Int)).natAbs < 2000000 := by omega
                                                       exact Nat.lt_trans this (by decide)) (by decide))).mono (by decide)
theorem rd__law_sizes (T : Tx K mg) (vs : List V) (H : Hp) (Q : VK) (E : XK) (h : sp__law_sizes K vs H Q E) : t__law_sizes K { nx := fun _ H' => Q .non H', rt := Q } (start N__law_sizes vs) H := by
  obtain ⟨_, rfl, i, rfl, hi, q⟩ := h
  have main : ∀ c : Int, 0 ≤ c → c ≤ 39 → Go (tSeq (tAsg (tOp oDiv (tVar 0) (tC (.int 7040))) (gName 2)) (tSeq (tAsg (tLst (tNil)) (gName 3)) (tSeq (tFor (iRng1 (tCons (tVar 1) (tNil))) (gName 4)
      (tSeq (tAsg (tCall (sp__law_number K) [] E0 (tCons (tOp oAdd (tVar 2) (tVar 4)) (tCons (tOp oAdd (tVar 4) (tC (.int 90))) (tNil)))) (gName 5))
      (tSeq (tAsg (tOp oDiv (tVar 2) (tC (.int 10007))) (gName 2))
      (tSeq (tDrop (tBM K "list" rAppend (tVar 3) (tCons (tOp oMod (tCB (rInt1) (tCons (tVar 5) (tNil))) (tC (.int 4))) (tNil))))
      (tSeq (tIfS (tTest (tOp rEq (tOp oMod (tOp oDiv (tVar 5) (tC (.int 4))) (tC (.int 16))) (tC (.int 3)))) (tSeq (tAsg (tOp oMod (tOp oDiv (tVar 5) (tC (.int 64))) (tC (.int 20))) (gSub (tVar 3) (tVar 4) rSetL)) (tNext)) (tNext))
      (tSeq (tIfS (tAnd (tTest (tOp rEq (tVar 4) (tC (.int 0)))) (tTest (tOp oGt (tOp oMod (tOp oDiv (tVar 5) (tC (.int 4))) (tC (.int 4))) (tC (.int 0))))) (tSeq (tAsg (tC (.int 0)) (gSub (tVar 3) (tVar 4) rSetL)) (tNext)) (tNext)) (tNext))))))) (tSeq (tRet (tVar 3)) (tNext)))))
      { nx := fun _ H' => Q .non H', rt := Q } [some (.int i), some (.int c), none, none, none, none] H := by
    intro c hc0 hc1
    refine g_asg (ev_div (ev_var rfl) ev_c (by decide) (by decide)) (g_asgN (o := .lst []) (en_lst ea_nil (of_decide_eq_true rfl)) fun sl hsl => ?_)
    refine g_forR (α := Int × List Int) (fun k x => Bn 1048590 x.1 ∧ x.2.length = k ∧ ∀ n ∈ x.2, 0 ≤ n ∧ n ≤ 19) (fun k x => [some (.int i), some (.int c), some (.int x.1), some (.ref sl), none, none]) (fun k x => upd H sl (.lst (x.2.map V.int)))
      (ea_cons (ev_var rfl) ea_nil) (by omega) ⟨(i / 7040, []), ⟨hi.div (by decide), rfl, by simp⟩, Sx.refl _, Same.refl _⟩ ?_ ?_
    · rintro k ⟨r, ns⟩ hk ⟨hr, hl, hn⟩
      have hl : ns.length = k := hl
      have hr : Bn 1048590 r := hr
      refine g_asg (v := .int (lawN (r + k) (k + 90))) (ev_call (ea_cons (ev_add (ev_var rfl) (ev_var rfl)) (ea_cons (ev_add (ev_var rfl) ev_c) ea_nil)) (spv_law_number (bn_rest hr (by omega)) (small_k (by omega) _ (by decide) (by decide)))) ?_
      generalize lawN (r + k) (k + 90) = y
      refine g_asg (ev_div (ev_var rfl) ev_c (by decide) (by decide)) (g_app upd_same (ev_var rfl) (ev_mod (ev_int (ev_var rfl)) ev_c (by decide)) (by rw [List.length_map]; omega) ?_)
      rw [upd_upd]
      have last : ∀ ms : List Int, ms.length = k + 1 → (∀ n ∈ ms, 0 ≤ n ∧ n ≤ 19) → ∀ σ, Sx [some (.int i), some (.int c), some (.int (r / 10007)), some (.ref sl), none, none] σ →
          Cl (Lp (fun x : Int × List Int => Bn 1048590 x.1 ∧ x.2.length = k + 1 ∧ ∀ n ∈ x.2, 0 ≤ n ∧ n ≤ 19) (fun x => [some (.int i), some (.int c), some (.int x.1), some (.ref sl), none, none]) (fun x => upd H sl (.lst (x.2.map V.int)))) σ (upd H sl (.lst (ms.map V.int))) := fun ms h1 h2 σ sx =>
        Lp.cl (r / 10007, ms) ⟨hr.div (by decide), h1, h2⟩ sx (Same.refl _)
      have sxx : Sx [some (.int i), some (.int c), some (.int (r / 10007)), some (.ref sl), none, none] [some (.int i), some (.int c), some (.int (r / 10007)), some (.ref sl), some (.int (k : Int)), some (.int y)] := Sx.eq (Sx.eq (Sx.eq (Sx.eq (Sx.any (Sx.any Sx.nil)))))
      have setn : ∀ (ms : List Int) (v : Int), (∀ n ∈ ms, 0 ≤ n ∧ n ≤ 19) → 0 ≤ v ∧ v ≤ 19 → ∀ n ∈ ms.set k v, 0 ≤ n ∧ n ≤ 19 := fun ms v h1 h2 n hn => by
        rcases List.mem_or_eq_of_mem_set hn with h | h
        · exact h1 n h
        · rw [h]; exact h2
      have second : ∀ ms : List Int, ms.length = k + 1 → (∀ n ∈ ms, 0 ≤ n ∧ n ≤ 19) → Go (tSeq (tIfS (tAnd (tTest (tOp rEq (tVar 4) (tC (.int 0)))) (tTest (tOp oGt (tOp oMod (tOp oDiv (tVar 5) (tC (.int 4))) (tC (.int 4))) (tC (.int 0))))) (tSeq (tAsg (tC (.int 0)) (gSub (tVar 3) (tVar 4) rSetL)) (tNext)) (tNext)) (tNext))
          { nx := Lp (fun x : Int × List Int => Bn 1048590 x.1 ∧ x.2.length = k + 1 ∧ ∀ n ∈ x.2, 0 ≤ n ∧ n ≤ 19) (fun x => [some (.int i), some (.int c), some (.int x.1), some (.ref sl), none, none]) (fun x => upd H sl (.lst (x.2.map V.int))), ct := Lp (fun x : Int × List Int => Bn 1048590 x.1 ∧ x.2.length = k + 1 ∧ ∀ n ∈ x.2, 0 ≤ n ∧ n ≤ 19) (fun x => [some (.int i), some (.int c), some (.int x.1), some (.ref sl), none, none]) (fun x => upd H sl (.lst (x.2.map V.int))), bk := tSeq (tRet (tVar 3)) (tNext) { nx := fun _ H' => Q .non H', rt := Q }, rt := Q }
          [some (.int i), some (.int c), some (.int (r / 10007)), some (.ref sl), some (.int (k : Int)), some (.int y)] (upd H sl (.lst (ms.map V.int))) := fun ms h1 h2 => by
        refine g_if (et_and (et_eqI (ev_var rfl) ev_c) fun _ => et_gtI (ev_mod (ev_div (ev_var rfl) ev_c (by decide) (by decide)) ev_c (by decide)) ev_c) (fun _ => ?_) fun _ => g_end (g_next (last ms h1 h2 _ sxx))
        refine g_setL (j := k) upd_same ev_c (ev_var rfl) (ev_var rfl) (by rw [ix_nat (by omega) (by rw [List.length_map]; omega), Int.toNat_natCast]) (g_next (g_end (g_next ?_)))
        rw [upd_upd, ← List.map_set]
        exact last _ (by rw [List.length_set]; exact h1) (setn _ _ h2 (by decide)) _ sxx
      have base : ∀ n ∈ ns ++ [y % 4], 0 ≤ n ∧ n ≤ 19 := fun n hn' => by
        rcases List.mem_append.mp hn' with h | h
        · exact hn n h
        · have := mod_in (y := y) (n := 4) (by decide)
          rw [List.mem_singleton.mp h]; omega
      have em : ns.map V.int ++ [V.int (y % 4)] = (ns ++ [y % 4]).map V.int := by simp
      rw [em]
      refine g_if (et_eqI (ev_mod (ev_div (ev_var rfl) ev_c (by decide) (by decide)) ev_c (by decide)) ev_c) (fun _ => ?_) fun _ => g_end (second _ (by simp [hl]) base)
      refine g_setL (j := k) upd_same (ev_mod (ev_div (ev_var rfl) ev_c (by decide) (by decide)) ev_c (by decide)) (ev_var rfl) (ev_var rfl) (by rw [ix_nat (by omega) (by simp [hl]; omega), Int.toNat_natCast]) (g_next (g_end ?_))
      rw [upd_upd, ← List.map_set]
      refine second _ (by rw [List.length_set]; simp [hl]) (setn _ _ base ?_)
      have := mod_in (y := y / 64) (n := 20) (by decide)
      omega
    · rintro ⟨r, ns⟩ ⟨hr, hl, hn⟩
      exact g_ret (ev_var rfl) fun H1 s => q ns (by have hl : ns.length = c.toNat := hl
                                                    omega) hn sl H1 hsl s
  have h11 := mod_in (y := i) (n := 11) (by decide)
  have h40 := mod_in (y := i / 88) (n := 40) (by decide)
  refine enter (σ := [some (.int i), none, none, none, none, none]) (g_asg (ev_mod (ev_int (ev_var rfl)) ev_c (by decide)) ?_)
  refine g_if (et_eqI (ev_mod (ev_div (ev_var rfl) ev_c (by decide) (by decide)) ev_c (by decide)) ev_c) (fun _ => ?_) fun _ => g_end (main _ (by omega) (by omega))
  exact g_asg (ev_mod (ev_div (ev_var rfl) ev_c (by decide) (by decide)) ev_c (by decide)) (g_next (g_end (main _ (by omega) (by omega))))
theorem rd__law_roots (T : Tx K mg) (vs : List V) (H : Hp) (Q : VK) (E : XK) (h : sp__law_roots K vs H Q E) : t__law_roots K { nx := fun _ H' => Q .non H', rt := Q } (start N__law_roots vs) H := by
  obtain ⟨_, _, rfl, m, i, rfl, hm0, hm1, rfl, hi, q⟩ := h
  refine enter (σ := [some (.int m), some (.int i), none, none, none, none]) (g_asgN (o := .lst []) (en_lst ea_nil (of_decide_eq_true rfl)) fun sl hsl => g_asg (ev_var rfl) ?_)
  refine g_forR (α := Int × List Int) (fun k x => Bn 1048590 x.1 ∧ (k ≤ 16 → x.2.length = k) ∧ (16 ≤ k → 16 ≤ x.2.length ∧ x.2.length ≤ k) ∧ ∀ n ∈ x.2, OkW n) (fun k x => [some (.int m), some (.int i), some (.ref sl), some (.int x.1), none, none]) (fun k x => upd H sl (.lst (x.2.map V.int)))
      (ea_cons ev_c ea_nil) (by omega) ⟨(i, []), ⟨hi, fun _ => rfl, fun h => by omega, by simp⟩, Sx.refl _, Same.refl _⟩ ?_ ?_
  · rintro k ⟨r, ns⟩ hk ⟨hr, hl1, hl2, hn⟩
    have hr : Bn 1048590 r := hr
    have hl1 : k ≤ 16 → ns.length = k := hl1
    have hl2 : 16 ≤ k → 16 ≤ ns.length ∧ ns.length ≤ k := hl2
    refine g_asg (v := .int (lawN (r + k) (k + 300))) (ev_call (ea_cons (ev_add (ev_var rfl) (ev_var rfl)) (ea_cons (ev_add (ev_var rfl) ev_c) ea_nil)) (spv_law_number (bn_rest hr (by omega)) (small_k (by omega) _ (by decide) (by decide)))) ?_
    have hy : Bn 1048600 (lawN (r + k) (k + 300)) := lawN_bn (bn_rest hr (by omega)) (by decide)
    generalize lawN (r + k) (k + 300) = y at hy
    refine g_asg (ev_div (ev_var rfl) ev_c (by decide) (by decide)) ?_
    have sxx : Sx [some (.int m), some (.int i), some (.ref sl), some (.int (r / 1009)), none, none] [some (.int m), some (.int i), some (.ref sl), some (.int (r / 1009)), some (.int (k : Int)), some (.int y)] := Sx.eq (Sx.eq (Sx.eq (Sx.eq (Sx.any (Sx.any Sx.nil)))))
    have hlz : (ns.map V.int).length < 2000000 := by rw [List.length_map]; omega
    have app : ∀ w : Int, OkW w → ∀ n ∈ ns ++ [w], OkW n := fun w hw n hn' => by
      rcases List.mem_append.mp hn' with h | h
      · exact hn n h
      · rw [List.mem_singleton.mp h]; exact hw
    have em : ∀ w : Int, ns.map V.int ++ [V.int w] = (ns ++ [w]).map V.int := fun w => by simp
    refine g_if (et_gtI (ev_var rfl) ev_c) (fun hb => ?_) fun hb => ?_
    · have hb : (15 : Int) < k := of_decide_eq_true hb
      refine g_if (et_eqI (ev_mod (ev_int (ev_var rfl)) ev_c (by decide)) ev_c) (fun _ => ?_) fun _ => g_end (g_next (g_end (g_next (Lp.cl (r / 1009, ns) ⟨hr.div (by decide), fun h => by omega, fun _ => (⟨(hl2 (by omega)).1, Nat.le_succ_of_le (hl2 (by omega)).2⟩ : 16 ≤ ns.length ∧ ns.length ≤ k + 1), hn⟩ sxx (Same.refl _)))))
      refine g_app upd_same (ev_var rfl) (ev_call (ea_cons (ev_div (ev_var rfl) ev_c (by decide) (by decide)) (ea_cons (ev_var rfl) ea_nil)) (spv_law_word ((hy.div (by decide)).mono (by decide)) hm0 hm1)) hlz (g_next (g_end (g_next (g_end (g_next ?_)))))
      rw [upd_upd, em]
      refine Lp.cl (r / 1009, _) ⟨hr.div (by decide), fun h => by omega, fun _ => ?_, app _ (lawW_ok hm0)⟩ sxx (Same.refl _)
      have := hl2 (by omega)
      simp; omega
    · have hb : ¬ (15 : Int) < k := of_decide_eq_false hb
      refine g_if (et_eqI (ev_mod (ev_int (ev_var rfl)) ev_c (by decide)) ev_c) (fun _ => ?_) fun _ => ?_
      · refine g_app upd_same (ev_var rfl) (ev_call (ea_cons (ev_div (ev_var rfl) ev_c (by decide) (by decide)) (ea_cons (ev_var rfl) ea_nil)) (spv_law_word ((hy.div (by decide)).mono (by decide)) hm0 hm1)) hlz (g_next (g_end (g_next (g_end (g_next ?_)))))
        rw [upd_upd, em]
        refine Lp.cl (r / 1009, _) ⟨hr.div (by decide), fun h => ?_, fun _ => ?_, app _ (lawW_ok hm0)⟩ sxx (Same.refl _)
        · have := hl1 (by omega); simp; omega
        · have := hl1 (by omega); simp; omega
      · refine g_app upd_same (ev_var rfl) ev_c hlz (g_next (g_end (g_next (g_end (g_next ?_)))))
        rw [upd_upd, em]
        refine Lp.cl (r / 1009, _) ⟨hr.div (by decide), fun h => ?_, fun _ => ?_, app _ (fun _ => Int.le_refl _)⟩ sxx (Same.refl _)
        · have := hl1 (by omega); simp; omega
        · have := hl1 (by omega); simp; omega
  · rintro ⟨r, ns⟩ ⟨hr, hl1, hl2, hn⟩
    have hl2 : 16 ≤ (20 : Int).toNat → 16 ≤ ns.length ∧ ns.length ≤ (20 : Int).toNat := hl2
    have h20 : (20 : Int).toNat = 20 := rfl
    have h3 := hl2 (by omega)
    exact g_ret (ev_var rfl) fun H1 s => q ns ⟨h3.1, by omega, hn⟩ sl H1 hsl s
end
section
variable {K : PySem.W.Frag} {mg : Str → Option Value}
/-- lists behind a list -/
def RowsL (rl : Addr) (rows : List (List Int)) (xs : List V) (H : Hp) : Prop := xs.length = rows.length ∧ ∀ (k : Nat) x, xs[k]? = some x → ∃ row, rows[k]? = some row ∧ ∃ q, x = .ref q ∧ H q = some (.lst (row.map V.int)) ∧ q ≠ rl
theorem RowsL.app {rl q : Addr} {rows : List (List Int)} {xs : List V} {H : Hp} {row : List Int} (h : RowsL rl rows xs H) (hq : H q = some (.lst (row.map V.int))) (hn : q ≠ rl) : RowsL rl (rows ++ [row]) (xs ++ [.ref q]) H := by
  refine ⟨by simp [h.1], fun k x hx => ?_⟩
  by_cases hk : k < xs.length
  · rw [List.getElem?_append_left hk] at hx
    rw [List.getElem?_append_left (by rw [← h.1]; exact hk)]
    exact h.2 k x hx
  · rw [List.getElem?_append_right (by omega)] at hx
    have e : k = xs.length := by
      by_cases hz : k - xs.length = 0
      · omega
      · rw [show k - xs.length = (k - xs.length - 1) + 1 by omega] at hx; simp at hx
    subst e
    rw [Nat.sub_self] at hx
    cases hx
    exact ⟨row, by rw [List.getElem?_append_right (by rw [h.1]; exact Nat.le_refl _), h.1, Nat.sub_self]; rfl, q, rfl, hq, hn⟩
theorem RowsL.upd {rl p : Addr} {rows : List (List Int)} {xs : List V} {H : Hp} {o : HO} (h : RowsL rl rows xs H) (hp : p = rl ∨ H p = none) : RowsL rl rows xs (upd H p o) := by
  refine ⟨h.1, fun k x hx => ?_⟩
  obtain ⟨row, h1, q, h2, h3, h4⟩ := h.2 k x hx
  refine ⟨row, h1, q, h2, ?_, h4⟩
  rw [upd_ne]
  · exact h3
  · rcases hp with e | e
    · rw [e]; exact h4
    · exact ne_of_none h3 e
theorem ints_at {ns : List Int} {k : Nat} (h : k < ns.length) : ns.getD k 0 ∈ ns := getD_mem h
theorem RowsL.mono {rl : Addr} {rows : List (List Int)} {xs : List V} {H H1 : Hp} (h : RowsL rl rows xs H) (s : Same H H1) : RowsL rl rows xs H1 := by
  refine ⟨h.1, fun k x hx => ?_⟩
  obtain ⟨row, h1, q, h2, h3, h4⟩ := h.2 k x hx
  exact ⟨row, h1, q, h2, s _ _ h3, h4⟩
theorem rd__law_rows (T : Tx K mg) (vs : List V) (H : Hp) (Q : VK) (E : XK) (h : sp__law_rows K vs H Q E) : t__law_rows K { nx := fun _ H' => Q .non H', rt := Q } (start N__law_rows vs) H := by
  obtain ⟨_, _, rfl, p, ns, i, rfl, hp, hl, hn, rfl, hi, q⟩ := h
  refine enter (σ := [some (.ref p), some (.int i), none, none, none, none, none, none]) (g_asgN (o := .lst []) (en_lst ea_nil (of_decide_eq_true rfl)) fun rl hrl => g_asg (ev_var rfl) ?_)
  have lenE : ∀ σ G, Same H G → σ[0]? = some (some (V.ref p)) → Ev (tCB (rLenS K) (tCons (tVar 0) tNil)) σ G (.int (ns.length : Int)) := fun σ G s e => Ev.is (ev_len (Ev.q (a := p) (ev_var e) (same_l s hp))) (by rw [List.length_map])
  refine g_forR (α := Int × List (List Int) × List V × Hp) (fun k x => Bn 1048590 x.1 ∧ x.2.1.length = k ∧ (∀ r ∈ x.2.1, 1 ≤ r.length ∧ r.length ≤ 20 ∧ ∀ w ∈ r, OkW w) ∧ Same H x.2.2.2 ∧ x.2.2.2 rl = some (.lst x.2.2.1) ∧ RowsL rl x.2.1 x.2.2.1 x.2.2.2)
    (fun k x => [some (.ref p), some (.int i), some (.ref rl), some (.int x.1), none, none, none, none]) (fun k x => x.2.2.2) (ea_cons (lenE _ _ (same_new hrl) rfl) ea_nil) (by omega)
    ⟨(i, [], [], upd H rl (.lst [])), ⟨hi, rfl, by simp, same_new hrl, upd_same, rfl, fun k x hx => by simp at hx⟩, Sx.refl _, Same.refl _⟩ ?_ ?_
  · rintro k ⟨r, rows, xs, G⟩ hk ⟨hr, hlr, hrow, sG, hxl, hR⟩
    have hr : Bn 1048590 r := hr
    have hlr : rows.length = k := hlr
    have hR : RowsL rl rows xs G := hR
    have hxl : G rl = some (.lst xs) := hxl
    have sG : Same H G := sG
    have hk' : k < ns.length := by omega
    obtain ⟨hs0, hs1⟩ := hn _ (ints_at hk')
    refine g_asg (v := .int (lawN (r + k) k)) (ev_call (ea_cons (ev_add (ev_var rfl) (ev_var rfl)) (ea_cons (ev_var rfl) ea_nil)) (spv_law_number (bn_rest hr (by omega)) ?_)) ?_
    · have : ((k : Int)).natAbs < 2000000 := by omega
      exact Nat.lt_trans this (by decide)
    have hy : Bn 1048600 (lawN (r + k) k) := lawN_bn (bn_rest hr (by omega)) (by decide)
    generalize lawN (r + k) k = y at hy
    refine g_asg (ev_div (ev_var rfl) ev_c (by decide) (by decide)) ?_
    have hsz : ∀ σ, σ[0]? = some (some (V.ref p)) → σ[4]? = some (some (V.int (k : Int))) → Ev (tOp (rIxL K) (tVar 0) (tVar 4)) σ G (.int (ns.getD k 0)) := fun σ e0 e4 => Ev.is (ev_op (ev_var e0) (ev_var e4) (rv_ixI (same_l sG hp) (by omega) (by omega))) (by rw [Int.toNat_natCast])
    generalize hsk : ns.getD k 0 = sk at hs0 hs1 hsz
    have hcomp := en_lcR (σ := [some (.ref p), some (.int i), some (.ref rl), some (.int (r / 1000003)), some (.int (k : Int)), some (.int y), none, none]) (H := G) (j := 7) (tA := tCons (tOp oAdd (tC (.int 1)) (tOp (rIxL K) (tVar 0) (tVar 4))) tNil) (n := 1 + sk) (tt := tYes)
      (te := tCall (sp__law_word K) [] E0 (tCons (tOp oAdd (tOp oAdd (tOp oDiv (tVar 5) (tC (.int 36))) (tOp oMul (tVar 7) (tC (.int 104729)))) (tOp oMul (tVar 7) (tVar 7))) (tCons (tCB (rLenS K) (tCons (tVar 0) (tNil))) (tNil))))
      (fun _ => true) (fun (m : Nat) => V.int (lawW (y / 36 + (m : Int) * 104729 + (m : Int) * (m : Int)) ns.length)) (ea_cons (ev_add ev_c (hsz _ rfl rfl)) ea_nil) (by omega) (fun m hm => et_yes) (fun m hm _ => ?_)
    · have hf : ((List.range (1 + sk).toNat).filter fun _ => true).map (fun (m : Nat) => V.int (lawW (y / 36 + (m : Int) * 104729 + (m : Int) * (m : Int)) ns.length)) = (((List.range (1 + sk).toNat).map fun (m : Nat) => lawW (y / 36 + (m : Int) * 104729 + (m : Int) * (m : Int)) ns.length)).map V.int := by
        rw [List.filter_eq_self.mpr (fun _ _ => rfl), List.map_map]; rfl
      rw [hf] at hcomp
      have hrl0 : ((List.range (1 + sk).toNat).map fun (m : Nat) => lawW (y / 36 + (m : Int) * 104729 + (m : Int) * (m : Int)) ns.length).length = (1 + sk).toNat := by rw [List.length_map, List.length_range]
      have hok0 : ∀ w ∈ ((List.range (1 + sk).toNat).map fun (m : Nat) => lawW (y / 36 + (m : Int) * 104729 + (m : Int) * (m : Int)) ns.length), OkW w := fun w hw => by
        obtain ⟨m, _, rfl⟩ := List.mem_map.mp hw
        exact lawW_ok (by omega)
      generalize ((List.range (1 + sk).toNat).map fun (m : Nat) => lawW (y / 36 + (m : Int) * 104729 + (m : Int) * (m : Int)) ns.length) = row0 at hcomp hrl0 hok0
      refine g_asgN hcomp fun rw hrw => ?_
      have hne : rw ≠ rl := (ne_of_none hxl hrw).symm
      -- the last statement: the row joins
      have fin : ∀ row : List Int, row.length = (1 + sk).toNat → (∀ w ∈ row, OkW w) → Go (tSeq (tDrop (tBM K "list" rAppend (tVar 2) (tCons (tVar 6) (tNil)))) (tNext))
          { nx := Lp (fun x : Int × List (List Int) × List V × Hp => Bn 1048590 x.1 ∧ x.2.1.length = k + 1 ∧ (∀ r ∈ x.2.1, 1 ≤ r.length ∧ r.length ≤ 20 ∧ ∀ w ∈ r, OkW w) ∧ Same H x.2.2.2 ∧ x.2.2.2 rl = some (.lst x.2.2.1) ∧ RowsL rl x.2.1 x.2.2.1 x.2.2.2) (fun x => [some (.ref p), some (.int i), some (.ref rl), some (.int x.1), none, none, none, none]) (fun x => x.2.2.2),
            ct := Lp (fun x : Int × List (List Int) × List V × Hp => Bn 1048590 x.1 ∧ x.2.1.length = k + 1 ∧ (∀ r ∈ x.2.1, 1 ≤ r.length ∧ r.length ≤ 20 ∧ ∀ w ∈ r, OkW w) ∧ Same H x.2.2.2 ∧ x.2.2.2 rl = some (.lst x.2.2.1) ∧ RowsL rl x.2.1 x.2.2.1 x.2.2.2) (fun x => [some (.ref p), some (.int i), some (.ref rl), some (.int x.1), none, none, none, none]) (fun x => x.2.2.2),
            bk := tSeq (tRet (tVar 2)) (tNext) { nx := fun _ H' => Q .non H', rt := Q }, rt := Q } [some (.ref p), some (.int i), some (.ref rl), some (.int (r / 1000003)), some (.int (k : Int)), some (.int y), some (.ref rw), none] (upd G rw (.lst (row.map V.int))) := fun row h1 h2 => by
        have hxl2 : upd G rw (.lst (row.map V.int)) rl = some (.lst xs) := (upd_ne hne.symm).trans hxl
        have hxz : xs.length < 2000000 := by have := hR.1; omega
        refine g_app hxl2 (ev_var rfl) (ev_var rfl) hxz (g_next (Lp.cl (r / 1000003, rows ++ [row], xs ++ [V.ref rw], _) ⟨hr.div (by decide), by show (rows ++ [row]).length = k + 1; simp [hlr], fun r' hr' => ?_, ?_, upd_same, ?_⟩ ?_ (Same.refl _)))
        · rcases List.mem_append.mp hr' with h | h
          · exact hrow r' h
          · rw [List.mem_singleton.mp h]; exact ⟨by omega, by omega, h2⟩
        · exact same_mut (sG.trans (same_new hrw)) hrl
        · exact ((hR.upd (.inr hrw)).app upd_same hne).upd (.inl rfl)
        · exact Sx.eq (Sx.eq (Sx.eq (Sx.eq (Sx.any (Sx.any (Sx.any (Sx.any Sx.nil)))))))
      have setn : ∀ (row : List Int) (j : Nat) (v : Int), (∀ w ∈ row, OkW w) → OkW v → ∀ w ∈ row.set j v, OkW w := fun row j v h1 h2 w hw => by
        rcases List.mem_or_eq_of_mem_set hw with h | h
        · exact h1 w h
        · rw [h]; exact h2
      have hsz2 : ∀ row : List Int, Ev (tOp (rIxL K) (tVar 0) (tVar 4)) [some (.ref p), some (.int i), some (.ref rl), some (.int (r / 1000003)), some (.int (k : Int)), some (.int y), some (.ref rw), none] (upd G rw (.lst (row.map V.int))) (.int sk) := fun row => (hsz _ rfl rfl).mono (same_new hrw)
      have second : ∀ row : List Int, row.length = (1 + sk).toNat → (∀ w ∈ row, OkW w) → Go (tSeq (tIfS (tAnd (tTest (tOp rEq (tOp oMod (tCB (rInt1) (tCons (tVar 5) (tNil))) (tC (.int 4))) (tC (.int 0)))) (tAnd (tTest (tOp oGt (tOp (rIxL K) (tVar 0) (tVar 4)) (tC (.int 0)))) (tTest (tOp oGt (tVar 4) (tC (.int 0))))))
            (tSeq (tAsg (tOp oMul (tC (.int 2)) (tOp oSub (tVar 4) (tC (.int 1)))) (gSub (tVar 6) (tC (.int 1)) rSetL)) (tNext)) (tNext)) (tSeq (tDrop (tBM K "list" rAppend (tVar 2) (tCons (tVar 6) (tNil)))) (tNext)))
          { nx := Lp (fun x : Int × List (List Int) × List V × Hp => Bn 1048590 x.1 ∧ x.2.1.length = k + 1 ∧ (∀ r ∈ x.2.1, 1 ≤ r.length ∧ r.length ≤ 20 ∧ ∀ w ∈ r, OkW w) ∧ Same H x.2.2.2 ∧ x.2.2.2 rl = some (.lst x.2.2.1) ∧ RowsL rl x.2.1 x.2.2.1 x.2.2.2) (fun x => [some (.ref p), some (.int i), some (.ref rl), some (.int x.1), none, none, none, none]) (fun x => x.2.2.2),
            ct := Lp (fun x : Int × List (List Int) × List V × Hp => Bn 1048590 x.1 ∧ x.2.1.length = k + 1 ∧ (∀ r ∈ x.2.1, 1 ≤ r.length ∧ r.length ≤ 20 ∧ ∀ w ∈ r, OkW w) ∧ Same H x.2.2.2 ∧ x.2.2.2 rl = some (.lst x.2.2.1) ∧ RowsL rl x.2.1 x.2.2.1 x.2.2.2) (fun x => [some (.ref p), some (.int i), some (.ref rl), some (.int x.1), none, none, none, none]) (fun x => x.2.2.2),
            bk := tSeq (tRet (tVar 2)) (tNext) { nx := fun _ H' => Q .non H', rt := Q }, rt := Q } [some (.ref p), some (.int i), some (.ref rl), some (.int (r / 1000003)), some (.int (k : Int)), some (.int y), some (.ref rw), none] (upd G rw (.lst (row.map V.int))) := fun row h1 h2 => by
        refine g_if (et_and (et_eqI (ev_mod (ev_int (ev_var rfl)) ev_c (by decide)) ev_c) fun _ => et_and (et_gtI (hsz2 row) ev_c) fun _ => et_gtI (ev_var rfl) ev_c) (fun hb => ?_) fun _ => g_end (fin row h1 h2)
        obtain ⟨hb1, hb2⟩ := Bool.and_eq_true_iff.mp hb
        obtain ⟨hb3, hb4⟩ := Bool.and_eq_true_iff.mp hb2
        have hb3 : 0 < sk := of_decide_eq_true hb3
        have hb4 : (0 : Int) < k := of_decide_eq_true hb4
        refine g_setL (j := 1) upd_same (ev_mul ev_c (ev_sub (ev_var rfl) ev_c) (cmul_small (by decide) ?_)) (ev_var rfl) ev_c (by rw [ix_nat (by decide) (by rw [List.length_map]; omega)]; rfl) (g_next (g_end ?_))
        · have : ((k : Int) - 1).natAbs < 2000000 := by omega
          exact Nat.lt_trans this (by decide)
        · rw [upd_upd, ← List.map_set]
          exact fin _ (by rw [List.length_set]; exact h1) (setn _ _ _ h2 fun _ => by omega)
      refine g_if (et_eqI (ev_mod (ev_int (ev_var rfl)) ev_c (by decide)) ev_c) (fun _ => ?_) fun _ => g_end (second row0 hrl0 hok0)
      refine g_setL (j := 0) upd_same ev_c (ev_var rfl) ev_c (by rw [ix_nat (by decide) (by rw [List.length_map]; omega)]; rfl) (g_next (g_end ?_))
      rw [upd_upd, ← List.map_set]
      exact second _ (by rw [List.length_set]; exact hrl0) (setn _ _ _ hok0 fun _ => Int.le_refl _)
    · have hm2 : (m : Int) ≤ 20 := by omega
      have hmn : ((m : Int)).natAbs < 2 ^ 64 := by
        have : ((m : Int)).natAbs < 2000000 := by omega
        exact Nat.lt_trans this (by decide)
      refine ev_call (ea_cons (ev_add (ev_add (ev_div (ev_var rfl) ev_c (by decide) (by decide)) (ev_mul (ev_var rfl) ev_c (cmul_small hmn (by decide)))) (ev_mul (ev_var rfl) (ev_var rfl) (cmul_small hmn hmn))) (ea_cons (lenE _ _ sG rfl) ea_nil)) (spv_law_word ?_ (by omega) (by omega))
      have b1 : Bn 1048600 (y / 36) := hy.div (by decide)
      have b2 : Bn 1048600 ((m : Int) * 104729) := Bn.small (by have : ((m : Int) * 104729).natAbs < 10000000 := by omega
                                                                exact Nat.lt_trans this (by decide)) (by decide)
      have b3 : Bn 1048601 ((m : Int) * (m : Int)) := Bn.small (by
        have h5 : (m : Int) * (m : Int) ≤ 20 * 20 := Int.mul_le_mul hm2 hm2 (by omega) (by omega)
        have h6 : 0 ≤ (m : Int) * (m : Int) := Int.mul_nonneg (by omega) (by omega)
        have : ((m : Int) * (m : Int)).natAbs < 10000000 := by omega
        exact Nat.lt_trans this (by decide)) (by decide)
      exact ((b1.add b2).add b3).mono (by decide)
  · rintro ⟨r, rows, xs, G⟩ ⟨hr, hlr, hrow, sG, hxl, hR⟩
    have hlr : rows.length = (ns.length : Int).toNat := hlr
    rw [Int.toNat_natCast] at hlr
    refine g_ret (ev_var rfl) fun H1 s1 => q rows ⟨by omega, hrow⟩ (.ref rl) H1 (Same.trans sG s1) ⟨rl, xs, rfl, s1 _ _ hxl, hR.1, fun k x hx => ?_⟩
    obtain ⟨row, h1, t, h2, h3, _⟩ := hR.2 k x hx
    exact ⟨row, h1, t, h2, s1 _ _ h3⟩
end
end K64

set_option Elab.async false
set_option linter.all false
set_option maxRecDepth 100000
set_option maxHeartbeats 2000000
namespace K64
open PySem PySem.Spec PyProof.Rows L2 Kw
local macro_rules | `(tactic| walk_at "hp") => `(tactic| first
  | assumption
  | exact upd_same
  | (refine Eq.trans (upd_ne ?_) ?_; (first | assumption | (apply Ne.symm; assumption)); walk_at "hp"))
local macro_rules | `(tactic| walk_at "sq") => `(tactic| first
  | assumption
  | (apply SqL.of; walk_at "hp")
  | (apply SqT.of; walk_at "hp"))
local macro_rules | `(tactic| walk_at "rv") => `(tactic| first
  | ((with_reducible exact rv_I0))
  | ((with_reducible apply rv_I); first | assumption | decide | omega | (exact ⟨by omega, by omega⟩) | skip)
  | ((with_reducible apply rv_eq); rfl)
  | ((with_reducible apply rv_ne); rfl)
  | ((with_reducible exact rv_isN))
  | ((with_reducible exact rv_notN))
  | skip)
local macro_rules | `(tactic| walk_at "sp") => `(tactic| first
  | (apply spv_I1; first | trivial | assumption | skip)
  | (apply spv_I2; first | trivial | assumption | skip)
  | skip)
local macro_rules | `(tactic| walk_at "ev") => `(tactic| first
  | ((with_reducible apply ev_var); rfl)
  | ((with_reducible exact ev_c))
  | ((with_reducible exact ea_nil))
  | ((with_reducible apply ea_cons); walk_at "ev"; walk_at "ev")
  | ((with_reducible apply ev_op); walk_at "ev"; walk_at "ev"; walk_at "rv")
  | ((with_reducible apply ev_neg); walk_at "ev")
  | ((with_reducible apply ev_int); walk_at "ev")
  | ((with_reducible apply ev_fld); walk_at "ev"; walk_at "hp"; walk_at "tx"; walk_at "tx"; rfl)
  | ((with_reducible apply ev_call); walk_at "ev"; walk_at "sp")
  | ((with_reducible apply et_test); walk_at "ev")
  | ((with_reducible apply et_B); walk_at "ev")
  | ((with_reducible apply et_not); walk_at "ev")
  | ((with_reducible apply ev_notV); walk_at "ev")
  | ((with_reducible apply eo_some); walk_at "ev")
  | ((with_reducible exact eo_none))
  | ((with_reducible apply en_lst); walk_at "ev"; exact of_decide_eq_true rfl)
  | ((with_reducible apply en_tup); walk_at "ev"; exact of_decide_eq_true rfl)
  | ((with_reducible exact en_dK))
  | skip)
local macro_rules | `(tactic| walk_at "tx") => `(tactic| first
  | assumption
  | (with_reducible exact Tx.cls_Store (by assumption))
  | (with_reducible exact Tx.na_Store_room (by assumption))
  | (with_reducible exact Tx.na_Store_entries (by assumption))
  | (with_reducible exact Tx.na_Store_words (by assumption))
  | (with_reducible exact Tx.na_Store__places (by assumption))
  | (with_reducible exact Tx.na_Store__least (by assumption))
  | (with_reducible exact Tx.cls_Space (by assumption))
  | (with_reducible exact Tx.na_Space_store (by assumption))
  | (with_reducible exact Tx.na_Space_pressure (by assumption))
  | (with_reducible exact Tx.na_Space_always (by assumption))
  | (with_reducible exact Tx.na_Space_allocations (by assumption))
  | (with_reducible exact Tx.na_Space_collections (by assumption))
  | (with_reducible exact Tx.na_Space__roots (by assumption))
  | (with_reducible exact Tx.na_Space__held (by assumption))
  | (with_reducible exact Tx.na_Space__saved (by assumption)))
section
variable {K : PySem.W.Frag} {mg : Str → Option Value}
theorem look_range (f : Nat → List Int) (n : Int) : ∀ (m a : Nat), ((List.range' a m).map fun (k : Nat) => ((k : Int), f k)).lookup n = if (a : Int) ≤ n ∧ n < (a : Int) + m then some (f n.toNat) else none
  | 0, a => by
    rw [if_neg (by omega)]; rfl
  | m + 1, a => by
    rw [List.range'_succ, List.map_cons, List.lookup_cons]
    by_cases h : n = (a : Int)
    · subst h
      rw [show ((a : Int) == (a : Int)) = true by simp, if_pos (by omega), Int.toNat_natCast]
    · rw [show (n == (a : Int)) = false by simpa using h, look_range f n m (a + 1)]
      by_cases h2 : ((a + 1 : Nat) : Int) ≤ n ∧ n < ((a + 1 : Nat) : Int) + m
      · rw [if_pos h2, if_pos (by omega)]
      · rw [if_neg h2, if_neg (by omega)]
theorem row_numB (rows : List (List Int)) (n : Int) : rowOf (numB rows) n = if 0 ≤ n ∧ n < rows.length then some (rows.getD n.toNat []) else none := by
  unfold rowOf numB
  rw [List.range_eq_range', look_range (fun k => rows.getD k [])]
  simp
theorem keys_numB (rows : List (List Int)) : (numB rows).map (·.1) = (List.range rows.length).map fun (k : Nat) => (k : Int) := by
  unfold numB; rw [List.map_map]; rfl
theorem nd_numB (rows : List (List Int)) : ((numB rows).map (·.1)).Nodup := by
  rw [keys_numB]
  refine List.pairwise_map.mpr (List.nodup_range.imp fun {a b} h e => h (by omega))
theorem len_numB (rows : List (List Int)) : (numB rows).length = rows.length := by unfold numB; rw [List.length_map, List.length_range]
theorem getD_mem2 {rows : List (List Int)} {k : Nat} (h : k < rows.length) : rows.getD k [] ∈ rows := by simp [List.getD, h]
theorem enc_len_le {m : Nat} : ∀ (bs : List (Int × List Int)), (∀ b ∈ bs, b.2.length ≤ m) → (enc bs).length ≤ bs.length * (m + 2)
  | [], _ => by simp [enc]
  | (n, r) :: bs, h => by
    have h1 := enc_len_le bs fun b hb => h b (List.mem_cons_of_mem _ hb)
    have h2 := h (n, r) List.mem_cons_self
    have h2 : r.length ≤ m := h2
    simp only [enc, List.length_cons, List.length_append]
    rw [Nat.add_mul, Nat.one_mul]
    omega
theorem enc_numB {rows : List (List Int)} (h : RowsOk rows) : (enc (numB rows)).length ≤ 1000 := by
  have h1 := enc_len_le (m := 20) (numB rows) fun b hb => by
    unfold numB at hb
    obtain ⟨k, hk, rfl⟩ := List.mem_map.mp hb
    exact (h.2 _ (getD_mem2 (List.mem_range.mp hk))).2.1
  have h2 := h.1
  rw [len_numB] at h1
  omega
theorem RowsV.at {rows : List (List Int)} {v : V} {H : Hp} (h : RowsV rows v H) {i : Int} (h0 : 0 ≤ i) (h1 : i < rows.length) : ∃ p xs q, v = .ref p ∧ H p = some (.lst xs) ∧ atI xs i = some (.ref q) ∧ H q = some (.lst ((rows.getD i.toNat []).map V.int)) := by
  obtain ⟨p, xs, e, hp, hl, hx⟩ := h
  obtain ⟨k, rfl⟩ := Int.eq_ofNat_of_zero_le h0
  have hk : k < xs.length := by omega
  obtain ⟨row, g1, q, g2, g3⟩ := hx k xs[k] (List.getElem?_eq_getElem hk)
  have hk2 : k < rows.length := by omega
  refine ⟨p, xs, q, e, hp, atI_nat (by rw [List.getElem?_eq_getElem hk, g2]), ?_⟩
  rw [Int.toNat_natCast]
  have : rows.getD k [] = row := by simp [List.getD, g1]
  rw [this]; exact g3
theorem ev_row {σ : Sl} {H : Hp} {tr ti : TE} {rows : List (List Int)} {v : V} {i : Int} (hr : RowsV rows v H) (hv : Ev tr σ H v) (hi : Ev ti σ H (.int i)) (h0 : 0 ≤ i) (h1 : i < rows.length) : ∃ q, Ev (tOp (rIxL K) tr ti) σ H (.ref q) ∧ H q = some (.lst ((rows.getD i.toNat []).map V.int)) := by
  obtain ⟨p, xs, q, rfl, hp, ha, hq⟩ := hr.at h0 h1
  exact ⟨q, ev_op hv hi (rv_ixL (SqL.of hp) ha), hq⟩
theorem ev_lenI {σ : Sl} {H : Hp} {te : TE} {ns : List Int} {q : Addr} (h : Ev te σ H (.ref q)) (hq : H q = some (.lst (ns.map V.int))) : Ev (tCB (rLenS K) (tCons te tNil)) σ H (.int (ns.length : Int)) := Ev.is (ev_len (Ev.q h (SqL.of hq))) (by rw [List.length_map])
theorem ev_lenR {σ : Sl} {H : Hp} {te : TE} {rows : List (List Int)} {v : V} (hr : RowsV rows v H) (h : Ev te σ H v) : Ev (tCB (rLenS K) (tCons te tNil)) σ H (.int (rows.length : Int)) := by
  obtain ⟨p, xs, rfl, hp, hl, hx⟩ := hr
  exact Ev.is (ev_len (Ev.q h (SqL.of hp))) (by rw [hl])
/-- all words of a law's space -/
theorem wlk_ok {rows : List (List Int)} {ws path : List Int} (h : RowsOk rows) (g : RootsOk ws) : ∀ {j : Nat} {z : Int}, wlk (numB rows) (0 :: ws) path j = some z → OkW z
  | 0, z, e => by cases e
  | j + 1, z, e => by
    have e : (if j = 0 then some (0 :: ws) else ((wlk (numB rows) (0 :: ws) path j).bind (objOf (numB rows))).bind (rowOf (numB rows))).bind (fun row => idx row (path.getD j 0)) = some z := e
    obtain ⟨row, hr, hz⟩ := Option.bind_eq_some_iff.mp e
    have hm : z ∈ row := by
      unfold idx at hz
      split at hz
      · rename_i hk
        cases hz
        exact getD_mem (by omega)
      · cases hz
    by_cases h0 : j = 0
    · rw [if_pos h0] at hr
      cases hr
      rcases List.mem_cons.mp hm with rfl | hm
      · exact fun _ => Int.le_refl _
      · exact g.2.2 z hm
    · rw [if_neg h0] at hr
      obtain ⟨n, _, hn⟩ := Option.bind_eq_some_iff.mp hr
      rw [row_numB] at hn
      split at hn
      · rename_i hk
        cases hn
        exact (h.2 _ (getD_mem2 (by omega))).2.2 z hm
      · cases hn
theorem obj_numB {rows : List (List Int)} {z : Int} (h : OkW z) : objOf (numB rows) z = if z % 2 = 0 ∧ z / 2 < rows.length then some (z / 2) else none := by
  unfold objOf
  rw [row_numB]
  by_cases h1 : z % 2 = 0
  · have h2 := h h1
    by_cases h3 : z / 2 < rows.length
    · rw [if_pos ⟨h1, by rw [if_pos ⟨by omega, h3⟩]; rfl⟩, if_pos ⟨h1, h3⟩]
    · rw [if_neg (by rintro ⟨_, h4⟩; rw [if_neg (by omega)] at h4; cases h4), if_neg (by omega)]
  · rw [if_neg (fun z => h1 z.1), if_neg (fun z => h1 z.1)]
theorem rv_ixQ {p : Addr} {ns : List Int} {H : Hp} {i : Int} (h : SqL K H p (ns.map V.int) ∨ SqT K H p (ns.map V.int)) (h0 : 0 ≤ i) (h1 : i < ns.length) : RV (rIx K) (.ref p) (.int i) H (.int (ns.getD i.toNat 0)) := fun H1 e Q q => by
  rcases h with h | h
  · exact .inl (rv_ixI h h0 h1 H1 e Q q)
  · exact .inr (.inl (rv_ixTI h h0 h1 H1 e Q q))
theorem ev_lenQ {σ : Sl} {H : Hp} {te : TE} {ns : List Int} {q : Addr} (h : Ev te σ H (.ref q)) (hq : SqL K H q (ns.map V.int) ∨ SqT K H q (ns.map V.int)) : Ev (tCB (rLenS K) (tCons te tNil)) σ H (.int (ns.length : Int)) := by
  rcases hq with hq | hq
  · exact Ev.is (ev_len (Ev.q h hq)) (by rw [List.length_map])
  · exact Ev.is (ev_lenT (Ev.tt h hq)) (by rw [List.length_map])
theorem rd__law_walk (T : Tx K mg) (vs : List V) (H : Hp) (Q : VK) (E : XK) (h : sp__law_walk K vs H Q E) : t__law_walk K { nx := fun _ H' => Q .non H', rt := Q } (start N__law_walk vs) H := by
  obtain ⟨rv, wv, _, rfl, rows, ws, tq, path, hR, hRo, ⟨wa, rfl, hwa⟩, hWo, rfl, hp, hz, q⟩ := h
  have hw20 := hWo.2.1
  have hw16 := hWo.1
  unfold walkB at q
  refine enter (σ := [some rv, some (.ref wa), some (.ref tq), none, none, none]) (g_asgN (o := .lst ((0 :: ws).map V.int)) ?_ fun r0 hr0 => ?_)
  · have := en_cat (ta := tLst (tCons (tC (.int 0)) tNil)) (tb := tVar 1) (σ := [some rv, some (.ref wa), some (.ref tq), none, none, none]) (H := H) (EvN.l (en_lst (ea_cons ev_c ea_nil) (of_decide_eq_true rfl))) (Ev.l (a := wa) (ev_var rfl) hwa) (by simp; omega)
    exact this
  refine g_asg ev_c (g_forR (α := Addr × Hp) (fun k x => Same H x.2 ∧ (k = 0 → x.2 x.1 = some (.lst ((0 :: ws).map V.int))) ∧ (0 < k → (wlk (numB rows) (0 :: ws) path k).isSome = true))
    (fun k x => [some rv, some (.ref wa), some (.ref tq), some (.ref x.1), some (optV (wlk (numB rows) (0 :: ws) path k)), none]) (fun k x => x.2) (n := (path.length : Int)) ?_ (by omega) ⟨(r0, upd H r0 _), ⟨same_new hr0, fun _ => upd_same, fun z => by omega⟩, Sx.refl _, Same.refl _⟩ ?_ ?_)
  · refine ea_cons (ev_lenQ (q := tq) (ev_var rfl) ?_) ea_nil
    rcases hp with hp | hp
    · exact .inl (same_l (same_new hr0) hp)
    · exact .inr (same_t (same_new hr0) hp)
  · rintro k ⟨r, G⟩ hk ⟨sG, hr, hw0⟩
    have sG : Same H G := sG
    have hk' : k < path.length := by omega
    have rest : ∀ (r : Addr) (xs : List Int), G r = some (.lst (xs.map V.int)) → (if k = 0 then some (0 :: ws) else ((wlk (numB rows) (0 :: ws) path k).bind (objOf (numB rows))).bind (rowOf (numB rows))) = some xs →
        Go (tSeq (tIfS (tOr (tTest (tOp oLt (tOp (rIx K) (tVar 2) (tVar 5)) (tC (.int 0)))) (tTest (tOp oGe (tOp (rIx K) (tVar 2) (tVar 5)) (tCB (rLenS K) (tCons (tVar 3) (tNil)))))) (tSeq (tRet (tC .non)) (tNext)) (tNext)) (tSeq (tAsg (tOp (rIxL K) (tVar 3) (tOp (rIx K) (tVar 2) (tVar 5))) (gName 4)) (tNext)))
          { nx := Lp (fun x : Addr × Hp => Same H x.2 ∧ (k + 1 = 0 → x.2 x.1 = some (.lst ((0 :: ws).map V.int))) ∧ (0 < k + 1 → (wlk (numB rows) (0 :: ws) path (k + 1)).isSome = true)) (fun x => [some rv, some (.ref wa), some (.ref tq), some (.ref x.1), some (optV (wlk (numB rows) (0 :: ws) path (k + 1))), none]) (fun x => x.2),
            ct := Lp (fun x : Addr × Hp => Same H x.2 ∧ (k + 1 = 0 → x.2 x.1 = some (.lst ((0 :: ws).map V.int))) ∧ (0 < k + 1 → (wlk (numB rows) (0 :: ws) path (k + 1)).isSome = true)) (fun x => [some rv, some (.ref wa), some (.ref tq), some (.ref x.1), some (optV (wlk (numB rows) (0 :: ws) path (k + 1))), none]) (fun x => x.2),
            bk := tSeq (tRet (tVar 4)) tNext { nx := fun _ H' => Q .non H', rt := Q }, rt := Q } [some rv, some (.ref wa), some (.ref tq), some (.ref r), some (optV (wlk (numB rows) (0 :: ws) path k)), some (.int (k : Int))] G := by
      intro r xs hr hx
      have hpG : SqL K G tq (path.map V.int) ∨ SqT K G tq (path.map V.int) := by
        rcases hp with hp | hp
        · exact .inl (same_l sG hp)
        · exact .inr (same_t sG hp)
      have ev1 : Ev (tOp (rIx K) (tVar 2) (tVar 5)) [some rv, some (.ref wa), some (.ref tq), some (.ref r), some (optV (wlk (numB rows) (0 :: ws) path k)), some (.int (k : Int))] G (.int (path.getD k 0)) := ev_op (ev_var rfl) (ev_var rfl) (rv_ixQ hpG (by omega) (by omega))
      have hlen : Ev (tCB (rLenS K) (tCons (tVar 3) tNil)) [some rv, some (.ref wa), some (.ref tq), some (.ref r), some (optV (wlk (numB rows) (0 :: ws) path k)), some (.int (k : Int))] G (.int (xs.length : Int)) := ev_lenI (q := r) (ev_var rfl) hr
      have ew : wlk (numB rows) (0 :: ws) path (k + 1) = idx xs (path.getD k 0) := by
        show (if k = 0 then some (0 :: ws) else ((wlk (numB rows) (0 :: ws) path k).bind (objOf (numB rows))).bind (rowOf (numB rows))).bind _ = _
        rw [hx]; rfl
      refine g_if (et_or (et_ltI ev1 ev_c) fun _ => et_geI ev1 hlen) (fun hb => ?_) fun hb => g_end ?_
      · have e : wlk (numB rows) (0 :: ws) path (k + 1) = none := by
          rw [ew]
          unfold idx
          rw [if_neg]
          rintro ⟨h1, h2⟩
          rcases Bool.or_eq_true_iff.mp hb with h | h
          · have := of_decide_eq_true h; omega
          · have := of_decide_eq_true h; omega
        have e2 := wlk_none (by omega) e (path.length - (k + 1))
        rw [show k + 1 + (path.length - (k + 1)) = path.length by omega] at e2
        rw [e2] at q
        exact g_ret ev_c fun H3 s3 => q H3 (sG.trans s3)
      · obtain ⟨hb1, hb2⟩ := Bool.or_eq_false_iff.mp hb
        have h1 : 0 ≤ path.getD k 0 := by have := of_decide_eq_false hb1; omega
        have h2 : path.getD k 0 < xs.length := by have := of_decide_eq_false hb2; omega
        have e : wlk (numB rows) (0 :: ws) path (k + 1) = some (xs.getD (path.getD k 0).toNat 0) := by
          rw [ew]; unfold idx; rw [if_pos ⟨h1, h2⟩]
        refine g_asg (ev_op (ev_var rfl) ev1 (rv_ixI (SqL.of hr) h1 h2)) (g_next (Lp.cl (r, G) ⟨sG, fun z => by omega, fun _ => by rw [e]; rfl⟩ ?_ (Same.refl _)))
        rw [e]
        exact Sx.eq (Sx.eq (Sx.eq (Sx.eq (Sx.eq (Sx.any Sx.nil)))))
    refine g_if (et_gtI (ev_var rfl) ev_c) (fun hb => ?_) fun hb => g_end ?_
    · have hk0 : 0 < k := by have := of_decide_eq_true hb; omega
      obtain ⟨z, hz'⟩ := Option.isSome_iff_exists.mp (hw0 hk0)
      have hOk : OkW z := wlk_ok hRo hWo hz'
      have hRG := hR.mono sG
      have evz : Ev (tVar 4) [some rv, some (.ref wa), some (.ref tq), some (.ref r), some (optV (wlk (numB rows) (0 :: ws) path k)), some (.int (k : Int))] G (.int z) := ev_var (by show some (some (optV (wlk (numB rows) (0 :: ws) path k))) = _; rw [hz']; rfl)
      refine g_if (et_or (et_eqI (ev_mod evz ev_c (by decide)) ev_c) fun _ => et_geI (ev_div evz ev_c (by decide) (by decide)) (ev_lenR hRG (ev_var rfl))) (fun hb => ?_) fun hb => g_end ?_
      · have ho : objOf (numB rows) z = none := by
          rw [obj_numB hOk, if_neg]
          rintro ⟨h1, h2⟩
          rcases Bool.or_eq_true_iff.mp hb with h | h
          · have := of_decide_eq_true h; omega
          · have := of_decide_eq_true h; omega
        have e : wlk (numB rows) (0 :: ws) path (k + 1) = none := by
          show (if k = 0 then some (0 :: ws) else ((wlk (numB rows) (0 :: ws) path k).bind (objOf (numB rows))).bind (rowOf (numB rows))).bind _ = _
          rw [if_neg (by omega), hz']
          show ((objOf (numB rows) z).bind _).bind _ = _
          rw [ho]; rfl
        have e2 := wlk_none (by omega) e (path.length - (k + 1))
        rw [show k + 1 + (path.length - (k + 1)) = path.length by omega] at e2
        rw [e2] at q
        exact g_ret ev_c fun H3 s3 => q H3 (sG.trans s3)
      · obtain ⟨hb1, hb2⟩ := Bool.or_eq_false_iff.mp hb
        have h1 : z % 2 = 0 := by have := of_decide_eq_false hb1; omega
        have h2 : z / 2 < rows.length := by have := of_decide_eq_false hb2; omega
        have h3 := hOk h1
        obtain ⟨rq, hev, hrq⟩ := ev_row (K := K) hRG (ev_var (i := 0) rfl) (ev_div evz ev_c (by decide) (by decide)) (by omega) h2
        refine g_asg hev (g_next (g_end (rest rq _ hrq ?_)))
        rw [if_neg (by omega), hz']
        show ((objOf (numB rows) z).bind _) = _
        rw [obj_numB hOk, if_pos ⟨h1, h2⟩]
        show rowOf (numB rows) (z / 2) = _
        rw [row_numB, if_pos ⟨by omega, h2⟩]
    · have hk0 : k = 0 := by have := of_decide_eq_false hb; omega
      exact rest r (0 :: ws) (hr hk0) (if_pos hk0)
  · rintro ⟨r, G⟩ ⟨sG, _, _⟩
    rw [Int.toNat_natCast]
    exact g_ret (ev_var rfl) fun H3 s3 => q H3 (Same.trans sG s3)
theorem spv_walk {rv : V} {wa tq : Addr} {rows : List (List Int)} {ws path : List Int} {H : Hp} (hR : RowsV rows rv H) (hRo : RowsOk rows) (hW : H wa = some (.lst (ws.map V.int))) (hWo : RootsOk ws) (hp : SqL K H tq (path.map V.int) ∨ SqT K H tq (path.map V.int)) (hl : path.length ≤ 100000) :
    SpV (sp__law_walk K) [rv, .ref wa, .ref tq] H (optV (walkB (numB rows) (0 :: ws) path)) := fun H1 s Q E q => ⟨_, _, _, rfl, rows, ws, tq, path, hR.mono s, hRo, ⟨wa, rfl, s _ _ hW⟩, hWo, rfl, by
      rcases hp with hp | hp
      · exact .inl (same_l s hp)
      · exact .inr (same_t s hp), hl, q⟩
theorem spv_word_at {p : PA} {st : PS} {tq : Addr} {path : List Int} {H : Hp} (S : SpaceAt K p st H) (hp : SqT K H tq (path.map V.int)) (hl : path.length ≤ 100000) :
    SpV (sp_word_at K) [.ref p.sp, .ref tq] H (optV (walkB st.bs st.ws path)) := fun H1 s Q E q => ⟨_, _, rfl, p, st, tq, path, rfl, S.mono s, rfl, same_t s hp, hl, q⟩
theorem rd__law_told (T : Tx K mg) (vs : List V) (H : Hp) (Q : VK) (E : XK) (h : sp__law_told K vs H Q E) : t__law_told K { nx := fun _ H' => Q .non H', rt := Q } (start N__law_told vs) H := by
  obtain ⟨_, rv, _, _, rfl, rows, ws, p, st, tq, path, hR, hRo, ⟨wa, rfl, hwa⟩, hWo, rfl, S, hb, hw, rfl, hp, hl, q⟩ := h
  have hA := spv_word_at S hp hl
  rw [hb, hw] at hA
  refine enter (σ := [some (.ref p.sp), some rv, some (.ref wa), some (.ref tq), none, none]) (g_asg (ev_call (ea_cons (ev_var rfl) (ea_cons (ev_var rfl) (ea_cons (ev_var rfl) ea_nil))) (spv_walk hR hRo hwa hWo (.inr hp) hl)) (g_asg (ev_call (ea_cons (ev_var rfl) (ea_cons (ev_var rfl) ea_nil)) hA) ?_))
  generalize walkB (numB rows) (0 :: ws) path = o
  cases o with
  | none => exact g_if (b := true) (et_test (Ev.is (ev_op (ev_var (v := .non) rfl) ev_c rv_isN) rfl)) (fun _ => g_ret (Ev.is (ev_op (ev_var (v := .non) rfl) ev_c rv_isN) rfl) q) fun hb => by cases hb
  | some z =>
    refine g_if (b := false) (et_test (Ev.is (ev_op (ev_var (v := .int z) rfl) ev_c rv_isN) rfl)) (fun hb => by cases hb) fun _ => g_end (g_ret (Ev.is (ev_call (ea_cons (ev_var (v := .int z) rfl) (ea_cons (ev_var (v := .int z) rfl) ea_nil)) spv_law_is) ?_) q)
    rw [decide_eq_true rfl]
theorem rd__law_drawn (T : Tx K mg) (vs : List V) (H : Hp) (Q : VK) (E : XK) (h : sp__law_drawn K vs H Q E) : t__law_drawn K { nx := fun _ H' => Q .non H', rt := Q } (start N__law_drawn vs) H := by
  obtain ⟨_, rv, _, rfl, rows, ws, i, rfl, hR, hRo, ⟨wa, rfl, hwa⟩, hWo, q⟩ := h
  have hw20 := hWo.2.1
  refine enter (σ := [some (.int i), some rv, some (.ref wa), none, none, none, none, none, none]) (g_asgN (o := .lst []) (en_lst ea_nil (of_decide_eq_true rfl)) fun pl hpl => ?_)
  have s1 : Same H (upd H pl (.lst [])) := same_new hpl
  have hp1 : upd H pl (.lst []) pl = some (.lst (([] : List Int).map V.int)) := upd_same
  generalize upd H pl (.lst []) = G1 at s1 hp1
  refine g_asgN (o := .lst ((0 :: ws).map V.int)) ?_ fun r0 hr0 => ?_
  · exact en_cat (xs := [V.int 0]) (EvN.l (en_lst (ea_cons ev_c ea_nil) (of_decide_eq_true rfl))) (Ev.l (a := wa) (ev_var rfl) (s1 _ _ hwa)) (by simp; omega)
  have h6 := mod_in (y := i) (n := 6) (by decide)
  refine g_asg (ev_div (ev_var rfl) ev_c (by decide) (by decide)) ?_
  refine g_forR (α := Int × List Int × Addr × List Int × Hp) (fun k x => x.2.1.length = k ∧ Same H x.2.2.2.2 ∧ x.2.2.2.2 pl = some (.lst (x.2.1.map V.int)) ∧ x.2.2.2.2 x.2.2.1 = some (.lst (x.2.2.2.1.map V.int)) ∧ x.2.2.1 ≠ pl)
    (fun k x => [some (.int i), some rv, some (.ref wa), some (.ref pl), some (.ref x.2.2.1), some (.int x.1), none, none, none]) (fun k x => x.2.2.2.2) (ea_cons (ev_mod (ev_int (ev_var rfl)) ev_c (by decide)) ea_nil) (by omega)
    ⟨(i / 6, [], r0, 0 :: ws, upd G1 r0 (.lst ((0 :: ws).map V.int))), ⟨rfl, s1.trans (same_new hr0), (upd_ne (ne_of_none hp1 hr0)).trans hp1, upd_same, (ne_of_none hp1 hr0).symm⟩, Sx.refl _, Same.refl _⟩ ?_ ?_
  · rintro k ⟨r, path, ra, row, G⟩ hk ⟨hl, sG, hpl1, hra, hne⟩
    have hl : path.length = k := hl
    have sG : Same H G := sG
    have hpl1 : G pl = some (.lst (path.map V.int)) := hpl1
    have hra : G ra = some (.lst (row.map V.int)) := hra
    refine g_asg (v := .int (r % ((row.length : Int) + 2) - 1)) (ev_sub (ev_mod (ev_int (ev_var rfl)) (ev_add (ev_lenI (q := ra) (ev_var rfl) hra) ev_c) (by omega)) ev_c) ?_
    generalize r % ((row.length : Int) + 2) - 1 = sp
    refine g_asg (ev_div (ev_var rfl) ev_c (by decide) (by decide)) (g_app hpl1 (ev_var rfl) (ev_var rfl) (by rw [List.length_map]; omega) ?_)
    have em : path.map V.int ++ [V.int sp] = (path ++ [sp]).map V.int := by simp
    rw [em]
    have s2 : Same H (upd G pl (.lst ((path ++ [sp]).map V.int))) := same_mut sG hpl
    have hp2 : upd G pl (.lst ((path ++ [sp]).map V.int)) pl = some (.lst ((path ++ [sp]).map V.int)) := upd_same
    generalize upd G pl (.lst ((path ++ [sp]).map V.int)) = G2 at s2 hp2
    refine g_asgN (o := .lst []) (en_lst ea_nil (of_decide_eq_true rfl)) fun r2 hr2 => ?_
    have s3 : Same H (upd G2 r2 (.lst [])) := s2.trans (same_new hr2)
    have hp3 : upd G2 r2 (.lst []) pl = some (.lst ((path ++ [sp]).map V.int)) := (upd_ne (ne_of_none hp2 hr2)).trans hp2
    have hr3 : upd G2 r2 (.lst []) r2 = some (.lst (([] : List Int).map V.int)) := upd_same
    have hn3 : r2 ≠ pl := (ne_of_none hp2 hr2).symm
    generalize upd G2 r2 (.lst []) = G3 at s3 hp3 hr3
    have hRG := hR.mono s3
    refine g_asg (ev_call (ea_cons (ev_var rfl) (ea_cons (ev_var rfl) (ea_cons (ev_var rfl) ea_nil))) (spv_walk hRG hRo (s3 _ _ hwa) hWo (.inl (SqL.of hp3)) (by simp; omega))) ?_
    have hok := @wlk_ok rows ws (path ++ [sp]) hRo hWo (path ++ [sp]).length
    have fin : ∀ (ra : Addr) (row : List Int) (o : V), G3 ra = some (.lst (row.map V.int)) → ra ≠ pl → Cl (Lp (fun x : Int × List Int × Addr × List Int × Hp => x.2.1.length = k + 1 ∧ Same H x.2.2.2.2 ∧ x.2.2.2.2 pl = some (.lst (x.2.1.map V.int)) ∧ x.2.2.2.2 x.2.2.1 = some (.lst (x.2.2.2.1.map V.int)) ∧ x.2.2.1 ≠ pl)
        (fun x => [some (.int i), some rv, some (.ref wa), some (.ref pl), some (.ref x.2.2.1), some (.int x.1), none, none, none]) (fun x => x.2.2.2.2)) [some (.int i), some rv, some (.ref wa), some (.ref pl), some (.ref ra), some (.int (r / 23)), some (.int (k : Int)), some (.int sp), some o] G3 := fun ra row o h1 h2 =>
      Lp.cl (r / 23, path ++ [sp], ra, row, G3) ⟨by show (path ++ [sp]).length = k + 1; simp [hl], s3, hp3, h1, h2⟩ (Sx.eq (Sx.eq (Sx.eq (Sx.eq (Sx.eq (Sx.eq (Sx.any (Sx.any (Sx.any Sx.nil))))))))) (Same.refl _)
    have hok2 : ∀ z, walkB (numB rows) (0 :: ws) (path ++ [sp]) = some z → OkW z := fun z hz => hok hz
    cases hwk : walkB (numB rows) (0 :: ws) (path ++ [sp]) with
    | none => exact g_if (b := false) (EvT.is (et_and (a := false) (b := false) (et_test (Ev.is (ev_op (ev_var (v := .non) rfl) ev_c rv_notN) rfl)) fun hb => by cases hb) rfl) (fun hb => by cases hb) fun _ => g_end (g_next (fin r2 [] _ hr3 hn3))
    | some z =>
      have hz := hok2 z hwk
      refine g_if (et_and (a := true) (et_test (Ev.is (ev_op (ev_var (v := .int z) rfl) ev_c rv_notN) rfl)) fun _ => et_and (et_eqI (ev_mod (ev_int (ev_var (v := .int z) rfl)) ev_c (by decide)) ev_c) fun _ => et_ltI (ev_div (ev_var (v := .int z) rfl) ev_c (by decide) (by decide)) (ev_lenR hRG (ev_var rfl))) (fun hb => ?_) fun _ => g_end (g_next (fin r2 [] _ hr3 hn3))
      have hb' : (decide (z % 2 = 0) && decide (z / 2 < (rows.length : Int))) = true := hb
      obtain ⟨hb1, hb2⟩ := Bool.and_eq_true_iff.mp hb'
      have h1 : z % 2 = 0 := of_decide_eq_true hb1
      have h2 : z / 2 < rows.length := of_decide_eq_true hb2
      have h3 := hz h1
      obtain ⟨_, _, rq0, _, _, _, hrq0⟩ := hR.at (i := z / 2) (by omega) h2
      obtain ⟨rp, rxs, erv, hrp, hrl, hrx⟩ := hR
      have hkz : (z / 2).toNat < rxs.length := by omega
      obtain ⟨row', g1, rq, g2, g3⟩ := hrx (z / 2).toNat rxs[(z / 2).toNat] (List.getElem?_eq_getElem hkz)
      have hat : atI rxs (z / 2) = some (.ref rq) := by
        obtain ⟨kk, hkk⟩ := Int.eq_ofNat_of_zero_le (show 0 ≤ z / 2 by omega)
        rw [hkk]
        refine atI_nat ?_
        have : (z / 2).toNat = kk := by omega
        rw [← this, List.getElem?_eq_getElem hkz, g2]
      refine g_asg (v := .ref rq) (ev_op (ev_var (v := rv) rfl) (ev_div (ev_var (v := .int z) rfl) ev_c (by decide) (by decide)) (by rw [erv]; exact rv_ixL (SqL.of (s3 _ _ hrp)) hat)) (g_next (g_end (g_next (fin rq row' _ (s3 _ _ g3) (ne_of_none g3 hpl)))))
  · rintro ⟨r, path, ra, row, G⟩ ⟨hl, sG, hpl1, hra, hne⟩
    have hl : path.length = (i % 6).toNat := hl
    have hpl1 : G pl = some (.lst (path.map V.int)) := hpl1
    exact g_retN (en_tupl (K := K) (EvR.lq (Ev.l (a := pl) (ev_var rfl) hpl1))) fun t H1 ht s => q path (by omega) t H1 (Same.free sG ht) ((same_upd sG).trans s)
end
section
variable {K : PySem.W.Frag} {mg : Str → Option Value}
theorem dictP_at {kvs : List (Key × V)} {F : List (Int × List Int)} {H : Hp} (h : Paired (fun (z : Key × V) (f : Int × List Int) => z.1 = Sum.inl f.1 ∧ ∃ t, z.2 = V.ref t ∧ H t = some (.tup (f.2.map V.int))) kvs F) {j : Nat} {key : Key} {v : V} (hj : kvs[j]? = some (key, v)) :
    ∃ e, F[j]? = some e ∧ key = .inl e.1 ∧ ∃ t, v = V.ref t ∧ H t = some (.tup (e.2.map V.int)) := by
  induction h generalizing j with
  | nil => simp at hj
  | @cons z f _ _ hz _ ih =>
    cases j with
    | zero =>
      simp at hj
      obtain ⟨h1, h2⟩ := hz
      rw [hj] at h1 h2
      exact ⟨f, rfl, h1, h2⟩
    | succ j => exact ih (by simpa using hj)
theorem dictP_get {kvs : List (Key × V)} {F : List (Int × List Int)} {H : Hp} (h : Paired (fun (z : Key × V) (f : Int × List Int) => z.1 = Sum.inl f.1 ∧ ∃ t, z.2 = V.ref t ∧ H t = some (.tup (f.2.map V.int))) kvs F) (nd : (F.map (·.1)).Nodup) {e : Int × List Int} (he : e ∈ F) : ∃ t, valV kvs (.inl e.1) = some (.ref t) ∧ H t = some (.tup (e.2.map V.int)) := by
  induction h with
  | nil => cases he
  | @cons z f zs fs hz _ ih =>
    obtain ⟨h1, t, h2, h3⟩ := hz
    rw [List.map_cons] at nd
    obtain ⟨nd1, nd2⟩ := List.nodup_cons.mp nd
    rcases List.mem_cons.mp he with e1 | he'
    · subst e1
      exact ⟨t, by rw [valV_pos h1, h2], h3⟩
    · have hne : ¬ z.1 = .inl e.1 := fun q => nd1 (by
        rw [h1] at q
        rw [Sum.inl.inj q]
        exact List.mem_map.mpr ⟨e, he', rfl⟩)
      rw [valV_neg hne]
      exact ih nd2 he'
theorem filter_take {F : List (Int × List Int)} {f : Int × List Int → Bool} {j : Nat} {e : Int × List Int} (h : F[j]? = some e) : (F.take (j + 1)).filter f = (F.take j).filter f ++ (if f e then [e] else []) := by
  rw [List.take_add_one, h, List.filter_append]
  show _ ++ List.filter f [e] = _
  rw [List.filter_cons]
  cases f e <;> rfl
theorem RowsV.keepL {rows : List (List Int)} {v : V} {H H1 : Hp} (h : RowsV rows v H) (s : ∀ b xs, H b = some (.lst xs) → H1 b = some (.lst xs)) : RowsV rows v H1 := by
  obtain ⟨p, xs, e, h1, h2, h3⟩ := h
  refine ⟨p, xs, e, s _ _ h1, h2, fun k x hx => ?_⟩
  obtain ⟨row, g1, q, g2, g3⟩ := h3 k x hx
  exact ⟨row, g1, q, g2, s _ _ g3⟩
theorem sameT_of {H : Hp} {p : Addr} {u o : HO} (h : H p = some u) (hu : ∀ zs, u ≠ .tup zs) : SameT H (upd H p o) := fun b zs e => by
  rw [upd_ne (fun z => by rw [z, h] at e; exact hu zs (Option.some.inj e))]; exact e
theorem rd__law_extended (T : Tx K mg) (vs : List V) (H : Hp) (Q : VK) (E : XK) (h : sp__law_extended K vs H Q E) : t__law_extended K { nx := fun _ H' => Q .non H', rt := Q } (start N__law_extended vs) H := by
  obtain ⟨rv, _, _, rfl, rows, d, F, n, hR, hRo, rfl, ⟨kvs, hd, hP⟩, rfl, nd, hF, q⟩ := h
  have henc := enc_numB hRo
  have hFl : F.length ≤ rows.length := by
    have h1 : (F.map (·.1)).length ≤ ((numB rows).map (·.1)).length := nd.length_le_of_subset fun m hm => by
      obtain ⟨e, he, rfl⟩ := List.mem_map.mp hm
      exact keys_some.mp (hF e he).1
    simpa [len_numB] using h1
  have hr39 := hRo.1
  refine enter (σ := [some rv, some (.ref d), some (.int n), none, none, none]) (g_asgN (o := .lst []) (en_lst ea_nil (of_decide_eq_true rfl)) fun l hl => ?_)
  have s1 : Same H (upd H l (.lst [])) := same_new hl
  have hld : d ≠ l := ne_of_none hd hl
  refine g_forK (d := d) (α := List V × Hp) (fun k x => Same H x.2 ∧ x.2 d = some (.dK kvs) ∧ x.2 l = some (.lst x.1) ∧ WtR (((F.take k).filter fun e => decide ((e.2.length : Int) = n)).flatMap (ext (numB rows))) x.1 x.2)
    (fun k x => [some rv, some (.ref d), some (.int n), some (.ref l), none, none]) (fun k x => x.2) (s1 _ _ hd) (fun H' => ev_var rfl) ⟨([], upd H l (.lst [])), ⟨s1, s1 _ _ hd, upd_same, by simpa using WtR.nil⟩, Sx.refl _, Same.refl _⟩ (fun k x hx => hx.2.1) ?_ ?_
  · rintro o k key v ⟨ys, G⟩ hk ⟨sG, hGd, hGl, hW⟩
    have sG : Same H G := sG
    have hGd : G d = some (.dK kvs) := hGd
    have hGl : G l = some (.lst ys) := hGl
    have hW : WtR (((F.take k).filter fun e => decide ((e.2.length : Int) = n)).flatMap (ext (numB rows))) ys G := hW
    obtain ⟨e, he, rfl, _⟩ := dictP_at hP hk
    have hem : e ∈ F := List.mem_of_getElem? he
    obtain ⟨hrs, hpne, hpl⟩ := hF e hem
    obtain ⟨t, hgt, ht⟩ := dictP_get hP nd hem
    have hln : upd H d (.frz o (.dK kvs)) l = none := by rw [upd_ne hld.symm]; exact hl
    have hkl : ∀ b u, H b = some u → b ≠ d → upd H d (.frz o (.dK kvs)) b = some u := fun b u hb hn => by rw [upd_ne hn]; exact hb
    have htH : upd H d (.frz o (.dK kvs)) t = some (.tup (e.2.map V.int)) := hkl _ _ ht (ne_of ht hd (by intro z; cases z))
    have hRH : RowsV rows rv (upd H d (.frz o (.dK kvs))) := hR.keepL fun b xs hb => hkl _ _ hb (ne_of hb hd (by intro z; cases z))
    have hdH : upd H d (.frz o (.dK kvs)) d = some (.frz o (.dK kvs)) := upd_same
    have sF : Same (upd H d (.frz o (.dK kvs))) (upd G d (.frz o (.dK kvs))) := same_upd sG
    have hFl2 : upd G d (.frz o (.dK kvs)) l = some (.lst ys) := (upd_ne hld.symm).trans hGl
    have hWF : WtR (((F.take k).filter fun e => decide ((e.2.length : Int) = n)).flatMap (ext (numB rows))) ys (upd G d (.frz o (.dK kvs))) := hW.keep (sameT_of hGd (by intro z; exact fun h => by cases h))
    have hback : ∀ (zs : List V) (x : Hp) (σ : Sl), Same (upd H d (.frz o (.dK kvs))) x → x l = some (.lst zs) → WtR (((F.take (k + 1)).filter fun e => decide ((e.2.length : Int) = n)).flatMap (ext (numB rows))) zs x → Sx [some rv, some (.ref d), some (.int n), some (.ref l), none, none] σ →
        Go tNext (DLk { nx := fun _ H' => Q .non H', rt := Q } (tSeq (tRet (tVar 3)) tNext) o d kvs (fun x : List V × Hp => Same H x.2 ∧ x.2 d = some (.dK kvs) ∧ x.2 l = some (.lst x.1) ∧ WtR (((F.take (k + 1)).filter fun e => decide ((e.2.length : Int) = n)).flatMap (ext (numB rows))) x.1 x.2) (fun x => [some rv, some (.ref d), some (.int n), some (.ref l), none, none]) (fun x => x.2)) σ x := fun zs x σ sx hxl hWx sxx => by
      have hxd := sx _ _ hdH
      refine gk_next (zs, upd x d (.dK kvs)) ⟨same_unlock hd sx, upd_same, (upd_ne hld.symm).trans hxl, hWx.keep (sameT_of hxd (by intro z; exact fun h => by cases h))⟩ sxx ?_
      show Same (upd (upd x d (.dK kvs)) d (.frz o (.dK kvs))) x
      rw [upd_upd]
      exact same_self hxd
    generalize upd G d (.frz o (.dK kvs)) = GF at sF hFl2 hWF
    have hprev : (((F.take k).filter fun e => decide ((e.2.length : Int) = n)).flatMap (ext (numB rows))).length ≤ 1000 := by
      refine Nat.le_trans (flat_len (nd.sublist ?_)) henc
      exact (List.filter_sublist.trans (List.take_sublist _ _)).map _
    obtain ⟨row, hrow⟩ := Option.isSome_iff_exists.mp hrs
    have hrow2 := hrow
    rw [row_numB] at hrow2
    have hk0 : 0 ≤ e.1 ∧ e.1 < rows.length := by
      by_cases h : 0 ≤ e.1 ∧ e.1 < rows.length
      · exact h
      · rw [if_neg h] at hrow2; cases hrow2
    rw [if_pos hk0] at hrow2
    have hrow3 : rows.getD e.1.toNat [] = row := Option.some.inj hrow2
    have hrl : row.length ≤ 20 := by rw [← hrow3]; exact (hRo.2 _ (getD_mem2 (by omega))).2.1
    have eext : ext (numB rows) e = (List.range row.length).map fun (j : Nat) => (e.2 ++ [(j : Int)], row.getD j 0) := by
      unfold ext; rw [hrow]; rfl
    have dget : ∀ x σ, Same (upd H d (.frz o (.dK kvs))) x → σ[1]? = some (some (.ref d)) → σ[4]? = some (some (V.int e.1)) → Ev (tDGet (tVar 1) (tVar 4)) σ x (.ref t) := fun x σ sx e1 e4 => ev_dget (k := .inl e.1) (ev_var e1) (ev_var e4) (.inr ⟨o, sx _ _ hdH⟩) hgt
    refine g_if (et_eqI (i := (e.2.length : Int)) (Ev.is (ev_lenT (Ev.tt (a := t) (dget _ _ sF rfl rfl) (SqT.of (sF _ _ htH)))) (by rw [List.length_map])) (ev_var rfl)) (fun hb => ?_) fun hb => g_end (hback ys GF _ sF hFl2 ?_ ?_)
    · have hb : ((e.2.length : Int)) = n := of_decide_eq_true hb
      have hfk : ((F.take (k + 1)).filter fun e => decide ((e.2.length : Int) = n)).flatMap (ext (numB rows)) = ((F.take k).filter fun e => decide ((e.2.length : Int) = n)).flatMap (ext (numB rows)) ++ ext (numB rows) e := by
        rw [filter_take he, if_pos (decide_eq_true hb), List.flatMap_append]; simp
      obtain ⟨rq, hev, hrq⟩ := ev_row (K := K) (tr := tVar 0) (ti := tVar 4) (σ := [some rv, some (.ref d), some (.int n), some (.ref l), some (.int e.1), none]) hRH (ev_var rfl) (ev_var rfl) hk0.1 hk0.2
      rw [hrow3] at hrq
      refine g_forR (α := List V × Hp) (fun j x => Same (upd H d (.frz o (.dK kvs))) x.2 ∧ x.2 l = some (.lst x.1) ∧ WtR (((F.take k).filter fun e => decide ((e.2.length : Int) = n)).flatMap (ext (numB rows)) ++ (ext (numB rows) e).take j) x.1 x.2)
        (fun j x => [some rv, some (.ref d), some (.int n), some (.ref l), some (.int e.1), none]) (fun j x => x.2) (ea_cons (ev_lenI (q := rq) (hev.mono sF) (sF _ _ hrq)) ea_nil) (by omega) ⟨(ys, GF), ⟨sF, hFl2, by simpa using hWF⟩, Sx.refl _, Same.refl _⟩ ?_ ?_
      · rintro j ⟨zs, x⟩ hj ⟨sx, hxl, hWx⟩
        have sx : Same (upd H d (.frz o (.dK kvs))) x := sx
        have hxl : x l = some (.lst zs) := hxl
        have hWx : WtR (((F.take k).filter fun e => decide ((e.2.length : Int) = n)).flatMap (ext (numB rows)) ++ (ext (numB rows) e).take j) zs x := hWx
        have hj' : j < row.length := by omega
        have hzl : zs.length < 2000000 := by
          have h1 := hWx.1
          rw [List.length_append, List.length_take, ext_len, hrow] at h1
          have h2 : ((some row).getD []).length = row.length := rfl
          omega
        have hpne2 : e.2.map V.int ≠ [] := fun z => hpne (by simpa using z)
        obtain ⟨rq2, hev2, hrq2⟩ := ev_row (K := K) (tr := tVar 0) (ti := tVar 4) (σ := [some rv, some (.ref d), some (.int n), some (.ref l), some (.int e.1), some (.int (j : Int))]) hRH (ev_var rfl) (ev_var rfl) hk0.1 hk0.2
        rw [hrow3] at hrq2
        refine g_appR (R := TPat (e.2 ++ [(j : Int)], row.getD j 0)) hxl (ev_var rfl) ?_ hzl fun v x2 s2 hv => g_next ?_
        · refine (er_tup2 (R := IsTp ((e.2 ++ [(j : Int)]).map V.int)) ?_ stab_tp (ev_op (hev2.mono sx) (ev_var rfl) (rv_ixI (SqL.of (sx _ _ hrq2)) (by omega) (by omega)))).imp fun v H' ⟨t, x, e1, h1, u, e2, h2⟩ => ⟨t, u, e1, ?_, h2⟩
          · have := EvN.tp (en_catT (K := K) (ta := tDGet (tVar 1) (tVar 4)) (tb := tTup (tCons (tVar 5) tNil)) (σ := [some rv, some (.ref d), some (.int n), some (.ref l), some (.int e.1), some (.int (j : Int))]) (H := x) (xs := e.2.map V.int) (ys := [V.int (j : Int)]) (Ev.tt (a := t) (dget _ _ sx rfl rfl) (SqT.of (sx _ _ htH))) (EvN.tt (en_tup (ea_cons (ev_var rfl) ea_nil) (of_decide_eq_true rfl))) hpne2 (by simp) (by rw [List.length_map]; simp; omega))
            rw [List.map_append]
            exact this
          · rw [h1, e2, Int.toNat_natCast]
        · have sT : SameT x2 (upd x2 l (.lst (zs ++ [v]))) := sameT_lst (s2 _ _ hxl)
          refine Lp.cl (zs ++ [v], upd x2 l (.lst (zs ++ [v]))) ⟨same_mut (sx.trans s2) hln, upd_same, ?_⟩ (Sx.eq (Sx.eq (Sx.eq (Sx.eq (Sx.eq (Sx.any Sx.nil)))))) (Same.refl _)
          have et : (ext (numB rows) e).take (j + 1) = (ext (numB rows) e).take j ++ [(e.2 ++ [(j : Int)], row.getD j 0)] := by
            rw [List.take_add_one, eext, List.getElem?_map, List.getElem?_range hj']; rfl
          rw [et, ← List.append_assoc]
          refine WtR.app (hWx.keep ((tups_of s2).trans sT)) ⟨rfl, fun m y hy => ?_⟩
          cases m with
          | zero =>
            simp at hy
            subst hy
            exact ⟨_, rfl, stab_tpat _ _ _ sT hv⟩
          | succ m => simp at hy
      · rintro ⟨zs, x⟩ ⟨sx, hxl, hWx⟩
        have eT : (ext (numB rows) e).take ((row.length : Int)).toNat = ext (numB rows) e := List.take_of_length_le (by rw [ext_len, hrow, Int.toNat_natCast]; exact Nat.le_refl _)
        rw [eT] at hWx
        exact g_next (g_end (hback zs x _ sx hxl (by rw [hfk]; exact hWx) (Sx.eq (Sx.eq (Sx.eq (Sx.eq (Sx.any (Sx.any Sx.nil))))))))
    · rw [filter_take he, if_neg (by rw [hb]; decide), List.append_nil]
      exact hWF
    · exact Sx.eq (Sx.eq (Sx.eq (Sx.eq (Sx.any (Sx.any Sx.nil)))))
  · rintro ⟨ys, G⟩ ⟨sG, hGd, hGl, hW⟩
    have hP2 := paired_len hP
    rw [hP2, List.take_length] at hW
    exact g_ret (ev_var rfl) fun H1 s => q _ H1 (Same.trans sG s) ⟨l, ys, rfl, s _ _ hGl, hW.keep (tups_of s)⟩
end
section
variable {K : PySem.W.Frag} {mg : Str → Option Value}
/-- what a pair holds -/
def kOf (H : Hp) : V → List Int × Int
  | .ref t => match H t with
    | some (.tup [.ref u, .int w]) => (match H u with
      | some (.tup zs) => (zs.map iOf, w)
      | _ => ([], 0))
    | _ => ([], 0)
  | _ => ([], 0)
theorem kOf_at {H : Hp} {v : V} {y : List Int × Int} (h : TPat y v H) : kOf H v = y := by
  obtain ⟨t, u, rfl, h1, h2⟩ := h
  have e : (y.1.map V.int).map iOf = y.1 := by
    rw [List.map_map]
    exact (List.map_congr_left fun _ _ => rfl).trans (List.map_id _)
  unfold kOf
  simp only [h1, h2, e]
theorem er_sorted {σ : Sl} {H : Hp} {te : TE} {a : Addr} {xs : List V} {wt : List (List Int × Int)} (h : Ev te σ H (.ref a)) (ha : H a = some (.lst xs)) (hW : WtR wt xs H) (pw : wt.Pairwise fun x y => HT.lexLt x.1 y.1 = true) : EvN (tCB (rSortedTP K) (tCons te tNil)) σ H (.lst xs) := fun τ H1 sx e Q q =>
  h τ H1 sx e _ fun H2 e2 => by
    have W2 := hW.keep (tups_of (e.trans e2))
    refine ⟨a, xs, kOf H2, rfl, SqL.of ((e.trans e2) _ _ ha), fun x hx => ?_, ?_, fun p hp => q p _ (e2.free hp) (same_upd e2)⟩
    · obtain ⟨k, hk, rfl⟩ := List.getElem_of_mem hx
      obtain ⟨y, _, hy⟩ := W2.2 k _ (List.getElem?_eq_getElem hk)
      rw [kOf_at hy]
      exact hy
    · refine List.pairwise_iff_getElem.mpr fun i j hi hj hij => ?_
      obtain ⟨y, gy, hy⟩ := W2.2 i _ (List.getElem?_eq_getElem hi)
      obtain ⟨z, gz, hz⟩ := W2.2 j _ (List.getElem?_eq_getElem hj)
      rw [kOf_at hy, kOf_at hz]
      obtain ⟨ii, ey⟩ := List.getElem?_eq_some_iff.mp gy
      obtain ⟨jj, ez⟩ := List.getElem?_eq_some_iff.mp gz
      have := List.pairwise_iff_getElem.mp pw i j ii jj hij
      rw [ey, ez] at this
      exact this
theorem rd__law_best (T : Tx K mg) (vs : List V) (H : Hp) (Q : VK) (E : XK) (h : sp__law_best K vs H Q E) : t__law_best K { nx := fun _ H' => Q .non H', rt := Q } (start N__law_best vs) H := by
  obtain ⟨rv, _, rfl, rows, ws, hR, hRo, ⟨wa, rfl, hwa⟩, hWo, q⟩ := h
  have hw20 := hWo.2.1
  have hr39 := hRo.1
  have henc := enc_numB hRo
  refine enter (σ := [some rv, some (.ref wa), none, none, none, none, none, none, none]) (g_asgN en_dK fun f hf => ?_)
  have s1 : Same H (upd H f (.dK [])) := same_new hf
  have hf1 : upd H f (.dK []) f = some (.dK []) := upd_same
  generalize upd H f (.dK []) = G1 at s1 hf1
  refine g_asgN (o := .lst ((0 :: ws).map V.int)) (en_cat (xs := [V.int 0]) (EvN.l (en_lst (ea_cons ev_c ea_nil) (of_decide_eq_true rfl))) (Ev.l (a := wa) (ev_var rfl) (s1 _ _ hwa)) (by simp; omega)) fun r0 hr0 => ?_
  have s12 : Same H (upd G1 r0 (.lst ((0 :: ws).map V.int))) := s1.trans (same_new hr0)
  have hf2 : upd G1 r0 (.lst ((0 :: ws).map V.int)) f = some (.dK []) := (upd_ne (ne_of_none hf1 hr0)).trans hf1
  have hr2 : upd G1 r0 (.lst ((0 :: ws).map V.int)) r0 = some (.lst ((0 :: ws).map V.int)) := upd_same
  generalize upd G1 r0 (.lst ((0 :: ws).map V.int)) = G2 at s12 hf2 hr2
  refine g_asgR (er_ext (R := fun k => TPat ([(k : Int)], (0 :: ws).getD k 0)) (ea_cons (ev_lenI (q := r0) (ev_var rfl) hr2) ea_nil) (by simp; omega) (fun k => stab_tpat) fun k hk => ?_) fun v G3 s3 ⟨wl, xs, ev, hwl, hxl, hxs⟩ => ?_
  · refine (er_tup2 (R := IsTp [V.int (k : Int)]) (EvN.tp (en_tup (ea_cons (ev_var rfl) ea_nil) (of_decide_eq_true rfl))) stab_tp (ev_op (ev_var rfl) (ev_var rfl) (rv_ixI (SqL.of hr2) (by omega) (by omega)))).imp fun v H' ⟨t, x, e1, h1, u, e2, h2⟩ => ⟨t, u, e1, ?_, h2⟩
    rw [h1, e2, Int.toNat_natCast]
  subst ev
  have hf3 := s3 _ _ hf2
  have s123 := s12.trans s3
  have hW0 : WtR (start1 (0 :: ws)) xs G3 := by
    refine ⟨by unfold start1; rw [hxl, List.length_map, List.length_range]; omega, fun k x hx => ⟨_, ?_, hxs k x hx⟩⟩
    have hk : k < xs.length := by
      rcases Nat.lt_or_ge k xs.length with z | z
      · exact z
      · rw [List.getElem?_eq_none z] at hx; cases hx
    unfold start1
    rw [List.getElem?_map, List.getElem?_range (by omega)]; rfl
  refine g_forR2 (lo := 1) (n := (rows.length : Int) + 2) (α := Addr × List V × Hp) (fun k x => Same H x.2.2 ∧ DictP f (stg (numB rows) (0 :: ws) k).1 x.2.2 ∧ x.2.2 x.1 = some (.lst x.2.1) ∧ WtR (stg (numB rows) (0 :: ws) k).2 x.2.1 x.2.2)
    (fun k x => [some rv, some (.ref wa), some (.ref f), none, some (.ref x.1), none, none, none, none]) (fun k x => x.2.2) (ea_cons ev_c (ea_cons (ev_add (ev_lenR (hR.mono s123) (ev_var rfl)) ev_c) ea_nil)) (by omega)
    ⟨(wl, xs, G3), ⟨s123, ⟨[], hf3, .nil⟩, hwl, hW0⟩, Sx.eq (Sx.eq (Sx.eq (Sx.any (Sx.refl _)))), Same.refl _⟩ ?_ ?_
  · rintro k ⟨wl, xs, G⟩ hk ⟨sG, hD, hwl, hW⟩
    have sG : Same H G := sG
    have hD : DictP f (stg (numB rows) (0 :: ws) k).1 G := hD
    have hwl : G wl = some (.lst xs) := hwl
    have hW : WtR (stg (numB rows) (0 :: ws) k).2 xs G := hW
    have SK := stg_ok (numB rows) (0 :: ws) k
    have SK1 := stg_ok (numB rows) (0 :: ws) (k + 1)
    have hflt := stg_filter (numB rows) (0 :: ws) k
    have e1 : (stg (numB rows) (0 :: ws) (k + 1)).1 = ((stg (numB rows) (0 :: ws) k).2.foldl (stepP (numB rows)) ((stg (numB rows) (0 :: ws) k).1, [])).1 := rfl
    generalize stg (numB rows) (0 :: ws) (k + 1) = FW1 at *
    generalize stg (numB rows) (0 :: ws) k = FW at *
    obtain ⟨F, W⟩ := FW
    refine g_forF (K := K) (α := Hp) (fun p j x => Same H x ∧ x p = some (.lst xs) ∧ WtR W xs x ∧ DictP f ((W.take j).foldl (stepP (numB rows)) (F, [])).1 x)
      (fun p j x => [some rv, some (.ref wa), some (.ref f), none, some (.ref wl), none, some (.int (1 + (k : Int))), none, none]) (fun p j x => x) (er_sorted (a := wl) (ev_var rfl) hwl hW SK.pw) (fun p hp => ⟨_, ⟨sG.trans (same_new hp), upd_same, hW.keep (sameT_lst' hp), ?_⟩, Sx.refl _, Same.refl _⟩) (fun p j x _ hx => SqL.of hx.2.1) ?_ ?_
    · refine hD.keep (sameT_lst' hp) ?_
      obtain ⟨kvs, h1, _⟩ := hD
      exact upd_ne (ne_of_none h1 hp)
    · rintro p j v x hv ⟨sx, hpx, hWx, hDx⟩
      have sx : Same H x := sx
      obtain ⟨⟨path, word⟩, hy, t, u, rfl, ht, hu⟩ := hWx.2 j v hv
      have ht : x t = some (.tup [.ref u, .int word]) := ht
      have hym : (path, word) ∈ W := List.mem_of_getElem? hy
      have hOk : OkW word := wlk_ok hRo hWo (SK.w1 _ hym).2.1
      have hok := fold_ok SK j
      rw [take_fold hy]
      generalize hXX : (W.take j).foldl (stepP (numB rows)) (F, []) = XX at *
      obtain ⟨ok1, ok2, ok3⟩ := hok
      rw [len_numB] at ok3
      obtain ⟨kvs, hfx, hP⟩ := hDx
      have hw : ∀ σ : Sl, σ[7]? = some (some (V.ref t)) → Ev (tOp (rIxT K) (tVar 7) (tC (.int 1))) σ x (.int word) := fun σ e => ev_op (ev_var e) ev_c (rv_ixT (SqT.of ht) rfl)
      refine g_asg (ev_div (hw _ rfl) ev_c (by decide) (by decide)) (g_if (et_and (et_eqI (ev_mod (hw _ rfl) ev_c (by decide)) ev_c) fun _ => et_and (et_ltI (ev_var rfl) (ev_lenR (hR.mono sx) (ev_var rfl))) fun _ => et_B (Ev.is (ev_dnin (k := .inl (word / 2)) (ev_var rfl) (ev_var rfl) (.inl hfx)) (by rw [dp_val hP]))) (fun hb => ?_) fun hb => g_end (g_next (Lp.cl x ⟨sx, hpx, hWx, ?_⟩ ?_ (Same.refl _))))
      · obtain ⟨hb1, hb2⟩ := Bool.and_eq_true_iff.mp hb
        obtain ⟨hb3, hb4⟩ := Bool.and_eq_true_iff.mp hb2
        have ho : objOf (numB rows) word = some (word / 2) := by rw [obj_numB hOk, if_pos ⟨of_decide_eq_true hb1, of_decide_eq_true hb3⟩]
        have hn : word / 2 ∉ XX.1.map (·.1) := by simpa using hb4
        have hkl : kvs.length < 2000000 := by have := paired_len hP; omega
        have sT := sameT_dk (kvs' := putK kvs (.inl (word / 2)) (.ref u)) hfx
        have hP2 := paired_imp (dk_put hP hn hu) fun z y ⟨a, t, b, c⟩ => (⟨a, t, b, sT _ _ c⟩ : z.1 = Sum.inl y.1 ∧ ∃ t, z.2 = V.ref t ∧ L2.upd x f (HO.dK (putK kvs (.inl (word / 2)) (V.ref u))) t = some (HO.tup (y.2.map V.int)))
        refine g_dput (k := .inl (word / 2)) hfx (ev_op (ev_var rfl) ev_c (rv_ixT (SqT.of ht) rfl)) (ev_var rfl) (ev_var rfl) hkl (g_next (g_end (g_next (Lp.cl _ ⟨same_mut sx hf, ?_, hWx.keep sT, ?_⟩ ?_ (Same.refl _)))))
        · exact (upd_ne (ne_of hpx hfx (by intro z; cases z))).trans hpx
        · rw [step_some ho hn]
          exact ⟨_, upd_same, hP2⟩
        · exact Sx.eq (Sx.eq (Sx.eq (Sx.any (Sx.eq (Sx.any (Sx.eq (Sx.any (Sx.any Sx.nil))))))))
      · have : stepP (numB rows) XX (path, word) = XX := step_none fun n hn => by
          have hn : objOf (numB rows) word = some n := hn
          rw [obj_numB hOk] at hn
          split at hn
          · rename_i hc
            cases hn
            rw [decide_eq_true hc.1, decide_eq_true hc.2] at hb
            simpa using hb
          · cases hn
        rw [this]
        exact ⟨kvs, hfx, hP⟩
      · exact Sx.eq (Sx.eq (Sx.eq (Sx.any (Sx.eq (Sx.any (Sx.eq (Sx.any (Sx.any Sx.nil))))))))
    · rintro p x ⟨sx, hpx, hWx, hDx⟩
      have sx : Same H x := sx
      rw [hWx.1, List.take_length, ← e1] at hDx
      refine g_asgR (R := fun v H1 => ∃ p ys, v = .ref p ∧ H1 p = some (.lst ys) ∧ WtR FW1.2 ys H1) (er_call (ea_cons (ev_var rfl) (ea_cons (ev_var rfl) (ea_cons (ev_var rfl) ea_nil))) fun H1 s Q q => ?_) fun v x2 s2 ⟨wl2, ys, ev, hwl2, hW2⟩ => ?_
      · refine ⟨_, _, _, rfl, rows, f, FW1.1, 1 + (k : Int), hR.mono (sx.trans s), hRo, rfl, ?_, rfl, SK1.nd, fun e he => ?_, fun v H2 s2 ⟨p, ys, ev, hp, hy⟩ => q v H2 s2 ⟨p, ys, ev, hp, ?_⟩⟩
        · refine hDx.keep (tups_of s) ?_
          obtain ⟨kvs, h1, _⟩ := hDx
          rw [h1]; exact s _ _ h1
        · obtain ⟨a, b, c, _, _⟩ := SK1.f1 e he
          exact ⟨a, b, by omega⟩
        · have ef : (FW1.1.filter fun e => decide ((e.2.length : Int) = 1 + (k : Int))) = FW1.1.filter fun e => decide (e.2.length = k + 1) := List.filter_congr fun e _ => decide_eq_decide.mpr (by omega)
          rw [ef, hflt] at hy
          exact hy
      · subst ev
        refine g_next (Lp.cl (wl2, ys, x2) ⟨sx.trans s2, hDx.keep (tups_of s2) ?_, hwl2, hW2⟩ ?_ (Same.refl _))
        · obtain ⟨kvs, h1, _⟩ := hDx
          rw [h1]; exact s2 _ _ h1
        · exact Sx.eq (Sx.eq (Sx.eq (Sx.any (Sx.eq (Sx.any (Sx.any (Sx.any (Sx.any Sx.nil))))))))
  · rintro ⟨wl, xs, G⟩ ⟨sG, hD, hwl, hW⟩
    have hD : DictP f (stg (numB rows) (0 :: ws) ((rows.length : Int) + 2 - 1).toNat).1 G := hD
    have ek : ((rows.length : Int) + 2 - 1).toNat = (numB rows).length + 1 := by rw [len_numB]; omega
    rw [ek] at hD
    refine g_ret (ev_var rfl) fun H1 s => q (.ref f) H1 (Same.trans sG s) ⟨f, rfl, DictP.keep hD (tups_of s) ?_⟩
    obtain ⟨kvs, h1, _⟩ := hD
    rw [h1]; exact s _ _ h1
end
end K64

set_option Elab.async false
set_option linter.all false
set_option maxRecDepth 100000
set_option maxHeartbeats 2000000
namespace K64
open PySem PySem.Spec PyProof.Rows L2 Kw
local macro_rules | `(tactic| walk_at "hp") => `(tactic| first
  | assumption
  | exact upd_same
  | (refine Eq.trans (upd_ne ?_) ?_; (first | assumption | (apply Ne.symm; assumption)); walk_at "hp"))
local macro_rules | `(tactic| walk_at "sq") => `(tactic| first
  | assumption
  | (apply SqL.of; walk_at "hp")
  | (apply SqT.of; walk_at "hp"))
local macro_rules | `(tactic| walk_at "rv") => `(tactic| first
  | ((with_reducible exact rv_I0))
  | ((with_reducible apply rv_I); first | assumption | decide | omega | (exact ⟨by omega, by omega⟩) | skip)
  | ((with_reducible apply rv_eq); rfl)
  | ((with_reducible apply rv_ne); rfl)
  | ((with_reducible exact rv_isN))
  | ((with_reducible exact rv_notN))
  | skip)
local macro_rules | `(tactic| walk_at "sp") => `(tactic| first
  | (apply spv_I1; first | trivial | assumption | skip)
  | (apply spv_I2; first | trivial | assumption | skip)
  | skip)
local macro_rules | `(tactic| walk_at "ev") => `(tactic| first
  | ((with_reducible apply ev_var); rfl)
  | ((with_reducible exact ev_c))
  | ((with_reducible exact ea_nil))
  | ((with_reducible apply ea_cons); walk_at "ev"; walk_at "ev")
  | ((with_reducible apply ev_op); walk_at "ev"; walk_at "ev"; walk_at "rv")
  | ((with_reducible apply ev_neg); walk_at "ev")
  | ((with_reducible apply ev_int); walk_at "ev")
  | ((with_reducible apply ev_fld); walk_at "ev"; walk_at "hp"; walk_at "tx"; walk_at "tx"; rfl)
  | ((with_reducible apply ev_call); walk_at "ev"; walk_at "sp")
  | ((with_reducible apply et_test); walk_at "ev")
  | ((with_reducible apply et_B); walk_at "ev")
  | ((with_reducible apply et_not); walk_at "ev")
  | ((with_reducible apply ev_notV); walk_at "ev")
  | ((with_reducible apply eo_some); walk_at "ev")
  | ((with_reducible exact eo_none))
  | ((with_reducible apply en_lst); walk_at "ev"; exact of_decide_eq_true rfl)
  | ((with_reducible apply en_tup); walk_at "ev"; exact of_decide_eq_true rfl)
  | ((with_reducible exact en_dK))
  | skip)
local macro_rules | `(tactic| walk_at "tx") => `(tactic| first
  | assumption
  | (with_reducible exact Tx.cls_Store (by assumption))
  | (with_reducible exact Tx.na_Store_room (by assumption))
  | (with_reducible exact Tx.na_Store_entries (by assumption))
  | (with_reducible exact Tx.na_Store_words (by assumption))
  | (with_reducible exact Tx.na_Store__places (by assumption))
  | (with_reducible exact Tx.na_Store__least (by assumption))
  | (with_reducible exact Tx.cls_Space (by assumption))
  | (with_reducible exact Tx.na_Space_store (by assumption))
  | (with_reducible exact Tx.na_Space_pressure (by assumption))
  | (with_reducible exact Tx.na_Space_always (by assumption))
  | (with_reducible exact Tx.na_Space_allocations (by assumption))
  | (with_reducible exact Tx.na_Space_collections (by assumption))
  | (with_reducible exact Tx.na_Space__roots (by assumption))
  | (with_reducible exact Tx.na_Space__held (by assumption))
  | (with_reducible exact Tx.na_Space__saved (by assumption)))
/-! ### spaces that change -/
theorem off_app_some : ∀ {bs cs : List (Int × List Int)} {n : Int} {k : Nat}, off bs n = some k → off (bs ++ cs) n = some k
  | [], _, _, _, h => by cases h
  | (m, r) :: bs, cs, n, k, h => by
    by_cases e : m = n
    · subst e
      have : k = 0 := by simpa [off] using h.symm
      subst this
      simp [off]
    · cases ho : off bs n with
      | none => simp [off, e, ho] at h
      | some j =>
        have : k = j + (r.length + 2) := by simp [off, e, ho] at h; omega
        subst this
        have ih := off_app_some (cs := cs) ho
        simp [off, e, ih]
theorem off_app_new : ∀ {bs : List (Int × List Int)} {n : Int} {row : List Int}, rowOf bs n = none → off (bs ++ [(n, row)]) n = some (enc bs).length
  | [], n, row, _ => by simp [off, enc]
  | (m, r) :: bs, n, row, h => by
    by_cases e : m = n
    · subst e; simp [rowOf, List.lookup_cons] at h
    · have e2 : (n == m) = false := by simpa using fun z => e z.symm
      have h2 : rowOf bs n = none := by simpa [rowOf, List.lookup_cons, e2] using h
      have ih := off_app_new (row := row) h2
      simp [off, e, ih, enc]; omega
theorem off_app_ne : ∀ {bs : List (Int × List Int)} {m n : Int} {row : List Int}, n ≠ m → off (bs ++ [(m, row)]) n = off bs n
  | [], m, n, row, h => by simp [off, Ne.symm h]
  | (j, r) :: bs, m, n, row, h => by
    by_cases e : j = n
    · simp [off, e]
    · simp [off, e, off_app_ne (row := row) h]
theorem Plc.app {bs : List (Int × List Int)} {kvs : List (Key × V)} (P : Plc bs kvs) {m : Int} {row : List Int} (h : rowOf bs m = none) : Plc (bs ++ [(m, row)]) (putK kvs (.inl m) (.int (enc bs).length)) := by
  have hv : valV kvs (.inl m) = none := by
    have := P.some (n := m)
    rw [h] at this
    simpa using this
  obtain ⟨ks, hk, hp⟩ := P.keys
  refine ⟨fun n => ?_, ks ++ [m], ?_, ?_⟩
  · rw [valV_put]
    by_cases e : n = m
    · subst e
      rw [if_pos rfl, off_app_new h]; rfl
    · rw [if_neg (fun z => e (Sum.inl.inj z)), off_app_ne e]
      exact P.at_ n
  · rw [putK_new _ hv, List.map_append, hk]; simp
  · rw [List.map_append]
    exact hp.append_right _
theorem StoreAt.alloc {K : PySem.W.Frag} {a : SA} {r e l : Int} {bs : List (Int × List Int)} {kvs : List (Key × V)} {H : Hp} (S : StoreAt K a r e l bs kvs H) {m i n : Int} (hf : Free bs l m) (h0 : 0 ≤ n) (hz : ((enc bs).length : Int) + 3 + n ≤ r) (hr : r ≤ 200000) :
    StoreAt K a r e m (bs ++ [(m, newRow i n)]) (putK kvs (.inl m) (.int (enc bs).length)) (allocH K a r e bs kvs m i n H) := by
  have n1 := S.sw
  have n2 := S.sp
  have n3 := S.wp
  refine ⟨?_, upd_same, ?_, S.plc.app hf.no, fun b hb => ?_, ?_, ?_⟩
  · unfold allocH; rw [upd_ne n1, upd_ne n2, upd_same]
  · unfold allocH; rw [upd_ne n3.symm, upd_same]
  · rcases List.mem_append.mp hb with h | h
    · exact S.ne b h
    · rw [List.mem_singleton.mp h]; simp [newRow]
  · rw [List.map_append]
    refine List.nodup_append.mpr ⟨S.nd, by simp, fun x hx y hy e => ?_⟩
    have hy : y = m := by simpa using hy
    have := keys_some.mpr hx
    rw [e, hy, hf.no] at this
    cases this
  · rw [enc_app]
    simp [enc, newRow]
    omega
theorem SpaceAt.alloc {K : PySem.W.Frag} {p : PA} {s : PS} {H : Hp} (S : SpaceAt K p s H) {m i n : Int} (F : Fits s m n) :
    SpaceAt K p { s with l := m, al := s.al + 1, bs := s.bs ++ [(m, newRow i n)], kvs := putK s.kvs (.inl m) (.int (enc s.bs).length) } (allocH K p.a s.r s.e s.bs s.kvs m i n (upd H p.sp (oP K p (s.al + 1) s.co))) := by
  have S1 := S.bump
  obtain ⟨n1, n2, n3, n4, n5, n6, n7, n8, n9, n10, n11⟩ := S.ne
  have st := S1.S.alloc (m := m) (i := i) (n := n) F.free F.n0 F.room F.r2
  have keep : ∀ b o, upd H p.sp (oP K p (s.al + 1) s.co) b = some o → b ≠ p.a.st → b ≠ p.a.pl → b ≠ p.a.wl → allocH K p.a s.r s.e s.bs s.kvs m i n (upd H p.sp (oP K p (s.al + 1) s.co)) b = some o := fun b o h h1 h2 h3 => by
    unfold allocH; rw [upd_ne h3, upd_ne h2, upd_ne h1]; exact h
  exact ⟨keep _ _ S1.sp S1.d1 n2 n1, st, keep _ _ S1.rl n6.symm n9.symm S1.d2, keep _ _ S1.hl n7.symm n10.symm S1.d3, keep _ _ S1.pr n8.symm n11.symm S1.d4, S1.d1, S1.d2, S1.d3, S1.d4, S1.d5, S1.d6, S1.d7, S1.rn, S1.hn⟩
theorem put_keys (bs : List (Int × List Int)) (n : Int) (j : Nat) (w : Int) : (putRow bs n j w).map (·.1) = bs.map (·.1) := by
  unfold putRow
  rw [List.map_map]
  refine List.map_congr_left fun b _ => ?_
  show (if b.1 = n then (b.1, b.2.set j w) else b).1 = b.1
  split <;> rfl
theorem put_off (n : Int) (j : Nat) (w : Int) : ∀ (bs : List (Int × List Int)) (m : Int), off (putRow bs n j w) m = off bs m
  | [], _ => rfl
  | (a, r) :: bs, m => by
    have ih := put_off n j w bs m
    unfold putRow at ih ⊢
    rw [List.map_cons]
    by_cases e : a = n
    · rw [if_pos e]
      show (if a = m then some 0 else (off (bs.map _) m).map (· + ((r.set j w).length + 2))) = (if a = m then some 0 else (off bs m).map (· + (r.length + 2)))
      rw [ih, List.length_set]
    · rw [if_neg e]
      show (if a = m then some 0 else (off (bs.map _) m).map (· + (r.length + 2))) = (if a = m then some 0 else (off bs m).map (· + (r.length + 2)))
      rw [ih]
theorem put_len (n : Int) (j : Nat) (w : Int) : ∀ (bs : List (Int × List Int)), (enc (putRow bs n j w)).length = (enc bs).length
  | [] => rfl
  | (a, r) :: bs => by
    have ih := put_len n j w bs
    unfold putRow at ih ⊢
    rw [List.map_cons]
    by_cases e : a = n
    · rw [if_pos e]; simp [enc, ih]
    · rw [if_neg e]; simp [enc, ih]
theorem StoreAt.put {K : PySem.W.Frag} {a : SA} {r e l : Int} {bs : List (Int × List Int)} {kvs : List (Key × V)} {H : Hp} (S : StoreAt K a r e l bs kvs H) {i w : Int} {j : Nat} : StoreAt K a r e l (putRow bs i j w) kvs (upd H a.wl (.lst ((enc (putRow bs i j w)).map V.int))) := by
  have n1 := S.sw
  have n3 := S.wp
  obtain ⟨ks, hk, hp⟩ := S.plc.keys
  refine ⟨(upd_ne n1).trans S.st, upd_same, (upd_ne n3.symm).trans S.pl, ⟨fun n => by rw [put_off]; exact S.plc.at_ n, ks, hk, by rw [put_keys]; exact hp⟩, fun b hb => ?_, by rw [put_keys]; exact S.nd, by rw [put_len]; exact S.sz⟩
  unfold putRow at hb
  obtain ⟨c, hc, rfl⟩ := List.mem_map.mp hb
  have := S.ne c hc
  split
  · intro z
    have h2 := congrArg List.length z
    rw [List.length_set] at h2
    exact this (List.eq_nil_of_length_eq_zero h2)
  · exact this
theorem SpaceAt.put {K : PySem.W.Frag} {p : PA} {s : PS} {H : Hp} (S : SpaceAt K p s H) {i w : Int} {j : Nat} : SpaceAt K p { s with bs := putRow s.bs i j w } (upd H p.a.wl (.lst ((enc (putRow s.bs i j w)).map V.int))) := by
  obtain ⟨n1, n2, n3, n4, n5, n6, n7, n8, n9, n10, n11⟩ := S.ne
  exact ⟨(upd_ne n1).trans S.sp, S.S.put, (upd_ne S.d2).trans S.rl, (upd_ne S.d3).trans S.hl, (upd_ne S.d4).trans S.pr, S.d1, S.d2, S.d3, S.d4, S.d5, S.d6, S.d7, S.rn, S.hn⟩
theorem StoreAt.other {K : PySem.W.Frag} {a : SA} {r e l : Int} {bs : List (Int × List Int)} {kvs : List (Key × V)} {H : Hp} (S : StoreAt K a r e l bs kvs H) {b : Addr} {o : HO} (h1 : a.st ≠ b) (h2 : a.wl ≠ b) (h3 : a.pl ≠ b) : StoreAt K a r e l bs kvs (upd H b o) :=
  ⟨(upd_ne h1).trans S.st, (upd_ne h2).trans S.wl, (upd_ne h3).trans S.pl, S.plc, S.ne, S.nd, S.sz⟩
theorem SpaceAt.root {K : PySem.W.Frag} {p : PA} {s : PS} {H : Hp} (S : SpaceAt K p s H) {i : Nat} {z : Int} : SpaceAt K p { s with rs := s.rs.set i z } (upd H p.rl (.lst ((s.rs.set i z).map V.int))) := by
  obtain ⟨n1, n2, n3, n4, n5, n6, n7, n8, n9, n10, n11⟩ := S.ne
  exact ⟨(upd_ne n3).trans S.sp, S.S.other n6 S.d2.symm n9, upd_same, (upd_ne S.d5.symm).trans S.hl, (upd_ne S.d6.symm).trans S.pr, S.d1, S.d2, S.d3, S.d4, S.d5, S.d6, S.d7, by show (s.rs.set i z).length = 16; rw [List.length_set]; exact S.rn, S.hn⟩
theorem SpaceAt.hold {K : PySem.W.Frag} {p : PA} {s : PS} {H : Hp} (S : SpaceAt K p s H) {z : Int} (h : s.hs.length < 1000) : SpaceAt K p { s with hs := s.hs ++ [z] } (upd H p.hl (.lst ((s.hs ++ [z]).map V.int))) := by
  obtain ⟨n1, n2, n3, n4, n5, n6, n7, n8, n9, n10, n11⟩ := S.ne
  exact ⟨(upd_ne n4).trans S.sp, S.S.other n7 S.d3.symm n10, (upd_ne S.d5).trans S.rl, upd_same, (upd_ne S.d7.symm).trans S.pr, S.d1, S.d2, S.d3, S.d4, S.d5, S.d6, S.d7, S.rn, by show (s.hs ++ [z]).length ≤ 1000; rw [List.length_append]; exact h⟩
/-- nothing of a space is known before -/
def PFresh (p : PA) (H : Hp) : Prop := ∀ b ∈ p.dom, H b = none
section
variable {p : PA} {H G : Hp} (h : PFresh p H)
theorem PFresh.sp (h : PFresh p H) : H p.sp = none := h _ (by simp [PA.dom])
theorem PFresh.st (h : PFresh p H) : H p.a.st = none := h _ (by simp [PA.dom])
theorem PFresh.wl (h : PFresh p H) : H p.a.wl = none := h _ (by simp [PA.dom])
theorem PFresh.pl (h : PFresh p H) : H p.a.pl = none := h _ (by simp [PA.dom])
theorem PFresh.rl (h : PFresh p H) : H p.rl = none := h _ (by simp [PA.dom])
theorem PFresh.hl (h : PFresh p H) : H p.hl = none := h _ (by simp [PA.dom])
end
theorem same_alloc {K : PySem.W.Frag} {p : PA} {H G : Hp} (h : PFresh p H) (s : Same H G) {r e m i n al co : Int} {bs : List (Int × List Int)} {kvs : List (Key × V)} : Same H (allocH K p.a r e bs kvs m i n (upd G p.sp (oP K p al co))) :=
  same_mut (same_mut (same_mut (same_mut s h.sp) h.st) h.pl) h.wl
/-- Space(room, entries) -/
theorem er_space {K : PySem.W.Frag} {σ : Sl} {H : Hp} {ta tb : TE} {r e : Int} {E : XK} (ha : Ev ta σ H (.int r)) (hb : Ev tb σ H (.int e)) :
    EvR (tMake (He.ga K "Space") (sp_Space_init_ K) [] E (tCons ta (tCons tb tNil))) σ H fun v H1 => ∃ p, v = .ref p.sp ∧ SpaceAt K p (emptyPS r e) H1 ∧ PFresh p H := by
  refine er_make (vs := [.int r, .int e]) (ea_cons ha (ea_cons hb ea_nil)) fun H1 x dx s hx hdx hne Q q => ?_
  refine ⟨_, _, _, rfl, x, dx, r, e, rfl, upd_same, rfl, rfl, fun p H2 hpx hfr S hk => ⟨rfl, ?_⟩⟩
  refine q H2 (fun b o hb => ?_) ⟨p, by rw [hpx], S, fun b hb => ?_⟩
  · have h1 : b ≠ x := ne_of_none hb hx
    have h2 : b ≠ dx := ne_of_none hb hdx
    exact hk b o (by rw [upd_ne h1, upd_ne h2]; exact hb) h1
  · by_cases h1 : b = x
    · rw [h1]; exact s.free hx
    · have h2 := hfr b hb h1
      rw [upd_ne h1] at h2
      by_cases h3 : b = dx
      · rw [h3, upd_same] at h2; cases h2
      · rw [upd_ne h3] at h2
        exact s.free h2
/-- space.new(kind, size) -/
theorem em_new {K : PySem.W.Frag} {σ : Sl} {H : Hp} {to ta tb : TE} {p : PA} {s : PS} {m i n : Int} {E : XK} (S : SpaceAt K p s H) (F : Fits s m n) (ho : Ev to σ H (.ref p.sp)) (ha : Ev ta σ H (.int i)) (hb : Ev tb σ H (.int n)) :
    EvM (tMeth (He.ga K "Space") "new" (sp_Space_new K) [] E to (tCons ta (tCons tb tNil))) σ H (.int m) (fun H => allocH K p.a s.r s.e s.bs s.kvs m i n (upd H p.sp (oP K p (s.al + 1) s.co))) :=
  em_meth ho S.sp rfl (ea_cons ha (ea_cons hb ea_nil)) (fun _ _ s => allocH_mono _ _ (same_upd s)) fun H1 s1 Q q => ⟨_, _, _, rfl, p, s, m, i, n, rfl, S.mono s1, rfl, rfl, F, q⟩
theorem mono_new {K : PySem.W.Frag} {p : PA} {s : PS} {m i n : Int} : Mono (fun H => allocH K p.a s.r s.e s.bs s.kvs m i n (upd H p.sp (oP K p (s.al + 1) s.co))) := fun _ _ s => allocH_mono _ _ (same_upd s)
/-- rows by a function -/
def bsF (n : Nat) (f : Nat → List Int) : List (Int × List Int) := (List.range n).map fun (k : Nat) => ((k : Int), f k)
theorem bsF_row (n : Nat) (f : Nat → List Int) (i : Int) : rowOf (bsF n f) i = if 0 ≤ i ∧ i < n then some (f i.toNat) else none := by
  unfold rowOf bsF
  rw [List.range_eq_range', look_range f]
  simp
theorem bsF_put {n : Nat} {f : Nat → List Int} {i j : Nat} {w : Int} : putRow (bsF n f) (i : Int) j w = bsF n fun m => if m = i then (f m).set j w else f m := by
  unfold putRow bsF
  rw [List.map_map]
  refine List.map_congr_left fun m _ => ?_
  show (if ((m : Int)) = (i : Int) then _ else _) = _
  by_cases e : m = i
  · rw [if_pos (by omega)]
    show ((m : Int), (f m).set j w) = ((m : Int), if m = i then (f m).set j w else f m)
    rw [if_pos e]
  · rw [if_neg (by omega)]
    show ((m : Int), f m) = ((m : Int), if m = i then (f m).set j w else f m)
    rw [if_neg e]
theorem bsF_app (n : Nat) (f : Nat → List Int) : bsF n f ++ [((n : Int), f n)] = bsF (n + 1) f := by
  unfold bsF
  rw [List.range_succ, List.map_append]; rfl
theorem bsF_congr {n : Nat} {f g : Nat → List Int} (h : ∀ k, k < n → f k = g k) : bsF n f = bsF n g := List.map_congr_left fun k hk => by rw [h k (List.mem_range.mp hk)]
theorem bsF_len (n : Nat) (f : Nat → List Int) : (bsF n f).length = n := by unfold bsF; rw [List.length_map, List.length_range]
theorem bsF_free {n : Nat} {f : Nat → List Int} {l : Int} (h0 : 0 ≤ l) (h1 : l ≤ n) : Free (bsF n f) l n := ⟨h1, fun j a b => by rw [bsF_row, if_pos (by omega)]; rfl, by rw [bsF_row, if_neg (by omega)]⟩
theorem bsF_mem {n : Nat} {f : Nat → List Int} {b : Int × List Int} (h : b ∈ bsF n f) : ∃ k, k < n ∧ b = ((k : Int), f k) := by
  unfold bsF at h
  obtain ⟨k, hk, rfl⟩ := List.mem_map.mp h
  exact ⟨k, List.mem_range.mp hk, rfl⟩
theorem newRow_len (k s : Int) : (newRow k s).length = s.toNat + 1 := by simp [newRow]
section
variable {K : PySem.W.Frag} {mg : Str → Option Value}
theorem enc_bsF_le {n m : Nat} {f : Nat → List Int} (h : ∀ k, k < n → (f k).length ≤ m) : (enc (bsF n f)).length ≤ n * (m + 2) := by
  have := enc_len_le (m := m) (bsF n f) fun b hb => by
    obtain ⟨k, hk, rfl⟩ := bsF_mem hb
    exact h k hk
  rw [bsF_len] at this
  exact this
theorem rd__law_space (T : Tx K mg) (vs : List V) (H : Hp) (Q : VK) (E : XK) (h : sp__law_space K vs H Q E) : t__law_space K { nx := fun _ H' => Q .non H', rt := Q } (start N__law_space vs) H := by
  obtain ⟨rv, _, rfl, rows, ws, hR, hRo, ⟨wa, rfl, hwa⟩, hWo, q⟩ := h
  have hr39 := hRo.1
  have hw20 := hWo.2.1
  have hw16 := hWo.1
  have hrow : ∀ k, k < rows.length → 1 ≤ (rows.getD k []).length ∧ (rows.getD k []).length ≤ 20 := fun k hk => ⟨(hRo.2 _ (getD_mem2 hk)).1, (hRo.2 _ (getD_mem2 hk)).2.1⟩
  refine enter (σ := [some rv, some (.ref wa), none, none, none]) (g_asgR (er_space ev_c ev_c) fun v G0 s0 ⟨p, ev, S0, hP⟩ => ?_)
  subst ev
  -- the objects
  refine g_forR (α := PS × Hp) (fun k x => Same H x.2 ∧ SpaceAt K p x.1 x.2 ∧ x.1.r = 100000 ∧ x.1.e = 100000 ∧ 0 ≤ x.1.l ∧ x.1.l ≤ k ∧ x.1.bs = bsF k (fun j => newRow ((rows.getD j []).getD 0 0) ((rows.getD j []).length - 1)) ∧ x.1.rs = List.replicate 16 0 ∧ x.1.hs = [])
    (fun k x => [some rv, some (.ref wa), some (.ref p.sp), none, none]) (fun k x => x.2) (ea_cons (ev_lenR (hR.mono s0) (ev_var rfl)) ea_nil) (by omega) ⟨(emptyPS 100000 100000, G0), ⟨s0, S0, rfl, rfl, Int.le_refl _, Int.le_refl _, rfl, rfl, rfl⟩, Sx.refl _, Same.refl _⟩ ?_ ?_
  · rintro k ⟨st, G⟩ hk ⟨sG, S, hr, he, hl0, hl1, hbs, hrs, hhs⟩
    have sG : Same H G := sG
    have S : SpaceAt K p st G := S
    have hbs : st.bs = bsF k (fun j => newRow ((rows.getD j []).getD 0 0) ((rows.getD j []).length - 1)) := hbs
    have hr : st.r = 100000 := hr
    have he : st.e = 100000 := he
    have hl0 : 0 ≤ st.l := hl0
    have hl1 : st.l ≤ k := hl1
    have hk' : k < rows.length := by omega
    obtain ⟨hk1, hk2⟩ := hrow k hk'
    obtain ⟨rq, hev, hrq⟩ := ev_row (K := K) (tr := tVar 0) (ti := tVar 3) (σ := [some rv, some (.ref wa), some (.ref p.sp), some (.int (k : Int)), none]) (hR.mono sG) (ev_var rfl) (ev_var rfl) (by omega) hk
    rw [Int.toNat_natCast] at hrq
    have henc : (enc st.bs).length ≤ k * 22 := by
      rw [hbs]
      refine enc_bsF_le (m := 20) fun j hj => ?_
      have := hrow j (by omega)
      rw [newRow_len]
      omega
    have hF : Fits st k ((rows.getD k []).length - 1) := ⟨by rw [hbs]; exact bsF_free hl0 hl1, by omega, by omega, by omega, by omega⟩
    refine g_ifM (etm_not (etm_B (em_callM (em_new (i := (rows.getD k []).getD 0 0) S hF (ev_var rfl) (Ev.is (ev_op hev ev_c (rv_ixI (SqL.of hrq) (by decide) (by omega))) rfl) (ev_sub (ev_lenI hev hrq) ev_c)) mono_new (ea_cons (ev_var rfl) ea_nil) spv_law_is))) mono_new (fun hb => by simp at hb) fun _ => g_end (g_next (Lp.cl (_, _) ⟨same_alloc hP sG, S.alloc hF, hr, he, ?_, ?_, ?_, hrs, hhs⟩ (Sx.eq (Sx.eq (Sx.eq (Sx.any (Sx.any Sx.nil))))) (Same.refl _)))
    · show (0 : Int) ≤ k; omega
    · show (k : Int) ≤ ((k + 1 : Nat) : Int); omega
    · show st.bs ++ [((k : Int), newRow ((rows.getD k []).getD 0 0) ((rows.getD k []).length - 1))] = _
      rw [hbs]
      exact bsF_app k (fun j => newRow ((rows.getD j []).getD 0 0) ((rows.getD j []).length - 1))
  rintro ⟨st1, G1⟩ ⟨sG1, S1, _, _, _, _, hbs1, hrs1, hhs1⟩
  have sG1 : Same H G1 := sG1
  have S1 : SpaceAt K p st1 G1 := S1
  have hbs1 : st1.bs = bsF (rows.length : Int).toNat (fun j => newRow ((rows.getD j []).getD 0 0) ((rows.getD j []).length - 1)) := hbs1
  rw [Int.toNat_natCast] at hbs1
  have hrs1 : st1.rs = List.replicate 16 0 := hrs1
  have hhs1 : st1.hs = [] := hhs1
  -- their slots
  have one : ∀ (f : Nat → List Int) (k at_ : Nat), k < rows.length → (∀ j, j < rows.length → (f j).length = (rows.getD j []).length) → at_ + 1 < (rows.getD k []).length → ∀ (st : PS) (G : Hp), SpaceAt K p st G → st.bs = bsF rows.length f → rowOf st.bs k = some (f k) ∧ (at_ : Int) + 1 < (f k).length := fun f k at_ hk hf hat st G S hb => by
    rw [hb, bsF_row, if_pos (by omega), Int.toNat_natCast]
    exact ⟨rfl, by rw [hf k hk]; omega⟩
  refine g_forR (α := (Nat → List Int) × PS × Hp) (fun k x => Same H x.2.2 ∧ SpaceAt K p x.2.1 x.2.2 ∧ x.2.1.bs = bsF rows.length x.1 ∧ x.2.1.rs = List.replicate 16 0 ∧ x.2.1.hs = [] ∧ (∀ j, j < rows.length → (x.1 j).length = (rows.getD j []).length ∧ (x.1 j).getD 0 0 = (rows.getD j []).getD 0 0) ∧ ∀ j i, j < k → j < rows.length → (x.1 j).getD i 0 = (rows.getD j []).getD i 0)
    (fun k x => [some rv, some (.ref wa), some (.ref p.sp), none, none]) (fun k x => x.2.2) (ea_cons (ev_lenR (hR.mono sG1) (ev_var rfl)) ea_nil) (by omega) ⟨(_, st1, G1), ⟨sG1, S1, hbs1, hrs1, hhs1, fun j hj => ?_, fun j i h => by omega⟩, Sx.refl _, Same.refl _⟩ ?_ ?_
  · have := hrow j hj
    refine ⟨?_, rfl⟩
    show (newRow ((rows.getD j []).getD 0 0) (((rows.getD j []).length : Int) - 1)).length = _
    rw [newRow_len]; omega
  · rintro k ⟨f, st, G⟩ hk ⟨sG, S, hbs, hrs, hhs, hf, hfk⟩
    have sG : Same H G := sG
    have S : SpaceAt K p st G := S
    have hbs : st.bs = bsF rows.length f := hbs
    have hf : ∀ j, j < rows.length → (f j).length = (rows.getD j []).length ∧ (f j).getD 0 0 = (rows.getD j []).getD 0 0 := hf
    have hfk : ∀ j i, j < k → j < rows.length → (f j).getD i 0 = (rows.getD j []).getD i 0 := hfk
    have hk' : k < rows.length := by omega
    obtain ⟨hk1, hk2⟩ := hrow k hk'
    obtain ⟨rq, hev, hrq⟩ := ev_row (K := K) (tr := tVar 0) (ti := tVar 3) (σ := [some rv, some (.ref wa), some (.ref p.sp), some (.int (k : Int)), none]) (hR.mono sG) (ev_var rfl) (ev_var rfl) (by omega) hk
    rw [Int.toNat_natCast] at hrq
    refine g_forR (α := (Nat → List Int) × PS × Hp) (fun a x => Same H x.2.2 ∧ SpaceAt K p x.2.1 x.2.2 ∧ x.2.1.bs = bsF rows.length x.1 ∧ x.2.1.rs = List.replicate 16 0 ∧ x.2.1.hs = [] ∧ (∀ j, j < rows.length → (x.1 j).length = (rows.getD j []).length ∧ (x.1 j).getD 0 0 = (rows.getD j []).getD 0 0) ∧ (∀ j i, j < k → j < rows.length → (x.1 j).getD i 0 = (rows.getD j []).getD i 0) ∧ ∀ i, i ≤ a → (x.1 k).getD i 0 = (rows.getD k []).getD i 0)
      (fun a x => [some rv, some (.ref wa), some (.ref p.sp), some (.int (k : Int)), none]) (fun a x => x.2.2) (ea_cons (ev_sub (ev_lenI hev hrq) ev_c) ea_nil) (by omega) ⟨(f, st, G), ⟨sG, S, hbs, hrs, hhs, hf, hfk, fun i hi => by rw [show i = 0 by omega]; exact (hf k hk').2⟩, Sx.refl _, Same.refl _⟩ ?_ ?_
    · rintro a ⟨f, st, G⟩ ha ⟨sG, S, hbs, hrs, hhs, hf, hfk, hfa⟩
      have sG : Same H G := sG
      have S : SpaceAt K p st G := S
      have hbs : st.bs = bsF rows.length f := hbs
      have hf : ∀ j, j < rows.length → (f j).length = (rows.getD j []).length ∧ (f j).getD 0 0 = (rows.getD j []).getD 0 0 := hf
      have hfk : ∀ j i, j < k → j < rows.length → (f j).getD i 0 = (rows.getD j []).getD i 0 := hfk
      have hfa : ∀ i, i ≤ a → (f k).getD i 0 = (rows.getD k []).getD i 0 := hfa
      have ha' : a + 1 < (rows.getD k []).length := by omega
      obtain ⟨o1, o2⟩ := one f k a hk' (fun j hj => (hf j hj).1) ha' st G S hbs
      obtain ⟨rq2, hev2, hrq2⟩ := ev_row (K := K) (tr := tVar 0) (ti := tVar 3) (σ := [some rv, some (.ref wa), some (.ref p.sp), some (.int (k : Int)), some (.int (a : Int))]) (hR.mono sG) (ev_var rfl) (ev_var rfl) (by omega) hk
      rw [Int.toNat_natCast] at hrq2
      have hw : Ev (tOp (rIxL K) (tOp (rIxL K) (tVar 0) (tVar 3)) (tOp oAdd (tVar 4) (tC (.int 1)))) [some rv, some (.ref wa), some (.ref p.sp), some (.int (k : Int)), some (.int (a : Int))] G (.int ((rows.getD k []).getD (a + 1) 0)) := ev_op hev2 (ev_add (ev_var rfl) ev_c) (rv_ixI (SqL.of hrq2) (by omega) (by omega))
      refine g_dropE (em_meth (v := .non) (F := fun H => upd H p.a.wl (.lst ((enc (putRow st.bs k (a + 1) ((rows.getD k []).getD (a + 1) 0))).map V.int))) (ev_fld (ev_var rfl) S.sp (by walk_at "tx") (by walk_at "tx") rfl) S.S.st rfl (ea_cons (ev_var rfl) (ea_cons (ev_var rfl) (ea_cons hw ea_nil))) mono_upd fun H1 s1 Q q => ?_) mono_upd ?_
      · exact ⟨_, _, _, _, rfl, p.a, _, _, _, _, _, (k : Int), f k, (a : Int), _, rfl, S.S.mono s1, rfl, rfl, rfl, o1, by omega, o2, q⟩
      · have hS := S.put (i := k) (j := a + 1) (w := (rows.getD k []).getD (a + 1) 0)
        have hb2 : putRow st.bs k (a + 1) ((rows.getD k []).getD (a + 1) 0) = bsF rows.length (fun m => if m = k then (f m).set (a + 1) ((rows.getD k []).getD (a + 1) 0) else f m) := by rw [hbs]; exact bsF_put
        refine g_next (Lp.cl (_, _, _) ⟨same_mut sG hP.wl, hS, hb2, hrs, hhs, fun j hj => ?_, fun j i h1 h2 => ?_, fun i hi => ?_⟩ (Sx.eq (Sx.eq (Sx.eq (Sx.eq (Sx.any Sx.nil))))) (Same.refl _))
        · show (if j = k then _ else f j).length = _ ∧ (if j = k then _ else f j).getD 0 0 = _
          by_cases e : j = k
          · rw [if_pos e, List.length_set]
            refine ⟨(hf j hj).1, ?_⟩
            have := (hf j hj).2
            rw [← this]
            simp [List.getD, List.getElem?_set]
          · rw [if_neg e]; exact hf j hj
        · show (if j = k then _ else f j).getD i 0 = _
          rw [if_neg (by omega)]; exact hfk j i h1 h2
        · show (if k = k then _ else f k).getD i 0 = _
          rw [if_pos rfl]
          by_cases e : i = a + 1
          · rw [e]
            have hl := (hf k hk').1
            simp [List.getD, List.getElem?_set, show a + 1 < (f k).length by omega]
          · have := hfa i (by omega)
            rw [← this]
            simp [List.getD, List.getElem?_set, Ne.symm e]
    · rintro ⟨f, st, G⟩ ⟨sG, S, hbs, hrs, hhs, hf, hfk, hfa⟩
      have hf : ∀ j, j < rows.length → (f j).length = (rows.getD j []).length ∧ (f j).getD 0 0 = (rows.getD j []).getD 0 0 := hf
      have hfk : ∀ j i, j < k → j < rows.length → (f j).getD i 0 = (rows.getD j []).getD i 0 := hfk
      have hfa : ∀ i, i ≤ (((rows.getD k []).length : Int) - 1).toNat → (f k).getD i 0 = (rows.getD k []).getD i 0 := hfa
      refine g_next (Lp.cl (f, st, G) ⟨sG, S, hbs, hrs, hhs, hf, fun j i h1 h2 => ?_⟩ (Sx.eq (Sx.eq (Sx.eq (Sx.any (Sx.any Sx.nil))))) (Same.refl _))
      by_cases e : j = k
      · subst e
        by_cases h3 : i ≤ (((rows.getD j []).length : Int) - 1).toNat
        · exact hfa i h3
        · have h4 := (hf j h2).1
          simp only [List.getD]
          rw [List.getElem?_eq_none (by omega), List.getElem?_eq_none (by simp only [List.getD] at h4 h3; omega)]
      · exact hfk j i (by omega) h2
  rintro ⟨f, st2, G2⟩ ⟨sG2, S2, hbs2, hrs2, hhs2, hf, hfk⟩
  have sG2 : Same H G2 := sG2
  have S2 : SpaceAt K p st2 G2 := S2
  have hfk : ∀ j i, j < (rows.length : Int).toNat → j < rows.length → (f j).getD i 0 = (rows.getD j []).getD i 0 := hfk
  have hf : ∀ j, j < rows.length → (f j).length = (rows.getD j []).length ∧ (f j).getD 0 0 = (rows.getD j []).getD 0 0 := hf
  have hbs2 : st2.bs = bsF rows.length f := hbs2
  have hB : st2.bs = numB rows := by
    rw [hbs2]
    exact bsF_congr fun k hk => same_upto (hf k hk).1 fun i hi => hfk k i (by omega) hk
  -- the roots and what is held
  refine g_forR (α := PS × Hp) (fun k x => Same H x.2 ∧ SpaceAt K p x.1 x.2 ∧ x.1.bs = numB rows ∧ (∀ i, i < k → i < 16 → x.1.rs.getD i 0 = ws.getD i 0) ∧ x.1.hs = (ws.take k).drop 16)
    (fun k x => [some rv, some (.ref wa), some (.ref p.sp), none, none]) (fun k x => x.2) (ea_cons (ev_lenI (q := wa) (ev_var rfl) (sG2 _ _ hwa)) ea_nil) (by omega) ⟨(st2, G2), ⟨sG2, S2, hB, fun i h => by omega, by rw [show st2.hs = [] from hhs2]; simp⟩, Sx.refl _, Same.refl _⟩ ?_ ?_
  · rintro k ⟨st, G⟩ hk ⟨sG, S, hb, hrs, hhs⟩
    have sG : Same H G := sG
    have S : SpaceAt K p st G := S
    have hrs : ∀ i, i < k → i < 16 → st.rs.getD i 0 = ws.getD i 0 := hrs
    have hhs : st.hs = (ws.take k).drop 16 := hhs
    have hk' : k < ws.length := by omega
    have hw : Ev (tOp (rIxL K) (tVar 1) (tVar 3)) [some rv, some (.ref wa), some (.ref p.sp), some (.int (k : Int)), none] G (.int (ws.getD k 0)) := Ev.is (ev_op (ev_var rfl) (ev_var rfl) (rv_ixI (SqL.of (sG _ _ hwa)) (by omega) hk)) (by rw [Int.toNat_natCast])
    have hl16 := S.rn
    refine g_if (et_ltI (ev_var rfl) ev_c) (fun hb2 => ?_) fun hb2 => ?_
    · have hb2 : (k : Int) < 16 := of_decide_eq_true hb2
      refine g_dropE (em_meth (v := .non) (F := fun H => upd H p.rl (.lst ((st.rs.set k (ws.getD k 0)).map V.int))) (ev_var rfl) S.sp rfl (ea_cons (ev_var rfl) (ea_cons hw ea_nil)) mono_upd fun H1 s1 Q q => ?_) mono_upd (g_next (g_end (g_next (Lp.cl (_, _) ⟨same_mut sG hP.rl, S.root (i := k) (z := ws.getD k 0), hb, fun i h1 h2 => ?_, ?_⟩ (Sx.eq (Sx.eq (Sx.eq (Sx.any (Sx.any Sx.nil))))) (Same.refl _)))))
      · exact ⟨_, _, _, rfl, p, st, (k : Int), _, rfl, S.mono s1, rfl, rfl, by omega, hb2, by rw [Int.toNat_natCast]; exact q⟩
      · show (st.rs.set k (ws.getD k 0)).getD i 0 = _
        by_cases e : i = k
        · subst e
          simp [List.getD, List.getElem?_set, show i < st.rs.length by omega]
        · rw [← hrs i (by omega) h2]
          simp [List.getD, List.getElem?_set, Ne.symm e]
      · show st.hs = _
        rw [hhs, List.drop_of_length_le (by rw [List.length_take]; omega), List.drop_of_length_le (by rw [List.length_take]; omega)]
    · have hb2 : ¬ (k : Int) < 16 := of_decide_eq_false hb2
      have hhl : st.hs.length < 1000 := by rw [hhs, List.length_drop, List.length_take]; omega
      refine g_dropE (em_meth (v := .int (ws.getD k 0)) (F := fun H => upd H p.hl (.lst ((st.hs ++ [ws.getD k 0]).map V.int))) (ev_var rfl) S.sp rfl (ea_cons hw ea_nil) mono_upd fun H1 s1 Q q => ?_) mono_upd (g_next (g_end (g_next (Lp.cl (_, _) ⟨same_mut sG hP.hl, S.hold (z := ws.getD k 0) hhl, hb, fun i h1 h2 => hrs i (by omega) h2, ?_⟩ (Sx.eq (Sx.eq (Sx.eq (Sx.any (Sx.any Sx.nil))))) (Same.refl _)))))
      · exact ⟨_, _, rfl, p, st, _, rfl, S.mono s1, rfl, q⟩
      · show st.hs ++ [ws.getD k 0] = _
        have e : ws[k]? = some (ws.getD k 0) := by simp [List.getD, hk']
        rw [hhs, List.take_add_one, e, List.drop_append_of_le_length (by rw [List.length_take]; omega)]; rfl
  · rintro ⟨st, G⟩ ⟨sG, S, hb, hrs, hhs⟩
    have S : SpaceAt K p st G := S
    have hrs : ∀ i, i < (ws.length : Int).toNat → i < 16 → st.rs.getD i 0 = ws.getD i 0 := hrs
    have hhs : st.hs = (ws.take (ws.length : Int).toNat).drop 16 := hhs
    rw [Int.toNat_natCast, List.take_length] at hhs
    have hr16 : st.rs = ws.take 16 := same_upto (by rw [S.rn, List.length_take]; omega) fun i hi => by
      rw [List.length_take] at hi
      rw [hrs i (by omega) (by omega)]
      simp [List.getD, List.getElem?_take, show i < 16 by omega]
    refine g_ret (ev_var rfl) fun H1 s => q (.ref p.sp) H1 (Same.trans sG s) ⟨p, st, rfl, S.mono s, hb, ?_⟩
    unfold PS.ws
    rw [hr16, hhs, List.take_append_drop]
end
section
variable {K : PySem.W.Frag} {mg : Str → Option Value}
theorem range_sorted (n : Nat) : ((List.range n).map fun (k : Nat) => (k : Int)).Pairwise (· ≤ ·) := List.pairwise_map.mpr (List.pairwise_lt_range.imp fun {a b} h => by omega)
theorem er_slots {σ : Sl} {H : Hp} {to tn : TE} {E : XK} {a : SA} {r e l n : Int} {bs : List (Int × List Int)} {kvs : List (Key × V)} {row : List Int} (S : StoreAt K a r e l bs kvs H) (ho : Ev to σ H (.ref a.st)) (hn : Ev tn σ H (.int n)) (hr : rowOf bs n = some row) :
    EvR (tMeth (He.ga K "Store") "slots" (sp_Store_slots K) [] E to (tCons tn tNil)) σ H (IsL (row.tail.map V.int)) :=
  er_meth ho S.st rfl (ea_cons hn ea_nil) fun H1 s Q q => ⟨_, _, rfl, a, r, e, l, bs, kvs, n, row, rfl, S.mono s, rfl, hr, givN_l q⟩
theorem ev_kind {σ : Sl} {H : Hp} {to tn : TE} {E : XK} {a : SA} {r e l n : Int} {bs : List (Int × List Int)} {kvs : List (Key × V)} {row : List Int} (S : StoreAt K a r e l bs kvs H) (ho : Ev to σ H (.ref a.st)) (hn : Ev tn σ H (.int n)) (hr : rowOf bs n = some row) :
    Ev (tMeth (He.ga K "Store") "kind" (sp_Store_kind K) [] E to (tCons tn tNil)) σ H (.int (row.getD 0 0)) :=
  ev_meth ho S.st rfl (ea_cons hn ea_nil) fun H1 s Q E q => ⟨_, _, rfl, a, r, e, l, bs, kvs, n, row, rfl, S.mono s, rfl, hr, q⟩
theorem cut_tail {ns : List Int} (h : 1 ≤ ns.length) : cutV (ns.map V.int) (some 1) none = ns.tail.map V.int := by
  unfold cutV
  rw [show (some (1 : Int)) = some ((1 : Nat) : Int) from rfl, HT.sIx_nat, HT.sIx_none, List.length_map, Nat.min_eq_left h, ← List.map_drop, ← List.map_take, List.take_of_length_le (by rw [List.length_drop]; exact Nat.le_refl _), List.drop_one]
/-- _law_same of two lists -/
theorem ev_same {σ : Sl} {H : Hp} {ta tb : TE} {E : XK} {xs ys : List Int} (ha : EvR ta σ H (IsL (xs.map V.int))) (hb : EvR tb σ H (IsQ K (ys.map V.int))) (hl : ys.length ≤ 1000000) : Ev (tCall (sp__law_same K) [] E (tCons ta (tCons tb tNil))) σ H (.bl (decide (xs = ys))) :=
  ev_callR (era2 ha stab_l hb) fun us H1 s hus Q q => by
    obtain ⟨v, w, rfl, ⟨p, rfl, hp⟩, ⟨r, rfl, hr⟩⟩ := hus
    exact ⟨_, _, rfl, p, r, xs, ys, rfl, rfl, hp, hr, hl, q⟩
theorem rd__law_kept (T : Tx K mg) (vs : List V) (H : Hp) (Q : VK) (E : XK) (h : sp__law_kept K vs H Q E) : t__law_kept K { nx := fun _ H' => Q .non H', rt := Q } (start N__law_kept vs) H := by
  obtain ⟨_, rv, _, rfl, rows, ws, p, st, hR, hRo, ⟨wa, rfl, hwa⟩, hWo, rfl, S, hb, hw, q⟩ := h
  have hr39 := hRo.1
  have hw20 := hWo.2.1
  have hst : ∀ σ : Sl, ∀ G, SpaceAt K p st G → σ[0]? = some (some (.ref p.sp)) → Ev (tFld K (tVar 0) "store") σ G (.ref p.a.st) := fun σ G SG e => ev_fld (ev_var e) SG.sp (by walk_at "tx") (by walk_at "tx") rfl
  have hs := S.S
  rw [hb] at hs
  refine enter (σ := [some (.ref p.sp), some rv, some (.ref wa), none, none]) (g_forR (α := Unit) (fun _ _ => True) (fun _ _ => [some (.ref p.sp), some rv, some (.ref wa), none, none]) (fun _ _ => H) (ea_cons (ev_lenR hR (ev_var rfl)) ea_nil) (by omega) ⟨(), trivial, Sx.refl _, Same.refl _⟩ (fun k _ hk _ => ?_) fun _ _ => ?_)
  · have hk' : k < rows.length := by omega
    have hrow : rowOf (numB rows) (k : Int) = some (rows.getD k []) := by rw [row_numB, if_pos (by omega), Int.toNat_natCast]
    obtain ⟨h1, h2, _⟩ := hRo.2 _ (getD_mem2 hk')
    obtain ⟨rq, hev, hrq⟩ := ev_row (K := K) (tr := tVar 1) (ti := tVar 3) (σ := [some (.ref p.sp), some rv, some (.ref wa), some (.int (k : Int)), none]) hR (ev_var rfl) (ev_var rfl) (by omega) hk
    rw [Int.toNat_natCast] at hrq
    have hsl : EvR (L2.tSl (rSlL K) (tOp (rIxL K) (tVar 1) (tVar 3)) (tPart (tC (.int 1))) (tNoPart)) [some (.ref p.sp), some rv, some (.ref wa), some (.int (k : Int)), none] H (IsQ K ((rows.getD k []).tail.map V.int)) := by
      have h3 := EvN.q (K := K) (en_sl (K := K) hev (SqL.of hrq) (eo_some (i := 1) ev_c) eo_none)
      have e := cut_tail (ns := rows.getD k []) h1
      rw [e] at h3
      exact h3
    refine g_if (b := false) (EvT.is (et_or (a := false) (EvT.is (et_neI (ev_kind hs (hst _ _ S rfl) (ev_var rfl) hrow) (ev_op hev ev_c (rv_ixI (SqL.of hrq) (by decide) (by omega)))) (by simp)) fun _ => et_not (et_B (ev_same (er_slots hs (hst _ _ S rfl) (ev_var rfl) hrow) hsl (by rw [List.length_tail]; omega)))) (by simp)) (fun hb => by cases hb) fun _ => g_end (g_next (Lp.cl () trivial (Sx.eq (Sx.eq (Sx.eq (Sx.any (Sx.any Sx.nil))))) (Same.refl _)))
  · have hc : EvN (tLc (iRng1 (tCons (tCB (rLenS K) (tCons (tVar 1) (tNil))) (tNil))) (gName 3) (tYes) (tVar 3) [3]) [some (.ref p.sp), some rv, some (.ref wa), none, none] H (.lst (((List.range rows.length).map fun (k : Nat) => (k : Int)).map V.int)) := by
      have h1 := en_lcR (σ := [some (.ref p.sp), some rv, some (.ref wa), none, none]) (H := H) (j := 3) (tA := tCons (tCB (rLenS K) (tCons (tVar 1) (tNil))) (tNil)) (n := (rows.length : Int)) (tt := tYes) (te := tVar 3) (fun _ => true) (fun (k : Nat) => V.int (k : Int)) (ea_cons (ev_lenR hR (ev_var rfl)) ea_nil) (by omega) (fun m hm => et_yes) fun m hm _ => ev_var rfl
      rw [List.filter_eq_self.mpr (fun _ _ => rfl), Int.toNat_natCast] at h1
      rw [List.map_map]
      exact h1
    refine g_asgN hc fun nl hnl => ?_
    have s1 : Same H (upd H nl (.lst (((List.range rows.length).map fun (k : Nat) => (k : Int)).map V.int))) := same_new hnl
    have hn1 : upd H nl (.lst (((List.range rows.length).map fun (k : Nat) => (k : Int)).map V.int)) nl = some (.lst (((List.range rows.length).map fun (k : Nat) => (k : Int)).map V.int)) := upd_same
    generalize upd H nl (.lst (((List.range rows.length).map fun (k : Nat) => (k : Int)).map V.int)) = G at s1 hn1
    have SG := S.mono s1
    have hsG := hs.mono s1
    have hk : sortI ((numB rows).map (·.1)) = (List.range rows.length).map fun (k : Nat) => (k : Int) := by
      rw [keys_numB]
      exact (sort_of (List.Perm.refl _) (range_sorted _)).symm
    have hA := er_numbers (E := E0) (to := tFld K (tVar 0) "store") (σ := [some (.ref p.sp), some rv, some (.ref wa), none, some (.ref nl)]) hsG (hst _ _ SG rfl)
    rw [hk] at hA
    have hB := er_all_roots (E := E0) (to := tVar 0) (σ := [some (.ref p.sp), some rv, some (.ref wa), none, some (.ref nl)]) SG (ev_var rfl)
    rw [hw] at hB
    have hC : EvN (tOp rCat (tLst (tCons (tC (.int 0)) (tNil))) (tVar 2)) [some (.ref p.sp), some rv, some (.ref wa), none, some (.ref nl)] G (.lst ((0 :: ws).map V.int)) := en_cat (xs := [V.int 0]) (EvN.l (en_lst (ea_cons ev_c ea_nil) (of_decide_eq_true rfl))) (Ev.l (a := wa) (ev_var rfl) (s1 _ _ hwa)) (by simp; omega)
    refine g_ret (Ev.is (ev_andV (ev_same hA (EvR.lq (Ev.l (a := nl) (ev_var rfl) hn1)) (by simp; omega)) fun _ => ev_same hB (EvN.q hC) (by simp; omega)) (by simp)) fun H1 s => q H1 (s1.trans s)
end
end K64

set_option Elab.async false
set_option linter.all false
set_option maxRecDepth 100000
set_option maxHeartbeats 2000000
namespace K64
open PySem PySem.Spec PyProof.Rows L2 Kw
local macro_rules | `(tactic| walk_at "hp") => `(tactic| first
  | assumption
  | exact upd_same
  | (refine Eq.trans (upd_ne ?_) ?_; (first | assumption | (apply Ne.symm; assumption)); walk_at "hp"))
local macro_rules | `(tactic| walk_at "sq") => `(tactic| first
  | assumption
  | (apply SqL.of; walk_at "hp")
  | (apply SqT.of; walk_at "hp"))
local macro_rules | `(tactic| walk_at "rv") => `(tactic| first
  | ((with_reducible exact rv_I0))
  | ((with_reducible apply rv_I); first | assumption | decide | omega | (exact ⟨by omega, by omega⟩) | skip)
  | ((with_reducible apply rv_eq); rfl)
  | ((with_reducible apply rv_ne); rfl)
  | ((with_reducible exact rv_isN))
  | ((with_reducible exact rv_notN))
  | skip)
local macro_rules | `(tactic| walk_at "sp") => `(tactic| first
  | (apply spv_I1; first | trivial | assumption | skip)
  | (apply spv_I2; first | trivial | assumption | skip)
  | skip)
local macro_rules | `(tactic| walk_at "ev") => `(tactic| first
  | ((with_reducible apply ev_var); rfl)
  | ((with_reducible exact ev_c))
  | ((with_reducible exact ea_nil))
  | ((with_reducible apply ea_cons); walk_at "ev"; walk_at "ev")
  | ((with_reducible apply ev_op); walk_at "ev"; walk_at "ev"; walk_at "rv")
  | ((with_reducible apply ev_neg); walk_at "ev")
  | ((with_reducible apply ev_int); walk_at "ev")
  | ((with_reducible apply ev_fld); walk_at "ev"; walk_at "hp"; walk_at "tx"; walk_at "tx"; rfl)
  | ((with_reducible apply ev_call); walk_at "ev"; walk_at "sp")
  | ((with_reducible apply et_test); walk_at "ev")
  | ((with_reducible apply et_B); walk_at "ev")
  | ((with_reducible apply et_not); walk_at "ev")
  | ((with_reducible apply ev_notV); walk_at "ev")
  | ((with_reducible apply eo_some); walk_at "ev")
  | ((with_reducible exact eo_none))
  | ((with_reducible apply en_lst); walk_at "ev"; exact of_decide_eq_true rfl)
  | ((with_reducible apply en_tup); walk_at "ev"; exact of_decide_eq_true rfl)
  | ((with_reducible exact en_dK))
  | skip)
local macro_rules | `(tactic| walk_at "tx") => `(tactic| first
  | assumption
  | (with_reducible exact Tx.cls_Store (by assumption))
  | (with_reducible exact Tx.na_Store_room (by assumption))
  | (with_reducible exact Tx.na_Store_entries (by assumption))
  | (with_reducible exact Tx.na_Store_words (by assumption))
  | (with_reducible exact Tx.na_Store__places (by assumption))
  | (with_reducible exact Tx.na_Store__least (by assumption))
  | (with_reducible exact Tx.cls_Space (by assumption))
  | (with_reducible exact Tx.na_Space_store (by assumption))
  | (with_reducible exact Tx.na_Space_pressure (by assumption))
  | (with_reducible exact Tx.na_Space_always (by assumption))
  | (with_reducible exact Tx.na_Space_allocations (by assumption))
  | (with_reducible exact Tx.na_Space_collections (by assumption))
  | (with_reducible exact Tx.na_Space__roots (by assumption))
  | (with_reducible exact Tx.na_Space__held (by assumption))
  | (with_reducible exact Tx.na_Space__saved (by assumption)))
/-! ### a chain of objects -/
def szL (x : Int) (k : Nat) : Int := 1 + x / ((k : Int) + 7) % 3
def atL (x : Int) (k : Nat) : Int := x / ((k : Int) + 11) % szL x k
def rowL (x : Int) (n k : Nat) : List Int := if 0 < k ∧ k + 1 < n then (newRow 1 (szL x k)).set ((atL x k).toNat + 1) (2 * (k : Int) + 2) else newRow 1 (szL x k)
def pathL (x : Int) : Nat → List Int
  | 0 => [8]
  | 1 => [8]
  | k + 2 => pathL x (k + 1) ++ [atL x (k + 1) + 1]
def dueL (x : Int) (m : Nat) : List (Int × List Int) := (0, [0]) :: (List.range (m - 1)).map fun (j : Nat) => (((j + 1 : Nat) : Int), pathL x (j + 1))
def rootsL : List Int := (List.replicate 16 0).set 7 2
theorem sz_in (x : Int) (k : Nat) : 1 ≤ szL x k ∧ szL x k ≤ 3 := by
  have := mod_in (y := x / ((k : Int) + 7)) (n := 3) (by decide)
  unfold szL
  omega
theorem at_in (x : Int) (k : Nat) : 0 ≤ atL x k ∧ atL x k < szL x k := by
  have h := sz_in x k
  exact mod_in (y := x / ((k : Int) + 11)) (n := szL x k) (by omega)
theorem rowL_len (x : Int) (n k : Nat) : (rowL x n k).length = (szL x k).toNat + 1 := by
  unfold rowL
  split
  · rw [List.length_set, newRow_len]
  · rw [newRow_len]
theorem newRow_dead (s : Int) (j : Nat) : (newRow 1 s).getD j 0 = 0 ∨ (newRow 1 s).getD j 0 = 1 := by
  unfold newRow
  cases j with
  | zero => exact .inr rfl
  | succ j =>
    left
    simp only [List.getD, List.getElem?_cons_succ, List.getElem?_replicate]
    split <;> rfl
theorem dueL_one (x : Int) : dueL x 1 = [(0, [0])] := rfl
theorem dueL_succ (x : Int) (m : Nat) (h : 1 ≤ m) : dueL x (m + 1) = dueL x m ++ [((m : Int), pathL x m)] := by
  unfold dueL
  obtain ⟨j, rfl⟩ : ∃ j, m = j + 1 := ⟨m - 1, by omega⟩
  rw [Nat.add_sub_cancel, Nat.add_sub_cancel, List.range_succ, List.map_append]; rfl
theorem dueL_keys (x : Int) (m : Nat) (h : 1 ≤ m) : (dueL x m).map (·.1) = (List.range m).map fun (k : Nat) => (k : Int) := by
  obtain ⟨j, rfl⟩ : ∃ j, m = j + 1 := ⟨m - 1, by omega⟩
  unfold dueL
  rw [Nat.add_sub_cancel, List.range_succ_eq_map, List.map_cons, List.map_cons, List.map_map, List.map_map]
  rfl
theorem dueL_mem {x : Int} {m k : Nat} (h0 : 1 ≤ k) (h1 : k < m) : ((k : Int), pathL x k) ∈ dueL x m := by
  obtain ⟨j, rfl⟩ : ∃ j, k = j + 1 := ⟨k - 1, by omega⟩
  exact List.mem_cons_of_mem _ (List.mem_map.mpr ⟨j, List.mem_range.mpr (by omega), rfl⟩)
section
variable {x : Int} {n : Nat}
theorem fold_dead {bs : List (Int × List Int)} : ∀ {W : List (List Int × Int)} {z : List (Int × List Int) × List (List Int × Int)}, (0 : Int) ∈ z.1.map (·.1) → (∀ y ∈ W, y.2 = 0 ∨ y.2 = 1) → W.foldl (stepP bs) z = z
  | [], _, _, _ => rfl
  | y :: W, z, h0, h => by
    rw [List.foldl_cons]
    have e : stepP bs z y = z := step_none fun m hm => by
      obtain ⟨h1, h2, _⟩ := obj_iff.mp hm
      rcases h y List.mem_cons_self with e | e
      · rw [e] at h2
        rw [h2]; exact h0
      · rw [e] at h1; omega
    rw [e]
    exact fold_dead h0 fun y hy => h y (List.mem_cons_of_mem _ hy)
theorem obj_L {k : Nat} (h : k < n) : objOf (bsF n (rowL x n)) (2 * (k : Int)) = some (k : Int) := obj_two (by rw [bsF_row, if_pos (by omega)]; rfl)
theorem ext_dead {k : Nat} {p : List Int} (h : k < n) (hd : ¬ (0 < k ∧ k + 1 < n)) : ∀ y ∈ ext (bsF n (rowL x n)) ((k : Int), p), y.2 = 0 ∨ y.2 = 1 := fun y hy => by
  have hr : rowOf (bsF n (rowL x n)) (k : Int) = some (rowL x n k) := by rw [bsF_row, if_pos (by omega), Int.toNat_natCast]
  obtain ⟨j, _, rfl⟩ := (ext_mem (e := ((k : Int), p)) hr).mp hy
  show (rowL x n k).getD j 0 = 0 ∨ (rowL x n k).getD j 0 = 1
  unfold rowL
  rw [if_neg hd]
  exact newRow_dead _ _
/-- one live word among dead ones -/
theorem ext_split {k : Nat} {p : List Int} (h : k < n) (hd : 0 < k ∧ k + 1 < n) : ∃ A B, ext (bsF n (rowL x n)) ((k : Int), p) = A ++ (p ++ [atL x k + 1], 2 * ((k + 1 : Nat) : Int)) :: B ∧ (∀ y ∈ A, y.2 = 0 ∨ y.2 = 1) ∧ ∀ y ∈ B, y.2 = 0 ∨ y.2 = 1 := by
  have hr : rowOf (bsF n (rowL x n)) (k : Int) = some (rowL x n k) := by rw [bsF_row, if_pos (by omega), Int.toNat_natCast]
  have ha := at_in x k
  have hs := sz_in x k
  have hl := rowL_len x n k
  have ee : ext (bsF n (rowL x n)) ((k : Int), p) = (List.range (rowL x n k).length).map fun (j : Nat) => (p ++ [(j : Int)], (rowL x n k).getD j 0) := by
    unfold ext; rw [hr]; rfl
  have er : List.range (rowL x n k).length = List.range ((atL x k).toNat + 1) ++ ((atL x k).toNat + 1) :: (List.range ((rowL x n k).length - ((atL x k).toNat + 2))).map (((atL x k).toNat + 2) + ·) := by
    conv => lhs; rw [show (rowL x n k).length = ((atL x k).toNat + 2) + ((rowL x n k).length - ((atL x k).toNat + 2)) by omega, List.range_add]
    rw [show (atL x k).toNat + 2 = ((atL x k).toNat + 1) + 1 from rfl, List.range_succ, List.append_assoc]; rfl
  have hv : ∀ j, j ≠ (atL x k).toNat + 1 → (rowL x n k).getD j 0 = 0 ∨ (rowL x n k).getD j 0 = 1 := fun j hj => by
    have : (rowL x n k).getD j 0 = (newRow 1 (szL x k)).getD j 0 := by
      unfold rowL
      rw [if_pos hd]
      simp only [List.getD, List.getElem?_set, if_neg (Ne.symm hj)]
    rw [this]
    exact newRow_dead _ _
  have ef : (p ++ [(((atL x k).toNat + 1 : Nat) : Int)], (rowL x n k).getD ((atL x k).toNat + 1) 0) = (p ++ [atL x k + 1], 2 * ((k + 1 : Nat) : Int)) := by
    have e1 : (((atL x k).toNat + 1 : Nat) : Int) = atL x k + 1 := by omega
    have e2 : (rowL x n k).getD ((atL x k).toNat + 1) 0 = 2 * ((k + 1 : Nat) : Int) := by
      unfold rowL
      rw [if_pos hd]
      have : (atL x k).toNat + 1 < (newRow 1 (szL x k)).length := by rw [newRow_len]; omega
      simp only [List.getD, List.getElem?_set, if_pos this, if_true, Option.getD_some]
      omega
    rw [e1, e2]
  refine ⟨_, _, by rw [ee, er, List.map_append, List.map_cons, ef], fun y hy => ?_, fun y hy => ?_⟩
  · obtain ⟨j, hj, rfl⟩ := List.mem_map.mp hy
    have := List.mem_range.mp hj
    exact hv j (by omega)
  · obtain ⟨j, hj, rfl⟩ := List.mem_map.mp hy
    obtain ⟨i, _, rfl⟩ := List.mem_map.mp hj
    exact hv _ (by omega)
theorem due_zero (m : Nat) : (0 : Int) ∈ (dueL x m).map (·.1) := by unfold dueL; simp
theorem chain_stg (hn : 2 ≤ n) : ∀ k, 1 ≤ k → k < n → ∃ X, stg (bsF n (rowL x n)) (0 :: rootsL) k = (dueL x (k + 1), X ++ ext (bsF n (rowL x n)) ((k : Int), pathL x k)) ∧ ∀ y ∈ X, y.2 = 0 ∨ y.2 = 1
  | 0, h, _ => by omega
  | 1, _, hk => by
    refine ⟨ext (bsF n (rowL x n)) (((0 : Nat) : Int), [0]), ?_, ext_dead (by omega) (by omega)⟩
    show level _ [] (start1 (0 :: rootsL)) = _
    have e : start1 (0 :: rootsL) = ([0], 0) :: ([([1], 0), ([2], 0), ([3], 0), ([4], 0), ([5], 0), ([6], 0), ([7], 0)] ++ ([8], 2) :: [([9], 0), ([10], 0), ([11], 0), ([12], 0), ([13], 0), ([14], 0), ([15], 0), ([16], 0)]) := by decide
    have o0 : objOf (bsF n (rowL x n)) (0 : Int) = some ((0 : Nat) : Int) := obj_L (k := 0) (by omega)
    have o1 : objOf (bsF n (rowL x n)) (2 : Int) = some ((1 : Nat) : Int) := obj_L (k := 1) (by omega)
    generalize hbs : bsF n (rowL x n) = bs at o0 o1
    have s0 : stepP bs ([], []) ([0], 0) = ([((0 : Int), [0])], ext bs (((0 : Nat) : Int), [0])) := step_some (y := ([0], 0)) o0 (by simp)
    have s1 : stepP bs ([((0 : Int), [0])], ext bs (((0 : Nat) : Int), [0])) ([8], 2) = ([((0 : Int), [0]), ((1 : Int), [8])], ext bs (((0 : Nat) : Int), [0]) ++ ext bs (((1 : Nat) : Int), [8])) := step_some (y := ([8], 2)) o1 (by simp)
    unfold level
    rw [e]
    generalize hA : [([1], 0), ([2], 0), ([3], 0), ([4], 0), ([5], 0), ([6], 0), (([7] : List Int), (0 : Int))] = A
    generalize hB : [([9], 0), ([10], 0), ([11], 0), ([12], 0), ([13], 0), ([14], 0), ([15], 0), (([16] : List Int), (0 : Int))] = B
    have dA : ∀ y ∈ A, y.2 = 0 ∨ y.2 = 1 := by rw [← hA]; decide
    have dB : ∀ y ∈ B, y.2 = 0 ∨ y.2 = 1 := by rw [← hB]; decide
    rw [List.foldl_cons, s0, List.foldl_append, fold_dead (by simp) dA, List.foldl_cons, s1, fold_dead (by simp) dB]
    rfl
  | k + 2, _, hk => by
    obtain ⟨X, h1, h2⟩ := chain_stg hn (k + 1) (by omega) (by omega)
    obtain ⟨A, B, h3, h4, h5⟩ := ext_split (x := x) (p := pathL x (k + 1)) (show k + 1 < n by omega) ⟨by omega, by omega⟩
    refine ⟨[], ?_, by simp⟩
    show level _ (stg _ _ (k + 1)).1 (stg _ _ (k + 1)).2 = _
    rw [h1]
    show level _ (dueL x (k + 1 + 1)) (X ++ ext (bsF n (rowL x n)) (((k + 1 : Nat) : Int), pathL x (k + 1))) = _
    unfold level
    rw [h3, List.foldl_append, fold_dead (due_zero _) h2, List.foldl_append, fold_dead (due_zero _) h4, List.foldl_cons]
    have hno : ((k + 1 + 1 : Nat) : Int) ∉ (dueL x (k + 1 + 1)).map (·.1) := by
      rw [dueL_keys _ _ (by omega)]
      intro z
      obtain ⟨j, hj, e⟩ := List.mem_map.mp z
      have := List.mem_range.mp hj
      omega
    rw [step_some (y := (pathL x (k + 1) ++ [atL x (k + 1) + 1], 2 * ((k + 1 + 1 : Nat) : Int))) (obj_L (by omega)) hno]
    rw [fold_dead (by rw [List.map_append]; exact List.mem_append_left _ (due_zero _)) h5]
    rw [dueL_succ x (k + 1 + 1) (by omega)]
    rfl
theorem chain_paths (hn : 2 ≤ n) : pathsF (bsF n (rowL x n)) (0 :: rootsL) = dueL x n := by
  obtain ⟨X, h1, h2⟩ := chain_stg (x := x) hn (n - 1) (by omega) (by omega)
  have h3 : stg (bsF n (rowL x n)) (0 :: rootsL) (n - 1 + 1) = (dueL x n, []) := by
    show level _ (stg _ _ (n - 1)).1 (stg _ _ (n - 1)).2 = _
    rw [h1]
    show level _ (dueL x (n - 1 + 1)) _ = _
    unfold level
    rw [fold_dead (due_zero _) fun y hy => ?_, show n - 1 + 1 = n by omega]
    rcases List.mem_append.mp hy with h | h
    · exact h2 y h
    · exact ext_dead (by omega) (by omega) y h
  have h4 : (stg (bsF n (rowL x n)) (0 :: rootsL) (n - 1 + 1)).2 = [] := by rw [h3]
  have := paths_eq h4 (by rw [bsF_len]; omega)
  rw [← this, h3]
end
section
variable {K : PySem.W.Frag} {mg : Str → Option Value}
theorem pathL_succ (x : Int) {k : Nat} (h : 1 ≤ k) : pathL x (k + 1) = pathL x k ++ [atL x k + 1] := by
  obtain ⟨j, rfl⟩ : ∃ j, k = j + 1 := ⟨k - 1, by omega⟩
  rfl
theorem pathL_len (x : Int) : ∀ k, (pathL x k).length ≤ k + 1
  | 0 => by simp [pathL]
  | 1 => by simp [pathL]
  | k + 2 => by
    have := pathL_len x (k + 1)
    rw [pathL_succ x (by omega), List.length_append, List.length_singleton]
    omega
theorem pathL_ne (x : Int) : ∀ k, pathL x k ≠ []
  | 0 => by simp [pathL]
  | 1 => by simp [pathL]
  | k + 2 => by rw [pathL_succ x (by omega)]; simp
theorem dp_key {kvs : List (Key × V)} {F : List (Int × List Int)} {H : Hp} (h : Paired (fun (z : Key × V) (f : Int × List Int) => z.1 = Sum.inl f.1 ∧ ∃ t, z.2 = V.ref t ∧ H t = some (.tup (f.2.map V.int))) kvs F) : kvs.map (·.1) = (F.map (·.1)).map Sum.inl := by
  induction h with
  | nil => rfl
  | cons a _ ih => rw [List.map_cons, List.map_cons, List.map_cons, ih, a.1]
theorem sameT_alloc {p : PA} {s : PS} {G : Hp} (S : SpaceAt K p s G) {m i n : Int} : SameT G (allocH K p.a s.r s.e s.bs s.kvs m i n (upd G p.sp (oP K p (s.al + 1) s.co))) := fun b zs hb => by
  unfold allocH
  rw [upd_ne (ne_of hb S.S.wl (by intro z; cases z)), upd_ne (ne_of hb S.S.pl (by intro z; cases z)), upd_ne (ne_of hb S.S.st (by intro z; cases z)), upd_ne (ne_of hb S.sp (by intro z; cases z))]
  exact hb
theorem rd__law_long (T : Tx K mg) (vs : List V) (H : Hp) (Q : VK) (E : XK) (h : sp__law_long K vs H Q E) : t__law_long K { nx := fun _ H' => Q .non H', rt := Q } (start N__law_long vs) H := by
  obtain ⟨_, rfl, x, rfl, q⟩ := h
  have h200 := mod_in (y := x) (n := 200) (by decide)
  obtain ⟨n, hn⟩ : ∃ n : Nat, 2 + x % 200 = (n : Int) := Int.eq_ofNat_of_zero_le (by omega)
  refine enter (σ := [some (.int x), none, none, none, none, none, none, none, none, none]) (g_asgR (er_space ev_c ev_c) fun v G0 s0 ⟨p, ev, S0, hP⟩ => ?_)
  subst ev
  refine g_asg (v := .int (n : Int)) (Ev.is (ev_add ev_c (ev_mod (ev_int (ev_var rfl)) ev_c (by decide))) (by rw [hn])) ?_
  refine g_disp1 (k := .inl 0) (zs := [V.int 0]) (fun H' => ev_c) (fun H' => en_tup (ea_cons ev_c ea_nil) (of_decide_eq_true rfl)) fun d t0 G1 hd0 s1 hd ht0 => ?_
  have hdH : H d = none := s0.free hd0
  have s01 := s0.trans s1
  refine g_asgN (o := .tup [V.int 8]) (en_tup (ea_cons ev_c ea_nil) (of_decide_eq_true rfl)) fun t1 ht1 => ?_
  have s2 : Same G1 (upd G1 t1 (.tup [V.int 8])) := same_new ht1
  have hn2 : 2 ≤ n := by omega
  have hn3 : n ≤ 201 := by omega
  refine g_forR (α := PS × Addr × Hp) (n := (n : Int)) (fun k x' => Same H x'.2.2 ∧ SpaceAt K p x'.1 x'.2.2 ∧ x'.1.r = 100000 ∧ x'.1.e = 100000 ∧ 0 ≤ x'.1.l ∧ x'.1.l ≤ k ∧ x'.1.bs = bsF k (rowL x n) ∧ x'.1.rs = List.replicate 16 0 ∧ x'.1.hs = [] ∧ DictP d (dueL x (max k 1)) x'.2.2 ∧ x'.2.2 x'.2.1 = some (.tup ((pathL x (max k 1)).map V.int)))
    (fun k x' => [some (.int x), some (.ref p.sp), some (.int (n : Int)), some (.ref d), some (.ref x'.2.1), none, none, none, none, none]) (fun k x' => x'.2.2) (ea_cons (ev_var rfl) ea_nil) (by omega)
    ⟨(emptyPS 100000 100000, t1, upd G1 t1 (.tup [V.int 8])), ⟨s01.trans s2, (S0.mono s1).mono s2, rfl, rfl, Int.le_refl _, Int.le_refl _, rfl, rfl, rfl, ⟨[(.inl 0, .ref t0)], s2 _ _ hd, .cons ⟨rfl, t0, rfl, s2 _ _ ht0⟩ .nil⟩, upd_same⟩, Sx.refl _, Same.refl _⟩ ?_ ?_
  · rintro k ⟨st, ta, G⟩ hk ⟨sG, S, hr, he, hl0, hl1, hbs, hrs, hhs, hD, hta⟩
    have sG : Same H G := sG
    have S : SpaceAt K p st G := S
    have hbs : st.bs = bsF k (rowL x n) := hbs
    have hr : st.r = 100000 := hr
    have he : st.e = 100000 := he
    have hl0 : 0 ≤ st.l := hl0
    have hl1 : st.l ≤ k := hl1
    have hrs : st.rs = List.replicate 16 0 := hrs
    have hhs : st.hs = [] := hhs
    have hD : DictP d (dueL x (max k 1)) G := hD
    have hta : G ta = some (.tup ((pathL x (max k 1)).map V.int)) := hta
    have hk' : k < n := by omega
    obtain ⟨z1, z2⟩ := sz_in x k
    obtain ⟨a1, a2⟩ := at_in x k
    refine g_asg (v := .int (szL x k)) (ev_add ev_c (ev_mod (ev_int (ev_div (ev_var rfl) (ev_add (ev_var rfl) ev_c) (by omega) (by omega))) ev_c (by decide))) ?_
    refine g_asg (v := .int (atL x k)) (ev_mod (ev_int (ev_div (ev_var rfl) (ev_add (ev_var rfl) ev_c) (by omega) (by omega))) (ev_var rfl) (by omega)) ?_
    have henc : (enc st.bs).length ≤ k * 6 := by
      rw [hbs]
      refine enc_bsF_le (m := 4) fun j hj => ?_
      have := sz_in x j
      rw [rowL_len]; omega
    have hF : Fits st k (szL x k) := ⟨by rw [hbs]; exact bsF_free hl0 hl1, by omega, by omega, by omega, by omega⟩
    refine g_ifM (etm_not (etm_B (em_callM (em_new (i := 1) S hF (ev_var rfl) ev_c (ev_var rfl)) mono_new (ea_cons (ev_var rfl) ea_nil) spv_law_is))) mono_new (fun hb => by simp at hb) fun _ => g_end ?_
    have S2 := S.alloc (i := 1) hF
    have sG2 : Same H (allocH K p.a st.r st.e st.bs st.kvs k 1 (szL x k) (upd G p.sp (oP K p (st.al + 1) st.co))) := same_alloc hP sG
    have keepT : SameT G (allocH K p.a st.r st.e st.bs st.kvs k 1 (szL x k) (upd G p.sp (oP K p (st.al + 1) st.co))) := sameT_alloc S
    obtain ⟨kvs, hd1, hPd⟩ := hD
    have hdpl : d ≠ p.a.pl := fun z => by
      -- the places tell whole numbers, the dues tell tuples
      have h0 : valV kvs (.inl 0) ≠ none := fun q => by
        have := dp_val hPd 0
        rw [q, decide_eq_true (due_zero _)] at this
        cases this
      have h1 := S.S.pl
      rw [← z, hd1] at h1
      injection h1 with h1
      injection h1 with h1
      have h2 := S.S.plc.at_ 0
      rw [← h1] at h2
      obtain ⟨t, h3, _⟩ := dictP_get hPd (by rw [dueL_keys _ _ (by omega)]; exact List.pairwise_map.mpr (List.nodup_range.imp fun {a b} h e => h (by omega))) (e := (0, [0])) (by unfold dueL; simp)
      rw [h3] at h2
      cases ho : off st.bs 0 with
      | none => rw [ho] at h2; cases h2
      | some m => rw [ho] at h2; cases h2
    have hd2 : allocH K p.a st.r st.e st.bs st.kvs k 1 (szL x k) (upd G p.sp (oP K p (st.al + 1) st.co)) d = some (.dK kvs) := by
      unfold allocH
      rw [upd_ne (ne_of hd1 S.S.wl (by intro z; cases z)), upd_ne hdpl, upd_ne (ne_of hd1 S.S.st (by intro z; cases z)), upd_ne (ne_of hd1 S.sp (by intro z; cases z))]
      exact hd1
    have hPd2 := paired_imp hPd fun z y ⟨a, t, b, c⟩ => (⟨a, t, b, keepT _ _ c⟩ : z.1 = Sum.inl y.1 ∧ ∃ t, z.2 = V.ref t ∧ (allocH K p.a st.r st.e st.bs st.kvs k 1 (szL x k) (upd G p.sp (oP K p (st.al + 1) st.co))) t = some (HO.tup (y.2.map V.int)))
    have hta2 := keepT _ _ hta
    have hb2 : st.bs ++ [((k : Int), newRow 1 (szL x k))] = bsF (k + 1) fun j => if j = k then newRow 1 (szL x k) else rowL x n j := by
      rw [← bsF_app, hbs]
      congr 1
      · exact bsF_congr fun j hj => by rw [if_neg (by omega)]
      · rw [if_pos rfl]
    generalize allocH K p.a st.r st.e st.bs st.kvs k 1 (szL x k) (upd G p.sp (oP K p (st.al + 1) st.co)) = G2 at *
    generalize hst2 : ({ st with l := (k : Int), al := st.al + 1, bs := st.bs ++ [((k : Int), newRow 1 (szL x k))], kvs := putK st.kvs (.inl (k : Int)) (.int (enc st.bs).length) } : PS) = st2 at S2
    have q1 : st2.r = 100000 := by rw [← hst2]; exact hr
    have q2 : st2.e = 100000 := by rw [← hst2]; exact he
    have q3 : st2.l = k := by rw [← hst2]
    have q4 : st2.bs = bsF (k + 1) fun j => if j = k then newRow 1 (szL x k) else rowL x n j := by rw [← hst2]; exact hb2
    have q5 : st2.rs = List.replicate 16 0 := by rw [← hst2]; exact hrs
    have q6 : st2.hs = [] := by rw [← hst2]; exact hhs
    refine g_if (et_gtI (ev_var rfl) ev_c) (fun hb => ?_) fun hb => g_end (g_next (Lp.cl (st2, ta, G2) ⟨sG2, S2, q1, q2, by rw [q3]; omega, by rw [q3]; show (k : Int) ≤ ((k + 1 : Nat) : Int); omega, ?_, q5, q6, ?_, ?_⟩ ?_ (Same.refl _)))
    · have hk0 : 1 ≤ k := by have := of_decide_eq_true hb; omega
      rw [Nat.max_eq_left hk0] at hPd2 hta2
      have hkk : (k : Int) ∉ (dueL x k).map (·.1) := by
        rw [dueL_keys _ _ hk0]
        intro z
        obtain ⟨j, hj, e⟩ := List.mem_map.mp z
        have := List.mem_range.mp hj
        omega
      have hkl : kvs.length < 2000000 := by
        have h1 := paired_len hPd2
        have h2 := congrArg List.length (dueL_keys x k hk0)
        rw [List.length_map, List.length_map, List.length_range] at h2
        omega
      refine g_dput (k := .inl (k : Int)) hd2 (ev_var rfl) (ev_var rfl) (ev_var rfl) hkl ?_
      have sT := sameT_dk (kvs' := putK kvs (.inl (k : Int)) (.ref ta)) hd2
      have hPd3 := paired_imp (dk_put hPd2 hkk hta2) fun z y ⟨a, t, b, c⟩ => (⟨a, t, b, sT _ _ c⟩ : z.1 = Sum.inl y.1 ∧ ∃ t, z.2 = V.ref t ∧ L2.upd G2 d (HO.dK (putK kvs (.inl (k : Int)) (V.ref ta))) t = some (HO.tup (y.2.map V.int)))
      rw [← dueL_succ x k hk0] at hPd3
      have S3 : SpaceAt K p st2 (upd G2 d (.dK (putK kvs (.inl (k : Int)) (.ref ta)))) := by
        have nd1 : p.sp ≠ d := (ne_of hd2 S2.sp (by intro z; cases z)).symm
        have nd2 : p.a.st ≠ d := (ne_of hd2 S2.S.st (by intro z; cases z)).symm
        have nd3 : p.a.wl ≠ d := (ne_of hd2 S2.S.wl (by intro z; cases z)).symm
        have nd4 : p.rl ≠ d := (ne_of hd2 S2.rl (by intro z; cases z)).symm
        have nd5 : p.hl ≠ d := (ne_of hd2 S2.hl (by intro z; cases z)).symm
        have nd6 : p.pr ≠ d := (ne_of hd2 S2.pr (by intro z; cases z)).symm
        exact ⟨(upd_ne nd1).trans S2.sp, S2.S.other nd2 nd3 hdpl.symm, (upd_ne nd4).trans S2.rl, (upd_ne nd5).trans S2.hl, (upd_ne nd6).trans S2.pr, S2.d1, S2.d2, S2.d3, S2.d4, S2.d5, S2.d6, S2.d7, S2.rn, S2.hn⟩
      have sG3 : Same H (upd G2 d (.dK (putK kvs (.inl (k : Int)) (.ref ta)))) := same_mut sG2 hdH
      have hd3 : upd G2 d (.dK (putK kvs (.inl (k : Int)) (.ref ta))) d = some (.dK (putK kvs (.inl (k : Int)) (.ref ta))) := upd_same
      have hta3 := sT _ _ hta2
      generalize upd G2 d (.dK (putK kvs (.inl (k : Int)) (.ref ta))) = G3 at *
      have hcat : EvN (tOp (rCatA K) (tVar 4) (tTup (tCons (tOp oAdd (tVar 7) (tC (.int 1))) (tNil)))) [some (.int x), some (.ref p.sp), some (.int (n : Int)), some (.ref d), some (.ref ta), some (.int (k : Int)), some (.int (szL x k)), some (.int (atL x k)), none, none] G3 (.tup ((pathL x (k + 1)).map V.int)) := by
        have h1 := en_catT (K := K) (ta := tVar 4) (tb := tTup (tCons (tOp oAdd (tVar 7) (tC (.int 1))) (tNil))) (σ := [some (.int x), some (.ref p.sp), some (.int (n : Int)), some (.ref d), some (.ref ta), some (.int (k : Int)), some (.int (szL x k)), some (.int (atL x k)), none, none]) (H := G3) (xs := (pathL x k).map V.int) (ys := [V.int (atL x k + 1)])
          (Ev.tt (a := ta) (ev_var rfl) (SqT.of hta3)) (EvN.tt (en_tup (ea_cons (ev_add (ev_var rfl) ev_c) ea_nil) (of_decide_eq_true rfl))) (fun z => pathL_ne x k (by simpa using z)) (by simp) (by have := pathL_len x k; rw [List.length_map]; simp; omega)
        rw [pathL_succ x hk0, List.map_append]
        exact h1
      refine g_asgN hcat fun tb htb => ?_
      have sN : Same G3 (upd G3 tb (.tup ((pathL x (k + 1)).map V.int))) := same_new htb
      have S4 := S3.mono sN
      have sG4 := sG3.trans sN
      have hd4 := sN _ _ hd3
      have hPd4 := paired_imp hPd3 fun z y ⟨a, t, b, c⟩ => (⟨a, t, b, sN _ _ c⟩ : z.1 = Sum.inl y.1 ∧ ∃ t, z.2 = V.ref t ∧ L2.upd G3 tb (HO.tup ((pathL x (k + 1)).map V.int)) t = some (HO.tup (y.2.map V.int)))
      have htb4 : upd G3 tb (.tup ((pathL x (k + 1)).map V.int)) tb = some (.tup ((pathL x (k + 1)).map V.int)) := upd_same
      generalize upd G3 tb (.tup ((pathL x (k + 1)).map V.int)) = G4 at *
      have hmx : max (k + 1) 1 = k + 1 := Nat.max_eq_left (by omega)
      have hD5 : DictP d (dueL x (max (k + 1) 1)) G4 := by rw [hmx]; exact ⟨_, hd4, hPd4⟩
      have htb5 : G4 tb = some (.tup ((pathL x (max (k + 1) 1)).map V.int)) := by rw [hmx]; exact htb4
      refine g_if (et_ltI (ev_add (ev_var rfl) ev_c) (ev_var rfl)) (fun hb2 => ?_) fun hb2 => g_end (g_next (g_end (g_next (Lp.cl (st2, tb, G4) ⟨sG4, S4, q1, q2, by rw [q3]; omega, by rw [q3]; show (k : Int) ≤ ((k + 1 : Nat) : Int); omega, ?_, q5, q6, hD5, htb5⟩ ?_ (Same.refl _)))))
      · have hkn : k + 1 < n := by have := of_decide_eq_true hb2; omega
        have hrow : rowOf st2.bs (k : Int) = some (newRow 1 (szL x k)) := by rw [q4, bsF_row, if_pos (by omega), Int.toNat_natCast, if_pos rfl]
        refine g_dropE (em_meth (v := .non) (F := fun H => upd H p.a.wl (.lst ((enc (putRow st2.bs k ((atL x k).toNat + 1) (2 * (k : Int) + 2))).map V.int))) (ev_fld (ev_var rfl) S4.sp (by walk_at "tx") (by walk_at "tx") rfl) S4.S.st rfl (ea_cons (ev_var rfl) (ea_cons (ev_var rfl) (ea_cons (ev_add (ev_mul ev_c (ev_var rfl) (cmul_small (by decide) ?_)) ev_c) ea_nil))) mono_upd fun H1 s1 Q q => ?_) mono_upd ?_
        · have : ((k : Int)).natAbs < 2000000 := by omega
          exact Nat.lt_trans this (by decide)
        · exact ⟨_, _, _, _, rfl, p.a, _, _, _, _, _, (k : Int), _, (atL x k), _, rfl, S4.S.mono s1, rfl, rfl, rfl, hrow, a1, by rw [newRow_len]; omega, q⟩
        · have S5 := S4.put (i := k) (j := (atL x k).toNat + 1) (w := 2 * (k : Int) + 2)
          have nw : d ≠ p.a.wl := ne_of hd4 S4.S.wl (by intro z; cases z)
          have sT5 : SameT G4 (upd G4 p.a.wl (.lst ((enc (putRow st2.bs k ((atL x k).toNat + 1) (2 * (k : Int) + 2))).map V.int))) := sameT_lst S4.S.wl
          refine g_next (g_end (g_next (g_end (g_next (Lp.cl (_, tb, _) ⟨same_mut sG4 hP.wl, S5, q1, q2, ?_, ?_, ?_, q5, q6, hD5.keep sT5 (upd_ne nw), sT5 _ _ htb5⟩ ?_ (Same.refl _))))))
          · show 0 ≤ st2.l; rw [q3]; omega
          · show st2.l ≤ ((k + 1 : Nat) : Int); rw [q3]; omega
          · show putRow st2.bs k ((atL x k).toNat + 1) (2 * (k : Int) + 2) = _
            rw [q4, bsF_put]
            refine bsF_congr fun j hj => ?_
            by_cases e : j = k
            · subst e
              rw [if_pos rfl, if_pos rfl]
              unfold rowL
              rw [if_pos ⟨hk0, hkn⟩]
            · rw [if_neg e, if_neg e]
          · exact Sx.eq (Sx.eq (Sx.eq (Sx.eq (Sx.eq (Sx.any (Sx.any (Sx.any (Sx.any (Sx.any Sx.nil)))))))))
      · have hkn : ¬ k + 1 < n := by have := of_decide_eq_false hb2; omega
        rw [q4]
        refine bsF_congr fun j hj => ?_
        by_cases e : j = k
        · subst e
          rw [if_pos rfl]
          unfold rowL
          rw [if_neg (by omega)]
        · rw [if_neg e]
      · exact Sx.eq (Sx.eq (Sx.eq (Sx.eq (Sx.eq (Sx.any (Sx.any (Sx.any (Sx.any (Sx.any Sx.nil)))))))))
    · have hk0 : k = 0 := by have := of_decide_eq_false hb; omega
      subst hk0
      rw [q4]
      refine bsF_congr fun j hj => ?_
      have : j = 0 := by omega
      subst this
      rw [if_pos rfl]
      unfold rowL
      rw [if_neg (by omega)]
    · have hk0 : k = 0 := by have := of_decide_eq_false hb; omega
      subst hk0
      exact ⟨_, hd2, hPd2⟩
    · have hk0 : k = 0 := by have := of_decide_eq_false hb; omega
      subst hk0
      exact hta2
    · exact Sx.eq (Sx.eq (Sx.eq (Sx.eq (Sx.eq (Sx.any (Sx.any (Sx.any (Sx.any (Sx.any Sx.nil)))))))))
  rintro ⟨st, ta, G⟩ ⟨sG, S, _, _, _, _, hbs, hrs, hhs, hD, _⟩
  have sG : Same H G := sG
  have S : SpaceAt K p st G := S
  have hbs : st.bs = bsF (n : Int).toNat (rowL x n) := hbs
  have hrs : st.rs = List.replicate 16 0 := hrs
  have hhs : st.hs = [] := hhs
  have hD : DictP d (dueL x (max (n : Int).toNat 1)) G := hD
  rw [Int.toNat_natCast] at hbs hD
  rw [Nat.max_eq_left (by omega)] at hD
  obtain ⟨kvs, hd1, hPd⟩ := hD
  refine g_dropE (em_meth (v := .non) (F := fun H => upd H p.rl (.lst ((st.rs.set 7 2).map V.int))) (ev_var rfl) S.sp rfl (ea_cons ev_c (ea_cons ev_c ea_nil)) mono_upd fun H1 s1 Q q => ?_) mono_upd ?_
  · exact ⟨_, _, _, rfl, p, st, 7, 2, rfl, S.mono s1, rfl, rfl, by decide, by decide, q⟩
  have S2 := S.root (i := 7) (z := 2)
  have sG2 : Same H (upd G p.rl (.lst ((st.rs.set 7 2).map V.int))) := same_mut sG hP.rl
  have sT2 : SameT G (upd G p.rl (.lst ((st.rs.set 7 2).map V.int))) := sameT_lst S.rl
  have hd2 : upd G p.rl (.lst ((st.rs.set 7 2).map V.int)) d = some (.dK kvs) := (upd_ne (ne_of hd1 S.rl (by intro z; cases z))).trans hd1
  have hPd2 := paired_imp hPd fun z y ⟨a, t, b, c⟩ => (⟨a, t, b, sT2 _ _ c⟩ : z.1 = Sum.inl y.1 ∧ ∃ t, z.2 = V.ref t ∧ L2.upd G p.rl (HO.lst ((st.rs.set 7 2).map V.int)) t = some (HO.tup (y.2.map V.int)))
  generalize upd G p.rl (.lst ((st.rs.set 7 2).map V.int)) = G2 at *
  generalize hst2 : ({ st with rs := st.rs.set 7 2 } : PS) = st2 at S2
  have q1 : st2.bs = bsF n (rowL x n) := by rw [← hst2]; exact hbs
  have q2 : st2.ws = 0 :: rootsL := by
    rw [← hst2]
    show 0 :: (st.rs.set 7 2 ++ st.hs) = 0 :: rootsL
    rw [hrs, hhs, List.append_nil]; rfl
  have hpaths : pathsF st2.bs st2.ws = dueL x n := by rw [q1, q2]; exact chain_paths hn2
  have hkeys := dueL_keys x n (by omega)
  have hnd : ((dueL x n).map (·.1)).Nodup := by rw [hkeys]; exact List.pairwise_map.mpr (List.nodup_range.imp fun {a b} h e => h (by omega))
  have hdl : (dueL x n).length = n := by have := congrArg List.length hkeys; simpa using this
  refine g_asgR (R := fun v H1 => ∃ d2, v = .ref d2 ∧ DictP d2 (dueL x n) H1) (er_call (ea_cons (ev_var rfl) ea_nil) fun H1 s Q q => ⟨_, rfl, p, st2, rfl, S2.mono s, by rw [hpaths]; exact q⟩) fun v G3 s3 ⟨e2, ev, kvs2, he2, hPe⟩ => ?_
  subst ev
  have S3 := S2.mono s3
  have sG3 := sG2.trans s3
  have hd3 := s3 _ _ hd2
  have hPd3 := paired_imp hPd2 fun z y ⟨a, t, b, c⟩ => (⟨a, t, b, s3 _ _ c⟩ : z.1 = Sum.inl y.1 ∧ ∃ t, z.2 = V.ref t ∧ G3 t = some (HO.tup (y.2.map V.int)))
  have hsort : EvR (tCB rSortedDK (tCons (tVar 8) tNil)) [some (.int x), some (.ref p.sp), some (.int (n : Int)), some (.ref d), some (.ref ta), none, none, none, some (.ref e2), none] G3 (IsL (((List.range n).map fun (k : Nat) => (k : Int)).map V.int)) := er_sortedDK (a := e2) (ev_var rfl) he2 (dp_key hPe) fun ys hp ho => by
    rw [hkeys] at hp
    exact sort_uniq hp ho (range_sorted n)
  have hrg : EvR (tLstRg (tRg1 (tVar 2))) [some (.int x), some (.ref p.sp), some (.int (n : Int)), some (.ref d), some (.ref ta), none, none, none, some (.ref e2), none] G3 (IsQ K (((List.range n).map fun (k : Nat) => (k : Int)).map V.int)) := by
    have := EvN.q (K := K) (en_rg (n := n) (ta := tVar 2) (σ := [some (.int x), some (.ref p.sp), some (.int (n : Int)), some (.ref d), some (.ref ta), none, none, none, some (.ref e2), none]) (H := G3) (ev_var rfl) (by omega))
    rw [List.map_map]
    exact this
  refine g_if (b := false) (EvT.is (et_or (a := false) (et_not (a := true) (et_B (ev_isiD (Ev.d (a := e2) (ev_var rfl) he2)))) fun _ => et_not (et_B (ev_same hsort hrg (by simp; omega)))) (by simp)) (fun hb => by cases hb) fun _ => g_end ?_
  refine g_forK (d := d) (α := Hp) (fun k x' => Same G3 x') (fun k x' => [some (.int x), some (.ref p.sp), some (.int (n : Int)), some (.ref d), some (.ref ta), none, none, none, some (.ref e2), none]) (fun k x' => x') hd3 (fun H' => ev_var rfl) ⟨G3, Same.refl _, Sx.refl _, Same.refl _⟩ (fun k x' hx => hx _ _ hd3) ?_ ?_
  · rintro o k key v G4 hk s4
    have hd4 := s4 _ _ hd3
    obtain ⟨e, he, rfl, _⟩ := dictP_at hPd3 hk
    have hem : e ∈ dueL x n := List.mem_of_getElem? he
    obtain ⟨t, hgt, ht⟩ := dictP_get hPd3 hnd hem
    obtain ⟨t2, hgt2, ht2⟩ := dictP_get hPe hnd hem
    have keep : ∀ b zs, G3 b = some (.tup zs) → upd G4 d (.frz o (.dK kvs)) b = some (.tup zs) := fun b zs hb => by
      rw [upd_ne (ne_of (s4 _ _ hb) hd4 (by intro z; cases z))]; exact s4 _ _ hb
    have hrd2 : Rd (upd G4 d (.frz o (.dK kvs))) e2 (.dK kvs2) := by
      by_cases z : e2 = d
      · subst z
        rw [he2] at hd3
        injection hd3 with hd3
        injection hd3 with hd3
        subst hd3
        exact .inr ⟨o, upd_same⟩
      · exact .inl ((upd_ne z).trans (s4 _ _ he2))
    have hle : e.2.length ≤ 1000000 := by
      have h1 := stg_ok st2.bs st2.ws (st2.bs.length + 1)
      have h2 := (h1.f1 e (by show e ∈ pathsF st2.bs st2.ws; rw [hpaths]; exact hem)).2.2.1
      rw [q1, bsF_len] at h2
      omega
    refine g_if (b := false) (EvT.is (et_not (a := true) (et_B (Ev.is (ev_call (ea_cons (ev_dget (k := .inl e.1) (ev_var rfl) (ev_var rfl) hrd2 hgt2) (ea_cons (ev_dget (k := .inl e.1) (ev_var rfl) (ev_var rfl) (.inr ⟨o, upd_same⟩) hgt) ea_nil)) fun H1 s Q E q => ⟨_, _, rfl, t2, t, e.2, e.2, rfl, rfl, s _ _ (keep _ _ ht2), SqT.of (s _ _ (keep _ _ ht)), hle, q⟩) (by rw [decide_eq_true rfl])))) rfl) (fun hb => by cases hb) fun _ => g_end (gk_next G4 s4 ?_ (Same.refl _))
    exact Sx.eq (Sx.eq (Sx.eq (Sx.eq (Sx.eq (Sx.eq (Sx.eq (Sx.eq (Sx.eq (Sx.any Sx.nil)))))))))
  · intro G4 s4
    have s4 : Same G3 G4 := s4
    have S4 := S3.mono s4
    have hd4 := s4 _ _ hd3
    have hlast : (((n - 1 : Nat) : Int), pathL x (n - 1)) ∈ dueL x n := dueL_mem (by omega) (by omega)
    obtain ⟨t, hgt, ht⟩ := dictP_get hPd3 hnd hlast
    have hgt : valV kvs (.inl ((n - 1 : Nat) : Int)) = some (.ref t) := hgt
    have ht4 : G4 t = some (.tup ((pathL x (n - 1)).map V.int)) := s4 _ _ ht
    have hwk : walkB st2.bs st2.ws (pathL x (n - 1)) = some (2 * ((n - 1 : Nat) : Int)) := by
      have h1 := stg_ok st2.bs st2.ws (st2.bs.length + 1)
      exact (h1.f1 _ (by show _ ∈ pathsF st2.bs st2.ws; rw [hpaths]; exact hlast)).2.2.2.1
    have hwa := spv_word_at (K := K) S4 (SqT.of ht4) (by have := pathL_len x (n - 1); omega)
    rw [hwk] at hwa
    have hg : EvR (tCall (sp_garbage K) [] E0 (tCons (tVar 1) (tNil))) [some (.int x), some (.ref p.sp), some (.int (n : Int)), some (.ref d), some (.ref ta), none, none, none, some (.ref e2), none] G4 (IsL (([] : List Int).map V.int)) := er_call (ea_cons (ev_var rfl) ea_nil) fun H1 s Q q => ⟨_, rfl, p, st2, rfl, S4.mono s, fun ys _ hy => by
      have : ys = [] := by
        cases ys with
        | nil => rfl
        | cons y ys =>
          exfalso
          obtain ⟨h1, h2⟩ := (hy y).mp List.mem_cons_self
          refine h2 (paths_keys.mp ?_)
          rw [hpaths, hkeys]
          rw [q1] at h1
          unfold bsF at h1
          rw [List.map_map] at h1
          exact h1
      subst this
      exact givN_l q⟩
    have hkey : Ev (tOp oSub (tVar 2) (tC (.int 1))) [some (.int x), some (.ref p.sp), some (.int (n : Int)), some (.ref d), some (.ref ta), none, none, none, some (.ref e2), none] G4 (.int ((n - 1 : Nat) : Int)) := Ev.is (ev_sub (ev_var rfl) ev_c) (by congr 1; omega)
    have hnn : ((n : Int)).natAbs < 2 ^ 64 := by
      have : ((n : Int)).natAbs < 2000000 := by omega
      exact Nat.lt_trans this (by decide)
    have hen : EvR (tLst tNil) [some (.int x), some (.ref p.sp), some (.int (n : Int)), some (.ref d), some (.ref ta), none, none, none, some (.ref e2), none] G4 (IsQ K (([] : List Int).map V.int)) := EvN.q (en_lst ea_nil (of_decide_eq_true rfl))
    refine g_ret (Ev.is (ev_andV (a := true) (b := true) (Ev.is (ev_call (ea_cons (ev_call (ea_cons (ev_var rfl) (ea_cons (ev_dget (k := .inl ((n - 1 : Nat) : Int)) (ev_var rfl) hkey (.inl hd4) hgt) ea_nil)) hwa) (ea_cons (ev_sub (ev_mul ev_c (ev_var rfl) (cmul_small (by decide) hnn)) ev_c) ea_nil)) spv_law_is) ?_) fun _ => Ev.is (ev_same hg hen (by decide)) (by rw [decide_eq_true rfl])) rfl) fun H5 s5 => q H5 ((sG3.trans s4).trans s5)
    rw [decide_eq_true (by omega)]
end
end K64

set_option Elab.async false
set_option linter.all false
set_option maxRecDepth 100000
set_option maxHeartbeats 2000000
namespace K64
open PySem PySem.Spec PyProof.Rows L2 Kw
local macro_rules | `(tactic| walk_at "hp") => `(tactic| first
  | assumption
  | exact upd_same
  | (refine Eq.trans (upd_ne ?_) ?_; (first | assumption | (apply Ne.symm; assumption)); walk_at "hp"))
local macro_rules | `(tactic| walk_at "sq") => `(tactic| first
  | assumption
  | (apply SqL.of; walk_at "hp")
  | (apply SqT.of; walk_at "hp"))
local macro_rules | `(tactic| walk_at "rv") => `(tactic| first
  | ((with_reducible exact rv_I0))
  | ((with_reducible apply rv_I); first | assumption | decide | omega | (exact ⟨by omega, by omega⟩) | skip)
  | ((with_reducible apply rv_eq); rfl)
  | ((with_reducible apply rv_ne); rfl)
  | ((with_reducible exact rv_isN))
  | ((with_reducible exact rv_notN))
  | skip)
local macro_rules | `(tactic| walk_at "sp") => `(tactic| first
  | (apply spv_I1; first | trivial | assumption | skip)
  | (apply spv_I2; first | trivial | assumption | skip)
  | skip)
local macro_rules | `(tactic| walk_at "ev") => `(tactic| first
  | ((with_reducible apply ev_var); rfl)
  | ((with_reducible exact ev_c))
  | ((with_reducible exact ea_nil))
  | ((with_reducible apply ea_cons); walk_at "ev"; walk_at "ev")
  | ((with_reducible apply ev_op); walk_at "ev"; walk_at "ev"; walk_at "rv")
  | ((with_reducible apply ev_neg); walk_at "ev")
  | ((with_reducible apply ev_int); walk_at "ev")
  | ((with_reducible apply ev_fld); walk_at "ev"; walk_at "hp"; walk_at "tx"; walk_at "tx"; rfl)
  | ((with_reducible apply ev_call); walk_at "ev"; walk_at "sp")
  | ((with_reducible apply et_test); walk_at "ev")
  | ((with_reducible apply et_B); walk_at "ev")
  | ((with_reducible apply et_not); walk_at "ev")
  | ((with_reducible apply ev_notV); walk_at "ev")
  | ((with_reducible apply eo_some); walk_at "ev")
  | ((with_reducible exact eo_none))
  | ((with_reducible apply en_lst); walk_at "ev"; exact of_decide_eq_true rfl)
  | ((with_reducible apply en_tup); walk_at "ev"; exact of_decide_eq_true rfl)
  | ((with_reducible exact en_dK))
  | skip)
local macro_rules | `(tactic| walk_at "tx") => `(tactic| first
  | assumption
  | (with_reducible exact Tx.cls_Store (by assumption))
  | (with_reducible exact Tx.na_Store_room (by assumption))
  | (with_reducible exact Tx.na_Store_entries (by assumption))
  | (with_reducible exact Tx.na_Store_words (by assumption))
  | (with_reducible exact Tx.na_Store__places (by assumption))
  | (with_reducible exact Tx.na_Store__least (by assumption))
  | (with_reducible exact Tx.cls_Space (by assumption))
  | (with_reducible exact Tx.na_Space_store (by assumption))
  | (with_reducible exact Tx.na_Space_pressure (by assumption))
  | (with_reducible exact Tx.na_Space_always (by assumption))
  | (with_reducible exact Tx.na_Space_allocations (by assumption))
  | (with_reducible exact Tx.na_Space_collections (by assumption))
  | (with_reducible exact Tx.na_Space__roots (by assumption))
  | (with_reducible exact Tx.na_Space__held (by assumption))
  | (with_reducible exact Tx.na_Space__saved (by assumption)))
section
variable {K : PySem.W.Frag} {mg : Str → Option Value}
theorem lt_uniq {ys zs : List Int} (h1 : ys.Pairwise (· < ·)) (h2 : zs.Pairwise (· < ·)) (h : ∀ n, n ∈ ys ↔ n ∈ zs) : ys = zs := by
  have n1 : ys.Nodup := h1.imp fun {a b} h e => by omega
  have n2 : zs.Nodup := h2.imp fun {a b} h e => by omega
  exact sort_uniq ((List.perm_ext_iff_of_nodup n1 n2).mpr fun a => h a) (h1.imp fun {a b} h => by omega) (h2.imp fun {a b} h => by omega)
/-- a space under a dict that is being walked -/
theorem SpaceAt.frz {p : PA} {s : PS} {H : Hp} (S : SpaceAt K p s H) {d : Addr} {o : Obj} {kvs : List (Key × V)} (hd : H d = some (.dK kvs)) (hp : d ≠ p.a.pl) : SpaceAt K p s (upd H d (.frz o (.dK kvs))) := by
  have nd1 : p.sp ≠ d := (ne_of hd S.sp (by intro z; cases z)).symm
  have nd2 : p.a.st ≠ d := (ne_of hd S.S.st (by intro z; cases z)).symm
  have nd3 : p.a.wl ≠ d := (ne_of hd S.S.wl (by intro z; cases z)).symm
  have nd4 : p.rl ≠ d := (ne_of hd S.rl (by intro z; cases z)).symm
  have nd5 : p.hl ≠ d := (ne_of hd S.hl (by intro z; cases z)).symm
  have nd6 : p.pr ≠ d := (ne_of hd S.pr (by intro z; cases z)).symm
  exact ⟨(upd_ne nd1).trans S.sp, S.S.other nd2 nd3 hp.symm, (upd_ne nd4).trans S.rl, (upd_ne nd5).trans S.hl, (upd_ne nd6).trans S.pr, S.d1, S.d2, S.d3, S.d4, S.d5, S.d6, S.d7, S.rn, S.hn⟩
theorem ne_places {p : PA} {s : PS} {H : Hp} (S : SpaceAt K p s H) {d : Addr} {kvs : List (Key × V)} (hd : H d = some (.dK kvs)) {n : Int} {t : Addr} (hv : valV kvs (.inl n) = some (.ref t)) : d ≠ p.a.pl := fun z => by
  have h1 := S.S.pl
  rw [← z, hd] at h1
  injection h1 with h1
  injection h1 with h1
  have h2 := S.S.plc.at_ n
  rw [← h1, hv] at h2
  cases ho : off s.bs n with
  | none => rw [ho] at h2; cases h2
  | some m => rw [ho] at h2; cases h2
theorem rd_law (T : Tx K mg) (vs : List V) (H : Hp) (Q : VK) (E : XK) (h : sp_law K vs H Q E) : t_law K { nx := fun _ H' => Q .non H', rt := Q } (start N_law vs) H := by
  obtain ⟨_, rfl, sa, ns, rfl, hs, hl, hbn, q⟩ := h
  refine enter (σ := [some (.ref sa), none, none, none, none, none, none, none, none, none, none]) (g_asgN (o := .lst (ns.map V.int)) ?_ fun ca hca => ?_)
  · have h1 := en_lcL (K := K) (j := 2) (tl := tVar 0) (σ := [some (.ref sa), none, none, none, none, none, none, none, none, none, none]) (H := H) (tt := tYes) (te := tCB rInt1 (tCons (tVar 2) tNil)) (fun _ => true) (fun v => v) (Ev.q (a := sa) (ev_var rfl) hs) (by rw [List.length_map]; omega) (fun x _ => et_yes) (fun x hx _ => ?_)
    · rw [List.filter_eq_self.mpr (fun _ _ => rfl), List.map_id'] at h1
      exact h1
    · obtain ⟨w, _, rfl⟩ := List.mem_map.mp hx
      exact ev_int (ev_var rfl)
  refine g_while (α := List Int) (fun c => c.length ≤ 63 ∧ ∀ n ∈ c, Bn 1048576 n) (fun _ => [some (.ref sa), some (.ref ca), none, none, none, none, none, none, none, none, none]) (fun c => upd H ca (.lst (c.map V.int))) (fun c => 3 - c.length) ⟨ns, ⟨hl, hbn⟩, Sx.refl _, Same.refl _⟩ fun c hc => ?_
  refine ⟨_, et_ltI (ev_lenI (q := ca) (ev_var rfl) upd_same) ev_c, fun hb => ?_, fun hb => ?_⟩
  · have hb : (c.length : Int) < 3 := of_decide_eq_true hb
    refine g_app upd_same (ev_var rfl) ev_c (by rw [List.length_map]; omega) (g_next ?_)
    rw [upd_upd, show c.map V.int ++ [V.int 7] = (c ++ [7]).map V.int by simp]
    refine Lp.cl (c ++ [7]) ⟨⟨by simp; omega, fun n hn => ?_⟩, by simp; omega⟩ (Sx.refl _) (Same.refl _)
    rcases List.mem_append.mp hn with h | h
    · exact hc.2 n h
    · rw [List.mem_singleton.mp h]; exact Bn.small (by decide) (by decide)
  have hc3 : 3 ≤ c.length := by have := of_decide_eq_false hb; omega
  obtain ⟨hc63, hcb⟩ := hc
  have s0 : Same H (upd H ca (.lst (c.map V.int))) := same_new hca
  have hca0 : upd H ca (.lst (c.map V.int)) ca = some (.lst (c.map V.int)) := upd_same
  generalize upd H ca (.lst (c.map V.int)) = G0 at s0 hca0
  have cb : ∀ k, k < c.length → Bn 1048576 (c.getD k 0) := fun k hk => hcb _ (getD_mem hk)
  have cell : ∀ (σ : Sl) (G : Hp) (te : TE) (k : Nat), Same G0 G → σ[1]? = some (some (.ref ca)) → k < c.length → Ev te σ G (.int (k : Int)) → Ev (tOp (rIxL K) (tVar 1) te) σ G (.int (c.getD k 0)) := fun σ G te k s e1 hk he => Ev.is (ev_op (ev_var e1) he (rv_ixI (SqL.of (s _ _ hca0)) (by omega) (by omega))) (by rw [Int.toNat_natCast])
  have num0 : ∀ (σ : Sl), σ[1]? = some (some (.ref ca)) → Ev (tCall (sp__law_number K) [] E0 (tCons (tOp (rIxL K) (tVar 1) (tC (.int 0))) (tCons (tC (.int 0)) (tNil)))) σ G0 (.int (lawN (c.getD 0 0) 0)) := fun σ e1 => ev_call (ea_cons (cell _ _ _ 0 (Same.refl _) e1 (by omega) ev_c) (ea_cons ev_c ea_nil)) (spv_law_number ((cb 0 (by omega)).mono (by decide)) (by decide))
  have b0 : Bn 1048576 (lawN (c.getD 0 0) 0) := lawN_bn (cb 0 (by omega)) (by decide)
  refine g_asg (num0 _ rfl) ?_
  generalize hx : lawN (c.getD 0 0) 0 = x at b0
  rw [hx] at num0
  refine g_if (b := false) (EvT.is (et_and (et_eqI (ev_mod (ev_div (ev_var rfl) ev_c (by decide) (by decide)) ev_c (by decide)) ev_c) fun _ => et_not (a := true) (et_B (ev_call (ea_cons (ev_div (ev_var rfl) ev_c (by decide) (by decide)) ea_nil) fun H1 s Q E q => ⟨_, rfl, _, rfl, q⟩))) (by simp)) (fun hb => by cases hb) fun _ => g_end ?_
  -- rows
  refine g_asgR (R := fun v H1 => ∃ rows, RowsOk rows ∧ RowsV rows v H1) (er_callR (era2 (R := fun v H1 => ∃ ms : List Int, ms.length ≤ 39 ∧ (∀ n ∈ ms, 0 ≤ n ∧ n ≤ 19) ∧ IsI ms v H1) (er_call (ea_cons (num0 _ rfl) ea_nil) fun H1 s Q q => ⟨_, rfl, x, rfl, b0.mono (by decide), fun ms h1 h2 p H2 hp s2 => q _ H2 ((same_new hp).trans s2) ⟨ms, h1, h2, p, rfl, s2 _ _ upd_same⟩⟩) (fun v H H' s ⟨ms, h1, h2, p, e, hp⟩ => ⟨ms, h1, h2, p, e, s _ _ hp⟩) (Ev.rr (cell _ _ _ 1 (Same.refl _) rfl (by omega) ev_c))) fun us H1 s hus Q q => ?_) fun rv G1 s1 ⟨rows, hRo, hR⟩ => ?_
  · obtain ⟨v, w, rfl, ⟨ms, h1, h2, p, rfl, hp⟩, rfl⟩ := hus
    exact ⟨_, _, rfl, p, ms, _, rfl, SqL.of hp, h1, h2, rfl, (cb 1 (by omega)).mono (by decide), fun rows ho v H2 s2 hv => q v H2 s2 ⟨rows, ho, hv⟩⟩
  have hr39 := hRo.1
  -- words
  refine g_asgR (R := fun v H1 => ∃ ws, RootsOk ws ∧ IsI ws v H1) (er_call (ea_cons (ev_lenR hR (ev_var rfl)) (ea_cons (cell _ _ _ 2 s1 rfl (by omega) ev_c) ea_nil)) fun H1 s Q q => ⟨_, _, rfl, _, _, rfl, by omega, by omega, rfl, (cb 2 (by omega)).mono (by decide), fun ws ho p H2 hp s2 => q _ H2 ((same_new hp).trans s2) ⟨ws, ho, p, rfl, s2 _ _ upd_same⟩⟩) fun wv G2 s2 ⟨ws, hWo, wa, ewv, hwa⟩ => ?_
  subst ewv
  have hw20 := hWo.2.1
  have hR2 := hR.mono s2
  -- the space
  refine g_asgR (R := fun v H1 => ∃ (p : PA) (st : PS), v = .ref p.sp ∧ SpaceAt K p st H1 ∧ st.bs = numB rows ∧ st.ws = 0 :: ws) (er_call (ea_cons (ev_var rfl) (ea_cons (ev_var rfl) ea_nil)) fun H1 s Q q => ⟨_, _, rfl, rows, ws, hR2.mono s, hRo, ⟨wa, rfl, s _ _ hwa⟩, hWo, q⟩) fun v G3 s3 ⟨p, st, ev, S3, hbs, hws⟩ => ?_
  subst ev
  refine g_if (b := false) (et_test (Ev.is (ev_op (ev_var (v := .ref p.sp) rfl) ev_c rv_isN) rfl)) (fun hb => by cases hb) fun _ => g_end ?_
  have hR3 := hR2.mono s3
  have hwa3 := s3 _ _ hwa
  -- the best paths, twice
  refine g_asgR (R := fun v H1 => ∃ d, v = .ref d ∧ DictP d (pathsF (numB rows) (0 :: ws)) H1) (er_call (ea_cons (ev_var rfl) (ea_cons (ev_var rfl) ea_nil)) fun H1 s Q q => ⟨_, _, rfl, rows, ws, hR3.mono s, hRo, ⟨wa, rfl, s _ _ hwa3⟩, hWo, q⟩) fun v G4 s4 ⟨d, ev, kvs, hd, hPd⟩ => ?_
  subst ev
  have S4 := S3.mono s4
  refine g_asgR (R := fun v H1 => ∃ d2, v = .ref d2 ∧ DictP d2 (pathsF (numB rows) (0 :: ws)) H1) (er_call (ea_cons (ev_var rfl) ea_nil) fun H1 s Q q => ⟨_, rfl, p, st, rfl, S4.mono s, by rw [hbs, hws]; exact q⟩) fun v G5 s5 ⟨e2, ev, kvs2, he2, hPe⟩ => ?_
  subst ev
  have S5 := S4.mono s5
  have hd5 := s5 _ _ hd
  have hPd5 := paired_imp hPd fun z y ⟨a, t, b, c⟩ => (⟨a, t, b, s5 _ _ c⟩ : z.1 = Sum.inl y.1 ∧ ∃ t, z.2 = V.ref t ∧ G5 t = some (HO.tup (y.2.map V.int)))
  have hR5 := (hR3.mono s4).mono s5
  have hwa5 := s5 _ _ (s4 _ _ hwa3)
  have s05 : Same G0 G5 := ((((s1.trans s2).trans s3).trans s4).trans s5)
  have SP := paths_ok (numB rows) (0 :: ws)
  have hpk : ∀ n, n ∈ (pathsF (numB rows) (0 :: ws)).map (·.1) ↔ Rch (numB rows) (0 :: ws) n := fun n => paths_keys
  have hFl := SP.len
  rw [len_numB] at hFl
  generalize pathsF (numB rows) (0 :: ws) = F at hPd5 hPe SP hpk hFl
  clear hPd hd
  have ks39 : (sortI (F.map (·.1))).length ≤ 1000000 := by have := (sortI_perm (F.map (·.1))).length_eq; rw [List.length_map] at this; omega
  have hsort : ∀ (j : Nat) (a : Addr) (kv : List (Key × V)) (σ : Sl), σ[j]? = some (some (.ref a)) → G5 a = some (.dK kv) → kv.map (·.1) = (F.map (·.1)).map Sum.inl → EvR (tCB rSortedDK (tCons (tVar j) tNil)) σ G5 (IsL ((sortI (F.map (·.1))).map V.int)) := fun j a kv σ ej ha hk => er_sortedDK (ev_var ej) ha hk fun ys hp ho => sort_of hp ho
  refine g_if (b := false) (EvT.is (et_or (a := false) (et_not (a := true) (et_B (ev_isiD (Ev.d (a := e2) (ev_var rfl) he2)))) fun _ => et_not (et_B (ev_same (hsort 8 e2 kvs2 _ rfl he2 (dp_key hPe)) (EvR.lq (hsort 7 d kvs _ rfl hd5 (dp_key hPd5))) ks39))) (by simp)) (fun hb => by cases hb) fun _ => g_end ?_
  refine g_forK (d := d) (α := Hp) (fun k x' => Same G5 x') (fun k x' => [some (.ref sa), some (.ref ca), none, none, some rv, some (.ref wa), some (.ref p.sp), some (.ref d), some (.ref e2), none, none]) (fun k x' => x') hd5 (fun H' => ev_var rfl) ⟨G5, Same.refl _, Sx.eq (Sx.eq (Sx.eq (Sx.any (Sx.refl _)))), Same.refl _⟩ (fun k x' hx => hx _ _ hd5) ?_ ?_
  · rintro o k key v G6 hk s6
    have s6 : Same G5 G6 := s6
    have hd6 := s6 _ _ hd5
    obtain ⟨e, he, rfl, _⟩ := dictP_at hPd5 hk
    have hem : e ∈ F := List.mem_of_getElem? he
    obtain ⟨t, hgt, ht⟩ := dictP_get hPd5 SP.nd hem
    obtain ⟨t2, hgt2, ht2⟩ := dictP_get hPe SP.nd hem
    obtain ⟨_, _, hel, _⟩ := SP.f1 e hem
    rw [len_numB] at hel
    have hdp := ne_places S5 hd5 hgt
    have keep : ∀ b u, G5 b = some u → b ≠ d → upd G6 d (.frz o (.dK kvs)) b = some u := fun b u hb hn => by rw [upd_ne hn]; exact s6 _ _ hb
    have ht' := keep _ _ ht (ne_of ht hd5 (by intro z; cases z))
    have ht2' := keep _ _ ht2 (ne_of ht2 hd5 (by intro z; cases z))
    have hR6 : RowsV rows rv (upd G6 d (.frz o (.dK kvs))) := hR5.keepL fun b xs hb => keep _ _ hb (ne_of hb hd5 (by intro z; cases z))
    have hwa6 := keep _ _ hwa5 (ne_of hwa5 hd5 (by intro z; cases z))
    have S6 : SpaceAt K p st (upd G6 d (.frz o (.dK kvs))) := (S5.mono s6).frz hd6 hdp
    have hrd2 : Rd (upd G6 d (.frz o (.dK kvs))) e2 (.dK kvs2) := by
      by_cases z : e2 = d
      · subst z
        rw [he2] at hd5
        injection hd5 with hd5
        injection hd5 with hd5
        subst hd5
        exact .inr ⟨o, upd_same⟩
      · exact .inl (keep _ _ he2 z)
    have hdd : Rd (upd G6 d (.frz o (.dK kvs))) d (.dK kvs) := .inr ⟨o, upd_same⟩
    generalize hG7 : upd G6 d (.frz o (.dK kvs)) = G7 at *
    refine g_if (b := false) (EvT.is (et_or (a := false) (et_not (a := true) (et_B (Ev.is (ev_call (ea_cons (ev_dget (k := .inl e.1) (ev_var rfl) (ev_var rfl) hrd2 hgt2) (ea_cons (ev_dget (k := .inl e.1) (ev_var rfl) (ev_var rfl) hdd hgt) ea_nil)) fun H1 s Q E q => ⟨_, _, rfl, t2, t, e.2, e.2, rfl, rfl, s _ _ ht2', SqT.of (s _ _ ht'), by omega, q⟩) (by rw [decide_eq_true rfl])))) fun _ => et_not (a := true) (et_B (ev_call (ea_cons (ev_var rfl) (ea_cons (ev_var rfl) (ea_cons (ev_var rfl) (ea_cons (ev_dget (k := .inl e.1) (ev_var rfl) (ev_var rfl) hdd hgt) ea_nil)))) fun H1 s Q E q => ⟨_, _, _, _, rfl, rows, ws, p, st, t, e.2, hR6.mono s, hRo, ⟨wa, rfl, s _ _ hwa6⟩, hWo, rfl, S6.mono s, hbs, hws, rfl, SqT.of (s _ _ ht'), by omega, q⟩))) rfl) (fun hb => by cases hb) fun _ => g_end ?_
    refine gk_next G6 s6 ?_ ?_
    · exact Sx.eq (Sx.eq (Sx.eq (Sx.any (Sx.eq (Sx.eq (Sx.eq (Sx.eq (Sx.eq (Sx.any (Sx.any Sx.nil))))))))))
    · show Same (upd G6 d (.frz o (.dK kvs))) G7
      rw [hG7]; exact Same.refl _
  · intro G6 s6
    have s6 : Same G5 G6 := s6
    have S6 := S5.mono s6
    have hR6 := hR5.mono s6
    have hwa6 := s6 _ _ hwa5
    have hd6 := s6 _ _ hd5
    have s06 := s05.trans s6
    have hgar : EvR (tCall (sp_garbage K) [] E0 (tCons (tVar 6) (tNil))) [some (.ref sa), some (.ref ca), none, none, some rv, some (.ref wa), some (.ref p.sp), some (.ref d), some (.ref e2), none, none] G6 (IsL ((((List.range rows.length).filter fun (k : Nat) => !decide ((k : Int) ∈ F.map (·.1))).map fun (k : Nat) => (k : Int)).map V.int)) :=
      er_call (ea_cons (ev_var rfl) ea_nil) fun H1 s Q q => ⟨_, rfl, p, st, rfl, S6.mono s, fun ys hy1 hy2 => by
        have e : ys = ((List.range rows.length).filter fun (k : Nat) => !decide ((k : Int) ∈ F.map (·.1))).map fun (k : Nat) => (k : Int) := by
          refine lt_uniq hy1 (List.pairwise_map.mpr ((List.pairwise_lt_range.sublist List.filter_sublist).imp fun {a b} h => by omega)) fun n => ?_
          rw [hy2, hbs, hws, ← hpk, keys_numB]
          simp only [List.mem_map, List.mem_filter, List.mem_range, Bool.not_eq_true', decide_eq_false_iff_not]
          constructor
          · rintro ⟨⟨k, h1, rfl⟩, h2⟩; exact ⟨k, ⟨h1, h2⟩, rfl⟩
          · rintro ⟨k, ⟨h1, h2⟩, rfl⟩; exact ⟨⟨k, h1, rfl⟩, h2⟩
        rw [e]
        exact givN_l q⟩
    have hlc : EvR (tLc (iRng1 (tCons (tCB (rLenS K) (tCons (tVar 4) (tNil))) (tNil))) (gName 10) (tB (tDNotIn (tVar 10) (tVar 7))) (tVar 10) [10]) [some (.ref sa), some (.ref ca), none, none, some rv, some (.ref wa), some (.ref p.sp), some (.ref d), some (.ref e2), none, none] G6 (IsQ K ((((List.range rows.length).filter fun (k : Nat) => !decide ((k : Int) ∈ F.map (·.1))).map fun (k : Nat) => (k : Int)).map V.int)) := by
      have h1 := EvN.q (K := K) (en_lcR (σ := [some (.ref sa), some (.ref ca), none, none, some rv, some (.ref wa), some (.ref p.sp), some (.ref d), some (.ref e2), none, none]) (H := G6) (j := 10) (tA := tCons (tCB (rLenS K) (tCons (tVar 4) (tNil))) (tNil)) (n := (rows.length : Int)) (tt := tB (tDNotIn (tVar 10) (tVar 7))) (te := tVar 10)
        (fun k => !decide ((k : Int) ∈ F.map (·.1))) (fun (k : Nat) => V.int (k : Int)) (ea_cons (ev_lenR hR6 (ev_var rfl)) ea_nil) (by omega) (fun m hm => et_B (Ev.is (ev_dnin (k := .inl (m : Int)) (ev_var rfl) (ev_var rfl) (.inl hd6)) (by rw [dp_val hPd5]))) fun m hm _ => ev_var rfl)
      rw [Int.toNat_natCast] at h1
      rw [List.map_map]
      exact h1
    refine g_if (b := false) (EvT.is (et_not (et_B (ev_same hgar hlc (by have := List.length_filter_le (fun (k : Nat) => !decide ((k : Int) ∈ F.map (·.1))) (List.range rows.length); rw [List.length_map]; rw [List.length_range] at this; omega)))) (by simp)) (fun hb => by cases hb) fun _ => g_end ?_
    -- paths that are drawn
    have drawn : ∀ (σ : Sl) (G : Hp) (te : TE) (y : Int), Same G6 G → σ[4]? = some (some rv) → σ[5]? = some (some (V.ref wa)) → σ[6]? = some (some (V.ref p.sp)) → Ev te σ G (.int y) →
        EvT (tNot (tB (tCall (sp__law_told K) [] E0 (tCons (tVar 6) (tCons (tVar 4) (tCons (tVar 5) (tCons (tCall (sp__law_drawn K) [] E0 (tCons te (tCons (tVar 4) (tCons (tVar 5) (tNil))))) (tNil)))))))) σ G false := fun σ G te y s e4 e5 e6 hy =>
      EvT.is (et_not (a := true) (et_B (ev_callR (era_pre (ev_var e6) (era_pre (ev_var e4) (era_pre (ev_var e5) (era1 (R := fun v H' => ∃ path : List Int, path.length ≤ 5 ∧ IsTp (path.map V.int) v H') (er_call (ea_cons hy (ea_cons (ev_var e4) (ea_cons (ev_var e5) ea_nil))) fun H1 s1 Q q => ⟨_, _, _, rfl, rows, ws, y, rfl, hR6.mono (s.trans s1), hRo, ⟨wa, rfl, s1 _ _ (s _ _ hwa6)⟩, hWo, fun path hl t H2 ht s2 => q _ H2 ((same_new ht).trans s2) ⟨path, hl, t, rfl, s2 _ _ upd_same⟩⟩))))) fun us H1 s1 hus Q q => by
        obtain ⟨_, rfl, _, rfl, _, rfl, v, rfl, path, hl, t, rfl, ht⟩ := hus
        exact ⟨_, _, _, _, rfl, rows, ws, p, st, t, path, hR6.mono (s.trans s1), hRo, ⟨wa, rfl, s1 _ _ (s _ _ hwa6)⟩, hWo, rfl, S6.mono (s.trans s1), hbs, hws, rfl, SqT.of ht, by omega, q⟩))) rfl
    refine g_forR2 (lo := 3) (n := (c.length : Int)) (α := Unit) (fun _ _ => True) (fun _ _ => [some (.ref sa), some (.ref ca), none, none, some rv, some (.ref wa), some (.ref p.sp), some (.ref d), some (.ref e2), none, none]) (fun _ _ => G6) (ea_cons ev_c (ea_cons (ev_lenI (q := ca) (ev_var rfl) (s06 _ _ hca0)) ea_nil)) (by omega) ⟨(), trivial, Sx.refl _, Same.refl _⟩ (fun k _ hk _ => ?_) fun _ _ => ?_
    · have hk' : 3 + k < c.length := by omega
      refine g_asg (v := .int (lawN (c.getD (3 + k) 0) (3 + (k : Int)))) (ev_call (ea_cons (cell _ _ _ (3 + k) s06 rfl hk' (Ev.is (ev_var rfl) (by congr 1))) (ea_cons (ev_var rfl) ea_nil)) (spv_law_number ((cb _ hk').mono (by decide)) ?_)) ?_
      · have : (3 + (k : Int)).natAbs < 2000000 := by omega
        exact Nat.lt_trans this (by decide)
      generalize lawN (c.getD (3 + k) 0) (3 + (k : Int)) = y
      refine g_if (drawn _ _ _ y (Same.refl _) rfl rfl rfl (ev_var rfl)) (fun hb => by cases hb) fun _ => g_end (g_if (drawn _ _ _ (y / 1000003) (Same.refl _) rfl rfl rfl (ev_div (ev_var rfl) ev_c (by decide) (by decide))) (fun hb => by cases hb) fun _ => g_end (g_next (Lp.cl () trivial ?_ (Same.refl _))))
      exact Sx.eq (Sx.eq (Sx.eq (Sx.any (Sx.eq (Sx.eq (Sx.eq (Sx.eq (Sx.eq (Sx.any (Sx.any Sx.nil))))))))))
    · have hnone : Ev (tCall (sp_word_at K) [] E0 (tCons (tVar 6) (tCons (tTup (tNil)) (tNil)))) [some (.ref sa), some (.ref ca), none, none, some rv, some (.ref wa), some (.ref p.sp), some (.ref d), some (.ref e2), none, none] G6 .non :=
        ev_callR (era_pre (ev_var rfl) (era1 (EvN.tp (en_tup ea_nil (of_decide_eq_true rfl))))) fun us H1 s hus Q q => by
          obtain ⟨_, rfl, v, rfl, t, rfl, ht⟩ := hus
          exact ⟨_, _, rfl, p, st, t, [], rfl, S6.mono s, rfl, SqT.of ht, by decide, q⟩
      refine g_if (b := false) (et_test (Ev.is (ev_op hnone ev_c rv_notN) rfl)) (fun hb => by cases hb) fun _ => g_end (g_ret (ev_call (ea_cons (ev_var rfl) (ea_cons (ev_var rfl) (ea_cons (ev_var rfl) ea_nil))) fun H1 s Q E q => ⟨_, _, _, rfl, rows, ws, p, st, hR6.mono s, hRo, ⟨wa, rfl, s _ _ hwa6⟩, hWo, rfl, S6.mono s, hbs, hws, q⟩) fun H1 _ => q H1)
end
end K64

set_option Elab.async false
set_option linter.all false
set_option maxRecDepth 100000
set_option maxHeartbeats 4000000
namespace K64
open PySem PySem.Spec PyProof.Rows L2 Kw
section
variable {P : Program} {w : World} {K : PySem.W.Frag} {mg : Str → Option Value} {base : Heap}
theorem sc_is_ref : FnScope N_is_ref ["word"] (defScope s_is_ref) := ⟨rfl, rfl, rfl, by decide +kernel, rfl, by decide +kernel, by decide +kernel⟩
theorem dv_is_ref (T : Tx K mg)  {f : Addr} {cdv : Value} {A : Around} {outer : List Env} {s : Shared} {H : Hp} {E : XK} (hr : Room 0 (A.deeper (envOfC "is_ref" (defScope s_is_ref) s.heap.objs.size f cdv))) :
 PSs (cxOf CX0 P w K mg base N_is_ref "is_ref" (defScope s_is_ref) f cdv A outer s H E).nox (defBody s_is_ref) (t_is_ref K) := by
  have hu := hu_of hr
  exact
(pss_cons (ps_ret (pe_cmpR op_eq (pe_op op_mod (pv 0) pe_int) pe_int (nomark _)))
pss_nil)
theorem sc_ref_of : FnScope N_ref_of ["word"] (defScope s_ref_of) := ⟨rfl, rfl, rfl, by decide +kernel, rfl, by decide +kernel, by decide +kernel⟩
theorem dv_ref_of (T : Tx K mg) (c_is_ref : Fd P w K mg base 1 "is_ref" (sp_is_ref K)) {f : Addr} {cdv : Value} {A : Around} {outer : List Env} {s : Shared} {H : Hp} {E : XK} (hr : Room 1 (A.deeper (envOfC "ref_of" (defScope s_ref_of) s.heap.objs.size f cdv))) :
 PSs (cxOf CX0 P w K mg base N_ref_of "ref_of" (defScope s_ref_of) f cdv A outer s H E).nox (defBody s_ref_of) (t_ref_of K) := by
  have hu := hu_of hr
  exact
(pss_cons (ps_if (pt_not (pt_val (pe_fd c_is_ref hr (by decide) rfl (pa_cons (pv 0) pa_nil))))
(pss_cons ps_never
pss_nil)
pss_nil)
(pss_cons (ps_ret (pe_op op_fdiv (pv 0) pe_int))
pss_nil))
theorem sc_Store_init_ : FnScope N_Store_init_ ["self", "room", "entries"] (defScope m_Store_init_) := ⟨rfl, rfl, rfl, by decide +kernel, rfl, by decide +kernel, by decide +kernel⟩
theorem dv_Store_init_ (T : Tx K mg)  {f : Addr} {cdv : Value} {A : Around} {outer : List Env} {s : Shared} {H : Hp} {E : XK} (hr : Room 0 (A.deeper (envOfC "Store.__init__" (defScope m_Store_init_) s.heap.objs.size f cdv))) :
 PSs (cxOf CX0 P w K mg base N_Store_init_ "Store.__init__" (defScope m_Store_init_) f cdv A outer s H E).nox (defBody m_Store_init_) (t_Store_init_ K) := by
  have hu := hu_of hr
  exact
(pss_cons (ps_fld (pv 0) (pv 1) rfl)
(pss_cons (ps_fld (pv 0) (pv 2) rfl)
(pss_cons (ps_fld (pv 0) (pe_lst pa_nil) rfl)
(pss_cons (ps_fld (pv 0) pe_dnewK rfl)
(pss_cons (ps_fld (pv 0) pe_int rfl)
pss_nil)))))
theorem sc_Store_exists : FnScope N_Store_exists ["self", "number"] (defScope m_Store_exists) := ⟨rfl, rfl, rfl, by decide +kernel, rfl, by decide +kernel, by decide +kernel⟩
theorem dv_Store_exists (T : Tx K mg)  {f : Addr} {cdv : Value} {A : Around} {outer : List Env} {s : Shared} {H : Hp} {E : XK} (hr : Room 0 (A.deeper (envOfC "Store.exists" (defScope m_Store_exists) s.heap.objs.size f cdv))) :
 PSs (cxOf CX0 P w K mg base N_Store_exists "Store.exists" (defScope m_Store_exists) f cdv A outer s H E).nox (defBody m_Store_exists) (t_Store_exists K) := by
  have hu := hu_of hr
  exact
(pss_cons (ps_ret (pe_cmp (pc_din hu (pv 1) (pe_fld (pv 0) rfl))))
pss_nil)
theorem sc_Store_numbers : FnScope N_Store_numbers ["self"] (defScope m_Store_numbers) := ⟨rfl, rfl, rfl, by decide +kernel, rfl, by decide +kernel, by decide +kernel⟩
theorem dv_Store_numbers (T : Tx K mg)  {f : Addr} {cdv : Value} {A : Around} {outer : List Env} {s : Shared} {H : Hp} {E : XK} (hr : Room 0 (A.deeper (envOfC "Store.numbers" (defScope m_Store_numbers) s.heap.objs.size f cdv))) :
 PSs (cxOf CX0 P w K mg base N_Store_numbers "Store.numbers" (defScope m_Store_numbers) f cdv A outer s H E).nox (defBody m_Store_numbers) (t_Store_numbers K) := by
  have hu := hu_of hr
  exact
(pss_cons (ps_ret (pe_callB (cr_sortedDK rfl) (by rfl) T.f_sorted bt_sorted (pa_cons (pe_fld (pv 0) rfl) pa_nil)))
pss_nil)
theorem sc_Store_free_number : FnScope N_Store_free_number ["self"] (defScope m_Store_free_number) := ⟨rfl, rfl, rfl, by decide +kernel, rfl, by decide +kernel, by decide +kernel⟩
theorem dv_Store_free_number (T : Tx K mg)  {f : Addr} {cdv : Value} {A : Around} {outer : List Env} {s : Shared} {H : Hp} {E : XK} (hr : Room 0 (A.deeper (envOfC "Store.free_number" (defScope m_Store_free_number) s.heap.objs.size f cdv))) :
 PSs (cxOf CX0 P w K mg base N_Store_free_number "Store.free_number" (defScope m_Store_free_number) f cdv A outer s H E).nox (defBody m_Store_free_number) (t_Store_free_number K) := by
  have hu := hu_of hr
  exact
(pss_cons (ps_while PassesOwn.never (pt_cmp (pc_din hu (pe_fld (pv 0) rfl) (pe_fld (pv 0) rfl)))
(pss_cons (ps_fld (pv 0) (pe_op op_add (pe_fld (pv 0) rfl) pe_int) rfl)
pss_nil))
(pss_cons (ps_if (pt_cmpR op_ge (pe_fld (pv 0) rfl) (pe_fld (pv 0) rfl) (nomark _))
(pss_cons ps_never
pss_nil)
pss_nil)
(pss_cons (ps_ret (pe_fld (pv 0) rfl))
pss_nil)))
theorem sc_Store_allocate : FnScope N_Store_allocate ["self", "kind", "size"] (defScope m_Store_allocate) := ⟨rfl, rfl, rfl, by decide +kernel, rfl, by decide +kernel, by decide +kernel⟩
theorem dv_Store_allocate (T : Tx K mg) (c_Store_free_number : Mh P w K mg base 1 "Store" "free_number" (sp_Store_free_number K)) {f : Addr} {cdv : Value} {A : Around} {outer : List Env} {s : Shared} {H : Hp} {E : XK} (hr : Room 1 (A.deeper (envOfC "Store.allocate" (defScope m_Store_allocate) s.heap.objs.size f cdv))) :
 PSs (cxOf CX0 P w K mg base N_Store_allocate "Store.allocate" (defScope m_Store_allocate) f cdv A outer s H E).nox (defBody m_Store_allocate) (t_Store_allocate K) := by
  have hu := hu_of hr
  exact
(pss_cons (ps_if (pt_cmpR op_gt (pe_op op_add (pe_op op_add (pe_callB call_len_seq (by rfl) T.f_len bt_len (pa_cons (pe_fld (pv 0) rfl) pa_nil)) (pe_gc rfl T.c_HEADER)) (pv 2)) (pe_fld (pv 0) rfl) (nomark _))
(pss_cons ps_never
pss_nil)
pss_nil)
(pss_cons (ps_set (i := 3) sc_Store_allocate.nd rfl (by first | exact Or.inl rfl | exact Or.inr rfl) (pe_md0 c_Store_free_number hr (by decide) (pv 0)))
(pss_cons (ps_dput hu (pe_fld (pv 0) rfl) (pv 3) (pe_callB call_len_seq (by rfl) T.f_len bt_len (pa_cons (pe_fld (pv 0) rfl) pa_nil)) rfl)
(pss_cons (ps_expr (pe_bm PySem.F.plainAttrs_list PySem.F.slot_list_extend PySem.F.type_list_extend mt_extend (pe_fld (pv 0) rfl) (pa_cons (pe_lst (pa_cons (pv 3) (pa_cons (pv 2) (pa_cons (pv 1) pa_nil)))) pa_nil)))
(pss_cons (ps_expr (pe_bm PySem.F.plainAttrs_list PySem.F.slot_list_extend PySem.F.type_list_extend mt_extend (pe_fld (pv 0) rfl) (pa_cons (pe_op op_rep (pe_lst (pa_cons (pe_gc rfl T.c_NIL) pa_nil)) (pv 2)) pa_nil)))
(pss_cons (ps_ret (pv 3))
pss_nil))))))
theorem sc_Store_size : FnScope N_Store_size ["self", "number"] (defScope m_Store_size) := ⟨rfl, rfl, rfl, by decide +kernel, rfl, by decide +kernel, by decide +kernel⟩
theorem dv_Store_size (T : Tx K mg)  {f : Addr} {cdv : Value} {A : Around} {outer : List Env} {s : Shared} {H : Hp} {E : XK} (hr : Room 0 (A.deeper (envOfC "Store.size" (defScope m_Store_size) s.heap.objs.size f cdv))) :
 PSs (cxOf CX0 P w K mg base N_Store_size "Store.size" (defScope m_Store_size) f cdv A outer s H E).nox (defBody m_Store_size) (t_Store_size K) := by
  have hu := hu_of hr
  exact
(pss_cons (ps_ret (pe_ix ix_list (pe_fld (pv 0) rfl) (pe_op op_add (pe_dget hu (pe_fld (pv 0) rfl) (pv 1) (fun _ _ => rfl)) pe_int) (fun _ _ => rfl)))
pss_nil)
theorem sc_Store_kind : FnScope N_Store_kind ["self", "number"] (defScope m_Store_kind) := ⟨rfl, rfl, rfl, by decide +kernel, rfl, by decide +kernel, by decide +kernel⟩
theorem dv_Store_kind (T : Tx K mg)  {f : Addr} {cdv : Value} {A : Around} {outer : List Env} {s : Shared} {H : Hp} {E : XK} (hr : Room 0 (A.deeper (envOfC "Store.kind" (defScope m_Store_kind) s.heap.objs.size f cdv))) :
 PSs (cxOf CX0 P w K mg base N_Store_kind "Store.kind" (defScope m_Store_kind) f cdv A outer s H E).nox (defBody m_Store_kind) (t_Store_kind K) := by
  have hu := hu_of hr
  exact
(pss_cons (ps_ret (pe_ix ix_list (pe_fld (pv 0) rfl) (pe_op op_add (pe_dget hu (pe_fld (pv 0) rfl) (pv 1) (fun _ _ => rfl)) pe_int) (fun _ _ => rfl)))
pss_nil)
theorem sc_Store_put : FnScope N_Store_put ["self", "number", "at", "word"] (defScope m_Store_put) := ⟨rfl, rfl, rfl, by decide +kernel, rfl, by decide +kernel, by decide +kernel⟩
theorem dv_Store_put (T : Tx K mg)  {f : Addr} {cdv : Value} {A : Around} {outer : List Env} {s : Shared} {H : Hp} {E : XK} (hr : Room 0 (A.deeper (envOfC "Store.put" (defScope m_Store_put) s.heap.objs.size f cdv))) :
 PSs (cxOf CX0 P w K mg base N_Store_put "Store.put" (defScope m_Store_put) f cdv A outer s H E).nox (defBody m_Store_put) (t_Store_put K) := by
  have hu := hu_of hr
  exact
(pss_cons (ps_asg (pv 3) (pg_sub (pe_fld (pv 0) rfl) (pe_op op_add (pe_op op_add (pe_dget hu (pe_fld (pv 0) rfl) (pv 1) (fun _ _ => rfl)) (pe_gc rfl T.c_HEADER)) (pv 2)) set_list))
pss_nil)
theorem sc_Store_slots : FnScope N_Store_slots ["self", "number"] (defScope m_Store_slots) := ⟨rfl, rfl, rfl, by decide +kernel, rfl, by decide +kernel, by decide +kernel⟩
theorem dv_Store_slots (T : Tx K mg) (c_Store_size : Mh P w K mg base 1 "Store" "size" (sp_Store_size K)) {f : Addr} {cdv : Value} {A : Around} {outer : List Env} {s : Shared} {H : Hp} {E : XK} (hr : Room 1 (A.deeper (envOfC "Store.slots" (defScope m_Store_slots) s.heap.objs.size f cdv))) :
 PSs (cxOf CX0 P w K mg base N_Store_slots "Store.slots" (defScope m_Store_slots) f cdv A outer s H E).nox (defBody m_Store_slots) (t_Store_slots K) := by
  have hu := hu_of hr
  exact
(pss_cons (ps_set (i := 2) sc_Store_slots.nd rfl (by first | exact Or.inl rfl | exact Or.inr rfl) (pe_op op_add (pe_dget hu (pe_fld (pv 0) rfl) (pv 1) (fun _ _ => rfl)) (pe_gc rfl T.c_HEADER)))
(pss_cons (ps_ret (pe_slice sl_list (pe_fld (pv 0) rfl) (po_some (pv 2)) (po_some (pe_op op_add (pv 2) (pe_md c_Store_size hr (by decide) (pv 0) (pa_cons (pv 1) pa_nil))))))
pss_nil))
theorem sc_Space_init_ : FnScope N_Space_init_ ["self", "room", "entries"] (defScope m_Space_init_) := ⟨rfl, rfl, rfl, by decide +kernel, rfl, by decide +kernel, by decide +kernel⟩
theorem dv_Space_init_ (T : Tx K mg) (c_Store_init_ : Md P w K mg base 1 "Store" (sp_Store_init_ K)) {f : Addr} {cdv : Value} {A : Around} {outer : List Env} {s : Shared} {H : Hp} {E : XK} (hr : Room 2 (A.deeper (envOfC "Space.__init__" (defScope m_Space_init_) s.heap.objs.size f cdv))) :
 PSs (cxOf CX0 P w K mg base N_Space_init_ "Space.__init__" (defScope m_Space_init_) f cdv A outer s H E).nox (defBody m_Space_init_) (t_Space_init_ K) := by
  have hu := hu_of hr
  exact
(pss_cons (ps_fld (pv 0) (pe_mkd c_Store_init_ hr (by decide) rfl (pa_cons (pv 1) (pa_cons (pv 2) pa_nil))) rfl)
(pss_cons (ps_fld (pv 0) (pe_lst pa_nil) rfl)
(pss_cons (ps_fld (pv 0) pe_bl rfl)
(pss_cons (ps_fld (pv 0) pe_int rfl)
(pss_cons (ps_fld (pv 0) pe_int rfl)
(pss_cons (ps_fld (pv 0) (pe_op op_rep (pe_lst (pa_cons (pe_gc rfl T.c_NIL) pa_nil)) (pe_gc rfl T.c_ROOTS)) rfl)
(pss_cons (ps_fld (pv 0) (pe_lst pa_nil) rfl)
(pss_cons (ps_fld (pv 0) pe_non rfl)
pss_nil))))))))
theorem sc_Space_set_root : FnScope N_Space_set_root ["self", "k", "word"] (defScope m_Space_set_root) := ⟨rfl, rfl, rfl, by decide +kernel, rfl, by decide +kernel, by decide +kernel⟩
theorem dv_Space_set_root (T : Tx K mg)  {f : Addr} {cdv : Value} {A : Around} {outer : List Env} {s : Shared} {H : Hp} {E : XK} (hr : Room 0 (A.deeper (envOfC "Space.set_root" (defScope m_Space_set_root) s.heap.objs.size f cdv))) :
 PSs (cxOf CX0 P w K mg base N_Space_set_root "Space.set_root" (defScope m_Space_set_root) f cdv A outer s H E).nox (defBody m_Space_set_root) (t_Space_set_root K) := by
  have hu := hu_of hr
  exact
(pss_cons (ps_asg (pv 2) (pg_sub (pe_fld (pv 0) rfl) (pv 1) set_list))
pss_nil)
theorem sc_Space_hold : FnScope N_Space_hold ["self", "word"] (defScope m_Space_hold) := ⟨rfl, rfl, rfl, by decide +kernel, rfl, by decide +kernel, by decide +kernel⟩
theorem dv_Space_hold (T : Tx K mg)  {f : Addr} {cdv : Value} {A : Around} {outer : List Env} {s : Shared} {H : Hp} {E : XK} (hr : Room 0 (A.deeper (envOfC "Space.hold" (defScope m_Space_hold) s.heap.objs.size f cdv))) :
 PSs (cxOf CX0 P w K mg base N_Space_hold "Space.hold" (defScope m_Space_hold) f cdv A outer s H E).nox (defBody m_Space_hold) (t_Space_hold K) := by
  have hu := hu_of hr
  exact
(pss_cons (ps_expr (pe_bm PySem.F.plainAttrs_list PySem.F.slot_list_append PySem.F.type_list_append mt_append (pe_fld (pv 0) rfl) (pa_cons (pv 1) pa_nil)))
(pss_cons (ps_ret (pv 1))
pss_nil))
theorem sc_Space_all_roots : FnScope N_Space_all_roots ["self"] (defScope m_Space_all_roots) := ⟨rfl, rfl, rfl, by decide +kernel, rfl, by decide +kernel, by decide +kernel⟩
theorem dv_Space_all_roots (T : Tx K mg)  {f : Addr} {cdv : Value} {A : Around} {outer : List Env} {s : Shared} {H : Hp} {E : XK} (hr : Room 0 (A.deeper (envOfC "Space.all_roots" (defScope m_Space_all_roots) s.heap.objs.size f cdv))) :
 PSs (cxOf CX0 P w K mg base N_Space_all_roots "Space.all_roots" (defScope m_Space_all_roots) f cdv A outer s H E).nox (defBody m_Space_all_roots) (t_Space_all_roots K) := by
  have hu := hu_of hr
  exact
(pss_cons (ps_ret (pe_op op_cat (pe_op op_cat (pe_lst (pa_cons (pe_gc rfl T.c_NIL) pa_nil)) (pe_fld (pv 0) rfl)) (pe_fld (pv 0) rfl)))
pss_nil)
theorem sc_Space_fitted : FnScope N_Space_fitted ["self", "kind", "size"] (defScope m_Space_fitted) := ⟨rfl, rfl, rfl, by decide +kernel, rfl, by decide +kernel, by decide +kernel⟩
theorem dv_Space_fitted (T : Tx K mg) (c_Store_allocate : Mh P w K mg base 2 "Store" "allocate" (sp_Store_allocate K)) {f : Addr} {cdv : Value} {A : Around} {outer : List Env} {s : Shared} {H : Hp} {E : XK} (hr : Room 2 (A.deeper (envOfC "Space.fitted" (defScope m_Space_fitted) s.heap.objs.size f cdv))) :
 PSs (cxOf CX0 P w K mg base N_Space_fitted "Space.fitted" (defScope m_Space_fitted) f cdv A outer s H E).nox (defBody m_Space_fitted) (t_Space_fitted K) := by
  have hu := hu_of hr
  exact
(pss_cons (ps_try_thru0 (pss_cons (ps_ret (pe_md c_Store_allocate hr (by decide) (pe_fld (pv 0) rfl) (pa_cons (pv 1) (pa_cons (pv 2) pa_nil))))
pss_nil))
(pss_cons (ps_ret (pe_md c_Store_allocate hr (by decide) (pe_fld (pv 0) rfl) (pa_cons (pv 1) (pa_cons (pv 2) pa_nil))))
pss_nil))
theorem sc_Space_new : FnScope N_Space_new ["self", "kind", "size"] (defScope m_Space_new) := ⟨rfl, rfl, rfl, by decide +kernel, rfl, by decide +kernel, by decide +kernel⟩
theorem dv_Space_new (T : Tx K mg) (c_Space_fitted : Mh P w K mg base 3 "Space" "fitted" (sp_Space_fitted K)) {f : Addr} {cdv : Value} {A : Around} {outer : List Env} {s : Shared} {H : Hp} {E : XK} (hr : Room 3 (A.deeper (envOfC "Space.new" (defScope m_Space_new) s.heap.objs.size f cdv))) :
 PSs (cxOf CX0 P w K mg base N_Space_new "Space.new" (defScope m_Space_new) f cdv A outer s H E).nox (defBody m_Space_new) (t_Space_new K) := by
  have hu := hu_of hr
  exact
(pss_cons (ps_fld (pv 0) (pe_op op_add (pe_fld (pv 0) rfl) pe_int) rfl)
(pss_cons (ps_if (pt_cmpR op_notN (pe_fld (pv 0) rfl) pe_non (nomark _))
(pss_cons ps_never
pss_nil)
pss_nil)
(pss_cons (ps_if (PW.pt (pw_or (pt_val (pe_fld (pv 0) rfl)) (pw_or1 (pt_cmpR op_in_seq (pe_fld (pv 0) rfl) (pe_fld (pv 0) rfl) (by with_unfolding_all rfl)))))
(pss_cons ps_never
pss_nil)
pss_nil)
(pss_cons (ps_ret (pe_md c_Space_fitted hr (by decide) (pv 0) (pa_cons (pv 1) (pa_cons (pv 2) pa_nil))))
pss_nil))))
theorem sc_reached : FnScope N_reached ["store", "roots"] (defScope s_reached) := ⟨rfl, rfl, rfl, by decide +kernel, rfl, by decide +kernel, by decide +kernel⟩
theorem dv_reached (T : Tx K mg) (c_Store_exists : Mh P w K mg base 1 "Store" "exists" (sp_Store_exists K)) (c_Store_kind : Mh P w K mg base 1 "Store" "kind" (sp_Store_kind K)) (c_Store_slots : Mh P w K mg base 2 "Store" "slots" (sp_Store_slots K)) (c_is_ref : Fd P w K mg base 1 "is_ref" (sp_is_ref K)) (c_ref_of : Fd P w K mg base 2 "ref_of" (sp_ref_of K)) {f : Addr} {cdv : Value} {A : Around} {outer : List Env} {s : Shared} {H : Hp} {E : XK} (hr : Room 2 (A.deeper (envOfC "reached" (defScope s_reached) s.heap.objs.size f cdv))) :
 PSs (cxOf CX0 P w K mg base N_reached "reached" (defScope s_reached) f cdv A outer s H E).nox (defBody s_reached) (t_reached K) := by
  have hu := hu_of hr
  exact
(pss_cons (ps_set (i := 2) sc_reached.nd rfl (by first | exact Or.inl rfl | exact Or.inr rfl) pe_dnewK)
(pss_cons (ps_setLc (i := 3) (own := [("word", 4)]) (g := gName 4) (tt := tB (tCall (sp_is_ref K) [] E0 (tCons (tVar 4) (tNil)))) rfl sc_reached.nd rfl rfl (sw_true rfl rfl rfl (by decide +kernel)) (pi_list (pv 1)) (blkOk_by (own := [("word", 4)]) (N := N_reached) (sc := defScope s_reached) (by decide +kernel)) (fun _ _ _ _ _ => (pg_name (i := 4) sc_reached.nd rfl (by first | exact Or.inl rfl | exact Or.inr rfl))) (fun _ _ _ _ _ => (pts_one (pt_val (pe_fd c_is_ref hr (by decide) rfl (pa_cons (pv 4) pa_nil))))) (fun _ _ _ _ _ => (pe_fd c_ref_of hr (by decide) rfl (pa_cons (pv 4) pa_nil))))
(pss_cons (ps_while PassesOwn.never (pt_truth (pv 3) (by intro _; rfl))
(pss_cons (ps_set (i := 5) sc_reached.nd rfl (by first | exact Or.inl rfl | exact Or.inr rfl) (pe_bm0 PySem.F.plainAttrs_list PySem.F.slot_list_pop PySem.F.type_list_pop mt_pop (pv 3)))
(pss_cons (ps_if (PW.pt (pw_and (pt_cmp (pc_dnotin hu (pv 5) (pv 2))) (pw_and1 (pt_val (pe_md c_Store_exists hr (by decide) (pv 0) (pa_cons (pv 5) pa_nil))))))
(pss_cons (ps_dput hu (pv 2) (pv 5) pe_bl rfl)
(pss_cons (ps_for PassesOwn.never rfl (pi_list (pe_op op_cat (pe_lst (pa_cons (pe_md c_Store_kind hr (by decide) (pv 0) (pa_cons (pv 5) pa_nil)) pa_nil)) (pe_md c_Store_slots hr (by decide) (pv 0) (pa_cons (pv 5) pa_nil)))) (pg_name (i := 4) sc_reached.nd rfl (by first | exact Or.inl rfl | exact Or.inr rfl))
(pss_cons (ps_if (PW.pt (pw_and (pt_val (pe_fd c_is_ref hr (by decide) rfl (pa_cons (pv 4) pa_nil))) (pw_and1 (pt_cmp (pc_dnotin hu (pe_fd c_ref_of hr (by decide) rfl (pa_cons (pv 4) pa_nil)) (pv 2))))))
(pss_cons (ps_expr (pe_bm PySem.F.plainAttrs_list PySem.F.slot_list_append PySem.F.type_list_append mt_append (pv 3) (pa_cons (pe_fd c_ref_of hr (by decide) rfl (pa_cons (pv 4) pa_nil)) pa_nil)))
pss_nil)
pss_nil)
pss_nil))
pss_nil))
pss_nil)
pss_nil)))
(pss_cons (ps_ret (pv 2))
pss_nil))))
theorem sc_object_of : FnScope N_object_of ["space", "word"] (defScope s_object_of) := ⟨rfl, rfl, rfl, by decide +kernel, rfl, by decide +kernel, by decide +kernel⟩
theorem dv_object_of (T : Tx K mg) (c_Store_exists : Mh P w K mg base 1 "Store" "exists" (sp_Store_exists K)) (c_is_ref : Fd P w K mg base 1 "is_ref" (sp_is_ref K)) (c_ref_of : Fd P w K mg base 2 "ref_of" (sp_ref_of K)) {f : Addr} {cdv : Value} {A : Around} {outer : List Env} {s : Shared} {H : Hp} {E : XK} (hr : Room 2 (A.deeper (envOfC "object_of" (defScope s_object_of) s.heap.objs.size f cdv))) :
 PSs (cxOf CX0 P w K mg base N_object_of "object_of" (defScope s_object_of) f cdv A outer s H E).nox (defBody s_object_of) (t_object_of K) := by
  have hu := hu_of hr
  exact
(pss_cons (ps_if (PW.pt (pw_and (pt_val (pe_fd c_is_ref hr (by decide) rfl (pa_cons (pv 1) pa_nil))) (pw_and1 (pt_val (pe_md c_Store_exists hr (by decide) (pe_fld (pv 0) rfl) (pa_cons (pe_fd c_ref_of hr (by decide) rfl (pa_cons (pv 1) pa_nil)) pa_nil))))))
(pss_cons (ps_ret (pe_fd c_ref_of hr (by decide) rfl (pa_cons (pv 1) pa_nil)))
pss_nil)
pss_nil)
(pss_cons (ps_ret pe_non)
pss_nil))
theorem sc_row_of : FnScope N_row_of ["space", "number"] (defScope s_row_of) := ⟨rfl, rfl, rfl, by decide +kernel, rfl, by decide +kernel, by decide +kernel⟩
theorem dv_row_of (T : Tx K mg) (c_Store_kind : Mh P w K mg base 1 "Store" "kind" (sp_Store_kind K)) (c_Store_slots : Mh P w K mg base 2 "Store" "slots" (sp_Store_slots K)) {f : Addr} {cdv : Value} {A : Around} {outer : List Env} {s : Shared} {H : Hp} {E : XK} (hr : Room 2 (A.deeper (envOfC "row_of" (defScope s_row_of) s.heap.objs.size f cdv))) :
 PSs (cxOf CX0 P w K mg base N_row_of "row_of" (defScope s_row_of) f cdv A outer s H E).nox (defBody s_row_of) (t_row_of K) := by
  have hu := hu_of hr
  exact
(pss_cons (ps_ret (pe_op op_cat (pe_lst (pa_cons (pe_md c_Store_kind hr (by decide) (pe_fld (pv 0) rfl) (pa_cons (pv 1) pa_nil)) pa_nil)) (pe_md c_Store_slots hr (by decide) (pe_fld (pv 0) rfl) (pa_cons (pv 1) pa_nil))))
pss_nil)
theorem sc_word_at : FnScope N_word_at ["space", "path"] (defScope s_word_at) := ⟨rfl, rfl, rfl, by decide +kernel, rfl, by decide +kernel, by decide +kernel⟩
theorem dv_word_at (T : Tx K mg) (c_Space_all_roots : Mh P w K mg base 1 "Space" "all_roots" (sp_Space_all_roots K)) (c_object_of : Fd P w K mg base 3 "object_of" (sp_object_of K)) (c_row_of : Fd P w K mg base 3 "row_of" (sp_row_of K)) {f : Addr} {cdv : Value} {A : Around} {outer : List Env} {s : Shared} {H : Hp} {E : XK} (hr : Room 3 (A.deeper (envOfC "word_at" (defScope s_word_at) s.heap.objs.size f cdv))) :
 PSs (cxOf CX0 P w K mg base N_word_at "word_at" (defScope s_word_at) f cdv A outer s H E).nox (defBody s_word_at) (t_word_at K) := by
  have hu := hu_of hr
  exact
(pss_cons (ps_set (i := 2) sc_word_at.nd rfl (by first | exact Or.inl rfl | exact Or.inr rfl) (pe_md0 c_Space_all_roots hr (by decide) (pv 0)))
(pss_cons (ps_set (i := 3) sc_word_at.nd rfl (by first | exact Or.inl rfl | exact Or.inr rfl) pe_non)
(pss_cons (ps_for PassesOwn.never rfl (pi_range1 rfl T.f_range (pa_cons (pe_callB call_len_seq (by rfl) T.f_len bt_len (pa_cons (pv 1) pa_nil)) pa_nil)) (pg_name (i := 4) sc_word_at.nd rfl (by first | exact Or.inl rfl | exact Or.inr rfl))
(pss_cons (ps_if (pt_cmpR op_gt (pv 4) pe_int (nomark _))
(pss_cons (ps_set (i := 5) sc_word_at.nd rfl (by first | exact Or.inl rfl | exact Or.inr rfl) (pe_fd c_object_of hr (by decide) rfl (pa_cons (pv 0) (pa_cons (pv 3) pa_nil))))
(pss_cons (ps_if (pt_cmpR op_isN (pv 5) pe_non (nomark _))
(pss_cons (ps_ret pe_non)
pss_nil)
pss_nil)
(pss_cons (ps_set (i := 2) sc_word_at.nd rfl (by first | exact Or.inl rfl | exact Or.inr rfl) (pe_fd c_row_of hr (by decide) rfl (pa_cons (pv 0) (pa_cons (pv 5) pa_nil))))
pss_nil)))
pss_nil)
(pss_cons (ps_if (pt_not (pt_chain op_le op_lt pe_int (pe_ix ix_tup (pv 1) (pv 4) (fun _ _ => rfl)) (pe_callB call_len_seq (by rfl) T.f_len bt_len (pa_cons (pv 2) pa_nil))))
(pss_cons (ps_ret pe_non)
pss_nil)
pss_nil)
(pss_cons (ps_set (i := 3) sc_word_at.nd rfl (by first | exact Or.inl rfl | exact Or.inr rfl) (pe_ix ix_list (pv 2) (pe_ix ix_tup (pv 1) (pv 4) (fun _ _ => rfl)) (fun _ _ => rfl)))
pss_nil))))
(pss_cons (ps_ret (pv 3))
pss_nil))))
theorem sc_paths : FnScope N_paths ["space"] (defScope s_paths) := ⟨rfl, rfl, rfl, by decide +kernel, rfl, by decide +kernel, by decide +kernel⟩
theorem dv_paths (T : Tx K mg) (c_Space_all_roots : Mh P w K mg base 1 "Space" "all_roots" (sp_Space_all_roots K)) (c_object_of : Fd P w K mg base 3 "object_of" (sp_object_of K)) (c_row_of : Fd P w K mg base 3 "row_of" (sp_row_of K)) {f : Addr} {cdv : Value} {A : Around} {outer : List Env} {s : Shared} {H : Hp} {E : XK} (hr : Room 3 (A.deeper (envOfC "paths" (defScope s_paths) s.heap.objs.size f cdv))) :
 PSs (cxOf CX0 P w K mg base N_paths "paths" (defScope s_paths) f cdv A outer s H E).nox (defBody s_paths) (t_paths K) := by
  have hu := hu_of hr
  exact
(pss_cons (ps_set (i := 1) sc_paths.nd rfl (by first | exact Or.inl rfl | exact Or.inr rfl) pe_dnewK)
(pss_cons (ps_set (i := 2) sc_paths.nd rfl (by first | exact Or.inl rfl | exact Or.inr rfl) (pe_md0 c_Space_all_roots hr (by decide) (pv 0)))
(pss_cons (ps_setLc (i := 3) (own := [("k", 4)]) (g := gName 4) (tt := tYes) rfl sc_paths.nd rfl rfl (sw_true rfl rfl rfl (by decide +kernel)) (pi_range1 rfl T.f_range (pa_cons (pe_callB call_len_seq (by rfl) T.f_len bt_len (pa_cons (pv 2) pa_nil)) pa_nil)) (blkOk_by (own := [("k", 4)]) (N := N_paths) (sc := defScope s_paths) (by decide +kernel)) (fun _ _ _ _ _ => (pg_name (i := 4) sc_paths.nd rfl (by first | exact Or.inl rfl | exact Or.inr rfl))) (fun _ _ _ _ _ => pts_nil) (fun _ _ _ _ _ => (pe_tup (pa_cons (pe_tup (pa_cons (pv 4) pa_nil)) (pa_cons (pe_ix ix_list (pv 2) (pv 4) (fun _ _ => rfl)) pa_nil)))))
(pss_cons (ps_while PassesOwn.never (pt_truth (pv 3) (by intro _; rfl))
(pss_cons (ps_set (i := 5) sc_paths.nd rfl (by first | exact Or.inl rfl | exact Or.inr rfl) (pe_lst pa_nil))
(pss_cons (ps_for PassesOwn.never rfl (pi_list (pv 3)) (pg_tup rfl (pgs_cons (pg_name (i := 6) sc_paths.nd rfl (by first | exact Or.inl rfl | exact Or.inr rfl)) (pgs_cons (pg_name (i := 7) sc_paths.nd rfl (by first | exact Or.inl rfl | exact Or.inr rfl)) pgs_nil)))
(pss_cons (ps_set (i := 8) sc_paths.nd rfl (by first | exact Or.inl rfl | exact Or.inr rfl) (pe_fd c_object_of hr (by decide) rfl (pa_cons (pv 0) (pa_cons (pv 7) pa_nil))))
(pss_cons (ps_if (PW.pt (pw_and (pt_cmpR op_notN (pv 8) pe_non (nomark _)) (pw_and1 (pt_cmp (pc_dnotin hu (pv 8) (pv 1))))))
(pss_cons (ps_dput hu (pv 1) (pv 8) (pv 6) rfl)
(pss_cons (ps_set (i := 9) sc_paths.nd rfl (by first | exact Or.inl rfl | exact Or.inr rfl) (pe_fd c_row_of hr (by decide) rfl (pa_cons (pv 0) (pa_cons (pv 8) pa_nil))))
(pss_cons (ps_expr (pe_bm PySem.F.plainAttrs_list PySem.F.slot_list_extend PySem.F.type_list_extend mt_extend (pv 5) (pa_cons (pe_lc (own := [("k", 4)]) (g := gName 4) (tt := tYes) rfl sc_paths.nd (pi_range1 rfl T.f_range (pa_cons (pe_callB call_len_seq (by rfl) T.f_len bt_len (pa_cons (pv 9) pa_nil)) pa_nil)) (blkOk_by (own := [("k", 4)]) (N := N_paths) (sc := defScope s_paths) (by decide +kernel)) (fun _ _ _ _ _ => (pg_name (i := 4) sc_paths.nd rfl (by first | exact Or.inl rfl | exact Or.inr rfl))) (fun _ _ _ _ _ => pts_nil) (fun _ _ _ _ _ => (pe_tup (pa_cons (pe_op op_catA (pv 6) (pe_tup (pa_cons (pv 4) pa_nil))) (pa_cons (pe_ix ix_list (pv 9) (pv 4) (fun _ _ => rfl)) pa_nil))))) pa_nil)))
pss_nil)))
pss_nil)
pss_nil)))
(pss_cons (ps_set (i := 3) sc_paths.nd rfl (by first | exact Or.inl rfl | exact Or.inr rfl) (pv 5))
pss_nil))))
(pss_cons (ps_ret (pv 1))
pss_nil)))))
theorem sc_garbage : FnScope N_garbage ["space"] (defScope s_garbage) := ⟨rfl, rfl, rfl, by decide +kernel, rfl, by decide +kernel, by decide +kernel⟩
theorem dv_garbage (T : Tx K mg) (c_Space_all_roots : Mh P w K mg base 1 "Space" "all_roots" (sp_Space_all_roots K)) (c_Store_numbers : Mh P w K mg base 1 "Store" "numbers" (sp_Store_numbers K)) (c_reached : Fd P w K mg base 3 "reached" (sp_reached K)) {f : Addr} {cdv : Value} {A : Around} {outer : List Env} {s : Shared} {H : Hp} {E : XK} (hr : Room 3 (A.deeper (envOfC "garbage" (defScope s_garbage) s.heap.objs.size f cdv))) :
 PSs (cxOf CX0 P w K mg base N_garbage "garbage" (defScope s_garbage) f cdv A outer s H E).nox (defBody s_garbage) (t_garbage K) := by
  have hu := hu_of hr
  exact
(pss_cons (ps_set (i := 1) sc_garbage.nd rfl (by first | exact Or.inl rfl | exact Or.inr rfl) (pe_fd c_reached hr (by decide) rfl (pa_cons (pe_fld (pv 0) rfl) (pa_cons (pe_md0 c_Space_all_roots hr (by decide) (pv 0)) pa_nil))))
(pss_cons (ps_ret (pe_lc (own := [("number", 2)]) (g := gName 2) (tt := tB (tDNotIn (tVar 2) (tVar 1))) rfl sc_garbage.nd (pi_list (pe_md0 c_Store_numbers hr (by decide) (pe_fld (pv 0) rfl))) (blkOk_by (own := [("number", 2)]) (N := N_garbage) (sc := defScope s_garbage) (by decide +kernel)) (fun _ _ _ _ _ => (pg_name (i := 2) sc_garbage.nd rfl (by first | exact Or.inl rfl | exact Or.inr rfl))) (fun _ _ _ _ _ => (pts_one (pt_cmp (pc_dnotin hu (pv 2) (pv 1))))) (fun _ _ _ _ _ => (pv 2))))
pss_nil))
theorem sc__law_number : FnScope N__law_number ["cell", "k"] (defScope s__law_number) := ⟨rfl, rfl, rfl, by decide +kernel, rfl, by decide +kernel, by decide +kernel⟩
theorem dv__law_number (T : Tx K mg)  {f : Addr} {cdv : Value} {A : Around} {outer : List Env} {s : Shared} {H : Hp} {E : XK} (hr : Room 0 (A.deeper (envOfC "_law_number" (defScope s__law_number) s.heap.objs.size f cdv))) :
 PSs (cxOf CX0 P w K mg base N__law_number "_law_number" (defScope s__law_number) f cdv A outer s H E).nox (defBody s__law_number) (t__law_number K) := by
  have hu := hu_of hr
  exact
(pss_cons (ps_if (pt_cmpR op_ge (pv 0) (pe_op op_pow pe_int pe_int) (nomark _))
(pss_cons (ps_ret (pv 0))
pss_nil)
pss_nil)
(pss_cons (ps_set (i := 2) sc__law_number.nd rfl (by first | exact Or.inl rfl | exact Or.inr rfl) (pe_op op_mod (pe_callTy call_int1 (by rfl) T.f_int bt_int (pa_cons (pe_op op_add (pe_op op_add (pe_op op_mulX (pv 0) pe_int) (pe_op op_mulX (pv 1) pe_int)) pe_int) pa_nil)) pe_int))
(pss_cons (ps_ret (pe_op op_mod (pe_callTy call_int1 (by rfl) T.f_int bt_int (pa_cons (pe_op op_add (pe_op op_mulX (pv 2) (pv 2)) (pe_op op_mulX (pv 1) pe_int)) pa_nil)) pe_int))
pss_nil)))
theorem sc__law_word : FnScope N__law_word ["x", "many"] (defScope s__law_word) := ⟨rfl, rfl, rfl, by decide +kernel, rfl, by decide +kernel, by decide +kernel⟩
theorem dv__law_word (T : Tx K mg)  {f : Addr} {cdv : Value} {A : Around} {outer : List Env} {s : Shared} {H : Hp} {E : XK} (hr : Room 0 (A.deeper (envOfC "_law_word" (defScope s__law_word) s.heap.objs.size f cdv))) :
 PSs (cxOf CX0 P w K mg base N__law_word "_law_word" (defScope s__law_word) f cdv A outer s H E).nox (defBody s__law_word) (t__law_word K) := by
  have hu := hu_of hr
  exact
(pss_cons (ps_set (i := 2) sc__law_word.nd rfl (by first | exact Or.inl rfl | exact Or.inr rfl) (pe_op op_fdiv (pv 0) pe_int))
(pss_cons (ps_if (pt_cmpR op_eq (pe_op op_mod (pe_callTy call_int1 (by rfl) T.f_int bt_int (pa_cons (pv 0) pa_nil)) pe_int) pe_int (nomark _))
(pss_cons (ps_ret (pe_op op_add (pe_op op_mulX pe_int (pe_op op_sub (pe_op op_mod (pe_callTy call_int1 (by rfl) T.f_int bt_int (pa_cons (pe_op op_mulX (pv 2) pe_int) pa_nil)) pe_int) pe_int)) pe_int))
pss_nil)
pss_nil)
(pss_cons (ps_if (pt_cmpR op_eq (pe_op op_mod (pe_callTy call_int1 (by rfl) T.f_int bt_int (pa_cons (pv 0) pa_nil)) pe_int) pe_int (nomark _))
(pss_cons (ps_ret (pe_op op_add (pe_op op_mulX pe_int (pe_op op_mod (pe_callTy call_int1 (by rfl) T.f_int bt_int (pa_cons (pe_op op_mulX (pv 2) pe_int) pa_nil)) pe_int)) pe_int))
pss_nil)
pss_nil)
(pss_cons (ps_if (pt_cmpR op_eq (pe_op op_mod (pe_callTy call_int1 (by rfl) T.f_int bt_int (pa_cons (pv 0) pa_nil)) pe_int) pe_int (nomark _))
(pss_cons (ps_ret pe_int)
pss_nil)
pss_nil)
(pss_cons (ps_ret (pe_op op_mulX pe_int (pe_op op_mod (pe_callTy call_int1 (by rfl) T.f_int bt_int (pa_cons (pv 2) pa_nil)) (pe_op op_add (pv 1) pe_int))))
pss_nil)))))
theorem sc__law_is : FnScope N__law_is ["actual", "due"] (defScope s__law_is) := ⟨rfl, rfl, rfl, by decide +kernel, rfl, by decide +kernel, by decide +kernel⟩
theorem dv__law_is (T : Tx K mg)  {f : Addr} {cdv : Value} {A : Around} {outer : List Env} {s : Shared} {H : Hp} {E : XK} (hr : Room 0 (A.deeper (envOfC "_law_is" (defScope s__law_is) s.heap.objs.size f cdv))) :
 PSs (cxOf CX0 P w K mg base N__law_is "_law_is" (defScope s__law_is) f cdv A outer s H E).nox (defBody s__law_is) (t__law_is K) := by
  have hu := hu_of hr
  exact
(pss_cons (ps_ret (pe_and (pe_callB call_isi (by rfl) T.f_isinstance bt_isinstance (pa_cons (pv 0) (pa_cons (pe_bltn rfl T.f_int bt_int rfl) pa_nil))) (pe_and (pe_not (pe_callB call_isi (by rfl) T.f_isinstance bt_isinstance (pa_cons (pv 0) (pa_cons (pe_bltn rfl T.f_bool bt_bool rfl) pa_nil)))) (pe_one (pe_cmpR op_eq (pv 0) (pv 1) (nomark _))))))
pss_nil)
theorem sc__law_same : FnScope N__law_same ["actual", "due"] (defScope s__law_same) := ⟨rfl, rfl, rfl, by decide +kernel, rfl, by decide +kernel, by decide +kernel⟩
theorem dv__law_same (T : Tx K mg) (c__law_is : Fd P w K mg base 1 "_law_is" (sp__law_is K)) {f : Addr} {cdv : Value} {A : Around} {outer : List Env} {s : Shared} {H : Hp} {E : XK} (hr : Room 1 (A.deeper (envOfC "_law_same" (defScope s__law_same) s.heap.objs.size f cdv))) :
 PSs (cxOf CX0 P w K mg base N__law_same "_law_same" (defScope s__law_same) f cdv A outer s H E).nox (defBody s__law_same) (t__law_same K) := by
  have hu := hu_of hr
  exact
(pss_cons (ps_if (PW.pt (pw_or (pt_not (pt_val (pe_callB call_isi (by rfl) T.f_isinstance bt_isinstance (pa_cons (pv 0) (pa_cons (pe_bltn rfl T.f_list bt_list rfl) pa_nil))))) (pw_or1 (pt_cmpR op_ne (pe_callB call_len_seq (by rfl) T.f_len bt_len (pa_cons (pv 0) pa_nil)) (pe_callB call_len_seq (by rfl) T.f_len bt_len (pa_cons (pv 1) pa_nil)) (nomark _)))))
(pss_cons (ps_ret pe_bl)
pss_nil)
pss_nil)
(pss_cons (ps_for PassesOwn.never rfl (pi_range1 rfl T.f_range (pa_cons (pe_callB call_len_seq (by rfl) T.f_len bt_len (pa_cons (pv 1) pa_nil)) pa_nil)) (pg_name (i := 2) sc__law_same.nd rfl (by first | exact Or.inl rfl | exact Or.inr rfl))
(pss_cons (ps_if (pt_not (pt_val (pe_fd c__law_is hr (by decide) rfl (pa_cons (pe_ix ix_list (pv 0) (pv 2) (fun _ _ => rfl)) (pa_cons (pe_ix ix_list (pv 1) (pv 2) (fun _ _ => rfl)) pa_nil)))))
(pss_cons (ps_ret pe_bl)
pss_nil)
pss_nil)
pss_nil))
(pss_cons (ps_ret pe_bl)
pss_nil)))
theorem sc__law_sizes : FnScope N__law_sizes ["x"] (defScope s__law_sizes) := ⟨rfl, rfl, rfl, by decide +kernel, rfl, by decide +kernel, by decide +kernel⟩
theorem dv__law_sizes (T : Tx K mg) (c__law_number : Fd P w K mg base 1 "_law_number" (sp__law_number K)) {f : Addr} {cdv : Value} {A : Around} {outer : List Env} {s : Shared} {H : Hp} {E : XK} (hr : Room 1 (A.deeper (envOfC "_law_sizes" (defScope s__law_sizes) s.heap.objs.size f cdv))) :
 PSs (cxOf CX0 P w K mg base N__law_sizes "_law_sizes" (defScope s__law_sizes) f cdv A outer s H E).nox (defBody s__law_sizes) (t__law_sizes K) := by
  have hu := hu_of hr
  exact
(pss_cons (ps_set (i := 1) sc__law_sizes.nd rfl (by first | exact Or.inl rfl | exact Or.inr rfl) (pe_op op_mod (pe_callTy call_int1 (by rfl) T.f_int bt_int (pa_cons (pv 0) pa_nil)) pe_int))
(pss_cons (ps_if (pt_cmpR op_eq (pe_op op_mod (pe_op op_fdiv (pv 0) pe_int) pe_int) pe_int (nomark _))
(pss_cons (ps_set (i := 1) sc__law_sizes.nd rfl (by first | exact Or.inl rfl | exact Or.inr rfl) (pe_op op_mod (pe_op op_fdiv (pv 0) pe_int) pe_int))
pss_nil)
pss_nil)
(pss_cons (ps_set (i := 2) sc__law_sizes.nd rfl (by first | exact Or.inl rfl | exact Or.inr rfl) (pe_op op_fdiv (pv 0) pe_int))
(pss_cons (ps_set (i := 3) sc__law_sizes.nd rfl (by first | exact Or.inl rfl | exact Or.inr rfl) (pe_lst pa_nil))
(pss_cons (ps_for PassesOwn.never rfl (pi_range1 rfl T.f_range (pa_cons (pv 1) pa_nil)) (pg_name (i := 4) sc__law_sizes.nd rfl (by first | exact Or.inl rfl | exact Or.inr rfl))
(pss_cons (ps_set (i := 5) sc__law_sizes.nd rfl (by first | exact Or.inl rfl | exact Or.inr rfl) (pe_fd c__law_number hr (by decide) rfl (pa_cons (pe_op op_add (pv 2) (pv 4)) (pa_cons (pe_op op_add (pv 4) pe_int) pa_nil))))
(pss_cons (ps_set (i := 2) sc__law_sizes.nd rfl (by first | exact Or.inl rfl | exact Or.inr rfl) (pe_op op_fdiv (pv 2) pe_int))
(pss_cons (ps_expr (pe_bm PySem.F.plainAttrs_list PySem.F.slot_list_append PySem.F.type_list_append mt_append (pv 3) (pa_cons (pe_op op_mod (pe_callTy call_int1 (by rfl) T.f_int bt_int (pa_cons (pv 5) pa_nil)) pe_int) pa_nil)))
(pss_cons (ps_if (pt_cmpR op_eq (pe_op op_mod (pe_op op_fdiv (pv 5) pe_int) pe_int) pe_int (nomark _))
(pss_cons (ps_asg (pe_op op_mod (pe_op op_fdiv (pv 5) pe_int) pe_int) (pg_sub (pv 3) (pv 4) set_list))
pss_nil)
pss_nil)
(pss_cons (ps_if (PW.pt (pw_and (pt_cmpR op_eq (pv 4) pe_int (nomark _)) (pw_and1 (pt_cmpR op_gt (pe_op op_mod (pe_op op_fdiv (pv 5) pe_int) pe_int) pe_int (nomark _)))))
(pss_cons (ps_asg pe_int (pg_sub (pv 3) (pv 4) set_list))
pss_nil)
pss_nil)
pss_nil))))))
(pss_cons (ps_ret (pv 3))
pss_nil))))))
theorem sc__law_rows : FnScope N__law_rows ["sizes", "x"] (defScope s__law_rows) := ⟨rfl, rfl, rfl, by decide +kernel, rfl, by decide +kernel, by decide +kernel⟩
theorem dv__law_rows (T : Tx K mg) (c__law_number : Fd P w K mg base 1 "_law_number" (sp__law_number K)) (c__law_word : Fd P w K mg base 1 "_law_word" (sp__law_word K)) {f : Addr} {cdv : Value} {A : Around} {outer : List Env} {s : Shared} {H : Hp} {E : XK} (hr : Room 1 (A.deeper (envOfC "_law_rows" (defScope s__law_rows) s.heap.objs.size f cdv))) :
 PSs (cxOf CX0 P w K mg base N__law_rows "_law_rows" (defScope s__law_rows) f cdv A outer s H E).nox (defBody s__law_rows) (t__law_rows K) := by
  have hu := hu_of hr
  exact
(pss_cons (ps_set (i := 2) sc__law_rows.nd rfl (by first | exact Or.inl rfl | exact Or.inr rfl) (pe_lst pa_nil))
(pss_cons (ps_set (i := 3) sc__law_rows.nd rfl (by first | exact Or.inl rfl | exact Or.inr rfl) (pv 1))
(pss_cons (ps_for PassesOwn.never rfl (pi_range1 rfl T.f_range (pa_cons (pe_callB call_len_seq (by rfl) T.f_len bt_len (pa_cons (pv 0) pa_nil)) pa_nil)) (pg_name (i := 4) sc__law_rows.nd rfl (by first | exact Or.inl rfl | exact Or.inr rfl))
(pss_cons (ps_set (i := 5) sc__law_rows.nd rfl (by first | exact Or.inl rfl | exact Or.inr rfl) (pe_fd c__law_number hr (by decide) rfl (pa_cons (pe_op op_add (pv 3) (pv 4)) (pa_cons (pv 4) pa_nil))))
(pss_cons (ps_set (i := 3) sc__law_rows.nd rfl (by first | exact Or.inl rfl | exact Or.inr rfl) (pe_op op_fdiv (pv 3) pe_int))
(pss_cons (ps_setLc (i := 6) (own := [("at", 7)]) (g := gName 7) (tt := tYes) rfl sc__law_rows.nd rfl rfl (sw_true rfl rfl rfl (by decide +kernel)) (pi_range1 rfl T.f_range (pa_cons (pe_op op_add pe_int (pe_ix ix_list (pv 0) (pv 4) (fun _ _ => rfl))) pa_nil)) (blkOk_by (own := [("at", 7)]) (N := N__law_rows) (sc := defScope s__law_rows) (by decide +kernel)) (fun _ _ _ _ _ => (pg_name (i := 7) sc__law_rows.nd rfl (by first | exact Or.inl rfl | exact Or.inr rfl))) (fun _ _ _ _ _ => pts_nil) (fun _ _ _ _ _ => (pe_fd c__law_word hr (by decide) rfl (pa_cons (pe_op op_add (pe_op op_add (pe_op op_fdiv (pv 5) pe_int) (pe_op op_mulX (pv 7) pe_int)) (pe_op op_mulX (pv 7) (pv 7))) (pa_cons (pe_callB call_len_seq (by rfl) T.f_len bt_len (pa_cons (pv 0) pa_nil)) pa_nil)))))
(pss_cons (ps_if (pt_cmpR op_eq (pe_op op_mod (pe_callTy call_int1 (by rfl) T.f_int bt_int (pa_cons (pv 5) pa_nil)) pe_int) pe_int (nomark _))
(pss_cons (ps_asg pe_int (pg_sub (pv 6) pe_int set_list))
pss_nil)
pss_nil)
(pss_cons (ps_if (PW.pt (pw_and (pt_cmpR op_eq (pe_op op_mod (pe_callTy call_int1 (by rfl) T.f_int bt_int (pa_cons (pv 5) pa_nil)) pe_int) pe_int (nomark _)) (pw_and (pt_cmpR op_gt (pe_ix ix_list (pv 0) (pv 4) (fun _ _ => rfl)) pe_int (nomark _)) (pw_and1 (pt_cmpR op_gt (pv 4) pe_int (nomark _))))))
(pss_cons (ps_asg (pe_op op_mulX pe_int (pe_op op_sub (pv 4) pe_int)) (pg_sub (pv 6) pe_int set_list))
pss_nil)
pss_nil)
(pss_cons (ps_expr (pe_bm PySem.F.plainAttrs_list PySem.F.slot_list_append PySem.F.type_list_append mt_append (pv 2) (pa_cons (pv 6) pa_nil)))
pss_nil)))))))
(pss_cons (ps_ret (pv 2))
pss_nil))))
theorem sc__law_roots : FnScope N__law_roots ["many", "x"] (defScope s__law_roots) := ⟨rfl, rfl, rfl, by decide +kernel, rfl, by decide +kernel, by decide +kernel⟩
theorem dv__law_roots (T : Tx K mg) (c__law_number : Fd P w K mg base 1 "_law_number" (sp__law_number K)) (c__law_word : Fd P w K mg base 1 "_law_word" (sp__law_word K)) {f : Addr} {cdv : Value} {A : Around} {outer : List Env} {s : Shared} {H : Hp} {E : XK} (hr : Room 1 (A.deeper (envOfC "_law_roots" (defScope s__law_roots) s.heap.objs.size f cdv))) :
 PSs (cxOf CX0 P w K mg base N__law_roots "_law_roots" (defScope s__law_roots) f cdv A outer s H E).nox (defBody s__law_roots) (t__law_roots K) := by
  have hu := hu_of hr
  exact
(pss_cons (ps_set (i := 2) sc__law_roots.nd rfl (by first | exact Or.inl rfl | exact Or.inr rfl) (pe_lst pa_nil))
(pss_cons (ps_set (i := 3) sc__law_roots.nd rfl (by first | exact Or.inl rfl | exact Or.inr rfl) (pv 1))
(pss_cons (ps_for PassesOwn.never rfl (pi_range1 rfl T.f_range (pa_cons pe_int pa_nil)) (pg_name (i := 4) sc__law_roots.nd rfl (by first | exact Or.inl rfl | exact Or.inr rfl))
(pss_cons (ps_set (i := 5) sc__law_roots.nd rfl (by first | exact Or.inl rfl | exact Or.inr rfl) (pe_fd c__law_number hr (by decide) rfl (pa_cons (pe_op op_add (pv 3) (pv 4)) (pa_cons (pe_op op_add (pv 4) pe_int) pa_nil))))
(pss_cons (ps_set (i := 3) sc__law_roots.nd rfl (by first | exact Or.inl rfl | exact Or.inr rfl) (pe_op op_fdiv (pv 3) pe_int))
(pss_cons (ps_if (pt_cmpR op_gt (pv 4) pe_int (nomark _))
(pss_cons (ps_if (pt_cmpR op_eq (pe_op op_mod (pe_callTy call_int1 (by rfl) T.f_int bt_int (pa_cons (pv 5) pa_nil)) pe_int) pe_int (nomark _))
(pss_cons (ps_expr (pe_bm PySem.F.plainAttrs_list PySem.F.slot_list_append PySem.F.type_list_append mt_append (pv 2) (pa_cons (pe_fd c__law_word hr (by decide) rfl (pa_cons (pe_op op_fdiv (pv 5) pe_int) (pa_cons (pv 0) pa_nil))) pa_nil)))
pss_nil)
pss_nil)
pss_nil)
(pss_cons (ps_if (pt_cmpR op_eq (pe_op op_mod (pe_callTy call_int1 (by rfl) T.f_int bt_int (pa_cons (pv 5) pa_nil)) pe_int) pe_int (nomark _))
(pss_cons (ps_expr (pe_bm PySem.F.plainAttrs_list PySem.F.slot_list_append PySem.F.type_list_append mt_append (pv 2) (pa_cons (pe_fd c__law_word hr (by decide) rfl (pa_cons (pe_op op_fdiv (pv 5) pe_int) (pa_cons (pv 0) pa_nil))) pa_nil)))
pss_nil)
(pss_cons (ps_expr (pe_bm PySem.F.plainAttrs_list PySem.F.slot_list_append PySem.F.type_list_append mt_append (pv 2) (pa_cons pe_int pa_nil)))
pss_nil))
pss_nil))
pss_nil))))
(pss_cons (ps_ret (pv 2))
pss_nil))))
theorem sc__law_space : FnScope N__law_space ["rows", "words"] (defScope s__law_space) := ⟨rfl, rfl, rfl, by decide +kernel, rfl, by decide +kernel, by decide +kernel⟩
theorem dv__law_space (T : Tx K mg) (c_Space_init_ : Md P w K mg base 3 "Space" (sp_Space_init_ K)) (c_Space_hold : Mh P w K mg base 1 "Space" "hold" (sp_Space_hold K)) (c_Space_new : Mh P w K mg base 4 "Space" "new" (sp_Space_new K)) (c_Space_set_root : Mh P w K mg base 1 "Space" "set_root" (sp_Space_set_root K)) (c_Store_put : Mh P w K mg base 1 "Store" "put" (sp_Store_put K)) (c__law_is : Fd P w K mg base 1 "_law_is" (sp__law_is K)) {f : Addr} {cdv : Value} {A : Around} {outer : List Env} {s : Shared} {H : Hp} {E : XK} (hr : Room 4 (A.deeper (envOfC "_law_space" (defScope s__law_space) s.heap.objs.size f cdv))) :
 PSs (cxOf CX0 P w K mg base N__law_space "_law_space" (defScope s__law_space) f cdv A outer s H E).nox (defBody s__law_space) (t__law_space K) := by
  have hu := hu_of hr
  exact
(pss_cons (ps_set (i := 2) sc__law_space.nd rfl (by first | exact Or.inl rfl | exact Or.inr rfl) (pe_mkd c_Space_init_ hr (by decide) rfl (pa_cons pe_int (pa_cons pe_int pa_nil))))
(pss_cons (ps_for PassesOwn.never rfl (pi_range1 rfl T.f_range (pa_cons (pe_callB call_len_seq (by rfl) T.f_len bt_len (pa_cons (pv 0) pa_nil)) pa_nil)) (pg_name (i := 3) sc__law_space.nd rfl (by first | exact Or.inl rfl | exact Or.inr rfl))
(pss_cons (ps_if (pt_not (pt_val (pe_fd c__law_is hr (by decide) rfl (pa_cons (pe_md c_Space_new hr (by decide) (pv 2) (pa_cons (pe_ix ix_list (pe_ix ix_list (pv 0) (pv 3) (fun _ _ => rfl)) pe_int (fun _ _ => rfl)) (pa_cons (pe_op op_sub (pe_callB call_len_seq (by rfl) T.f_len bt_len (pa_cons (pe_ix ix_list (pv 0) (pv 3) (fun _ _ => rfl)) pa_nil)) pe_int) pa_nil))) (pa_cons (pv 3) pa_nil)))))
(pss_cons (ps_ret pe_non)
pss_nil)
pss_nil)
pss_nil))
(pss_cons (ps_for PassesOwn.never rfl (pi_range1 rfl T.f_range (pa_cons (pe_callB call_len_seq (by rfl) T.f_len bt_len (pa_cons (pv 0) pa_nil)) pa_nil)) (pg_name (i := 3) sc__law_space.nd rfl (by first | exact Or.inl rfl | exact Or.inr rfl))
(pss_cons (ps_for PassesOwn.never rfl (pi_range1 rfl T.f_range (pa_cons (pe_op op_sub (pe_callB call_len_seq (by rfl) T.f_len bt_len (pa_cons (pe_ix ix_list (pv 0) (pv 3) (fun _ _ => rfl)) pa_nil)) pe_int) pa_nil)) (pg_name (i := 4) sc__law_space.nd rfl (by first | exact Or.inl rfl | exact Or.inr rfl))
(pss_cons (ps_expr (pe_md c_Store_put hr (by decide) (pe_fld (pv 2) rfl) (pa_cons (pv 3) (pa_cons (pv 4) (pa_cons (pe_ix ix_list (pe_ix ix_list (pv 0) (pv 3) (fun _ _ => rfl)) (pe_op op_add (pv 4) pe_int) (fun _ _ => rfl)) pa_nil)))))
pss_nil))
pss_nil))
(pss_cons (ps_for PassesOwn.never rfl (pi_range1 rfl T.f_range (pa_cons (pe_callB call_len_seq (by rfl) T.f_len bt_len (pa_cons (pv 1) pa_nil)) pa_nil)) (pg_name (i := 3) sc__law_space.nd rfl (by first | exact Or.inl rfl | exact Or.inr rfl))
(pss_cons (ps_if (pt_cmpR op_lt (pv 3) pe_int (nomark _))
(pss_cons (ps_expr (pe_md c_Space_set_root hr (by decide) (pv 2) (pa_cons (pv 3) (pa_cons (pe_ix ix_list (pv 1) (pv 3) (fun _ _ => rfl)) pa_nil))))
pss_nil)
(pss_cons (ps_expr (pe_md c_Space_hold hr (by decide) (pv 2) (pa_cons (pe_ix ix_list (pv 1) (pv 3) (fun _ _ => rfl)) pa_nil)))
pss_nil))
pss_nil))
(pss_cons (ps_ret (pv 2))
pss_nil)))))
theorem sc__law_walk : FnScope N__law_walk ["rows", "words", "path"] (defScope s__law_walk) := ⟨rfl, rfl, rfl, by decide +kernel, rfl, by decide +kernel, by decide +kernel⟩
theorem dv__law_walk (T : Tx K mg)  {f : Addr} {cdv : Value} {A : Around} {outer : List Env} {s : Shared} {H : Hp} {E : XK} (hr : Room 0 (A.deeper (envOfC "_law_walk" (defScope s__law_walk) s.heap.objs.size f cdv))) :
 PSs (cxOf CX0 P w K mg base N__law_walk "_law_walk" (defScope s__law_walk) f cdv A outer s H E).nox (defBody s__law_walk) (t__law_walk K) := by
  have hu := hu_of hr
  exact
(pss_cons (ps_set (i := 3) sc__law_walk.nd rfl (by first | exact Or.inl rfl | exact Or.inr rfl) (pe_op op_cat (pe_lst (pa_cons pe_int pa_nil)) (pv 1)))
(pss_cons (ps_set (i := 4) sc__law_walk.nd rfl (by first | exact Or.inl rfl | exact Or.inr rfl) pe_non)
(pss_cons (ps_for PassesOwn.never rfl (pi_range1 rfl T.f_range (pa_cons (pe_callB call_len_seq (by rfl) T.f_len bt_len (pa_cons (pv 2) pa_nil)) pa_nil)) (pg_name (i := 5) sc__law_walk.nd rfl (by first | exact Or.inl rfl | exact Or.inr rfl))
(pss_cons (ps_if (pt_cmpR op_gt (pv 5) pe_int (nomark _))
(pss_cons (ps_if (PW.pt (pw_or (pt_cmpR op_eq (pe_op op_mod (pv 4) pe_int) pe_int (nomark _)) (pw_or1 (pt_cmpR op_ge (pe_op op_fdiv (pv 4) pe_int) (pe_callB call_len_seq (by rfl) T.f_len bt_len (pa_cons (pv 0) pa_nil)) (nomark _)))))
(pss_cons (ps_ret pe_non)
pss_nil)
pss_nil)
(pss_cons (ps_set (i := 3) sc__law_walk.nd rfl (by first | exact Or.inl rfl | exact Or.inr rfl) (pe_ix ix_list (pv 0) (pe_op op_fdiv (pv 4) pe_int) (fun _ _ => rfl)))
pss_nil))
pss_nil)
(pss_cons (ps_if (PW.pt (pw_or (pt_cmpR op_lt (pe_ix ix_seq (pv 2) (pv 5) (fun _ _ => rfl)) pe_int (nomark _)) (pw_or1 (pt_cmpR op_ge (pe_ix ix_seq (pv 2) (pv 5) (fun _ _ => rfl)) (pe_callB call_len_seq (by rfl) T.f_len bt_len (pa_cons (pv 3) pa_nil)) (nomark _)))))
(pss_cons (ps_ret pe_non)
pss_nil)
pss_nil)
(pss_cons (ps_set (i := 4) sc__law_walk.nd rfl (by first | exact Or.inl rfl | exact Or.inr rfl) (pe_ix ix_list (pv 3) (pe_ix ix_seq (pv 2) (pv 5) (fun _ _ => rfl)) (fun _ _ => rfl)))
pss_nil))))
(pss_cons (ps_ret (pv 4))
pss_nil))))
theorem sc__law_extended : FnScope N__law_extended ["rows", "found", "paths_here"] (defScope s__law_extended) := ⟨rfl, rfl, rfl, by decide +kernel, rfl, by decide +kernel, by decide +kernel⟩
theorem dv__law_extended (T : Tx K mg)  {f : Addr} {cdv : Value} {A : Around} {outer : List Env} {s : Shared} {H : Hp} {E : XK} (hr : Room 0 (A.deeper (envOfC "_law_extended" (defScope s__law_extended) s.heap.objs.size f cdv))) :
 PSs (cxOf CX0 P w K mg base N__law_extended "_law_extended" (defScope s__law_extended) f cdv A outer s H E).nox (defBody s__law_extended) (t__law_extended K) := by
  have hu := hu_of hr
  exact
(pss_cons (ps_set (i := 3) sc__law_extended.nd rfl (by first | exact Or.inl rfl | exact Or.inr rfl) (pe_lst pa_nil))
(pss_cons (ps_lock (ps_for PassesOwn.never rfl (pi_keys (pv 1)) (pg_name (i := 4) sc__law_extended.nd rfl (by first | exact Or.inl rfl | exact Or.inr rfl))
(pss_cons (ps_if (pt_cmpR op_eq (pe_callB call_len_seq (by rfl) T.f_len bt_len (pa_cons (pe_dget hu (pv 1) (pv 4) (fun _ _ => rfl)) pa_nil)) (pv 2) (nomark _))
(pss_cons (ps_for PassesOwn.never rfl (pi_range1 rfl T.f_range (pa_cons (pe_callB call_len_seq (by rfl) T.f_len bt_len (pa_cons (pe_ix ix_list (pv 0) (pv 4) (fun _ _ => rfl)) pa_nil)) pa_nil)) (pg_name (i := 5) sc__law_extended.nd rfl (by first | exact Or.inl rfl | exact Or.inr rfl))
(pss_cons (ps_expr (pe_bm PySem.F.plainAttrs_list PySem.F.slot_list_append PySem.F.type_list_append mt_append (pv 3) (pa_cons (pe_tup (pa_cons (pe_op op_catA (pe_dget hu (pv 1) (pv 4) (fun _ _ => rfl)) (pe_tup (pa_cons (pv 5) pa_nil))) (pa_cons (pe_ix ix_list (pe_ix ix_list (pv 0) (pv 4) (fun _ _ => rfl)) (pv 5) (fun _ _ => rfl)) pa_nil))) pa_nil)))
pss_nil))
pss_nil)
pss_nil)
pss_nil)))
(pss_cons (ps_ret (pv 3))
pss_nil)))
theorem sc__law_best : FnScope N__law_best ["rows", "words"] (defScope s__law_best) := ⟨rfl, rfl, rfl, by decide +kernel, rfl, by decide +kernel, by decide +kernel⟩
theorem dv__law_best (T : Tx K mg) (c__law_extended : Fd P w K mg base 1 "_law_extended" (sp__law_extended K)) {f : Addr} {cdv : Value} {A : Around} {outer : List Env} {s : Shared} {H : Hp} {E : XK} (hr : Room 1 (A.deeper (envOfC "_law_best" (defScope s__law_best) s.heap.objs.size f cdv))) :
 PSs (cxOf CX0 P w K mg base N__law_best "_law_best" (defScope s__law_best) f cdv A outer s H E).nox (defBody s__law_best) (t__law_best K) := by
  have hu := hu_of hr
  exact
(pss_cons (ps_set (i := 2) sc__law_best.nd rfl (by first | exact Or.inl rfl | exact Or.inr rfl) pe_dnewK)
(pss_cons (ps_set (i := 3) sc__law_best.nd rfl (by first | exact Or.inl rfl | exact Or.inr rfl) (pe_op op_cat (pe_lst (pa_cons pe_int pa_nil)) (pv 1)))
(pss_cons (ps_setLc (i := 4) (own := [("k", 5)]) (g := gName 5) (tt := tYes) rfl sc__law_best.nd rfl rfl (sw_true rfl rfl rfl (by decide +kernel)) (pi_range1 rfl T.f_range (pa_cons (pe_callB call_len_seq (by rfl) T.f_len bt_len (pa_cons (pv 3) pa_nil)) pa_nil)) (blkOk_by (own := [("k", 5)]) (N := N__law_best) (sc := defScope s__law_best) (by decide +kernel)) (fun _ _ _ _ _ => (pg_name (i := 5) sc__law_best.nd rfl (by first | exact Or.inl rfl | exact Or.inr rfl))) (fun _ _ _ _ _ => pts_nil) (fun _ _ _ _ _ => (pe_tup (pa_cons (pe_tup (pa_cons (pv 5) pa_nil)) (pa_cons (pe_ix ix_list (pv 3) (pv 5) (fun _ _ => rfl)) pa_nil)))))
(pss_cons (ps_for PassesOwn.never rfl (pi_range2 rfl T.f_range (pa_cons pe_int (pa_cons (pe_op op_add (pe_callB call_len_seq (by rfl) T.f_len bt_len (pa_cons (pv 0) pa_nil)) pe_int) pa_nil))) (pg_name (i := 6) sc__law_best.nd rfl (by first | exact Or.inl rfl | exact Or.inr rfl))
(pss_cons (ps_for PassesOwn.never rfl (pi_list (pe_callB (cr_sortedTP hr.units) (by rfl) T.f_sorted bt_sorted (pa_cons (pv 4) pa_nil))) (pg_name (i := 7) sc__law_best.nd rfl (by first | exact Or.inl rfl | exact Or.inr rfl))
(pss_cons (ps_set (i := 8) sc__law_best.nd rfl (by first | exact Or.inl rfl | exact Or.inr rfl) (pe_op op_fdiv (pe_ix ix_tup (pv 7) pe_int (fun _ _ => rfl)) pe_int))
(pss_cons (ps_if (PW.pt (pw_and (pt_cmpR op_eq (pe_op op_mod (pe_ix ix_tup (pv 7) pe_int (fun _ _ => rfl)) pe_int) pe_int (nomark _)) (pw_and (pt_cmpR op_lt (pv 8) (pe_callB call_len_seq (by rfl) T.f_len bt_len (pa_cons (pv 0) pa_nil)) (nomark _)) (pw_and1 (pt_cmp (pc_dnotin hu (pv 8) (pv 2)))))))
(pss_cons (ps_dput hu (pv 2) (pv 8) (pe_ix ix_tup (pv 7) pe_int (fun _ _ => rfl)) rfl)
pss_nil)
pss_nil)
pss_nil)))
(pss_cons (ps_set (i := 4) sc__law_best.nd rfl (by first | exact Or.inl rfl | exact Or.inr rfl) (pe_fd c__law_extended hr (by decide) rfl (pa_cons (pv 0) (pa_cons (pv 2) (pa_cons (pv 6) pa_nil)))))
pss_nil)))
(pss_cons (ps_ret (pv 2))
pss_nil)))))
theorem sc__law_path_is : FnScope N__law_path_is ["told", "due"] (defScope s__law_path_is) := ⟨rfl, rfl, rfl, by decide +kernel, rfl, by decide +kernel, by decide +kernel⟩
theorem dv__law_path_is (T : Tx K mg) (c__law_is : Fd P w K mg base 1 "_law_is" (sp__law_is K)) {f : Addr} {cdv : Value} {A : Around} {outer : List Env} {s : Shared} {H : Hp} {E : XK} (hr : Room 1 (A.deeper (envOfC "_law_path_is" (defScope s__law_path_is) s.heap.objs.size f cdv))) :
 PSs (cxOf CX0 P w K mg base N__law_path_is "_law_path_is" (defScope s__law_path_is) f cdv A outer s H E).nox (defBody s__law_path_is) (t__law_path_is K) := by
  have hu := hu_of hr
  exact
(pss_cons (ps_if (PW.pt (pw_or (pt_not (pt_val (pe_callB call_isi (by rfl) T.f_isinstance bt_isinstance (pa_cons (pv 0) (pa_cons (pe_bltn rfl T.f_tuple bt_tuple rfl) pa_nil))))) (pw_or1 (pt_cmpR op_ne (pe_callB call_len_seq (by rfl) T.f_len bt_len (pa_cons (pv 0) pa_nil)) (pe_callB call_len_seq (by rfl) T.f_len bt_len (pa_cons (pv 1) pa_nil)) (nomark _)))))
(pss_cons (ps_ret pe_bl)
pss_nil)
pss_nil)
(pss_cons (ps_for PassesOwn.never rfl (pi_range1 rfl T.f_range (pa_cons (pe_callB call_len_seq (by rfl) T.f_len bt_len (pa_cons (pv 1) pa_nil)) pa_nil)) (pg_name (i := 2) sc__law_path_is.nd rfl (by first | exact Or.inl rfl | exact Or.inr rfl))
(pss_cons (ps_if (pt_not (pt_val (pe_fd c__law_is hr (by decide) rfl (pa_cons (pe_ix ix_tup (pv 0) (pv 2) (fun _ _ => rfl)) (pa_cons (pe_ix ix_tup (pv 1) (pv 2) (fun _ _ => rfl)) pa_nil)))))
(pss_cons (ps_ret pe_bl)
pss_nil)
pss_nil)
pss_nil))
(pss_cons (ps_ret pe_bl)
pss_nil)))
theorem sc__law_told : FnScope N__law_told ["space", "rows", "words", "path"] (defScope s__law_told) := ⟨rfl, rfl, rfl, by decide +kernel, rfl, by decide +kernel, by decide +kernel⟩
theorem dv__law_told (T : Tx K mg) (c__law_is : Fd P w K mg base 1 "_law_is" (sp__law_is K)) (c__law_walk : Fd P w K mg base 1 "_law_walk" (sp__law_walk K)) (c_word_at : Fd P w K mg base 4 "word_at" (sp_word_at K)) {f : Addr} {cdv : Value} {A : Around} {outer : List Env} {s : Shared} {H : Hp} {E : XK} (hr : Room 4 (A.deeper (envOfC "_law_told" (defScope s__law_told) s.heap.objs.size f cdv))) :
 PSs (cxOf CX0 P w K mg base N__law_told "_law_told" (defScope s__law_told) f cdv A outer s H E).nox (defBody s__law_told) (t__law_told K) := by
  have hu := hu_of hr
  exact
(pss_cons (ps_set (i := 4) sc__law_told.nd rfl (by first | exact Or.inl rfl | exact Or.inr rfl) (pe_fd c__law_walk hr (by decide) rfl (pa_cons (pv 1) (pa_cons (pv 2) (pa_cons (pv 3) pa_nil)))))
(pss_cons (ps_set (i := 5) sc__law_told.nd rfl (by first | exact Or.inl rfl | exact Or.inr rfl) (pe_fd c_word_at hr (by decide) rfl (pa_cons (pv 0) (pa_cons (pv 3) pa_nil))))
(pss_cons (ps_if (pt_cmpR op_isN (pv 4) pe_non (nomark _))
(pss_cons (ps_ret (pe_cmpR op_isN (pv 5) pe_non (nomark _)))
pss_nil)
pss_nil)
(pss_cons (ps_ret (pe_fd c__law_is hr (by decide) rfl (pa_cons (pv 5) (pa_cons (pv 4) pa_nil))))
pss_nil))))
theorem sc__law_drawn : FnScope N__law_drawn ["x", "rows", "words"] (defScope s__law_drawn) := ⟨rfl, rfl, rfl, by decide +kernel, rfl, by decide +kernel, by decide +kernel⟩
theorem dv__law_drawn (T : Tx K mg) (c__law_walk : Fd P w K mg base 1 "_law_walk" (sp__law_walk K)) {f : Addr} {cdv : Value} {A : Around} {outer : List Env} {s : Shared} {H : Hp} {E : XK} (hr : Room 1 (A.deeper (envOfC "_law_drawn" (defScope s__law_drawn) s.heap.objs.size f cdv))) :
 PSs (cxOf CX0 P w K mg base N__law_drawn "_law_drawn" (defScope s__law_drawn) f cdv A outer s H E).nox (defBody s__law_drawn) (t__law_drawn K) := by
  have hu := hu_of hr
  exact
(pss_cons (ps_set (i := 3) sc__law_drawn.nd rfl (by first | exact Or.inl rfl | exact Or.inr rfl) (pe_lst pa_nil))
(pss_cons (ps_set (i := 4) sc__law_drawn.nd rfl (by first | exact Or.inl rfl | exact Or.inr rfl) (pe_op op_cat (pe_lst (pa_cons pe_int pa_nil)) (pv 2)))
(pss_cons (ps_set (i := 5) sc__law_drawn.nd rfl (by first | exact Or.inl rfl | exact Or.inr rfl) (pe_op op_fdiv (pv 0) pe_int))
(pss_cons (ps_for PassesOwn.never rfl (pi_range1 rfl T.f_range (pa_cons (pe_op op_mod (pe_callTy call_int1 (by rfl) T.f_int bt_int (pa_cons (pv 0) pa_nil)) pe_int) pa_nil)) (pg_name (i := 6) sc__law_drawn.nd rfl (by first | exact Or.inl rfl | exact Or.inr rfl))
(pss_cons (ps_set (i := 7) sc__law_drawn.nd rfl (by first | exact Or.inl rfl | exact Or.inr rfl) (pe_op op_sub (pe_op op_mod (pe_callTy call_int1 (by rfl) T.f_int bt_int (pa_cons (pv 5) pa_nil)) (pe_op op_add (pe_callB call_len_seq (by rfl) T.f_len bt_len (pa_cons (pv 4) pa_nil)) pe_int)) pe_int))
(pss_cons (ps_set (i := 5) sc__law_drawn.nd rfl (by first | exact Or.inl rfl | exact Or.inr rfl) (pe_op op_fdiv (pv 5) pe_int))
(pss_cons (ps_expr (pe_bm PySem.F.plainAttrs_list PySem.F.slot_list_append PySem.F.type_list_append mt_append (pv 3) (pa_cons (pv 7) pa_nil)))
(pss_cons (ps_set (i := 4) sc__law_drawn.nd rfl (by first | exact Or.inl rfl | exact Or.inr rfl) (pe_lst pa_nil))
(pss_cons (ps_set (i := 8) sc__law_drawn.nd rfl (by first | exact Or.inl rfl | exact Or.inr rfl) (pe_fd c__law_walk hr (by decide) rfl (pa_cons (pv 1) (pa_cons (pv 2) (pa_cons (pv 3) pa_nil)))))
(pss_cons (ps_if (PW.pt (pw_and (pt_cmpR op_notN (pv 8) pe_non (nomark _)) (pw_and (pt_cmpR op_eq (pe_op op_mod (pe_callTy call_int1 (by rfl) T.f_int bt_int (pa_cons (pv 8) pa_nil)) pe_int) pe_int (nomark _)) (pw_and1 (pt_cmpR op_lt (pe_op op_fdiv (pv 8) pe_int) (pe_callB call_len_seq (by rfl) T.f_len bt_len (pa_cons (pv 1) pa_nil)) (nomark _))))))
(pss_cons (ps_set (i := 4) sc__law_drawn.nd rfl (by first | exact Or.inl rfl | exact Or.inr rfl) (pe_ix ix_list (pv 1) (pe_op op_fdiv (pv 8) pe_int) (fun _ _ => rfl)))
pss_nil)
pss_nil)
pss_nil)))))))
(pss_cons (ps_ret (pe_callTy call_tuple_of (by rfl) T.f_tuple bt_tuple (pa_cons (pv 3) pa_nil)))
pss_nil)))))
theorem sc__law_kept : FnScope N__law_kept ["space", "rows", "words"] (defScope s__law_kept) := ⟨rfl, rfl, rfl, by decide +kernel, rfl, by decide +kernel, by decide +kernel⟩
theorem dv__law_kept (T : Tx K mg) (c_Space_all_roots : Mh P w K mg base 1 "Space" "all_roots" (sp_Space_all_roots K)) (c_Store_kind : Mh P w K mg base 1 "Store" "kind" (sp_Store_kind K)) (c_Store_numbers : Mh P w K mg base 1 "Store" "numbers" (sp_Store_numbers K)) (c_Store_slots : Mh P w K mg base 2 "Store" "slots" (sp_Store_slots K)) (c__law_same : Fd P w K mg base 2 "_law_same" (sp__law_same K)) {f : Addr} {cdv : Value} {A : Around} {outer : List Env} {s : Shared} {H : Hp} {E : XK} (hr : Room 2 (A.deeper (envOfC "_law_kept" (defScope s__law_kept) s.heap.objs.size f cdv))) :
 PSs (cxOf CX0 P w K mg base N__law_kept "_law_kept" (defScope s__law_kept) f cdv A outer s H E).nox (defBody s__law_kept) (t__law_kept K) := by
  have hu := hu_of hr
  exact
(pss_cons (ps_for PassesOwn.never rfl (pi_range1 rfl T.f_range (pa_cons (pe_callB call_len_seq (by rfl) T.f_len bt_len (pa_cons (pv 1) pa_nil)) pa_nil)) (pg_name (i := 3) sc__law_kept.nd rfl (by first | exact Or.inl rfl | exact Or.inr rfl))
(pss_cons (ps_if (PW.pt (pw_or (pt_cmpR op_ne (pe_md c_Store_kind hr (by decide) (pe_fld (pv 0) rfl) (pa_cons (pv 3) pa_nil)) (pe_ix ix_list (pe_ix ix_list (pv 1) (pv 3) (fun _ _ => rfl)) pe_int (fun _ _ => rfl)) (nomark _)) (pw_or1 (pt_not (pt_val (pe_fd c__law_same hr (by decide) rfl (pa_cons (pe_md c_Store_slots hr (by decide) (pe_fld (pv 0) rfl) (pa_cons (pv 3) pa_nil)) (pa_cons (pe_slice sl_list (pe_ix ix_list (pv 1) (pv 3) (fun _ _ => rfl)) (po_some pe_int) po_none) pa_nil))))))))
(pss_cons (ps_ret pe_bl)
pss_nil)
pss_nil)
pss_nil))
(pss_cons (ps_setLc (i := 4) (own := [("k", 3)]) (g := gName 3) (tt := tYes) rfl sc__law_kept.nd rfl rfl (sw_true rfl rfl rfl (by decide +kernel)) (pi_range1 rfl T.f_range (pa_cons (pe_callB call_len_seq (by rfl) T.f_len bt_len (pa_cons (pv 1) pa_nil)) pa_nil)) (blkOk_by (own := [("k", 3)]) (N := N__law_kept) (sc := defScope s__law_kept) (by decide +kernel)) (fun _ _ _ _ _ => (pg_name (i := 3) sc__law_kept.nd rfl (by first | exact Or.inl rfl | exact Or.inr rfl))) (fun _ _ _ _ _ => pts_nil) (fun _ _ _ _ _ => (pv 3)))
(pss_cons (ps_ret (pe_and (pe_fd c__law_same hr (by decide) rfl (pa_cons (pe_md0 c_Store_numbers hr (by decide) (pe_fld (pv 0) rfl)) (pa_cons (pv 4) pa_nil))) (pe_one (pe_fd c__law_same hr (by decide) rfl (pa_cons (pe_md0 c_Space_all_roots hr (by decide) (pv 0)) (pa_cons (pe_op op_cat (pe_lst (pa_cons pe_int pa_nil)) (pv 2)) pa_nil))))))
pss_nil)))
theorem sc__law_long : FnScope N__law_long ["x"] (defScope s__law_long) := ⟨rfl, rfl, rfl, by decide +kernel, rfl, by decide +kernel, by decide +kernel⟩
theorem dv__law_long (T : Tx K mg) (c_Space_init_ : Md P w K mg base 3 "Space" (sp_Space_init_ K)) (c_Space_new : Mh P w K mg base 4 "Space" "new" (sp_Space_new K)) (c_Space_set_root : Mh P w K mg base 1 "Space" "set_root" (sp_Space_set_root K)) (c_Store_put : Mh P w K mg base 1 "Store" "put" (sp_Store_put K)) (c__law_is : Fd P w K mg base 1 "_law_is" (sp__law_is K)) (c__law_path_is : Fd P w K mg base 2 "_law_path_is" (sp__law_path_is K)) (c__law_same : Fd P w K mg base 2 "_law_same" (sp__law_same K)) (c_garbage : Fd P w K mg base 4 "garbage" (sp_garbage K)) (c_paths : Fd P w K mg base 4 "paths" (sp_paths K)) (c_word_at : Fd P w K mg base 4 "word_at" (sp_word_at K)) {f : Addr} {cdv : Value} {A : Around} {outer : List Env} {s : Shared} {H : Hp} {E : XK} (hr : Room 4 (A.deeper (envOfC "_law_long" (defScope s__law_long) s.heap.objs.size f cdv))) :
 PSs (cxOf CX0 P w K mg base N__law_long "_law_long" (defScope s__law_long) f cdv A outer s H E).nox (defBody s__law_long) (t__law_long K) := by
  have hu := hu_of hr
  exact
(pss_cons (ps_set (i := 1) sc__law_long.nd rfl (by first | exact Or.inl rfl | exact Or.inr rfl) (pe_mkd c_Space_init_ hr (by decide) rfl (pa_cons pe_int (pa_cons pe_int pa_nil))))
(pss_cons (ps_set (i := 2) sc__law_long.nd rfl (by first | exact Or.inl rfl | exact Or.inr rfl) (pe_op op_add pe_int (pe_op op_mod (pe_callTy call_int1 (by rfl) T.f_int bt_int (pa_cons (pv 0) pa_nil)) pe_int)))
(pss_cons (ps_set (i := 3) sc__law_long.nd rfl (by first | exact Or.inl rfl | exact Or.inr rfl) (pe_disp (pps_cons pe_int (pe_tup (pa_cons pe_int pa_nil)) pps_nil) (by rfl) (by rfl) (fun z => by cases z) (by decide)))
(pss_cons (ps_set (i := 4) sc__law_long.nd rfl (by first | exact Or.inl rfl | exact Or.inr rfl) (pe_tup (pa_cons pe_int pa_nil)))
(pss_cons (ps_for PassesOwn.never rfl (pi_range1 rfl T.f_range (pa_cons (pv 2) pa_nil)) (pg_name (i := 5) sc__law_long.nd rfl (by first | exact Or.inl rfl | exact Or.inr rfl))
(pss_cons (ps_set (i := 6) sc__law_long.nd rfl (by first | exact Or.inl rfl | exact Or.inr rfl) (pe_op op_add pe_int (pe_op op_mod (pe_callTy call_int1 (by rfl) T.f_int bt_int (pa_cons (pe_op op_fdiv (pv 0) (pe_op op_add (pv 5) pe_int)) pa_nil)) pe_int)))
(pss_cons (ps_set (i := 7) sc__law_long.nd rfl (by first | exact Or.inl rfl | exact Or.inr rfl) (pe_op op_mod (pe_callTy call_int1 (by rfl) T.f_int bt_int (pa_cons (pe_op op_fdiv (pv 0) (pe_op op_add (pv 5) pe_int)) pa_nil)) (pv 6)))
(pss_cons (ps_if (pt_not (pt_val (pe_fd c__law_is hr (by decide) rfl (pa_cons (pe_md c_Space_new hr (by decide) (pv 1) (pa_cons pe_int (pa_cons (pv 6) pa_nil))) (pa_cons (pv 5) pa_nil)))))
(pss_cons (ps_ret pe_bl)
pss_nil)
pss_nil)
(pss_cons (ps_if (pt_cmpR op_gt (pv 5) pe_int (nomark _))
(pss_cons (ps_dput hu (pv 3) (pv 5) (pv 4) rfl)
(pss_cons (ps_set (i := 4) sc__law_long.nd rfl (by first | exact Or.inl rfl | exact Or.inr rfl) (pe_op op_catA (pv 4) (pe_tup (pa_cons (pe_op op_add (pv 7) pe_int) pa_nil))))
(pss_cons (ps_if (pt_cmpR op_lt (pe_op op_add (pv 5) pe_int) (pv 2) (nomark _))
(pss_cons (ps_expr (pe_md c_Store_put hr (by decide) (pe_fld (pv 1) rfl) (pa_cons (pv 5) (pa_cons (pv 7) (pa_cons (pe_op op_add (pe_op op_mulX pe_int (pv 5)) pe_int) pa_nil)))))
pss_nil)
pss_nil)
pss_nil)))
pss_nil)
pss_nil)))))
(pss_cons (ps_expr (pe_md c_Space_set_root hr (by decide) (pv 1) (pa_cons pe_int (pa_cons pe_int pa_nil))))
(pss_cons (ps_set (i := 8) sc__law_long.nd rfl (by first | exact Or.inl rfl | exact Or.inr rfl) (pe_fd c_paths hr (by decide) rfl (pa_cons (pv 1) pa_nil)))
(pss_cons (ps_if (PW.pt (pw_or (pt_not (pt_val (pe_callB call_isi (by rfl) T.f_isinstance bt_isinstance (pa_cons (pv 8) (pa_cons (pe_bltn rfl T.f_dict bt_dict rfl) pa_nil))))) (pw_or1 (pt_not (pt_val (pe_fd c__law_same hr (by decide) rfl (pa_cons (pe_callB (cr_sortedDK rfl) (by rfl) T.f_sorted bt_sorted (pa_cons (pv 8) pa_nil)) (pa_cons (pe_listRg rfl rfl T.f_list (prg_1 rfl T.f_range (pv 2))) pa_nil))))))))
(pss_cons (ps_ret pe_bl)
pss_nil)
pss_nil)
(pss_cons (ps_lock (ps_for PassesOwn.never rfl (pi_keys (pv 3)) (pg_name (i := 9) sc__law_long.nd rfl (by first | exact Or.inl rfl | exact Or.inr rfl))
(pss_cons (ps_if (pt_not (pt_val (pe_fd c__law_path_is hr (by decide) rfl (pa_cons (pe_dget hu (pv 8) (pv 9) (fun _ _ => rfl)) (pa_cons (pe_dget hu (pv 3) (pv 9) (fun _ _ => rfl)) pa_nil)))))
(pss_cons (ps_ret pe_bl)
pss_nil)
pss_nil)
pss_nil)))
(pss_cons (ps_ret (pe_and (pe_fd c__law_is hr (by decide) rfl (pa_cons (pe_fd c_word_at hr (by decide) rfl (pa_cons (pv 1) (pa_cons (pe_dget hu (pv 3) (pe_op op_sub (pv 2) pe_int) (fun _ _ => rfl)) pa_nil))) (pa_cons (pe_op op_sub (pe_op op_mulX pe_int (pv 2)) pe_int) pa_nil))) (pe_one (pe_fd c__law_same hr (by decide) rfl (pa_cons (pe_fd c_garbage hr (by decide) rfl (pa_cons (pv 1) pa_nil)) (pa_cons (pe_lst pa_nil) pa_nil))))))
pss_nil))))))))))
theorem sc_law : FnScope N_law ["script"] (defScope s_law) := ⟨rfl, rfl, rfl, by decide +kernel, rfl, by decide +kernel, by decide +kernel⟩
theorem dv_law (T : Tx K mg) (c__law_best : Fd P w K mg base 2 "_law_best" (sp__law_best K)) (c__law_drawn : Fd P w K mg base 2 "_law_drawn" (sp__law_drawn K)) (c__law_kept : Fd P w K mg base 3 "_law_kept" (sp__law_kept K)) (c__law_long : Fd P w K mg base 5 "_law_long" (sp__law_long K)) (c__law_number : Fd P w K mg base 1 "_law_number" (sp__law_number K)) (c__law_path_is : Fd P w K mg base 2 "_law_path_is" (sp__law_path_is K)) (c__law_roots : Fd P w K mg base 2 "_law_roots" (sp__law_roots K)) (c__law_rows : Fd P w K mg base 2 "_law_rows" (sp__law_rows K)) (c__law_same : Fd P w K mg base 2 "_law_same" (sp__law_same K)) (c__law_sizes : Fd P w K mg base 2 "_law_sizes" (sp__law_sizes K)) (c__law_space : Fd P w K mg base 5 "_law_space" (sp__law_space K)) (c__law_told : Fd P w K mg base 5 "_law_told" (sp__law_told K)) (c_garbage : Fd P w K mg base 4 "garbage" (sp_garbage K)) (c_paths : Fd P w K mg base 4 "paths" (sp_paths K)) (c_word_at : Fd P w K mg base 4 "word_at" (sp_word_at K)) {f : Addr} {cdv : Value} {A : Around} {outer : List Env} {s : Shared} {H : Hp} {E : XK} (hr : Room 5 (A.deeper (envOfC "law" (defScope s_law) s.heap.objs.size f cdv))) :
 PSs (cxOf CX0 P w K mg base N_law "law" (defScope s_law) f cdv A outer s H E).nox (defBody s_law) (t_law K) := by
  have hu := hu_of hr
  exact
(pss_cons (ps_setLc (i := 1) (own := [("cell", 2)]) (g := gName 2) (tt := tYes) rfl sc_law.nd rfl rfl (sw_true rfl rfl rfl (by decide +kernel)) (pi_list (pv 0)) (blkOk_by (own := [("cell", 2)]) (N := N_law) (sc := defScope s_law) (by decide +kernel)) (fun _ _ _ _ _ => (pg_name (i := 2) sc_law.nd rfl (by first | exact Or.inl rfl | exact Or.inr rfl))) (fun _ _ _ _ _ => pts_nil) (fun _ _ _ _ _ => (pe_callTy call_int1 (by rfl) T.f_int bt_int (pa_cons (pv 2) pa_nil))))
(pss_cons (ps_while PassesOwn.never (pt_cmpR op_lt (pe_callB call_len_seq (by rfl) T.f_len bt_len (pa_cons (pv 1) pa_nil)) pe_int (nomark _))
(pss_cons (ps_expr (pe_bm PySem.F.plainAttrs_list PySem.F.slot_list_append PySem.F.type_list_append mt_append (pv 1) (pa_cons pe_int pa_nil)))
pss_nil))
(pss_cons (ps_set (i := 3) sc_law.nd rfl (by first | exact Or.inl rfl | exact Or.inr rfl) (pe_fd c__law_number hr (by decide) rfl (pa_cons (pe_ix ix_list (pv 1) pe_int (fun _ _ => rfl)) (pa_cons pe_int pa_nil))))
(pss_cons (ps_if (PW.pt (pw_and (pt_cmpR op_eq (pe_op op_mod (pe_op op_fdiv (pv 3) pe_int) pe_int) pe_int (nomark _)) (pw_and1 (pt_not (pt_val (pe_fd c__law_long hr (by decide) rfl (pa_cons (pe_op op_fdiv (pv 3) pe_int) pa_nil)))))))
(pss_cons (ps_ret pe_bl)
pss_nil)
pss_nil)
(pss_cons (ps_set (i := 4) sc_law.nd rfl (by first | exact Or.inl rfl | exact Or.inr rfl) (pe_fd c__law_rows hr (by decide) rfl (pa_cons (pe_fd c__law_sizes hr (by decide) rfl (pa_cons (pe_fd c__law_number hr (by decide) rfl (pa_cons (pe_ix ix_list (pv 1) pe_int (fun _ _ => rfl)) (pa_cons pe_int pa_nil))) pa_nil)) (pa_cons (pe_ix ix_list (pv 1) pe_int (fun _ _ => rfl)) pa_nil))))
(pss_cons (ps_set (i := 5) sc_law.nd rfl (by first | exact Or.inl rfl | exact Or.inr rfl) (pe_fd c__law_roots hr (by decide) rfl (pa_cons (pe_callB call_len_seq (by rfl) T.f_len bt_len (pa_cons (pv 4) pa_nil)) (pa_cons (pe_ix ix_list (pv 1) pe_int (fun _ _ => rfl)) pa_nil))))
(pss_cons (ps_set (i := 6) sc_law.nd rfl (by first | exact Or.inl rfl | exact Or.inr rfl) (pe_fd c__law_space hr (by decide) rfl (pa_cons (pv 4) (pa_cons (pv 5) pa_nil))))
(pss_cons (ps_if (pt_cmpR op_isN (pv 6) pe_non (nomark _))
(pss_cons (ps_ret pe_bl)
pss_nil)
pss_nil)
(pss_cons (ps_set (i := 7) sc_law.nd rfl (by first | exact Or.inl rfl | exact Or.inr rfl) (pe_fd c__law_best hr (by decide) rfl (pa_cons (pv 4) (pa_cons (pv 5) pa_nil))))
(pss_cons (ps_set (i := 8) sc_law.nd rfl (by first | exact Or.inl rfl | exact Or.inr rfl) (pe_fd c_paths hr (by decide) rfl (pa_cons (pv 6) pa_nil)))
(pss_cons (ps_if (PW.pt (pw_or (pt_not (pt_val (pe_callB call_isi (by rfl) T.f_isinstance bt_isinstance (pa_cons (pv 8) (pa_cons (pe_bltn rfl T.f_dict bt_dict rfl) pa_nil))))) (pw_or1 (pt_not (pt_val (pe_fd c__law_same hr (by decide) rfl (pa_cons (pe_callB (cr_sortedDK rfl) (by rfl) T.f_sorted bt_sorted (pa_cons (pv 8) pa_nil)) (pa_cons (pe_callB (cr_sortedDK rfl) (by rfl) T.f_sorted bt_sorted (pa_cons (pv 7) pa_nil)) pa_nil))))))))
(pss_cons (ps_ret pe_bl)
pss_nil)
pss_nil)
(pss_cons (ps_lock (ps_for PassesOwn.never rfl (pi_keys (pv 7)) (pg_name (i := 9) sc_law.nd rfl (by first | exact Or.inl rfl | exact Or.inr rfl))
(pss_cons (ps_if (PW.pt (pw_or (pt_not (pt_val (pe_fd c__law_path_is hr (by decide) rfl (pa_cons (pe_dget hu (pv 8) (pv 9) (fun _ _ => rfl)) (pa_cons (pe_dget hu (pv 7) (pv 9) (fun _ _ => rfl)) pa_nil))))) (pw_or1 (pt_not (pt_val (pe_fd c__law_told hr (by decide) rfl (pa_cons (pv 6) (pa_cons (pv 4) (pa_cons (pv 5) (pa_cons (pe_dget hu (pv 7) (pv 9) (fun _ _ => rfl)) pa_nil))))))))))
(pss_cons (ps_ret pe_bl)
pss_nil)
pss_nil)
pss_nil)))
(pss_cons (ps_if (pt_not (pt_val (pe_fd c__law_same hr (by decide) rfl (pa_cons (pe_fd c_garbage hr (by decide) rfl (pa_cons (pv 6) pa_nil)) (pa_cons (pe_lc (own := [("k", 10)]) (g := gName 10) (tt := tB (tDNotIn (tVar 10) (tVar 7))) rfl sc_law.nd (pi_range1 rfl T.f_range (pa_cons (pe_callB call_len_seq (by rfl) T.f_len bt_len (pa_cons (pv 4) pa_nil)) pa_nil)) (blkOk_by (own := [("k", 10)]) (N := N_law) (sc := defScope s_law) (by decide +kernel)) (fun _ _ _ _ _ => (pg_name (i := 10) sc_law.nd rfl (by first | exact Or.inl rfl | exact Or.inr rfl))) (fun _ _ _ _ _ => (pts_one (pt_cmp (pc_dnotin hu (pv 10) (pv 7))))) (fun _ _ _ _ _ => (pv 10))) pa_nil)))))
(pss_cons (ps_ret pe_bl)
pss_nil)
pss_nil)
(pss_cons (ps_for PassesOwn.never rfl (pi_range2 rfl T.f_range (pa_cons pe_int (pa_cons (pe_callB call_len_seq (by rfl) T.f_len bt_len (pa_cons (pv 1) pa_nil)) pa_nil))) (pg_name (i := 10) sc_law.nd rfl (by first | exact Or.inl rfl | exact Or.inr rfl))
(pss_cons (ps_set (i := 3) sc_law.nd rfl (by first | exact Or.inl rfl | exact Or.inr rfl) (pe_fd c__law_number hr (by decide) rfl (pa_cons (pe_ix ix_list (pv 1) (pv 10) (fun _ _ => rfl)) (pa_cons (pv 10) pa_nil))))
(pss_cons (ps_if (pt_not (pt_val (pe_fd c__law_told hr (by decide) rfl (pa_cons (pv 6) (pa_cons (pv 4) (pa_cons (pv 5) (pa_cons (pe_fd c__law_drawn hr (by decide) rfl (pa_cons (pv 3) (pa_cons (pv 4) (pa_cons (pv 5) pa_nil)))) pa_nil)))))))
(pss_cons (ps_ret pe_bl)
pss_nil)
pss_nil)
(pss_cons (ps_if (pt_not (pt_val (pe_fd c__law_told hr (by decide) rfl (pa_cons (pv 6) (pa_cons (pv 4) (pa_cons (pv 5) (pa_cons (pe_fd c__law_drawn hr (by decide) rfl (pa_cons (pe_op op_fdiv (pv 3) pe_int) (pa_cons (pv 4) (pa_cons (pv 5) pa_nil)))) pa_nil)))))))
(pss_cons (ps_ret pe_bl)
pss_nil)
pss_nil)
pss_nil))))
(pss_cons (ps_if (pt_cmpR op_notN (pe_fd c_word_at hr (by decide) rfl (pa_cons (pv 6) (pa_cons (pe_tup pa_nil) pa_nil))) pe_non (nomark _))
(pss_cons (ps_ret pe_bl)
pss_nil)
pss_nil)
(pss_cons (ps_ret (pe_fd c__law_kept hr (by decide) rfl (pa_cons (pv 6) (pa_cons (pv 4) (pa_cons (pv 5) pa_nil)))))
pss_nil))))))))))))))))
end
end K64

set_option Elab.async false
set_option linter.all false
set_option maxRecDepth 100000
set_option maxHeartbeats 4000000
namespace K64
open PySem PySem.Spec PyProof.Rows L2 Kw
section
variable {P : Program} {w : World} {K : PySem.W.Frag} {mg : Str → Option Value} {base : Heap}
theorem ok_is_ref (T : Tx K mg)  : Fd P w K mg base 1 "is_ref" (sp_is_ref K) := by
  obtain ⟨fd, F⟩ := T.d_s_is_ref
  exact ⟨⟨_, fd, _, F.ok sc_is_ref sp1_len (fun cdv A outer s H vs Q E hr h => ⟨t_is_ref K, PSs.nox (dv_is_ref T  hr), rd_is_ref T vs H Q E h⟩), T.g_is_ref, F.kp, FunD.bindsN F fun _ _ _ _ _ _ us hl => match us, hl with | [_], _ => rfl⟩⟩
theorem ok_ref_of (T : Tx K mg) (c_is_ref : Fd P w K mg base 1 "is_ref" (sp_is_ref K)) : Fd P w K mg base 2 "ref_of" (sp_ref_of K) := by
  obtain ⟨fd, F⟩ := T.d_s_ref_of
  exact ⟨⟨_, fd, _, F.ok sc_ref_of sp1_len (fun cdv A outer s H vs Q E hr h => ⟨t_ref_of K, PSs.nox (dv_ref_of T c_is_ref hr), rd_ref_of T vs H Q E h⟩), T.g_ref_of, F.kp, FunD.bindsN F fun _ _ _ _ _ _ us hl => match us, hl with | [_], _ => rfl⟩⟩
theorem ok_Store_init_ (T : Tx K mg)  : Md P w K mg base 1 "Store" (sp_Store_init_ K) := by
  obtain ⟨fd, F⟩ := T.d_m_Store_init_
  exact ⟨⟨_, fd, _, T.mk_Store, T.g_Store, F.ok sc_Store_init_ sp3_len (fun cdv A outer s H vs Q E hr h => ⟨t_Store_init_ K, PSs.nox (dv_Store_init_ T  hr), rd_Store_init_ T vs H Q E h⟩), FunD.bindsN F fun _ _ _ _ _ _ us hl => match us, hl with | [_, _, _], _ => rfl⟩⟩
theorem ok_Store_exists (T : Tx K mg)  : Mh P w K mg base 1 "Store" "exists" (sp_Store_exists K) := by
  obtain ⟨fd, F⟩ := T.d_m_Store_exists
  exact ⟨⟨_, fd, _, T.cls_Store, T.me_Store_exists, F.ok sc_Store_exists sp2_len (fun cdv A outer s H vs Q E hr h => ⟨t_Store_exists K, PSs.nox (dv_Store_exists T  hr), rd_Store_exists T vs H Q E h⟩), FunD.bindsN F fun _ _ _ _ _ _ us hl => match us, hl with | [_, _], _ => rfl⟩⟩
theorem ok_Store_numbers (T : Tx K mg)  : Mh P w K mg base 1 "Store" "numbers" (sp_Store_numbers K) := by
  obtain ⟨fd, F⟩ := T.d_m_Store_numbers
  exact ⟨⟨_, fd, _, T.cls_Store, T.me_Store_numbers, F.ok sc_Store_numbers sp1_len (fun cdv A outer s H vs Q E hr h => ⟨t_Store_numbers K, PSs.nox (dv_Store_numbers T  hr), rd_Store_numbers T vs H Q E h⟩), FunD.bindsN F fun _ _ _ _ _ _ us hl => match us, hl with | [_], _ => rfl⟩⟩
theorem ok_Store_free_number (T : Tx K mg)  : Mh P w K mg base 1 "Store" "free_number" (sp_Store_free_number K) := by
  obtain ⟨fd, F⟩ := T.d_m_Store_free_number
  exact ⟨⟨_, fd, _, T.cls_Store, T.me_Store_free_number, F.ok sc_Store_free_number sp1_len (fun cdv A outer s H vs Q E hr h => ⟨t_Store_free_number K, PSs.nox (dv_Store_free_number T  hr), rd_Store_free_number T vs H Q E h⟩), FunD.bindsN F fun _ _ _ _ _ _ us hl => match us, hl with | [_], _ => rfl⟩⟩
theorem ok_Store_allocate (T : Tx K mg) (c_Store_free_number : Mh P w K mg base 1 "Store" "free_number" (sp_Store_free_number K)) : Mh P w K mg base 2 "Store" "allocate" (sp_Store_allocate K) := by
  obtain ⟨fd, F⟩ := T.d_m_Store_allocate
  exact ⟨⟨_, fd, _, T.cls_Store, T.me_Store_allocate, F.ok sc_Store_allocate sp3_len (fun cdv A outer s H vs Q E hr h => ⟨t_Store_allocate K, PSs.nox (dv_Store_allocate T c_Store_free_number hr), rd_Store_allocate T vs H Q E h⟩), FunD.bindsN F fun _ _ _ _ _ _ us hl => match us, hl with | [_, _, _], _ => rfl⟩⟩
theorem ok_Store_size (T : Tx K mg)  : Mh P w K mg base 1 "Store" "size" (sp_Store_size K) := by
  obtain ⟨fd, F⟩ := T.d_m_Store_size
  exact ⟨⟨_, fd, _, T.cls_Store, T.me_Store_size, F.ok sc_Store_size sp2_len (fun cdv A outer s H vs Q E hr h => ⟨t_Store_size K, PSs.nox (dv_Store_size T  hr), rd_Store_size T vs H Q E h⟩), FunD.bindsN F fun _ _ _ _ _ _ us hl => match us, hl with | [_, _], _ => rfl⟩⟩
theorem ok_Store_kind (T : Tx K mg)  : Mh P w K mg base 1 "Store" "kind" (sp_Store_kind K) := by
  obtain ⟨fd, F⟩ := T.d_m_Store_kind
  exact ⟨⟨_, fd, _, T.cls_Store, T.me_Store_kind, F.ok sc_Store_kind sp2_len (fun cdv A outer s H vs Q E hr h => ⟨t_Store_kind K, PSs.nox (dv_Store_kind T  hr), rd_Store_kind T vs H Q E h⟩), FunD.bindsN F fun _ _ _ _ _ _ us hl => match us, hl with | [_, _], _ => rfl⟩⟩
theorem ok_Store_put (T : Tx K mg)  : Mh P w K mg base 1 "Store" "put" (sp_Store_put K) := by
  obtain ⟨fd, F⟩ := T.d_m_Store_put
  exact ⟨⟨_, fd, _, T.cls_Store, T.me_Store_put, F.ok sc_Store_put sp4_len (fun cdv A outer s H vs Q E hr h => ⟨t_Store_put K, PSs.nox (dv_Store_put T  hr), rd_Store_put T vs H Q E h⟩), FunD.bindsN F fun _ _ _ _ _ _ us hl => match us, hl with | [_, _, _, _], _ => rfl⟩⟩
theorem ok_Store_slots (T : Tx K mg) (c_Store_size : Mh P w K mg base 1 "Store" "size" (sp_Store_size K)) : Mh P w K mg base 2 "Store" "slots" (sp_Store_slots K) := by
  obtain ⟨fd, F⟩ := T.d_m_Store_slots
  exact ⟨⟨_, fd, _, T.cls_Store, T.me_Store_slots, F.ok sc_Store_slots sp2_len (fun cdv A outer s H vs Q E hr h => ⟨t_Store_slots K, PSs.nox (dv_Store_slots T c_Store_size hr), rd_Store_slots T vs H Q E h⟩), FunD.bindsN F fun _ _ _ _ _ _ us hl => match us, hl with | [_, _], _ => rfl⟩⟩
theorem ok_Space_init_ (T : Tx K mg) (c_Store_init_ : Md P w K mg base 1 "Store" (sp_Store_init_ K)) : Md P w K mg base 3 "Space" (sp_Space_init_ K) := by
  obtain ⟨fd, F⟩ := T.d_m_Space_init_
  exact ⟨⟨_, fd, _, T.mk_Space, T.g_Space, F.ok sc_Space_init_ sp3_len (fun cdv A outer s H vs Q E hr h => ⟨t_Space_init_ K, PSs.nox (dv_Space_init_ T c_Store_init_ hr), rd_Space_init_ T vs H Q E h⟩), FunD.bindsN F fun _ _ _ _ _ _ us hl => match us, hl with | [_, _, _], _ => rfl⟩⟩
theorem ok_Space_set_root (T : Tx K mg)  : Mh P w K mg base 1 "Space" "set_root" (sp_Space_set_root K) := by
  obtain ⟨fd, F⟩ := T.d_m_Space_set_root
  exact ⟨⟨_, fd, _, T.cls_Space, T.me_Space_set_root, F.ok sc_Space_set_root sp3_len (fun cdv A outer s H vs Q E hr h => ⟨t_Space_set_root K, PSs.nox (dv_Space_set_root T  hr), rd_Space_set_root T vs H Q E h⟩), FunD.bindsN F fun _ _ _ _ _ _ us hl => match us, hl with | [_, _, _], _ => rfl⟩⟩
theorem ok_Space_hold (T : Tx K mg)  : Mh P w K mg base 1 "Space" "hold" (sp_Space_hold K) := by
  obtain ⟨fd, F⟩ := T.d_m_Space_hold
  exact ⟨⟨_, fd, _, T.cls_Space, T.me_Space_hold, F.ok sc_Space_hold sp2_len (fun cdv A outer s H vs Q E hr h => ⟨t_Space_hold K, PSs.nox (dv_Space_hold T  hr), rd_Space_hold T vs H Q E h⟩), FunD.bindsN F fun _ _ _ _ _ _ us hl => match us, hl with | [_, _], _ => rfl⟩⟩
theorem ok_Space_all_roots (T : Tx K mg)  : Mh P w K mg base 1 "Space" "all_roots" (sp_Space_all_roots K) := by
  obtain ⟨fd, F⟩ := T.d_m_Space_all_roots
  exact ⟨⟨_, fd, _, T.cls_Space, T.me_Space_all_roots, F.ok sc_Space_all_roots sp1_len (fun cdv A outer s H vs Q E hr h => ⟨t_Space_all_roots K, PSs.nox (dv_Space_all_roots T  hr), rd_Space_all_roots T vs H Q E h⟩), FunD.bindsN F fun _ _ _ _ _ _ us hl => match us, hl with | [_], _ => rfl⟩⟩
theorem ok_Space_fitted (T : Tx K mg) (c_Store_allocate : Mh P w K mg base 2 "Store" "allocate" (sp_Store_allocate K)) : Mh P w K mg base 3 "Space" "fitted" (sp_Space_fitted K) := by
  obtain ⟨fd, F⟩ := T.d_m_Space_fitted
  exact ⟨⟨_, fd, _, T.cls_Space, T.me_Space_fitted, F.ok sc_Space_fitted sp3_len (fun cdv A outer s H vs Q E hr h => ⟨t_Space_fitted K, PSs.nox (dv_Space_fitted T c_Store_allocate hr), rd_Space_fitted T vs H Q E h⟩), FunD.bindsN F fun _ _ _ _ _ _ us hl => match us, hl with | [_, _, _], _ => rfl⟩⟩
theorem ok_Space_new (T : Tx K mg) (c_Space_fitted : Mh P w K mg base 3 "Space" "fitted" (sp_Space_fitted K)) : Mh P w K mg base 4 "Space" "new" (sp_Space_new K) := by
  obtain ⟨fd, F⟩ := T.d_m_Space_new
  exact ⟨⟨_, fd, _, T.cls_Space, T.me_Space_new, F.ok sc_Space_new sp3_len (fun cdv A outer s H vs Q E hr h => ⟨t_Space_new K, PSs.nox (dv_Space_new T c_Space_fitted hr), rd_Space_new T vs H Q E h⟩), FunD.bindsN F fun _ _ _ _ _ _ us hl => match us, hl with | [_, _, _], _ => rfl⟩⟩
theorem ok_reached (T : Tx K mg) (c_Store_exists : Mh P w K mg base 1 "Store" "exists" (sp_Store_exists K)) (c_Store_kind : Mh P w K mg base 1 "Store" "kind" (sp_Store_kind K)) (c_Store_slots : Mh P w K mg base 2 "Store" "slots" (sp_Store_slots K)) (c_is_ref : Fd P w K mg base 1 "is_ref" (sp_is_ref K)) (c_ref_of : Fd P w K mg base 2 "ref_of" (sp_ref_of K)) : Fd P w K mg base 3 "reached" (sp_reached K) := by
  obtain ⟨fd, F⟩ := T.d_s_reached
  exact ⟨⟨_, fd, _, F.ok sc_reached sp2_len (fun cdv A outer s H vs Q E hr h => ⟨t_reached K, PSs.nox (dv_reached T c_Store_exists c_Store_kind c_Store_slots c_is_ref c_ref_of hr), rd_reached T vs H Q E h⟩), T.g_reached, F.kp, FunD.bindsN F fun _ _ _ _ _ _ us hl => match us, hl with | [_, _], _ => rfl⟩⟩
theorem ok_object_of (T : Tx K mg) (c_Store_exists : Mh P w K mg base 1 "Store" "exists" (sp_Store_exists K)) (c_is_ref : Fd P w K mg base 1 "is_ref" (sp_is_ref K)) (c_ref_of : Fd P w K mg base 2 "ref_of" (sp_ref_of K)) : Fd P w K mg base 3 "object_of" (sp_object_of K) := by
  obtain ⟨fd, F⟩ := T.d_s_object_of
  exact ⟨⟨_, fd, _, F.ok sc_object_of sp2_len (fun cdv A outer s H vs Q E hr h => ⟨t_object_of K, PSs.nox (dv_object_of T c_Store_exists c_is_ref c_ref_of hr), rd_object_of T vs H Q E h⟩), T.g_object_of, F.kp, FunD.bindsN F fun _ _ _ _ _ _ us hl => match us, hl with | [_, _], _ => rfl⟩⟩
theorem ok_row_of (T : Tx K mg) (c_Store_kind : Mh P w K mg base 1 "Store" "kind" (sp_Store_kind K)) (c_Store_slots : Mh P w K mg base 2 "Store" "slots" (sp_Store_slots K)) : Fd P w K mg base 3 "row_of" (sp_row_of K) := by
  obtain ⟨fd, F⟩ := T.d_s_row_of
  exact ⟨⟨_, fd, _, F.ok sc_row_of sp2_len (fun cdv A outer s H vs Q E hr h => ⟨t_row_of K, PSs.nox (dv_row_of T c_Store_kind c_Store_slots hr), rd_row_of T vs H Q E h⟩), T.g_row_of, F.kp, FunD.bindsN F fun _ _ _ _ _ _ us hl => match us, hl with | [_, _], _ => rfl⟩⟩
theorem ok_word_at (T : Tx K mg) (c_Space_all_roots : Mh P w K mg base 1 "Space" "all_roots" (sp_Space_all_roots K)) (c_object_of : Fd P w K mg base 3 "object_of" (sp_object_of K)) (c_row_of : Fd P w K mg base 3 "row_of" (sp_row_of K)) : Fd P w K mg base 4 "word_at" (sp_word_at K) := by
  obtain ⟨fd, F⟩ := T.d_s_word_at
  exact ⟨⟨_, fd, _, F.ok sc_word_at sp2_len (fun cdv A outer s H vs Q E hr h => ⟨t_word_at K, PSs.nox (dv_word_at T c_Space_all_roots c_object_of c_row_of hr), rd_word_at T vs H Q E h⟩), T.g_word_at, F.kp, FunD.bindsN F fun _ _ _ _ _ _ us hl => match us, hl with | [_, _], _ => rfl⟩⟩
theorem ok_paths (T : Tx K mg) (c_Space_all_roots : Mh P w K mg base 1 "Space" "all_roots" (sp_Space_all_roots K)) (c_object_of : Fd P w K mg base 3 "object_of" (sp_object_of K)) (c_row_of : Fd P w K mg base 3 "row_of" (sp_row_of K)) : Fd P w K mg base 4 "paths" (sp_paths K) := by
  obtain ⟨fd, F⟩ := T.d_s_paths
  exact ⟨⟨_, fd, _, F.ok sc_paths sp1_len (fun cdv A outer s H vs Q E hr h => ⟨t_paths K, PSs.nox (dv_paths T c_Space_all_roots c_object_of c_row_of hr), rd_paths T vs H Q E h⟩), T.g_paths, F.kp, FunD.bindsN F fun _ _ _ _ _ _ us hl => match us, hl with | [_], _ => rfl⟩⟩
theorem ok_garbage (T : Tx K mg) (c_Space_all_roots : Mh P w K mg base 1 "Space" "all_roots" (sp_Space_all_roots K)) (c_Store_numbers : Mh P w K mg base 1 "Store" "numbers" (sp_Store_numbers K)) (c_reached : Fd P w K mg base 3 "reached" (sp_reached K)) : Fd P w K mg base 4 "garbage" (sp_garbage K) := by
  obtain ⟨fd, F⟩ := T.d_s_garbage
  exact ⟨⟨_, fd, _, F.ok sc_garbage sp1_len (fun cdv A outer s H vs Q E hr h => ⟨t_garbage K, PSs.nox (dv_garbage T c_Space_all_roots c_Store_numbers c_reached hr), rd_garbage T vs H Q E h⟩), T.g_garbage, F.kp, FunD.bindsN F fun _ _ _ _ _ _ us hl => match us, hl with | [_], _ => rfl⟩⟩
theorem ok__law_number (T : Tx K mg)  : Fd P w K mg base 1 "_law_number" (sp__law_number K) := by
  obtain ⟨fd, F⟩ := T.d_s__law_number
  exact ⟨⟨_, fd, _, F.ok sc__law_number sp2_len (fun cdv A outer s H vs Q E hr h => ⟨t__law_number K, PSs.nox (dv__law_number T  hr), rd__law_number T vs H Q E h⟩), T.g__law_number, F.kp, FunD.bindsN F fun _ _ _ _ _ _ us hl => match us, hl with | [_, _], _ => rfl⟩⟩
theorem ok__law_word (T : Tx K mg)  : Fd P w K mg base 1 "_law_word" (sp__law_word K) := by
  obtain ⟨fd, F⟩ := T.d_s__law_word
  exact ⟨⟨_, fd, _, F.ok sc__law_word sp2_len (fun cdv A outer s H vs Q E hr h => ⟨t__law_word K, PSs.nox (dv__law_word T  hr), rd__law_word T vs H Q E h⟩), T.g__law_word, F.kp, FunD.bindsN F fun _ _ _ _ _ _ us hl => match us, hl with | [_, _], _ => rfl⟩⟩
theorem ok__law_is (T : Tx K mg)  : Fd P w K mg base 1 "_law_is" (sp__law_is K) := by
  obtain ⟨fd, F⟩ := T.d_s__law_is
  exact ⟨⟨_, fd, _, F.ok sc__law_is sp2_len (fun cdv A outer s H vs Q E hr h => ⟨t__law_is K, PSs.nox (dv__law_is T  hr), rd__law_is T vs H Q E h⟩), T.g__law_is, F.kp, FunD.bindsN F fun _ _ _ _ _ _ us hl => match us, hl with | [_, _], _ => rfl⟩⟩
theorem ok__law_same (T : Tx K mg) (c__law_is : Fd P w K mg base 1 "_law_is" (sp__law_is K)) : Fd P w K mg base 2 "_law_same" (sp__law_same K) := by
  obtain ⟨fd, F⟩ := T.d_s__law_same
  exact ⟨⟨_, fd, _, F.ok sc__law_same sp2_len (fun cdv A outer s H vs Q E hr h => ⟨t__law_same K, PSs.nox (dv__law_same T c__law_is hr), rd__law_same T vs H Q E h⟩), T.g__law_same, F.kp, FunD.bindsN F fun _ _ _ _ _ _ us hl => match us, hl with | [_, _], _ => rfl⟩⟩
theorem ok__law_sizes (T : Tx K mg) (c__law_number : Fd P w K mg base 1 "_law_number" (sp__law_number K)) : Fd P w K mg base 2 "_law_sizes" (sp__law_sizes K) := by
  obtain ⟨fd, F⟩ := T.d_s__law_sizes
  exact ⟨⟨_, fd, _, F.ok sc__law_sizes sp1_len (fun cdv A outer s H vs Q E hr h => ⟨t__law_sizes K, PSs.nox (dv__law_sizes T c__law_number hr), rd__law_sizes T vs H Q E h⟩), T.g__law_sizes, F.kp, FunD.bindsN F fun _ _ _ _ _ _ us hl => match us, hl with | [_], _ => rfl⟩⟩
theorem ok__law_rows (T : Tx K mg) (c__law_number : Fd P w K mg base 1 "_law_number" (sp__law_number K)) (c__law_word : Fd P w K mg base 1 "_law_word" (sp__law_word K)) : Fd P w K mg base 2 "_law_rows" (sp__law_rows K) := by
  obtain ⟨fd, F⟩ := T.d_s__law_rows
  exact ⟨⟨_, fd, _, F.ok sc__law_rows sp2_len (fun cdv A outer s H vs Q E hr h => ⟨t__law_rows K, PSs.nox (dv__law_rows T c__law_number c__law_word hr), rd__law_rows T vs H Q E h⟩), T.g__law_rows, F.kp, FunD.bindsN F fun _ _ _ _ _ _ us hl => match us, hl with | [_, _], _ => rfl⟩⟩
theorem ok__law_roots (T : Tx K mg) (c__law_number : Fd P w K mg base 1 "_law_number" (sp__law_number K)) (c__law_word : Fd P w K mg base 1 "_law_word" (sp__law_word K)) : Fd P w K mg base 2 "_law_roots" (sp__law_roots K) := by
  obtain ⟨fd, F⟩ := T.d_s__law_roots
  exact ⟨⟨_, fd, _, F.ok sc__law_roots sp2_len (fun cdv A outer s H vs Q E hr h => ⟨t__law_roots K, PSs.nox (dv__law_roots T c__law_number c__law_word hr), rd__law_roots T vs H Q E h⟩), T.g__law_roots, F.kp, FunD.bindsN F fun _ _ _ _ _ _ us hl => match us, hl with | [_, _], _ => rfl⟩⟩
theorem ok__law_space (T : Tx K mg) (c_Space_init_ : Md P w K mg base 3 "Space" (sp_Space_init_ K)) (c_Space_hold : Mh P w K mg base 1 "Space" "hold" (sp_Space_hold K)) (c_Space_new : Mh P w K mg base 4 "Space" "new" (sp_Space_new K)) (c_Space_set_root : Mh P w K mg base 1 "Space" "set_root" (sp_Space_set_root K)) (c_Store_put : Mh P w K mg base 1 "Store" "put" (sp_Store_put K)) (c__law_is : Fd P w K mg base 1 "_law_is" (sp__law_is K)) : Fd P w K mg base 5 "_law_space" (sp__law_space K) := by
  obtain ⟨fd, F⟩ := T.d_s__law_space
  exact ⟨⟨_, fd, _, F.ok sc__law_space sp2_len (fun cdv A outer s H vs Q E hr h => ⟨t__law_space K, PSs.nox (dv__law_space T c_Space_init_ c_Space_hold c_Space_new c_Space_set_root c_Store_put c__law_is hr), rd__law_space T vs H Q E h⟩), T.g__law_space, F.kp, FunD.bindsN F fun _ _ _ _ _ _ us hl => match us, hl with | [_, _], _ => rfl⟩⟩
theorem ok__law_walk (T : Tx K mg)  : Fd P w K mg base 1 "_law_walk" (sp__law_walk K) := by
  obtain ⟨fd, F⟩ := T.d_s__law_walk
  exact ⟨⟨_, fd, _, F.ok sc__law_walk sp3_len (fun cdv A outer s H vs Q E hr h => ⟨t__law_walk K, PSs.nox (dv__law_walk T  hr), rd__law_walk T vs H Q E h⟩), T.g__law_walk, F.kp, FunD.bindsN F fun _ _ _ _ _ _ us hl => match us, hl with | [_, _, _], _ => rfl⟩⟩
theorem ok__law_extended (T : Tx K mg)  : Fd P w K mg base 1 "_law_extended" (sp__law_extended K) := by
  obtain ⟨fd, F⟩ := T.d_s__law_extended
  exact ⟨⟨_, fd, _, F.ok sc__law_extended sp3_len (fun cdv A outer s H vs Q E hr h => ⟨t__law_extended K, PSs.nox (dv__law_extended T  hr), rd__law_extended T vs H Q E h⟩), T.g__law_extended, F.kp, FunD.bindsN F fun _ _ _ _ _ _ us hl => match us, hl with | [_, _, _], _ => rfl⟩⟩
theorem ok__law_best (T : Tx K mg) (c__law_extended : Fd P w K mg base 1 "_law_extended" (sp__law_extended K)) : Fd P w K mg base 2 "_law_best" (sp__law_best K) := by
  obtain ⟨fd, F⟩ := T.d_s__law_best
  exact ⟨⟨_, fd, _, F.ok sc__law_best sp2_len (fun cdv A outer s H vs Q E hr h => ⟨t__law_best K, PSs.nox (dv__law_best T c__law_extended hr), rd__law_best T vs H Q E h⟩), T.g__law_best, F.kp, FunD.bindsN F fun _ _ _ _ _ _ us hl => match us, hl with | [_, _], _ => rfl⟩⟩
theorem ok__law_path_is (T : Tx K mg) (c__law_is : Fd P w K mg base 1 "_law_is" (sp__law_is K)) : Fd P w K mg base 2 "_law_path_is" (sp__law_path_is K) := by
  obtain ⟨fd, F⟩ := T.d_s__law_path_is
  exact ⟨⟨_, fd, _, F.ok sc__law_path_is sp2_len (fun cdv A outer s H vs Q E hr h => ⟨t__law_path_is K, PSs.nox (dv__law_path_is T c__law_is hr), rd__law_path_is T vs H Q E h⟩), T.g__law_path_is, F.kp, FunD.bindsN F fun _ _ _ _ _ _ us hl => match us, hl with | [_, _], _ => rfl⟩⟩
theorem ok__law_told (T : Tx K mg) (c__law_is : Fd P w K mg base 1 "_law_is" (sp__law_is K)) (c__law_walk : Fd P w K mg base 1 "_law_walk" (sp__law_walk K)) (c_word_at : Fd P w K mg base 4 "word_at" (sp_word_at K)) : Fd P w K mg base 5 "_law_told" (sp__law_told K) := by
  obtain ⟨fd, F⟩ := T.d_s__law_told
  exact ⟨⟨_, fd, _, F.ok sc__law_told sp4_len (fun cdv A outer s H vs Q E hr h => ⟨t__law_told K, PSs.nox (dv__law_told T c__law_is c__law_walk c_word_at hr), rd__law_told T vs H Q E h⟩), T.g__law_told, F.kp, FunD.bindsN F fun _ _ _ _ _ _ us hl => match us, hl with | [_, _, _, _], _ => rfl⟩⟩
theorem ok__law_drawn (T : Tx K mg) (c__law_walk : Fd P w K mg base 1 "_law_walk" (sp__law_walk K)) : Fd P w K mg base 2 "_law_drawn" (sp__law_drawn K) := by
  obtain ⟨fd, F⟩ := T.d_s__law_drawn
  exact ⟨⟨_, fd, _, F.ok sc__law_drawn sp3_len (fun cdv A outer s H vs Q E hr h => ⟨t__law_drawn K, PSs.nox (dv__law_drawn T c__law_walk hr), rd__law_drawn T vs H Q E h⟩), T.g__law_drawn, F.kp, FunD.bindsN F fun _ _ _ _ _ _ us hl => match us, hl with | [_, _, _], _ => rfl⟩⟩
theorem ok__law_kept (T : Tx K mg) (c_Space_all_roots : Mh P w K mg base 1 "Space" "all_roots" (sp_Space_all_roots K)) (c_Store_kind : Mh P w K mg base 1 "Store" "kind" (sp_Store_kind K)) (c_Store_numbers : Mh P w K mg base 1 "Store" "numbers" (sp_Store_numbers K)) (c_Store_slots : Mh P w K mg base 2 "Store" "slots" (sp_Store_slots K)) (c__law_same : Fd P w K mg base 2 "_law_same" (sp__law_same K)) : Fd P w K mg base 3 "_law_kept" (sp__law_kept K) := by
  obtain ⟨fd, F⟩ := T.d_s__law_kept
  exact ⟨⟨_, fd, _, F.ok sc__law_kept sp3_len (fun cdv A outer s H vs Q E hr h => ⟨t__law_kept K, PSs.nox (dv__law_kept T c_Space_all_roots c_Store_kind c_Store_numbers c_Store_slots c__law_same hr), rd__law_kept T vs H Q E h⟩), T.g__law_kept, F.kp, FunD.bindsN F fun _ _ _ _ _ _ us hl => match us, hl with | [_, _, _], _ => rfl⟩⟩
theorem ok__law_long (T : Tx K mg) (c_Space_init_ : Md P w K mg base 3 "Space" (sp_Space_init_ K)) (c_Space_new : Mh P w K mg base 4 "Space" "new" (sp_Space_new K)) (c_Space_set_root : Mh P w K mg base 1 "Space" "set_root" (sp_Space_set_root K)) (c_Store_put : Mh P w K mg base 1 "Store" "put" (sp_Store_put K)) (c__law_is : Fd P w K mg base 1 "_law_is" (sp__law_is K)) (c__law_path_is : Fd P w K mg base 2 "_law_path_is" (sp__law_path_is K)) (c__law_same : Fd P w K mg base 2 "_law_same" (sp__law_same K)) (c_garbage : Fd P w K mg base 4 "garbage" (sp_garbage K)) (c_paths : Fd P w K mg base 4 "paths" (sp_paths K)) (c_word_at : Fd P w K mg base 4 "word_at" (sp_word_at K)) : Fd P w K mg base 5 "_law_long" (sp__law_long K) := by
  obtain ⟨fd, F⟩ := T.d_s__law_long
  exact ⟨⟨_, fd, _, F.ok sc__law_long sp1_len (fun cdv A outer s H vs Q E hr h => ⟨t__law_long K, PSs.nox (dv__law_long T c_Space_init_ c_Space_new c_Space_set_root c_Store_put c__law_is c__law_path_is c__law_same c_garbage c_paths c_word_at hr), rd__law_long T vs H Q E h⟩), T.g__law_long, F.kp, FunD.bindsN F fun _ _ _ _ _ _ us hl => match us, hl with | [_], _ => rfl⟩⟩
theorem ok_law (T : Tx K mg) (c__law_best : Fd P w K mg base 2 "_law_best" (sp__law_best K)) (c__law_drawn : Fd P w K mg base 2 "_law_drawn" (sp__law_drawn K)) (c__law_kept : Fd P w K mg base 3 "_law_kept" (sp__law_kept K)) (c__law_long : Fd P w K mg base 5 "_law_long" (sp__law_long K)) (c__law_number : Fd P w K mg base 1 "_law_number" (sp__law_number K)) (c__law_path_is : Fd P w K mg base 2 "_law_path_is" (sp__law_path_is K)) (c__law_roots : Fd P w K mg base 2 "_law_roots" (sp__law_roots K)) (c__law_rows : Fd P w K mg base 2 "_law_rows" (sp__law_rows K)) (c__law_same : Fd P w K mg base 2 "_law_same" (sp__law_same K)) (c__law_sizes : Fd P w K mg base 2 "_law_sizes" (sp__law_sizes K)) (c__law_space : Fd P w K mg base 5 "_law_space" (sp__law_space K)) (c__law_told : Fd P w K mg base 5 "_law_told" (sp__law_told K)) (c_garbage : Fd P w K mg base 4 "garbage" (sp_garbage K)) (c_paths : Fd P w K mg base 4 "paths" (sp_paths K)) (c_word_at : Fd P w K mg base 4 "word_at" (sp_word_at K)) : Fd P w K mg base 6 "law" (sp_law K) := by
  obtain ⟨fd, F⟩ := T.d_s_law
  exact ⟨⟨_, fd, _, F.ok sc_law sp1_len (fun cdv A outer s H vs Q E hr h => ⟨t_law K, PSs.nox (dv_law T c__law_best c__law_drawn c__law_kept c__law_long c__law_number c__law_path_is c__law_roots c__law_rows c__law_same c__law_sizes c__law_space c__law_told c_garbage c_paths c_word_at hr), rd_law T vs H Q E h⟩), T.g_law, F.kp, FunD.bindsN F fun _ _ _ _ _ _ us hl => match us, hl with | [_], _ => rfl⟩⟩
end
end K64

set_option Elab.async false
set_option linter.all false
set_option maxRecDepth 100000
set_option maxHeartbeats 0
namespace K64
open PySem PySem.Spec PyProof.Rows L2 Kw
theorem law_all {P : Program} {w : World} {K : PySem.W.Frag} {mg : Str → Option Value} (T : Tx K mg) (base : Heap) {fd : FuncData} (F : FunD K "law" "law" (defArgs s_law) (defBody s_law) (defScope s_law) [] [] (He.fAd K ("law", none)) fd) :
    FnOk P w K mg base CX0 6 (He.fAd K ("law", none)) fd ["script"] (sp_law K) := by
  have c_is_ref := ok_is_ref (P := P) (w := w) (base := base) T 
  have c_ref_of := ok_ref_of (P := P) (w := w) (base := base) T c_is_ref
  have c_Store_init_ := ok_Store_init_ (P := P) (w := w) (base := base) T 
  have c_Store_exists := ok_Store_exists (P := P) (w := w) (base := base) T 
  have c_Store_numbers := ok_Store_numbers (P := P) (w := w) (base := base) T 
  have c_Store_free_number := ok_Store_free_number (P := P) (w := w) (base := base) T 
  have c_Store_allocate := ok_Store_allocate (P := P) (w := w) (base := base) T c_Store_free_number
  have c_Store_size := ok_Store_size (P := P) (w := w) (base := base) T 
  have c_Store_kind := ok_Store_kind (P := P) (w := w) (base := base) T 
  have c_Store_put := ok_Store_put (P := P) (w := w) (base := base) T 
  have c_Store_slots := ok_Store_slots (P := P) (w := w) (base := base) T c_Store_size
  have c_Space_init_ := ok_Space_init_ (P := P) (w := w) (base := base) T c_Store_init_
  have c_Space_set_root := ok_Space_set_root (P := P) (w := w) (base := base) T 
  have c_Space_hold := ok_Space_hold (P := P) (w := w) (base := base) T 
  have c_Space_all_roots := ok_Space_all_roots (P := P) (w := w) (base := base) T 
  have c_Space_fitted := ok_Space_fitted (P := P) (w := w) (base := base) T c_Store_allocate
  have c_Space_new := ok_Space_new (P := P) (w := w) (base := base) T c_Space_fitted
  have c_reached := ok_reached (P := P) (w := w) (base := base) T c_Store_exists c_Store_kind c_Store_slots c_is_ref c_ref_of
  have c_object_of := ok_object_of (P := P) (w := w) (base := base) T c_Store_exists c_is_ref c_ref_of
  have c_row_of := ok_row_of (P := P) (w := w) (base := base) T c_Store_kind c_Store_slots
  have c_word_at := ok_word_at (P := P) (w := w) (base := base) T c_Space_all_roots c_object_of c_row_of
  have c_paths := ok_paths (P := P) (w := w) (base := base) T c_Space_all_roots c_object_of c_row_of
  have c_garbage := ok_garbage (P := P) (w := w) (base := base) T c_Space_all_roots c_Store_numbers c_reached
  have c__law_number := ok__law_number (P := P) (w := w) (base := base) T 
  have c__law_word := ok__law_word (P := P) (w := w) (base := base) T 
  have c__law_is := ok__law_is (P := P) (w := w) (base := base) T 
  have c__law_same := ok__law_same (P := P) (w := w) (base := base) T c__law_is
  have c__law_sizes := ok__law_sizes (P := P) (w := w) (base := base) T c__law_number
  have c__law_rows := ok__law_rows (P := P) (w := w) (base := base) T c__law_number c__law_word
  have c__law_roots := ok__law_roots (P := P) (w := w) (base := base) T c__law_number c__law_word
  have c__law_space := ok__law_space (P := P) (w := w) (base := base) T c_Space_init_ c_Space_hold c_Space_new c_Space_set_root c_Store_put c__law_is
  have c__law_walk := ok__law_walk (P := P) (w := w) (base := base) T 
  have c__law_extended := ok__law_extended (P := P) (w := w) (base := base) T 
  have c__law_best := ok__law_best (P := P) (w := w) (base := base) T c__law_extended
  have c__law_path_is := ok__law_path_is (P := P) (w := w) (base := base) T c__law_is
  have c__law_told := ok__law_told (P := P) (w := w) (base := base) T c__law_is c__law_walk c_word_at
  have c__law_drawn := ok__law_drawn (P := P) (w := w) (base := base) T c__law_walk
  have c__law_kept := ok__law_kept (P := P) (w := w) (base := base) T c_Space_all_roots c_Store_kind c_Store_numbers c_Store_slots c__law_same
  have c__law_long := ok__law_long (P := P) (w := w) (base := base) T c_Space_init_ c_Space_new c_Space_set_root c_Store_put c__law_is c__law_path_is c__law_same c_garbage c_paths c_word_at
  exact F.ok sc_law sp1_len (fun cdv A outer s H vs Q E hr h => ⟨t_law K, PSs.nox (dv_law T c__law_best c__law_drawn c__law_kept c__law_long c__law_number c__law_path_is c__law_roots c__law_rows c__law_same c__law_sizes c__law_space c__law_told c_garbage c_paths c_word_at hr), rd_law T vs H Q E h⟩)
theorem law_at {w : World} {K : PySem.W.Frag} {mg : Str → Option Value} {f : Addr} {h : Heap} (T : Tx K mg) (hm : mg ("law" : Str) = some (.ref f)) : LamX.LawAtS PySem.Challenge.rw_kilnwarden_k64_best_paths w K CX0 6 63 "script" mg f h := by
  obtain ⟨fd, F⟩ := T.d_s_law
  have e : f = He.fAd K ("law", none) := by
    have := hm.symm.trans T.g_law
    injection this with this
    exact Value.ref.inj this
  subst e
  refine ⟨fd, [], sp_law K, by simp, by simp, by simp, fun s v => ?_, fun H a ns hl hb _ hS => ⟨.ref a, rfl, a, ns, rfl, hS, hl, fun n hn => Bn.of_bits (hb n hn), fun _ => rfl⟩, fun base _ _ _ => law_all T base F⟩
  exact (FunD.bindsA (ps := ["script"]) F fun _ _ _ _ _ _ us hl => match us, hl with | [_], _ => rfl) s [v] rfl
end K64
open PySem PySem.W PySem.Calls PyProof.Rows
theorem PySem.Challenge.cw_kilnwarden_k64_best_paths_holds : PySem.Challenge.rw_kilnwarden_k64_best_paths.Holds := by
  w_on; o_law
  refine HandSHeadRun.head_any (r := OpenLaw.row PySem.Challenge.rw_kilnwarden_k64_best_paths) (q := view (OpenLaw.row PySem.Challenge.rw_kilnwarden_k64_best_paths).prog [44]) (H := K64.hk) (ob := K64.ob) (M := 8000) (loose := K64.loose) (d := HandSHeadRun.topDef (OpenLaw.row PySem.Challenge.rw_kilnwarden_k64_best_paths).prog 44) (kwd := []) K64.ob_eq
    (by kernel_rfl) (fun s => by kernel_rfl) K64.run (by kernel_rfl) (by kernel_rfl) (by kernel_rfl) (by rfl) (by first | assumption | decide +kernel) (by decide +kernel) ⟨rfl, rfl, rfl, rfl, rfl, by decide +kernel⟩ ?hw ?hc
  case hw => w_witness2
  case hc =>
    refine LamX.walk_ofTsE (l := PySem.Challenge.rw_kilnwarden_k64_best_paths) (n := 63) (k := 6) (x := "script") (CX := fun _ => L2.CX0) rfl (by decide) (by kernel_rfl) ⟨rfl, by decide, by decide⟩ ?F (fun _ _ _ _ _ z => z)
    intro w mg fa h Y G hmg0
    obtain ⟨K, KX, c⟩ := Y
    have hmg : mg ("law" : PySem.Str) = some (.ref fa) := by
      have e : (HandSHeadRun.topDef (OpenLaw.row PySem.Challenge.rw_kilnwarden_k64_best_paths).prog 44).name = ("law" : PySem.Str) := by kernel_rfl
      rw [← e]
      exact hmg0
    exact ⟨K, KX, K64.law_at ⟨c, h, KX, G⟩ hmg⟩

