import PyProof.Rows.All
import Wide.All
import OpenK.AllK
import Wide.FinOn
import HandS.ForMost
import HandS.Gcd
import HandS.Wide
import HandS.IsInst
import HandS.Conv
import HandS.Deep
import HandS.TupAny
import HandS.TupMul
import HandS.Style
import HandS.Zip
import HandS.Rev
import HandS.RevRange
import HandS.SortKw
import HandS.Text
import HandS.Dict
import KE.SortKeyHeap
import KE.KEqDict
import HandS.SortKw
import HandS.DictTup
import HandS.TupLen
import HandS.DictComp
import HandS.Text
import HandS.Dict
import HandS.Walk
import HandS.Keys
import PySem.Challenge.RW_worldbase_k01_rows_and_their_sets
set_option Elab.async false
set_option linter.all false
set_option maxRecDepth 100000
set_option maxHeartbeats 1000000
namespace WB
/-! ### data over the abstract heap -/
open PySem PySem.Spec PyProof.Rows L2
abbrev Fg := PySem.W.Frag
theorem hu64 {A : Around} {k : Nat} (hr : Room k A) : A.units + 64 < cLine := by have := hr.un; omega
theorem hu65 {A : Around} {k : Nat} (hr : Room k A) : A.units + 65 < cLine := by have := hr.un; omega
/-- tuples stay -/
def TSame (K : Fg) (H H' : Hp) : Prop := ∀ a xs, SqT K H a xs → SqT K H' a xs
theorem rdSame {H H' : Hp} {a : Addr} {u : HO} (e : Same H H') (h : Rd H a u) : Rd H' a u := by
  rcases h with h | ⟨o, h⟩
  · exact .inl (e _ _ h)
  · exact .inr ⟨o, e _ _ h⟩
theorem tsame {K : Fg} {H H' : Hp} (e : Same H H') : TSame K H H' := fun a xs h => by
  rcases h with h | h
  · exact .inl (rdSame e h)
  · exact .inr h
theorem TSame.trans {K : Fg} {H H1 H2 : Hp} (a : TSame K H H1) (b : TSame K H1 H2) : TSame K H H2 := fun x o h => b x o (a x o h)
mutual
theorem dp_mono {K : Fg} {H H' : Hp} (hl : ∀ a xs, SqL K H a xs → SqL K H' a xs) (ht : TSame K H H') : ∀ {d : PyData} {v : V}, Dp K H v d → Dp K H' v d
  | _, _, .non => .non
  | _, _, .bl b => .bl b
  | _, _, .int i => .int i
  | _, _, .str x => .str x
  | _, _, .lst h1 h2 => .lst (hl _ _ h1) (dps_mono hl ht h2)
  | _, _, .tup h1 h2 => .tup (ht _ _ h1) (dps_mono hl ht h2)
theorem dps_mono {K : Fg} {H H' : Hp} (hl : ∀ a xs, SqL K H a xs → SqL K H' a xs) (ht : TSame K H H') : ∀ {ds : List PyData} {vs : List V}, DpAll K H vs ds → DpAll K H' vs ds
  | _, _, .nil => .nil
  | _, _, .cons h1 h2 => .cons (dp_mono hl ht h1) (dps_mono hl ht h2)
end
theorem dpUp {K : Fg} {H H' : Hp} (e : Same H H') {d : PyData} {v : V} (h : Dp K H v d) : Dp K H' v d := dp_mono (fun _ _ h => e.seq h) (tsame e) h
theorem dpsUp {K : Fg} {H H' : Hp} (e : Same H H') {ds : List PyData} {vs : List V} (h : DpAll K H vs ds) : DpAll K H' vs ds := dps_mono (fun _ _ h => e.seq h) (tsame e) h
mutual
def noL : PyData → Bool
  | .none => true
  | .bool _ => true
  | .int _ => true
  | .str _ => true
  | .tuple xs => noLs xs
  | .list _ => false
  | .dict _ => false
def noLs : List PyData → Bool
  | [] => true
  | x :: xs => noL x && noLs xs
end
mutual
theorem dp_monoT {K : Fg} {H H' : Hp} (ht : TSame K H H') : ∀ (d : PyData) (v : V), noL d = true → Dp K H v d → Dp K H' v d
  | .none, _, _, h => by cases h; exact .non
  | .bool b, _, _, h => by cases h; exact .bl b
  | .int i, _, _, h => by cases h; exact .int i
  | .str x, _, _, h => by cases h; exact .str x
  | .list _, _, n, _ => by unfold noL at n; cases n
  | .dict _, _, n, _ => by unfold noL at n; cases n
  | .tuple ds, _, n, h => by
    unfold noL at n
    cases h with
    | tup h1 h2 => exact .tup (ht _ _ h1) (dps_monoT ht ds _ n h2)
theorem dps_monoT {K : Fg} {H H' : Hp} (ht : TSame K H H') : ∀ (ds : List PyData) (vs : List V), noLs ds = true → DpAll K H vs ds → DpAll K H' vs ds
  | [], _, _, h => by cases h; exact .nil
  | d :: ds, _, n, h => by
    unfold noLs at n
    rw [Bool.and_eq_true] at n
    cases h with
    | cons h1 h2 => exact .cons (dp_monoT ht d _ n.1 h1) (dps_monoT ht ds _ n.2 h2)
end
theorem noLs_map {α : Type} {f : α → PyData} (h : ∀ x, noL (f x) = true) : ∀ xs : List α, noLs (xs.map f) = true
  | [] => rfl
  | x :: xs => by
    rw [List.map_cons]
    unfold noLs
    rw [h x, noLs_map h xs]
    rfl
theorem dp_int {K : Fg} {H : Hp} {v : V} {i : Int} (h : Dp K H v (.int i)) : v = .int i := by cases h; rfl
theorem dp_bl {K : Fg} {H : Hp} {v : V} {i : Bool} (h : Dp K H v (.bool i)) : v = .bl i := by cases h; rfl
theorem dp_str {K : Fg} {H : Hp} {v : V} {i : Str} (h : Dp K H v (.str i)) : v = .str i := by cases h; rfl
theorem dp_non {K : Fg} {H : Hp} {v : V} (h : Dp K H v .none) : v = .non := by cases h; rfl
theorem dp_tup {K : Fg} {H : Hp} {v : V} {ds : List PyData} (h : Dp K H v (.tuple ds)) : ∃ a xs, v = .ref a ∧ SqT K H a xs ∧ DpAll K H xs ds := by
  cases h with
  | tup h1 h2 => exact ⟨_, _, rfl, h1, h2⟩
theorem dp_lst {K : Fg} {H : Hp} {v : V} {ds : List PyData} (h : Dp K H v (.list ds)) : ∃ a xs, v = .ref a ∧ SqL K H a xs ∧ DpAll K H xs ds := by
  cases h with
  | lst h1 h2 => exact ⟨_, _, rfl, h1, h2⟩
theorem dps_len {K : Fg} {H : Hp} : ∀ {ds : List PyData} {vs : List V}, DpAll K H vs ds → vs.length = ds.length
  | _, _, .nil => rfl
  | _, _, .cons _ h => congrArg (· + 1) (dps_len h)
theorem dps_get {K : Fg} {H : Hp} : ∀ {ds : List PyData} {vs : List V} {i : Nat} {d : PyData}, DpAll K H vs ds → ds[i]? = some d → ∃ v, vs[i]? = some v ∧ Dp K H v d
  | _, _, i, d, .nil, h => by simp at h
  | _, _, 0, d, .cons (v := v) h1 h2, h => by
    have e := Option.some.inj h
    subst e
    exact ⟨v, rfl, h1⟩
  | _, _, i + 1, d, .cons h1 h2, h => by
    obtain ⟨v, e, q⟩ := dps_get h2 (i := i) (d := d) (by simpa using h)
    exact ⟨v, by simpa using e, q⟩
theorem dps_getV {K : Fg} {H : Hp} : ∀ {ds : List PyData} {vs : List V} {i : Nat} {v : V}, DpAll K H vs ds → vs[i]? = some v → ∃ d, ds[i]? = some d ∧ Dp K H v d
  | _, _, i, d, .nil, h => by simp at h
  | _, _, 0, d, .cons (d := v) h1 h2, h => by
    have e := Option.some.inj h
    subst e
    exact ⟨v, rfl, h1⟩
  | _, _, i + 1, d, .cons h1 h2, h => by
    obtain ⟨v, e, q⟩ := dps_getV h2 (i := i) (v := d) (by simpa using h)
    exact ⟨v, by simpa using e, q⟩
theorem dps_ints {K : Fg} {H : Hp} : ∀ {ns : List Int} {vs : List V}, DpAll K H vs (ns.map PyData.int) → vs = ns.map V.int
  | [], _, .nil => rfl
  | n :: ns, _, .cons h1 h2 => by rw [dp_int h1, dps_ints h2] <;> rfl
theorem dps_of_ints {K : Fg} {H : Hp} : ∀ (ns : List Int), DpAll K H (ns.map V.int) (ns.map PyData.int)
  | [] => .nil
  | n :: ns => .cons (.int n) (dps_of_ints ns)
theorem dps_append {K : Fg} {H : Hp} : ∀ {ds es : List PyData} {vs us : List V}, DpAll K H vs ds → DpAll K H us es → DpAll K H (vs ++ us) (ds ++ es)
  | _, _, _, _, .nil, h => h
  | _, _, _, _, .cons h1 h2, h => .cons h1 (dps_append h2 h)
theorem dps_set {K : Fg} {H : Hp} : ∀ {ds : List PyData} {vs : List V} {i : Nat} {v : V} {d : PyData}, DpAll K H vs ds → Dp K H v d → DpAll K H (vs.set i v) (ds.set i d)
  | _, _, _, _, _, .nil, _ => .nil
  | _, _, 0, _, _, .cons h1 h2, h => .cons h h2
  | _, _, i + 1, _, _, .cons h1 h2, h => .cons h1 (dps_set h2 h)
theorem dps_erase {K : Fg} {H : Hp} : ∀ {ds : List PyData} {vs : List V} {i : Nat}, DpAll K H vs ds → DpAll K H (vs.eraseIdx i) (ds.eraseIdx i)
  | _, _, _, .nil => .nil
  | _, _, 0, .cons h1 h2 => h2
  | _, _, i + 1, .cons h1 h2 => .cons h1 (dps_erase h2)
theorem dps_take {K : Fg} {H : Hp} : ∀ {ds : List PyData} {vs : List V} (i : Nat), DpAll K H vs ds → DpAll K H (vs.take i) (ds.take i)
  | _, _, 0, _ => by simp; exact .nil
  | _, _, _ + 1, .nil => .nil
  | _, _, i + 1, .cons h1 h2 => .cons h1 (dps_take i h2)
theorem dps_drop {K : Fg} {H : Hp} : ∀ {ds : List PyData} {vs : List V} (i : Nat), DpAll K H vs ds → DpAll K H (vs.drop i) (ds.drop i)
  | _, _, 0, h => h
  | _, _, _ + 1, .nil => .nil
  | _, _, i + 1, .cons h1 h2 => dps_drop i h2
/-- d's item at the place i (from behind where i < 0) -/
def dix (ds : List PyData) (i : Int) : Option PyData := (ixN ds.length i).bind fun j => ds[j]?
theorem dix_at {K : Fg} {H : Hp} {ds : List PyData} {vs : List V} {i : Int} {d : PyData} (h : DpAll K H vs ds) (e : dix ds i = some d) : ∃ v, atI vs i = some v ∧ Dp K H v d := by
  unfold dix at e
  unfold atI
  rw [dps_len h]
  cases hj : ixN ds.length i with
  | none => rw [hj] at e; cases e
  | some j =>
    rw [hj] at e
    exact dps_get h e
theorem dix_nat {ds : List PyData} {j : Nat} {d : PyData} (h : ds[j]? = some d) : dix ds (j : Int) = some d := by
  have hl : j < ds.length := (List.getElem?_eq_some_iff.mp h).1
  unfold dix ixN
  rw [if_pos (by omega), if_pos (by omega)]
  simpa using h

/-! ### leaf rules -/
section
variable {K : Fg} {H H' : Hp} {Q : VK} {x y v : V} {d e : PyData} {ds es : List PyData} {i j : Int}
theorem r_var {σ : L2.St} {i : Nat} {Q : V → Prop} {v : V} (h : σ[i]? = some (some v)) (q : Q v) : ∃ v, σ[i]? = some (some v) ∧ Q v := ⟨v, h, q⟩
theorem r_bl {b : Bool} {Q : Bool → Prop} (q : Q b) : ∃ k, V.bl b = .bl k ∧ Q k := ⟨b, rfl, q⟩
theorem r_I0 {g : Int → Int → V} (q : Q (g i j) H) : rI0 g (.int i) (.int j) H Q := ⟨i, j, rfl, rfl, q⟩
theorem r_I {C : Int → Int → Prop} {g : Int → Int → V} (c : C i j) (q : Q (g i j) H) : rI C g (.int i) (.int j) H Q := ⟨i, j, rfl, rfl, c, q⟩
theorem r_U {g : Int → V} (q : Q (g i) H) : rU g (.int i) H Q := ⟨i, rfl, q⟩
/-- an item of a tuple that is data -/
theorem r_ixT (h : Dp K H x (.tuple ds)) (hd : dix ds i = some d) (q : ∀ v, Dp K H v d → Q v H) : rIx K x (.int i) H Q := by
  obtain ⟨a, xs, rfl, h1, h2⟩ := dp_tup h
  obtain ⟨v, hv, hd⟩ := dix_at h2 hd
  exact .inr (.inl ⟨a, xs, i, v, rfl, rfl, h1, hv, q v hd⟩)
theorem r_ixTi {n : Int} (h : Dp K H x (.tuple ds)) (hd : dix ds i = some (.int n)) (q : Q (.int n) H) : rIx K x (.int i) H Q :=
  r_ixT h hd fun v hv => by rw [dp_int hv]; exact q
theorem r_ixL (h : Dp K H x (.list ds)) (hd : dix ds i = some d) (q : ∀ v, Dp K H v d → Q v H) : rIx K x (.int i) H Q := by
  obtain ⟨a, xs, rfl, h1, h2⟩ := dp_lst h
  obtain ⟨v, hv, hd⟩ := dix_at h2 hd
  exact .inl ⟨a, xs, i, v, rfl, rfl, h1, hv, q v hd⟩
theorem r_ixLi {n : Int} (h : Dp K H x (.list ds)) (hd : dix ds i = some (.int n)) (q : Q (.int n) H) : rIx K x (.int i) H Q :=
  r_ixL h hd fun v hv => by rw [dp_int hv]; exact q
/-- a list by its values -/
theorem r_ixLV {a : Addr} {xs : List V} (h : SqL K H a xs) (hd : atI xs i = some v) (q : Q v H) : rIx K (.ref a) (.int i) H Q := .inl ⟨a, xs, i, v, rfl, rfl, h, hd, q⟩
theorem same_new {p : Addr} (h : H p = none) (o : HO) : Same H (upd H p o) := fun b u q => by rw [upd_ne (ne_of_none q h)]; exact q
/-- a new tuple, a new list -/
def nwT (vs : List V) (H : Hp) (Q : VK) : Prop := vs.length ≤ sizeLine ∧ ∀ p, H p = none → Q (.ref p) (upd H p (.tup vs))
def nwL (vs : List V) (H : Hp) (Q : VK) : Prop := vs.length ≤ sizeLine ∧ ∀ p, H p = none → Q (.ref p) (upd H p (.lst vs))
theorem tTup_eq {t : TA} {σ : L2.St} : tTup t σ H Q = t σ H fun vs H1 => nwT vs H1 Q := rfl
theorem tLst_eq {t : TA} {σ : L2.St} : tLst t σ H Q = t σ H fun vs H1 => nwL vs H1 Q := rfl
theorem r_tupN {vs : List V} (hs : DpAll K H vs ds) (hn : ds.length ≤ 100000) (q : ∀ p H', Same H H' → H p = none → Dp K H' (.ref p) (.tuple ds) → Q (.ref p) H') : nwT vs H Q := by
  refine ⟨by rw [dps_len hs]; exact Nat.le_trans hn (by decide), fun p hp => q p _ (same_new hp _) hp ?_⟩
  exact .tup (SqT.of upd_same) (dpsUp (same_new hp _) hs)
theorem r_lstN {vs : List V} (hn : vs.length ≤ 100000) (q : ∀ p H', Same H H' → H p = none → H' p = some (.lst vs) → Q (.ref p) H') : nwL vs H Q :=
  ⟨Nat.le_trans hn (by decide), fun p hp => q p _ (same_new hp _) hp upd_same⟩
theorem r_tup {vs : List V} (hs : DpAll K H vs ds) (q : ∀ p H', Same H H' → H p = none → Dp K H' (.ref p) (.tuple ds) → Q (.ref p) H') (hn : Nat.ble ds.length 100000 = true := by rfl) : nwT vs H Q := r_tupN hs (Nat.le_of_ble_eq_true hn) q
theorem r_lst {vs : List V} (q : ∀ p H', Same H H' → H p = none → H' p = some (.lst vs) → Q (.ref p) H') (hn : Nat.ble vs.length 100000 = true := by rfl) : nwL vs H Q := r_lstN (Nat.le_of_ble_eq_true hn) q
theorem small2 {n : Nat} (h : n ≤ 100000) : n ≤ sizeLine := Nat.le_trans h (by decide)
/-- if, by the test -/
theorem r_if {c A B : Prop} [Decidable c] (h1 : c → A) (h2 : ¬ c → B) : if (decide c) = true then A else B := by
  by_cases h : c
  · rw [if_pos (decide_eq_true h)]; exact h1 h
  · rw [if_neg (fun z => h (of_decide_eq_true z))]; exact h2 h
theorem r_ifN {c A B : Prop} [Decidable c] (h1 : ¬ c → A) (h2 : c → B) : if (!decide c) = true then A else B := by
  by_cases h : c
  · rw [decide_eq_true h, if_neg (by decide)]; exact h2 h
  · rw [decide_eq_false h, if_pos (by decide)]; exact h1 h
theorem r_ifB {b : Bool} {A B : Prop} (h1 : b = true → A) (h2 : b = false → B) : if b = true then A else B := by
  cases b with
  | true => rw [if_pos rfl]; exact h1 rfl
  | false => rw [if_neg (by decide)]; exact h2 rfl
theorem r_ifNB {b : Bool} {A B : Prop} (h1 : b = false → A) (h2 : b = true → B) : if (!b) = true then A else B := by
  cases b with
  | true => rw [if_neg (by decide)]; exact h2 rfl
  | false => rw [if_pos (by decide)]; exact h1 rfl
theorem r_tru {K : Fg} {b : Bool} {Q : Bool → Prop} {H : Hp} (q : Q b) : ∃ k, TruV K (.bl b) H k ∧ Q k := ⟨b, rfl, q⟩
theorem r_len (h : Dp K H x d) (n : Nat) (hd : d = .tuple ds ∨ d = .list ds) (hn : ds.length = n) (q : Q (.int (n : Int)) H) : ∃ p ys, [x] = [V.ref p] ∧ (SqL K H p ys ∨ SqT K H p ys) ∧ Q (.int (ys.length : Int)) H := by
  rcases hd with rfl | rfl
  · obtain ⟨a, xs, rfl, h1, h2⟩ := dp_tup h
    refine ⟨a, xs, rfl, .inr h1, ?_⟩
    rw [dps_len h2, hn]; exact q
  · obtain ⟨a, xs, rfl, h1, h2⟩ := dp_lst h
    refine ⟨a, xs, rfl, .inl h1, ?_⟩
    rw [dps_len h2, hn]; exact q
end

/-! ### unions of rules -/
section
variable {X : Cx}
def rAddU (K : Fg) : R2 := fun x y H Q => rI0 (fun i j => .int (i + j)) x y H Q ∨ ((∃ i j, x = .str i ∧ y = .str j ∧ i.length + j.length ≤ sizeLine ∧ Q (.str (i ++ j)) H) ∨ (rCatA K x y H Q ∨ rCat x y H Q))
theorem op_addU : OpR X (binaryOp .Add) (rAddU X.K) := op_add.or (op_add_str.or (op_catA.or op_cat))
def CDivX (_ j : Int) : Prop := j ≠ 0 ∧ j.natAbs.log2 < 9000
def rFdU : R2 := rI CDivX fun i j => .int (i.fdiv j)
theorem op_fdivU : OpR X (binaryOp .FloorDiv) rFdU := opI fun i j _ _ _ _ _ hc q => floordiv_int hc.1 q (.inl (PyProof.noPylong_of_log2 hc.2))
def rModU : R2 := fun x y H Q => rI (fun _ j => 0 < j) (fun i j => .int (i % j)) x y H Q ∨ rI (fun _ j => j ≠ 0) (fun i j => .int (i.fmod j)) x y H Q
theorem op_modU : OpR X (binaryOp .Mod) rModU := op_mod.or op_modN
def rMulU (K : Fg) : R2 := fun x y H Q => rI CMulW (fun i j => .int (i * j)) x y H Q ∨ (rI CMul (fun i j => .int (i * j)) x y H Q ∨ (rRep x y H Q ∨ rRepT K x y H Q))
theorem op_mulU : OpR X (binaryOp .Mult) (rMulU X.K) := op_mulW.or (op_mul.or (op_rep.or op_repT))
def rEqU (K : Fg) : R2 := fun x y H Q => rEq x y H Q ∨ rEqD K x y H Q
theorem op_eqU (hu : X.A.units + 64 < cLine) : OpR X (compareOp .Eq) (rEqU X.K) := op_eq.or (op_eqD hu)
def rNeU (K : Fg) : R2 := fun x y H Q => rNe x y H Q ∨ rNeD K x y H Q
theorem op_neU (hu : X.A.units + 64 < cLine) : OpR X (compareOp .NotEq) (rNeU X.K) := op_ne.or (op_neD hu)
def rInU (K : Fg) : R2 := fun x y H Q => rIn K false x y H Q ∨ rInD K x y H Q
theorem op_inU (hu : X.A.units + 65 < cLine) : OpR X (compareOp .In) (rInU X.K) := op_in_seq.or (op_inD hu)
def rNinU (K : Fg) : R2 := fun x y H Q => rIn K true x y H Q ∨ rNotInD K x y H Q
theorem op_ninU (hu : X.A.units + 65 < cLine) : OpR X (compareOp .NotIn) (rNinU X.K) := op_notIn_seq.or (op_notInD hu)
def rSlU (K : Fg) : V → Option Int → Option Int → Hp → VK → Prop := fun x lo hi H Q => rSlL K x lo hi H Q ∨ (rSlA K x lo hi H Q ∨ rSlS x lo hi H Q)
theorem sl_seqU : SlR X (rSlU X.K) := sl_list.or (sl_tupA.or sl_str)
theorem pi_orU {tg it : Expr} {w w' : TI} (h : PI X tg it w) (h' : PI X tg it w') : PI X tg it (fun σ H R => w σ H R ∨ w' σ H R) := by
  refine ⟨fun pins s σ H R I q => ?_⟩
  rcases q with q | q
  · exact h.run pins s σ H R I q
  · exact h'.run pins s σ H R I q
def iSeqU (K : Fg) (te : TE) : TI := fun σ H R => iList K te σ H R ∨ iTup K te σ H R
theorem pi_listU {tg l : Expr} {te : TE} (h : PE X l te) : PI X tg l (iSeqU X.K te) := pi_orU (pi_list h) (pi_tup h)
theorem pe_orU {e : Expr} {t t' : TE} (h : PE X e t) (h' : PE X e t') : PE X e (fun σ H Q => t σ H Q ∨ t' σ H Q) := by
  refine ⟨fun pins s σ H Q I q => ?_⟩
  rcases q with q | q
  · exact h.run pins s σ H Q I q
  · exact h'.run pins s σ H Q I q
def rLenU (K : Fg) : List V → Hp → VK → Prop := fun xs H Q => (∃ p ys, xs = [.ref p] ∧ (SqL K H p ys ∨ SqT K H p ys) ∧ Q (.int (ys.length : Int)) H) ∨ (∃ z : Str, xs = [.str z] ∧ z.length ≤ sizeLine ∧ Q (.int (z.length : Int)) H)
theorem call_lenU : CallR X (.builtin "len") (rLenU X.K) := call_len_seq.or call_len_str
end
/-! ### more leaf rules -/
section
variable {K : Fg} {H H' : Hp} {Q : VK} {x y v : V} {d e : PyData} {ds es : List PyData} {i j : Int}
theorem r_fdN (h0 : j ≠ 0) (hb : j.natAbs < 2 ^ 8999) (q : Q (.int (i.fdiv j)) H) : rFdU (.int i) (.int j) H Q := ⟨i, j, rfl, rfl, ⟨h0, Nat.lt_trans (PySem.Flt.log2_lt_of (by decide) hb) (by decide)⟩, q⟩
theorem r_fdW (h0 : 0 < j) (hb : j.natAbs < 2 ^ 8999) (q : Q (.int (i / j)) H) : rFdU (.int i) (.int j) H Q := r_fdN (by omega) hb (by rw [Int.fdiv_eq_ediv_of_nonneg i (by omega)]; exact q)
theorem r_modP (h0 : 0 < j) (q : Q (.int (i % j)) H) : rModU (.int i) (.int j) H Q := .inl ⟨i, j, rfl, rfl, h0, q⟩
theorem r_modN (h0 : j ≠ 0) (q : Q (.int (i.fmod j)) H) : rModU (.int i) (.int j) H Q := .inr ⟨i, j, rfl, rfl, h0, q⟩
theorem r_addI (q : Q (.int (i + j)) H) : rAddU K (.int i) (.int j) H Q := .inl ⟨i, j, rfl, rfl, q⟩
theorem r_mulI {a b : Nat} (ha : i.natAbs < 2 ^ a) (hb : j.natAbs < 2 ^ b) (h : a + b ≤ 900000) (q : Q (.int (i * j)) H) : rMulU K (.int i) (.int j) H Q :=
  .inl ⟨i, j, rfl, rfl, wide_mul (a := a + 1) (b := b + 1) (Nat.lt_of_lt_of_le ha (Nat.pow_le_pow_right (by decide) (by omega))) (Nat.lt_of_lt_of_le hb (Nat.pow_le_pow_right (by decide) (by omega))) (by omega) (by omega) (by omega), q⟩
theorem r_mulR (hj : -(2 ^ 64) < j ∧ j < 2 ^ 64) (q : Q (.int (i * j)) H) : rMulU K (.int i) (.int j) H Q := .inr (.inl ⟨i, j, rfl, rfl, .inr hj, q⟩)
theorem r_mulL (hj : -(2 ^ 64) < i ∧ i < 2 ^ 64) (q : Q (.int (i * j)) H) : rMulU K (.int i) (.int j) H Q := .inr (.inl ⟨i, j, rfl, rfl, .inl hj, q⟩)
theorem r_gcd (q : Q (.int ((Nat.gcd i.natAbs j.natAbs : Nat) : Int)) H) : rGcd [.int i, .int j] H Q := ⟨i, j, rfl, q⟩
theorem r_eqS (h : scal x y = true) (q : Q (.bl (decide (x = y))) H) : rEqU K x y H Q := .inl ⟨h, q⟩
theorem r_eqI (q : Q (.bl (decide (i = j))) H) : rEqU K (.int i) (.int j) H Q := .inl ⟨rfl, by
  have e : decide (V.int i = V.int j) = decide (i = j) := by simp
  rw [e]; exact q⟩
theorem r_neB {a b : Bool} (q : Q (.bl (!decide (a = b))) H) : rNeU K (.bl a) (.bl b) H Q := .inl ⟨rfl, by
  have e : decide (V.bl a = V.bl b) = decide (a = b) := by simp
  rw [e]; exact q⟩
theorem r_eqB {a b : Bool} (q : Q (.bl (decide (a = b))) H) : rEqU K (.bl a) (.bl b) H Q := .inl ⟨rfl, by
  have e : decide (V.bl a = V.bl b) = decide (a = b) := by simp
  rw [e]; exact q⟩
theorem r_neI (q : Q (.bl (!decide (i = j))) H) : rNeU K (.int i) (.int j) H Q := .inl ⟨rfl, by
  have e : decide (V.int i = V.int j) = decide (i = j) := by simp
  rw [e]; exact q⟩
end

/-! ### calls of built-ins, by names -/
section
variable {X : Cx} {K : Fg} {Q : VK} {H : Hp} {i j : Int} {d : PyData} {ds : List PyData} {x : V}
def rIntU : List V → Hp → VK → Prop := fun xs H Q => (∃ i, xs = [.int i] ∧ Q (.int i) H) ∨ ∃ k, xs = [.bl k] ∧ Q (.int (if k then 1 else 0)) H
theorem call_intU : CallR X (.type "int") rIntU := call_int1
theorem r_int (q : Q (.int i) H) : rIntU [.int i] H Q := .inl ⟨i, rfl, q⟩
def rAbsU : List V → Hp → VK → Prop := fun xs H Q => ∃ i, xs = [.int i] ∧ Q (.int (if i < 0 then -i else i)) H
theorem call_absU : CallR X (.builtin "abs") rAbsU := call_abs
theorem r_abs (q : Q (.int (i.natAbs : Int)) H) : rAbsU [.int i] H Q := ⟨i, rfl, by
  have e : (if i < 0 then -i else i) = (i.natAbs : Int) := by split <;> omega
  rw [e]; exact q⟩
def rMaxU : List V → Hp → VK → Prop := fun xs H Q => ∃ i j, xs = [.int i, .int j] ∧ Q (.int (if j > i then j else i)) H
theorem call_max2U (hc : X.calm = true) : CallR X (.builtin "max") rMaxU := call_max2 hc
theorem r_max (q : Q (.int (max i j)) H) : rMaxU [.int i, .int j] H Q := ⟨i, j, rfl, by
  have e : (if j > i then j else i) = max i j := by split <;> omega
  rw [e]; exact q⟩
def rMinU : List V → Hp → VK → Prop := fun xs H Q => ∃ i j, xs = [.int i, .int j] ∧ Q (.int (if j < i then j else i)) H
theorem call_min2U (hc : X.calm = true) : CallR X (.builtin "min") rMinU := call_min2 hc
theorem r_min (q : Q (.int (min i j)) H) : rMinU [.int i, .int j] H Q := ⟨i, j, rfl, by
  have e : (if j < i then j else i) = min i j := by split <;> omega
  rw [e]; exact q⟩
def rListU (K : Fg) : List V → Hp → VK → Prop := fun xs H Q => ∃ p ys, xs = [.ref p] ∧ (SqL K H p ys ∨ SqT K H p ys) ∧ ∀ l, H l = none → Q (.ref l) (upd H l (.lst ys))
theorem call_listU : CallR X (.type "list") (rListU X.K) := call_list_of
theorem r_listV {a : Addr} {xs : List V} (h : SqL K H a xs ∨ SqT K H a xs) (q : ∀ p H', Same H H' → H p = none → H' p = some (.lst xs) → Q (.ref p) H') : rListU K [.ref a] H Q :=
  ⟨a, xs, rfl, h, fun l hl => q l _ (same_new hl _) hl upd_same⟩
def rTupU (K : Fg) : List V → Hp → VK → Prop := fun xs H Q => ∃ p ys, xs = [.ref p] ∧ ((SqL K H p ys ∧ ∀ l, H l = none → Q (.ref l) (upd H l (.tup ys))) ∨ (SqT K H p ys ∧ Q (.ref p) H))
theorem call_tupleU : CallR X (.type "tuple") (rTupU X.K) := call_tuple_of
theorem r_tupL {a : Addr} {xs : List V} (h : SqL K H a xs) (hd : DpAll K H xs ds) (q : ∀ p H', Same H H' → H p = none → Dp K H' (.ref p) (.tuple ds) → Q (.ref p) H') : rTupU K [.ref a] H Q :=
  ⟨a, xs, rfl, .inl ⟨h, fun l hl => q l _ (same_new hl _) hl (.tup (SqT.of upd_same) (dpsUp (same_new hl _) hd))⟩⟩
theorem r_lenL {a : Addr} {xs : List V} (h : SqL K H a xs) (q : Q (.int (xs.length : Int)) H) : rLenU K [.ref a] H Q := .inl ⟨a, xs, rfl, .inl h, q⟩
theorem r_lenT (h : Dp K H x (.tuple ds)) (q : Q (.int (ds.length : Int)) H) : rLenU K [x] H Q := by
  obtain ⟨a, xs, rfl, h1, h2⟩ := dp_tup h
  refine .inl ⟨a, xs, rfl, .inr h1, ?_⟩
  rw [dps_len h2]; exact q
theorem r_lenS {z : Str} (h : z.length ≤ sizeLine) (q : Q (.int (z.length : Int)) H) : rLenU K [.str z] H Q := .inr ⟨z, rfl, h, q⟩
/-- the class of data -/
def tnD : PyData → String
  | .none => "NoneType"
  | .bool _ => "bool"
  | .int _ => "int"
  | .str _ => "str"
  | .list _ => "list"
  | .tuple _ => "tuple"
  | .dict _ => "dict"
theorem dp_ty (h : Dp K H x d) : TyX K H x (.type (tnD d)) := by
  cases h with
  | non => exact .base .non
  | bl b => exact .base (.bl b)
  | int i => exact .base (.int i)
  | str z => exact .base (.str z)
  | lst h1 h2 =>
    rcases h1 with (h | ⟨o, h⟩) | ⟨o, its, n, h, hc, _⟩
    · exact .base (.lst h)
    · exact .base (.frz h)
    · exact .kList h hc
  | tup h1 h2 =>
    rcases h1 with (h | ⟨o, h⟩) | ⟨o, its, n, h, hc, _⟩
    · exact .base (.tup h)
    · exact .fTuple h
    · exact .kTuple h hc
theorem r_isi {c : String} {b : Bool} (h : Dp K H x d) (e : kitB (tnD d) c = some b) (q : Q (.bl b) H) : rIsi K [x, .ty c] H Q :=
  ⟨x, .ty c, _, _, b, rfl, .ty c, dp_ty h, kit_ty e, q⟩
end
/-! ### loops -/
section
variable {K : Fg} {σ : L2.St} {H : Hp} {D : Ends} {g : TG} {tb : TS} {te : TE}
theorem r_forT {i0 : Nat} {v : V} {ds : List PyData} (hx : σ[i0]? = some (some v)) (h : Dp K H v (.tuple ds)) (Pv : Nat → L2.St → Hp → Prop) (h0 : Pv 0 σ H) (hk : ∀ i σ' H', i ≤ ds.length → Pv i σ' H' → TSame K H H')
    (hs : ∀ i d x σ' H', ds[i]? = some d → Dp K H x d → Pv i σ' H' → g x σ' H' fun σ2 H2 => tb { D with nx := Pv (i + 1), ct := Pv (i + 1), bk := D.nx } σ2 H2) (hd : ∀ σ' H', Pv ds.length σ' H' → D.nx σ' H') : tFor (iSeqU K (tVar i0)) g tb D σ H := by
  obtain ⟨a, xs, rfl, h1, h2⟩ := dp_tup h
  have hl := dps_len h2
  refine .inr ⟨_, hx, a, rfl, ⟨xs, h1⟩, for_tup (xs := xs) Pv h0 (fun i σ' H' hi p => hk i σ' H' (by omega) p _ _ h1) (fun i x σ' H' hi p => ?_) (fun σ' H' p => hd σ' H' (hl ▸ p))⟩
  obtain ⟨d, e, hd⟩ := dps_getV h2 hi
  exact hs i d x σ' H' e hd p
/-- over a list of values that stays -/
theorem r_forL {i0 : Nat} {a : Addr} {xs : List V} (hx : σ[i0]? = some (some (.ref a))) (h : SqL K H a xs) (Pv : Nat → L2.St → Hp → Prop) (h0 : Pv 0 σ H) (hk : ∀ i σ' H', i ≤ xs.length → Pv i σ' H' → SqL K H' a xs)
    (hs : ∀ i x σ' H', xs[i]? = some x → Pv i σ' H' → g x σ' H' fun σ2 H2 => tb { D with nx := Pv (i + 1), ct := Pv (i + 1), bk := D.nx } σ2 H2) (hd : ∀ σ' H', Pv xs.length σ' H' → D.nx σ' H') : tFor (iSeqU K (tVar i0)) g tb D σ H :=
  .inl ⟨_, hx, a, rfl, ⟨xs, h⟩, for_list (xs := xs) Pv h0 hk hs hd⟩
/-- over a list that is made or told on the way: what it is, R -/
theorem r_forLe (R : Addr → List V → Hp → Prop) (hev : ∀ Q : VK, (∀ a xs H1, R a xs H1 → SqL K H1 a xs → Q (.ref a) H1) → te σ H Q)
    (hb : ∀ a xs H1, R a xs H1 → SqL K H1 a xs → ∃ Pv : Nat → L2.St → Hp → Prop, Pv 0 σ H1 ∧ (∀ i σ' H', i ≤ xs.length → Pv i σ' H' → SqL K H' a xs) ∧
      (∀ i x σ' H', xs[i]? = some x → Pv i σ' H' → g x σ' H' fun σ2 H2 => tb { D with nx := Pv (i + 1), ct := Pv (i + 1), bk := D.nx } σ2 H2) ∧ (∀ σ' H', Pv xs.length σ' H' → D.nx σ' H')) : tFor (iSeqU K te) g tb D σ H := by
  refine .inl (hev _ fun a xs H1 r hs => ⟨a, rfl, ⟨xs, hs⟩, ?_⟩)
  obtain ⟨Pv, h0, hk, hs, hd⟩ := hb a xs H1 r hs
  exact for_list (xs := xs) Pv h0 hk hs hd
theorem r_forTe (R : Addr → List V → Hp → Prop) (hev : ∀ Q : VK, (∀ a xs H1, R a xs H1 → SqT K H1 a xs → Q (.ref a) H1) → te σ H Q)
    (hb : ∀ a xs H1, R a xs H1 → SqT K H1 a xs → ∃ Pv : Nat → L2.St → Hp → Prop, Pv 0 σ H1 ∧ (∀ i σ' H', i ≤ xs.length → Pv i σ' H' → SqT K H' a xs) ∧
      (∀ i x σ' H', xs[i]? = some x → Pv i σ' H' → g x σ' H' fun σ2 H2 => tb { D with nx := Pv (i + 1), ct := Pv (i + 1), bk := D.nx } σ2 H2) ∧ (∀ σ' H', Pv xs.length σ' H' → D.nx σ' H')) : tFor (iSeqU K te) g tb D σ H := by
  refine .inr (hev _ fun a xs H1 r hs => ⟨a, rfl, ⟨xs, hs⟩, ?_⟩)
  obtain ⟨Pv, h0, hk, hs, hd⟩ := hb a xs H1 r hs
  exact for_tup (xs := xs) Pv h0 hk hs hd
theorem r_forR {ta : TA} {n : Int} (hev : ∀ Q : List V → Hp → Prop, Q [.int n] H → ta σ H Q) (hn : n < 2 ^ 60) (h0' : -(2 ^ 60) < n) (Pv : Nat → L2.St → Hp → Prop) (h0 : Pv 0 σ H)
    (hs : ∀ i σ' H', i < n.toNat → Pv i σ' H' → g (.int (i : Int)) σ' H' fun σ2 H2 => tb { D with nx := Pv (i + 1), ct := Pv (i + 1), bk := D.nx } σ2 H2) (hd : ∀ σ' H', Pv n.toNat σ' H' → D.nx σ' H') : tFor (iRng1 ta) g tb D σ H := by
  refine hev _ ⟨n, rfl, by omega, by omega, for_range (lo := 0) (n := n.toNat) Pv h0 (fun i σ' H' hi p => ?_) hd⟩
  have e0 : (0 : Int) + (i : Int) = (i : Int) := Int.zero_add _
  rw [e0]
  exact hs i σ' H' hi p
/-- a comprehension: behind turn i the list at p holds acc and Pv stands -/
def LcNx (Pv : Addr → Nat → List V → Hp → Prop) (p : Addr) (n i : Nat) : Hp → Prop := fun H' => i + 1 ≤ n ∧ ∃ acc, H' p = some (.lst acc) ∧ Pv p (i + 1) acc H'
theorem lc_put {Pv : Addr → Nat → List V → Hp → Prop} {p : Addr} {n i : Nat} {acc : List V} {y : V} {H4 : Hp} (hi : i < n) (h : H4 p = some (.lst acc)) (hl : acc.length < 1000000)
    (hP : ∀ H5, (∀ b o, b ≠ p → H4 b = some o → H5 b = some o) → H5 p = some (.lst (acc ++ [y])) → Pv p (i + 1) (acc ++ [y]) H5) :
    ∃ acc, H4 p = some (.lst acc) ∧ acc.length < sizeLine ∧ LcNx Pv p n i (upd H4 p (.lst (acc ++ [y]))) :=
  ⟨acc, h, Nat.lt_trans hl (by decide), by omega, _, upd_same, hP _ (fun b o hb e => by rw [upd_ne hb]; exact e) upd_same⟩
theorem lc_not {Pv : Addr → Nat → List V → Hp → Prop} {p : Addr} {n i : Nat} {acc : List V} {H4 : Hp} (hi : i < n) (h : H4 p = some (.lst acc)) (hP : Pv p (i + 1) acc H4) : LcNx Pv p n i H4 := ⟨by omega, acc, h, hP⟩
abbrev LcTurn (g : TG) (tt : TT) (te : TE) (vs : List Nat) (σ : L2.St) (p : Addr) (Nx : Hp → Prop) (x : V) (H' : Hp) : Prop :=
  g x (wipe σ vs) H' fun σ2 H2 => wipe σ2 vs = wipe σ vs ∧ tt σ2 H2 fun b H3 => if b = true then te σ2 H3 fun y H4 => ∃ acc, H4 p = some (.lst acc) ∧ acc.length < sizeLine ∧ Nx (upd H4 p (.lst (acc ++ [y]))) else Nx H3
theorem r_lcR {ta : TA} {n : Int} {vs : List Nat} {tt : TT} {Q : VK} (hev : ∀ Q : List V → Hp → Prop, Q [.int n] H → ta σ H Q) (hn : n < 100000) (h0' : -100000 < n) (Pv : Addr → Nat → List V → Hp → Prop)
    (h0 : ∀ p H', Same H H' → H p = none → H' p = some (.lst []) → Pv p 0 [] H')
    (hs : ∀ p i acc H', i < n.toNat → H p = none → H' p = some (.lst acc) → Pv p i acc H' → LcTurn g tt te vs σ p (LcNx Pv p n.toNat i) (.int (i : Int)) H')
    (hd : ∀ p acc H', H p = none → H' p = some (.lst acc) → Pv p n.toNat acc H' → Q (.ref p) H') : tLc (iRng1 ta) g tt te vs σ H Q := by
  refine hev _ ⟨n, rfl, by omega, by omega, fun p hp => ?_⟩
  refine ⟨fun i m H' => m = n.toNat - i ∧ i ≤ n.toNat ∧ ∃ acc, H' p = some (.lst acc) ∧ Pv p i acc H', ⟨n.toNat, by simp, Nat.zero_le _, [], upd_same, h0 p _ (same_new hp _) hp upd_same⟩, ?_⟩
  rintro i m H' ⟨rfl, hi, acc, hac, hP⟩
  by_cases hlt : i < n.toNat
  · refine .inr ⟨hlt, LcNx Pv p n.toNat i, fun H'' hN => ⟨n.toNat - (i + 1), by omega, rfl, hN⟩, fun x H'' y => ?_⟩
    obtain ⟨e, y⟩ := y
    subst e
    have e0 : (0 : Int) + (i : Int) = (i : Int) := Int.zero_add _
    rw [e0] at y
    subst y
    exact hs p i acc H'' hlt hp hac hP
  · have e : i = n.toNat := by omega
    subst e
    exact .inl ⟨Nat.le_refl _, hd p acc H' hp hac hP⟩
/-- .. over a list of values -/
theorem r_lcLe {vs : List Nat} {tt : TT} {Q : VK} {tl : TE} (R : Addr → List V → Hp → Prop) (hev : ∀ Q : VK, (∀ a xs H1, R a xs H1 → SqL K H1 a xs → Q (.ref a) H1) → tl σ H Q)
    (hb : ∀ a xs H1, R a xs H1 → SqL K H1 a xs → ∃ Pv : Addr → Nat → List V → Hp → Prop, (∀ p H', Same H1 H' → H1 p = none → H' p = some (.lst []) → Pv p 0 [] H') ∧ (∀ p i acc H', i ≤ xs.length → H1 p = none → H' p = some (.lst acc) → Pv p i acc H' → SqL K H' a xs) ∧
      (∀ p i x acc H', xs[i]? = some x → H1 p = none → H' p = some (.lst acc) → Pv p i acc H' → LcTurn g tt te vs σ p (LcNx Pv p xs.length i) x H') ∧
      (∀ p acc H', H1 p = none → H' p = some (.lst acc) → Pv p xs.length acc H' → Q (.ref p) H')) : tLc (iSeqU K tl) g tt te vs σ H Q := by
  refine .inl (hev _ fun a xs H1 r hsq => ⟨a, rfl, ⟨xs, hsq⟩, ?_⟩)
  obtain ⟨Pv, h0, hk, hs, hd⟩ := hb a xs H1 r hsq
  intro p hp
  refine lc_list (xs := xs) (fun i H' => i ≤ xs.length ∧ ∃ acc, H' p = some (.lst acc) ∧ Pv p i acc H') ⟨Nat.zero_le _, [], upd_same, h0 p _ (same_new hp _) hp upd_same⟩ (fun i H' hi ⟨_, acc, e, hP⟩ => hk p i acc H' hi hp e hP) (fun i x H' hi ⟨_, acc, e, hP⟩ => ?_) (fun H' ⟨_, acc, e, hP⟩ => hd p acc H' hp e hP)
  exact hs p i x acc H' hi hp e hP
theorem r_lcL {i0 : Nat} {a : Addr} {xs : List V} {vs : List Nat} {tt : TT} {Q : VK} (hx : σ[i0]? = some (some (.ref a))) (h : SqL K H a xs) (Pv : Addr → Nat → List V → Hp → Prop) (h0 : ∀ p H', Same H H' → H p = none → H' p = some (.lst []) → Pv p 0 [] H')
    (hk : ∀ p i acc H', i ≤ xs.length → H p = none → H' p = some (.lst acc) → Pv p i acc H' → SqL K H' a xs)
    (hs : ∀ p i x acc H', xs[i]? = some x → H p = none → H' p = some (.lst acc) → Pv p i acc H' → LcTurn g tt te vs σ p (LcNx Pv p xs.length i) x H')
    (hd : ∀ p acc H', H p = none → H' p = some (.lst acc) → Pv p xs.length acc H' → Q (.ref p) H') : tLc (iSeqU K (tVar i0)) g tt te vs σ H Q :=
  r_lcLe (fun b ys H1 => b = a ∧ ys = xs ∧ H1 = H) (fun Q q => ⟨_, hx, q a xs H ⟨rfl, rfl, rfl⟩ h⟩) fun b ys H1 ⟨e1, e2, e3⟩ _ => by
    subst e1; subst e2; subst e3
    exact ⟨Pv, h0, hk, hs, hd⟩
end

/-! ### the same rules, the written part told by its name -/
section
variable {X : Cx} {K : Fg}
theorem ixK (hK : X.K = K := by rfl) : IxR X (rIx K) := hK ▸ ix_seq
theorem op_addK (hK : X.K = K := by rfl) : OpR X (binaryOp .Add) (rAddU K) := hK ▸ op_addU
theorem op_mulK (hK : X.K = K := by rfl) : OpR X (binaryOp .Mult) (rMulU K) := hK ▸ op_mulU
theorem op_eqK (hu : X.A.units + 64 < cLine) (hK : X.K = K := by rfl) : OpR X (compareOp .Eq) (rEqU K) := hK ▸ op_eqU hu
theorem op_neK (hu : X.A.units + 64 < cLine) (hK : X.K = K := by rfl) : OpR X (compareOp .NotEq) (rNeU K) := hK ▸ op_neU hu
theorem op_inK (hu : X.A.units + 65 < cLine) (hK : X.K = K := by rfl) : OpR X (compareOp .In) (rInU K) := hK ▸ op_inU hu
theorem op_ninK (hu : X.A.units + 65 < cLine) (hK : X.K = K := by rfl) : OpR X (compareOp .NotIn) (rNinU K) := hK ▸ op_ninU hu
theorem sl_K (hK : X.K = K := by rfl) : SlR X (rSlU K) := hK ▸ sl_seqU
theorem call_lenK (hK : X.K = K := by rfl) : CallR X (.builtin "len") (rLenU K) := hK ▸ call_lenU
theorem call_listK (hK : X.K = K := by rfl) : CallR X (.type "list") (rListU K) := hK ▸ call_listU
theorem call_tupleK (hK : X.K = K := by rfl) : CallR X (.type "tuple") (rTupU K) := hK ▸ call_tupleU
theorem call_isiK1 (hK : X.K = K := by rfl) : CallR X (.builtin "isinstance") (rIsi K) := hK ▸ call_isi
theorem cr_sumK (hc : X.calm = true) (hK : X.K = K := by rfl) : CallR X (.builtin "sum") (rSum K) := hK ▸ cr_sum hc
theorem cr_maxK (hc : X.calm = true) (hK : X.K = K := by rfl) : CallR X (.builtin "max") (rMax K) := hK ▸ cr_max hc
theorem cr_minK (hc : X.calm = true) (hK : X.K = K := by rfl) : CallR X (.builtin "min") (rMin K) := hK ▸ cr_min hc
theorem cr_anyK (hc : X.calm = true) (hK : X.K = K := by rfl) : CallR X (.builtin "any") (rAny K) := hK ▸ cr_any hc
theorem cr_allK (hc : X.calm = true) (hK : X.K = K := by rfl) : CallR X (.builtin "all") (rAll K) := hK ▸ cr_all hc
theorem pi_listK {tg l : Expr} {te : TE} (h : PE X l te) (hK : X.K = K := by rfl) : PI X tg l (iSeqU K te) := hK ▸ pi_listU h
def tTr (K : Fg) (ta : TE) : TT := fun σ H Q => ta σ H fun x H' => ∃ k, TruV K x H' k ∧ Q k H'
theorem pt_truthK {a : Expr} {ta : TE} (ha : PE X a ta) (he : ∀ whole, isTrue a X.env whole = (do let v ← whole; standAt a.pos; holding [v] (truthy v))) (hK : X.K = K := by rfl) : PT X a (tTr K ta) := hK ▸ pt_truth ha he
theorem pg_tupK {es : List Expr} {k : Nat} {t : TGs} {n : Nat} {pos : Pos} (hc : X.calm = true) (h : PGs X es t)
    (hn : (assignEach es X.env).length = n := by rfl) (hst : (assignEach es X.env).findIdx? (·.1) = none := by rfl) (hK : X.K = K := by rfl) : PG X (.Tuple es k pos) (gTup K n t) := hK ▸ pg_tup hc h hn hst
theorem pe_bm0K {o : Expr} {to : TE} {name : Str} {apos cpos : Pos} {T id : String} {r : V → List V → Hp → VK → Prop} (pa : PlainAttrs T) (slot : Slot T name id) (hty : typeOf (.builtin id) = pure (.type "method_descriptor")) (hm : MtR X id r) (ho : PE X o to)
    (hbase : attributeBase o name X.env (eval o X.env) = eval o X.env := by rfl) (hline : (apos.endLine == cpos.line) = true := by rfl) (hK : X.K = K := by rfl) : PE X (.Call (.Attribute o name apos) [] [] cpos) (tBM0 K T r to) := hK ▸ pe_bm0 pa slot hty hm ho hbase hline
theorem pe_bmK {o e : Expr} {es : List Expr} {to : TE} {t : TA} {name : Str} {apos cpos : Pos} {T id : String} {r : V → List V → Hp → VK → Prop} (pa : PlainAttrs T) (slot : Slot T name id) (hty : typeOf (.builtin id) = pure (.type "method_descriptor")) (hm : MtR X id r) (ho : PE X o to) (ha : PA X (e :: es) t)
    (hbase : attributeBase o name X.env (eval o X.env) = eval o X.env := by rfl)
    (hfew : ((backTo cpos (starEach (e :: es) X.env)).all (fun x => !x.1) && (backToKw cpos (keywordEach [] X.env)).all (fun x => x.1.isSome)
      && decide ((e :: es).length + ([] : List Keyword).length + (if ([] : List Keyword).isEmpty then 0 else 1) < 30)) = true := by rfl)
    (hline : (apos.endLine == cpos.line) = true := by rfl) (hs : starEach (e :: es) X.env = (false, eval e X.env) :: starEach es X.env := by rfl) (hplain : (backTo cpos (starEach es X.env)).any (·.1) = false := by rfl) (hK : X.K = K := by rfl) :
    PE X (.Call (.Attribute o name apos) (e :: es) [] cpos) (tBM K T r to t) := hK ▸ pe_bm pa slot hty hm ho ha hbase hfew hline hs hplain
/-- pop: the last item, or the item at a place -/
def rPopU : V → List V → Hp → VK → Prop := fun x vs H Q => rPop x vs H Q ∨ rPopAt x vs H Q
end
/-! ### lists that change -/
section
variable {K : Fg} {H : Hp} {Q : VK} {l : Addr} {xs : List V} {v : V}
theorem r_tyL (h : SqL K H l xs) : tyV K "list" (.ref l) H := .inl ⟨rfl, _, h⟩
theorem r_append (h : H l = some (.lst xs)) (hz : xs.length < 1000000) (q : ∀ H', (∀ b o, b ≠ l → H b = some o → H' b = some o) → H' l = some (.lst (xs ++ [v])) → Q .non H') : rAppend (.ref l) [v] H Q :=
  ⟨l, xs, v, rfl, rfl, h, Nat.lt_trans hz (by decide), q _ (fun b o hb e => by rw [upd_ne hb]; exact e) upd_same⟩
theorem sq_at {r : Int} {n : Nat} (h0 : 0 ≤ r) (h1 : r < (n : Int)) : seqIndex? r n = some r.toNat := by
  unfold seqIndex?
  have e : (if r < 0 then r + (n : Int) else r) = r := if_neg (by omega)
  simp only [e]
  rw [if_pos]
  rw [Bool.and_eq_true]
  exact ⟨decide_eq_true h0, decide_eq_true h1⟩
theorem r_popAt {r : Int} (h : H l = some (.lst xs)) (h0 : 0 ≤ r) (h1 : r < (xs.length : Int)) (h2 : xs.length < 2 ^ 60) (q : ∀ y H', xs[r.toNat]? = some y → (∀ b o, b ≠ l → H b = some o → H' b = some o) → H' l = some (.lst (xs.eraseIdx r.toNat)) → Q y H') : rPopAt (.ref l) [.int r] H Q := by
  have hr : r.toNat < xs.length := by omega
  exact ⟨l, xs, r, r.toNat, xs[r.toNat], rfl, rfl, h, by omega, by omega, sq_at h0 h1, List.getElem?_eq_getElem hr, q _ _ (List.getElem?_eq_getElem hr) (fun b o hb e => by rw [upd_ne hb]; exact e) upd_same⟩
theorem r_slL {lo hi : Option Int} (h : SqL K H l xs) (q : ∀ p H', Same H H' → H p = none → H' p = some (.lst (cutV xs lo hi)) → Q (.ref p) H') : rSlU K (.ref l) lo hi H Q :=
  .inl ⟨l, xs, rfl, h, fun p hp => q p _ (same_new hp _) hp upd_same⟩
theorem cut_mem {lo hi : Option Int} {x : V} (h : x ∈ cutV xs lo hi) : x ∈ xs := List.mem_of_mem_drop (List.mem_of_mem_take h)
theorem cut_len {lo hi : Option Int} : (cutV xs lo hi).length ≤ xs.length := by
  unfold cutV
  rw [List.length_take, List.length_drop]
  omega
theorem r_part {i : Int} {Q : Option Int → Prop} (q : Q (some i)) : ∃ j, V.int i = .int j ∧ Q (some j) := ⟨i, rfl, q⟩
theorem perm_pop {α : Type} {xs : List α} {i : Nat} {y : α} (h : xs[i]? = some y) : (xs.eraseIdx i ++ [y]).Perm xs := by
  have hi : i < xs.length := (List.getElem?_eq_some_iff.mp h).1
  have e : xs[i] = y := (List.getElem?_eq_some_iff.mp h).2
  have e1 : xs = xs.take i ++ y :: xs.drop (i + 1) := by
    rw [← e, List.getElem_cons_drop, List.take_append_drop]
  have e2 : xs.eraseIdx i = xs.take i ++ xs.drop (i + 1) := List.eraseIdx_eq_take_drop_succ xs i
  rw [e2]
  conv => rhs; rw [e1]
  rw [List.append_assoc]
  exact List.Perm.append_left _ (List.perm_append_singleton _ _)
end

/-- list(range(..)) -/
def nwR (a b : Int) (H : Hp) (Q : VK) : Prop := RgOk a b ∧ ∀ q, H q = none → Q (.ref q) (upd H q (.lst (rgV a b)))
theorem tLstRg_eq {te : L2.St → Hp → (Int → Int → Hp → Prop) → Prop} {σ : L2.St} {H : Hp} {Q : VK} : tLstRg te σ H Q = te σ H fun a b H1 => nwR a b H1 Q := rfl
theorem r_lstR {a b : Int} {H : Hp} {Q : VK} (ha : a.natAbs < 2 ^ 60) (hb : b.natAbs < 2 ^ 24) (ha2 : 0 ≤ a) (q : ∀ p H', Same H H' → H p = none → H' p = some (.lst (rgV a b)) → Q (.ref p) H') : nwR a b H Q :=
  ⟨⟨by omega, by omega, by omega, by omega, by omega⟩, fun p hp => q p _ (same_new hp _) hp upd_same⟩
theorem r_i {n : Int} {C : Int → Prop} (q : C n) : ∃ m, V.int n = .int m ∧ C m := ⟨n, rfl, q⟩
/-! ### tests, whole -/
section
variable {K : Fg} {H : Hp} {A B : Prop} {b : Bool}
theorem t_if {c : Prop} [Decidable c] (h1 : c → A) (h2 : ¬ c → B) : ∃ k, V.bl (decide c) = V.bl k ∧ if k = true then A else B := ⟨_, rfl, r_if h1 h2⟩
theorem t_ifN {c : Prop} [Decidable c] (h1 : ¬ c → A) (h2 : c → B) : ∃ k, V.bl (!decide c) = V.bl k ∧ if k = true then A else B := ⟨_, rfl, r_ifN h1 h2⟩
theorem t_ifB (h1 : b = true → A) (h2 : b = false → B) : ∃ k, V.bl b = V.bl k ∧ if k = true then A else B := ⟨_, rfl, r_ifB h1 h2⟩
theorem t_yes {c : Prop} [Decidable c] (h : c) (q : A) : ∃ k, V.bl (decide c) = V.bl k ∧ if k = true then A else B := t_if (fun _ => q) fun n => absurd h n
theorem t_no {c : Prop} [Decidable c] (h : ¬ c) (q : B) : ∃ k, V.bl (decide c) = V.bl k ∧ if k = true then A else B := t_if (fun n => absurd n h) fun _ => q
theorem t_yesB (q : A) : ∃ k, V.bl true = V.bl k ∧ if k = true then A else B := ⟨_, rfl, by rw [if_pos rfl]; exact q⟩
theorem t_noB (q : B) : ∃ k, V.bl false = V.bl k ∧ if k = true then A else B := ⟨_, rfl, by rw [if_neg (by decide)]; exact q⟩
theorem u_yes (q : A) : ∃ k, TruV K (.bl true) H k ∧ if k = true then A else B := ⟨_, rfl, by rw [if_pos rfl]; exact q⟩
theorem u_no (q : B) : ∃ k, TruV K (.bl false) H k ∧ if k = true then A else B := ⟨_, rfl, by rw [if_neg (by decide)]; exact q⟩
/-- not f(..), f(..) True -/
theorem u_notT (q : B) : ∃ k, TruV K (.bl true) H k ∧ if (!k) = true then A else B := ⟨_, rfl, by rw [if_neg (by decide)]; exact q⟩
theorem u_notF (q : A) : ∃ k, TruV K (.bl false) H k ∧ if (!k) = true then A else B := ⟨_, rfl, by rw [if_pos (by decide)]; exact q⟩
theorem u_ifB (h1 : b = true → A) (h2 : b = false → B) : ∃ k, TruV K (.bl b) H k ∧ if k = true then A else B := ⟨_, rfl, r_ifB h1 h2⟩
theorem u_notB (h1 : b = false → A) (h2 : b = true → B) : ∃ k, TruV K (.bl b) H k ∧ if (!k) = true then A else B := ⟨_, rfl, r_ifNB h1 h2⟩
end

/-! ### unpacking -/
section
variable {K : Fg} {H : Hp} {x : V}
theorem r_un2 {d1 d2 : PyData} {C : V → V → Prop} (h : Dp K H x (.tuple [d1, d2])) (q : ∀ u v, Dp K H u d1 → Dp K H v d2 → C u v) :
    ∃ a xs, x = V.ref a ∧ SqT K H a xs ∧ xs.length = 2 ∧ ∃ v r, xs = v :: r ∧ ∃ v1 r1, r = v1 :: r1 ∧ r1 = [] ∧ C v v1 := by
  obtain ⟨a, xs, rfl, h1, h2⟩ := dp_tup h
  cases h2 with
  | cons k1 k2 => cases k2 with
    | cons k3 k4 =>
      cases k4
      exact ⟨a, _, rfl, h1, rfl, _, _, rfl, _, _, rfl, rfl, q _ _ k1 k3⟩
theorem r_un3 {d1 d2 d3 : PyData} {C : V → V → V → Prop} (h : Dp K H x (.tuple [d1, d2, d3])) (q : ∀ u v w, Dp K H u d1 → Dp K H v d2 → Dp K H w d3 → C u v w) :
    ∃ a xs, x = V.ref a ∧ SqT K H a xs ∧ xs.length = 3 ∧ ∃ v r, xs = v :: r ∧ ∃ v1 r1, r = v1 :: r1 ∧ ∃ v2 r2, r1 = v2 :: r2 ∧ r2 = [] ∧ C v v1 v2 := by
  obtain ⟨a, xs, rfl, h1, h2⟩ := dp_tup h
  cases h2 with
  | cons k1 k2 => cases k2 with
    | cons k3 k4 => cases k4 with
      | cons k5 k6 =>
        cases k6
        exact ⟨a, _, rfl, h1, rfl, _, _, rfl, _, _, rfl, _, _, rfl, rfl, q _ _ _ k1 k3 k5⟩
/-- a pair of values (of any kind) -/
theorem r_un2V {a : Addr} {u v : V} {C : V → V → Prop} (h : SqT K H a [u, v]) (q : C u v) :
    ∃ b xs, V.ref a = V.ref b ∧ SqT K H b xs ∧ xs.length = 2 ∧ ∃ v r, xs = v :: r ∧ ∃ v1 r1, r = v1 :: r1 ∧ r1 = [] ∧ C v v1 :=
  ⟨a, _, rfl, h, rfl, _, _, rfl, _, _, rfl, rfl, q⟩
end

/-! ### ways that meet -/
def tCutU (t u : TS) : TS := fun D σ H => ∃ J : L2.St → Hp → Prop, t { D with nx := J } σ H ∧ ∀ σ' H', J σ' H' → u D σ' H'
theorem ps_cutU {X : Cx} {st : Stmt} {rest : List Stmt} {t u : TS} (h1 : PS X st t) (h2 : PSs X rest u) : PSs X (st :: rest) (tCutU t u) := by
  refine ⟨fun pins s σ H D I h => ?_⟩
  obtain ⟨J, h, hJ⟩ := h
  refine wpAny_execs_cons (thn (h1.run pins s σ H { D with nx := J } I h) fun f s1 q => ?_)
  cases f with
  | next =>
    obtain ⟨σ', H', I', q⟩ := q
    exact h2.run pins s1 σ' H' D I' (hJ σ' H' q)
  | ret v => exact q
  | brk => exact q
  | cont => exact q
theorem r_cut {t u : TS} {D : Ends} {σ : L2.St} {H : Hp} (J : L2.St → Hp → Prop) (h : t { D with nx := J } σ H) (hJ : ∀ σ' H', J σ' H' → u D σ' H') : tCutU t u D σ H := ⟨J, h, hJ⟩
theorem dps_perm {K : Fg} {H : Hp} {us vs : List V} (h : us.Perm vs) : ∀ {ds : List PyData}, DpAll K H vs ds → ∃ es, es.Perm ds ∧ DpAll K H us es := by
  induction h with
  | nil => intro ds hd; cases hd; exact ⟨[], .nil, .nil⟩
  | cons x _ ih =>
    intro ds hd
    cases hd with
    | cons h1 h2 =>
      obtain ⟨es, p, q⟩ := ih h2
      exact ⟨_, p.cons _, .cons h1 q⟩
  | swap x y l =>
    intro ds hd
    cases hd with
    | cons h1 h2 => cases h2 with
      | cons h3 h4 => exact ⟨_, .swap _ _ _, .cons h3 (.cons h1 h4)⟩
  | trans _ _ h1 h2 =>
    intro ds hd
    obtain ⟨es, p, q⟩ := h2 hd
    obtain ⟨fs, p2, q2⟩ := h1 q
    exact ⟨fs, p2.trans p, q2⟩
theorem ixN_of {n : Nat} {k : Int} (h0 : 0 ≤ k) (h1 : k < (n : Int)) : ixN n k = some k.toNat := by
  unfold ixN
  rw [if_pos h0, if_pos h1]
theorem perm_map_of {α β : Type} (f : α → β) {es : List β} {xs : List α} (h : es.Perm (xs.map f)) : ∃ ys : List α, ys.Perm xs ∧ es = ys.map f := by
  have key : ∀ {as bs : List β}, as.Perm bs → ∀ xs : List α, bs = xs.map f → ∃ ys : List α, ys.Perm xs ∧ as = ys.map f := by
    intro as bs h
    induction h with
    | nil =>
      intro xs e
      have : xs = [] := by cases xs with | nil => rfl | cons _ _ => cases e
      subst this
      exact ⟨[], .nil, rfl⟩
    | cons x _ ih =>
      intro xs e
      cases xs with
      | nil => cases e
      | cons a xs =>
        injection e with e1 e2
        obtain ⟨ys, p, q⟩ := ih xs e2
        exact ⟨a :: ys, p.cons a, by rw [e1, q]; rfl⟩
    | swap x y l =>
      intro xs e
      cases xs with
      | nil => cases e
      | cons a xs =>
        cases xs with
        | nil => injection e with e1 e2; cases e2
        | cons b xs =>
          injection e with e1 e2
          injection e2 with e2 e3
          exact ⟨b :: a :: xs, .swap _ _ _, by rw [e1, e2, e3]; rfl⟩
    | trans _ _ h1 h2 =>
      intro xs e
      obtain ⟨ys, p, q⟩ := h2 xs e
      obtain ⟨zs, p2, q2⟩ := h1 ys q
      exact ⟨zs, p2.trans p, q2⟩
  exact key h xs rfl
theorem r_tupV {K : Fg} {H : Hp} {Q : VK} {vs : List V} (q : ∀ p H', Same H H' → H p = none → SqT K H' p vs → Q (.ref p) H') (hn : Nat.ble vs.length 100000 = true := by rfl) : nwT vs H Q :=
  ⟨Nat.le_trans (Nat.le_of_ble_eq_true hn) (by decide), fun p hp => q p _ (same_new hp _) hp (SqT.of upd_same)⟩
/-- z[::-1]: some text of z's signs -/
def tRevS (te : TE) : TE := fun σ H Q => te σ H fun x H1 => ∃ z : Str, x = .str z ∧ z.length ≤ sizeLine ∧ ∀ r : Str, r.length ≤ z.length → (∀ c, c ∈ r.cps.toList → c ∈ z.cps.toList) → Q (.str r) H1

/-! steps -/
local macro_rules | `(tactic| walk_at "nz") => `(tactic| try simp only [cxOf, Cx.nox, Cx.wish, tSeq, tNext, tAsg, tRet, tRetN, tDrop, tIfS, tIf, tBreak, tCont, tTest, tB, tOp, tUn, tCons, tNil, tTup_eq, tLst_eq, tC, tVar, gName, gTup, gSub, tCB, tCall, tAnd, tOr, tNot, tAndV, tOrV, tNotV, tPar, tSl, tPart, tNoPart, tBM, tBM0, tAug, ipI, iSeqU, iList, iTup, gCons, gNil, tYes, tChain, L2.start, List.set_cons_zero, List.set_cons_succ, List.getElem?_cons_zero, List.getElem?_cons_succ, Option.some.injEq, exists_eq_left', List.map_cons, List.map_nil, List.length_cons, List.length_nil, List.replicate_succ, List.replicate_zero, Nat.zero_add, Nat.reduceAdd, Nat.reduceSub, List.cons_append, List.nil_append, wipe, tTr, ↓reduceIte, true_and, V.bl.injEq, Bool.false_eq_true, tLstRg_eq, tRg1, tRg2, List.append_nil, tCKw, tM1, tM0, tRevL, tRevS, tDNewT])
local macro_rules | `(tactic| walk_at "fd") => `(tactic| first
  | assumption
  | exact .int _
  | exact .bl _
  | exact .str _
  | exact .non
  | (refine dpUp (by assumption) ?_; walk_at "fd"))
local macro_rules | `(tactic| walk_at "fds") => `(tactic| first
  | assumption
  | exact .nil
  | exact .cons (by walk_at "fd") (by walk_at "fds")
  | (refine dpsUp (by assumption) ?_; walk_at "fds"))
local macro_rules | `(tactic| walk_at "s1") => `(tactic| first
  | (with_reducible refine r_var ?_ ?_; rfl)
  | with_reducible refine r_bl ?_
  | with_reducible refine r_I0 ?_
  | with_reducible refine r_U ?_
  | (with_reducible refine r_ixTi (by walk_at "fd") (by rfl) ?_)
  | (with_reducible refine r_ixT (by walk_at "fd") (by rfl) ?_)
  | (with_reducible refine r_tru ?_))
local macro_rules | `(tactic| walk_at "ev") => `(tactic| (intro Q q; walk_at "nz"; exact q))

/-! ### keys that are compared at the first place that differs -/
section
open PySem.W
abbrev Sg := Int ⊕ List Nat
abbrev lexS (l m : List Sg) : Bool := PyProof.Rows.lexLt itemOrd l m
mutual
/-- ints, texts, tuples of keys -/
def isK : PyData → Bool
  | .int _ => true
  | .str x => PyData.strOk x
  | .tuple xs => isKs xs
  | _ => false
def isKs : List PyData → Bool
  | [] => true
  | x :: xs => isK x && isKs xs
end
mutual
/-- the first place that differs can be compared -/
def cmpK : PyData → PyData → Bool
  | .int _, .int _ => true
  | .str _, .str _ => true
  | .tuple xs, .tuple ys => cmpKs xs ys
  | _, _ => false
def cmpKs : List PyData → List PyData → Bool
  | x :: xs, y :: ys => if PyData.eqv x y = true then cmpKs xs ys else cmpK x y
  | [], _ => true
  | _ :: _, [] => true
end
theorem isK_cons {x : PyData} {xs : List PyData} (h : isKs (x :: xs) = true) : isK x = true ∧ isKs xs = true := by
  unfold isKs at h
  rwa [Bool.and_eq_true] at h
theorem isK_tup {xs : List PyData} (h : isK (.tuple xs) = true) : isKs xs = true := by
  unfold isK at h
  exact h
mutual
theorem isK_lay : ∀ x : PyData, isK x = true → x.canLay0 = true
  | .int _, _ => by unfold PyData.canLay0; rfl
  | .str _, h => by unfold PyData.canLay0; unfold isK at h; exact h
  | .tuple xs, h => by unfold PyData.canLay0; exact isKs_lay xs (isK_tup h)
  | .none, h => by unfold isK at h; cases h
  | .bool _, h => by unfold isK at h; cases h
  | .list _, h => by unfold isK at h; cases h
  | .dict _, h => by unfold isK at h; cases h
theorem isKs_lay : ∀ xs : List PyData, isKs xs = true → PyData.canLayAll0 xs = true
  | [], _ => by unfold PyData.canLayAll0; rfl
  | x :: xs, h => by
    unfold PyData.canLayAll0
    rw [Bool.and_eq_true]
    exact ⟨isK_lay x (isK_cons h).1, isKs_lay xs (isK_cons h).2⟩
end
mutual
theorem isK_noL : ∀ x : PyData, isK x = true → noL x = true
  | .int _, _ => by unfold noL; rfl
  | .str _, h => by unfold noL; rfl
  | .tuple xs, h => by unfold noL; exact isKs_noL xs (isK_tup h)
  | .none, h => by unfold isK at h; cases h
  | .bool _, h => by unfold isK at h; cases h
  | .list _, h => by unfold isK at h; cases h
  | .dict _, h => by unfold isK at h; cases h
theorem isKs_noL : ∀ xs : List PyData, isKs xs = true → noLs xs = true
  | [], _ => by unfold noLs; rfl
  | x :: xs, h => by
    unfold noLs
    rw [Bool.and_eq_true]
    exact ⟨isK_noL x (isK_cons h).1, isKs_noL xs (isK_cons h).2⟩
end
mutual
theorem eqvK : ∀ x y : PyData, isK x = true → isK y = true → (PyData.eqv x y = true ↔ x = y)
  | .int a, y, _, k => by
    cases y with
    | int b => simp [PyData.eqv]
    | str b => simp [PyData.eqv]
    | tuple b => simp [PyData.eqv]
    | _ => unfold isK at k; cases k
  | .str a, y, _, k => by
    cases y with
    | int b => simp [PyData.eqv]
    | str b => simp [PyData.eqv]
    | tuple b => simp [PyData.eqv]
    | _ => unfold isK at k; cases k
  | .tuple a, y, h, k => by
    cases y with
    | int b => simp [PyData.eqv]
    | str b => simp [PyData.eqv]
    | tuple b =>
      have e := eqvKs a b (isK_tup h) (isK_tup k)
      simp [PyData.eqv, e]
    | _ => unfold isK at k; cases k
  | .none, _, h, _ => by unfold isK at h; cases h
  | .bool _, _, h, _ => by unfold isK at h; cases h
  | .list _, _, h, _ => by unfold isK at h; cases h
  | .dict _, _, h, _ => by unfold isK at h; cases h
theorem eqvKs : ∀ xs ys : List PyData, isKs xs = true → isKs ys = true → (PyData.eqvAll xs ys = true ↔ xs = ys)
  | [], [], _, _ => by simp [PyData.eqvAll]
  | [], _ :: _, _, _ => by simp [PyData.eqvAll]
  | _ :: _, [], _, _ => by simp [PyData.eqvAll]
  | x :: xs, y :: ys, h, k => by
    have e1 := eqvK x y (isK_cons h).1 (isK_cons k).1
    have e2 := eqvKs xs ys (isK_cons h).2 (isK_cons k).2
    simp [PyData.eqvAll, e1, e2]
end
theorem eqvK_refl {x : PyData} (h : isK x = true) : PyData.eqv x x = true := (eqvK x x h h).mpr rfl
theorem eqvK_no {x y : PyData} (h : isK x = true) (k : isK y = true) (n : x ≠ y) : PyData.eqv x y = false := by
  cases e : PyData.eqv x y with
  | false => rfl
  | true => exact absurd ((eqvK x y h k).mp e) n
/-- two rows of signs that differ at a place -/
def Dif (l m : List Sg) : Prop := ∃ (p : List Sg) (a b : Sg) (r t : List Sg), l = p ++ a :: r ∧ m = p ++ b :: t ∧ a ≠ b
theorem Dif.app {l m : List Sg} (h : Dif l m) (u v : List Sg) : Dif (l ++ u) (m ++ v) := by
  obtain ⟨p, a, b, r, t, rfl, rfl, n⟩ := h
  exact ⟨p, a, b, r ++ u, t ++ v, by simp, by simp, n⟩
theorem Dif.pre {l m : List Sg} (h : Dif l m) (u : List Sg) : Dif (u ++ l) (u ++ m) := by
  obtain ⟨p, a, b, r, t, rfl, rfl, n⟩ := h
  exact ⟨u ++ p, a, b, r, t, by simp, by simp, n⟩
theorem lex_lcp (p l m : List Sg) : lexS (p ++ l) (p ++ m) = lexS l m := lex_pre p l m
theorem Dif.lex {l m : List Sg} (h : Dif l m) (u v : List Sg) : lexS (l ++ u) (m ++ v) = lexS l m := by
  obtain ⟨p, a, b, r, t, rfl, rfl, n⟩ := h
  rw [List.append_assoc, List.append_assoc, lex_lcp, lex_lcp]
  exact (lex_diff (O := itemOrd) n).trans (lex_diff (O := itemOrd) n).symm
theorem ka_nil : keyToksAll [] = [Sum.inl 0] := by simp only [keyToksAll]
theorem ka_cons (x : PyData) (xs : List PyData) : keyToksAll (x :: xs) = Sum.inl 1 :: (keyToks x ++ keyToksAll xs) := by simp only [keyToksAll]
theorem ka_tup (xs : List PyData) : keyToks (.tuple xs) = keyToksAll xs := by simp only [keyToks]
mutual
theorem dif_k : ∀ x y : PyData, isK x = true → isK y = true → cmpK x y = true → x ≠ y → Dif (keyToks x) (keyToks y)
  | .int a, y, _, k, c, n => by
    cases y with
    | int b => exact ⟨[], .inl a, .inl b, [], [], by simp [keyToks], by simp [keyToks], fun e => n (by rw [Sum.inl.inj e])⟩
    | _ => first | (unfold cmpK at c; cases c) | (unfold isK at k; cases k)
  | .str a, y, _, k, c, n => by
    cases y with
    | str b => exact ⟨[], .inr a.cps.toList, .inr b.cps.toList, [], [], by simp [keyToks], by simp [keyToks], fun e => n (by rw [str_of_cps (Sum.inr.inj e)])⟩
    | _ => first | (unfold cmpK at c; cases c) | (unfold isK at k; cases k)
  | .tuple a, y, h, k, c, n => by
    cases y with
    | tuple b =>
      rw [ka_tup, ka_tup]
      unfold cmpK at c
      exact dif_ks a b (isK_tup h) (isK_tup k) c fun e => n (by rw [e])
    | _ => first | (unfold cmpK at c; cases c) | (unfold isK at k; cases k)
  | .none, _, h, _, _, _ => by unfold isK at h; cases h
  | .bool _, _, h, _, _, _ => by unfold isK at h; cases h
  | .list _, _, h, _, _, _ => by unfold isK at h; cases h
  | .dict _, _, h, _, _, _ => by unfold isK at h; cases h
theorem dif_ks : ∀ xs ys : List PyData, isKs xs = true → isKs ys = true → cmpKs xs ys = true → xs ≠ ys → Dif (keyToksAll xs) (keyToksAll ys)
  | [], [], _, _, _, n => absurd rfl n
  | [], y :: ys, _, _, _, _ => ⟨[], .inl 0, .inl 1, [], keyToks y ++ keyToksAll ys, by rw [ka_nil]; rfl, by rw [ka_cons]; rfl, by decide⟩
  | x :: xs, [], _, _, _, _ => ⟨[], .inl 1, .inl 0, keyToks x ++ keyToksAll xs, [], by rw [ka_cons]; rfl, by rw [ka_nil]; rfl, by decide⟩
  | x :: xs, y :: ys, h, k, c, n => by
    rw [ka_cons, ka_cons]
    unfold cmpKs at c
    by_cases e : x = y
    · subst e
      rw [eqvK_refl (isK_cons h).1, if_pos rfl] at c
      exact ((dif_ks xs ys (isK_cons h).2 (isK_cons k).2 c fun z => n (by rw [z])).pre (keyToks x)).pre [Sum.inl 1]
    · rw [eqvK_no (isK_cons h).1 (isK_cons k).1 e, if_neg (by decide)] at c
      exact ((dif_k x y (isK_cons h).1 (isK_cons k).1 c e).app _ _).pre [Sum.inl 1]
end
theorem lexK_cons {x y : PyData} {xs ys : List PyData} (h : isK x = true) (k : isK y = true) (c : cmpKs (x :: xs) (y :: ys) = true) :
    (PyData.eqv x y = true → cmpKs xs ys = true ∧ lexS (keyToksAll (x :: xs)) (keyToksAll (y :: ys)) = lexS (keyToksAll xs) (keyToksAll ys)) ∧
    (PyData.eqv x y = false → cmpK x y = true ∧ lexS (keyToksAll (x :: xs)) (keyToksAll (y :: ys)) = dataLt x y) := by
  rw [ka_cons, ka_cons]
  unfold cmpKs at c
  refine ⟨fun e => ?_, fun e => ?_⟩
  · rw [if_pos e] at c
    have e2 := (eqvK x y h k).mp e
    subst e2
    exact ⟨c, (lex_lcp [Sum.inl 1] _ _).trans (lex_lcp (keyToks x) _ _)⟩
  · rw [if_neg (by rw [e]; decide)] at c
    refine ⟨c, (lex_lcp [Sum.inl 1] _ _).trans ?_⟩
    exact (dif_k x y h k c fun z => by subst z; rw [eqvK_refl h] at e; cases e).lex _ _
theorem lexK_first : ∀ xs ys : List PyData, isKs xs = true → isKs ys = true → cmpKs xs ys = true →
    SeqAt.firstLt (SeqAt.pairEq xs ys) (fun j => dataLt (xs.getD j .none) (ys.getD j .none)) (decide (xs.length < ys.length)) (List.range (min xs.length ys.length)) = lexS (keyToksAll xs) (keyToksAll ys)
  | [], [], _, _, _ => by
    have e : lexS (keyToksAll []) (keyToksAll []) = false := lex_irrefl _
    rw [e]
    simp [SeqAt.firstLt]
  | [], y :: ys, _, _, _ => by
    have e : lexS (keyToksAll []) (keyToksAll (y :: ys)) = true := by
      rw [ka_nil, ka_cons]
      exact lex_diff (O := itemOrd) (by decide)
    rw [e]
    simp [SeqAt.firstLt]
  | x :: xs, [], _, _, _ => by
    have e : lexS (keyToksAll (x :: xs)) (keyToksAll []) = false := by
      rw [ka_nil, ka_cons]
      exact lex_diff (O := itemOrd) (by decide)
    rw [e]
    simp [SeqAt.firstLt]
  | x :: xs, y :: ys, h, k, c => by
    obtain ⟨c1, c2⟩ := lexK_cons (isK_cons h).1 (isK_cons k).1 c
    have ed : decide ((x :: xs).length < (y :: ys).length) = decide (xs.length < ys.length) := by simp
    have em : min (x :: xs).length (y :: ys).length = min xs.length ys.length + 1 := by simp only [List.length_cons]; omega
    rw [em, ed, List.range_succ_eq_map]
    cases e : PyData.eqv x y with
    | true =>
      rw [(c1 e).2, ← lexK_first xs ys (isK_cons h).2 (isK_cons k).2 (c1 e).1]
      rw [SeqAt.firstLt_yes (show SeqAt.pairEq (x :: xs) (y :: ys) 0 = true from e), firstLt_map]
      rfl
    | false =>
      rw [(c2 e).2]
      exact SeqAt.firstLt_no (show SeqAt.pairEq (x :: xs) (y :: ys) 0 = false from e)
/-- t < u for tuples: the places ahead of the first one that differs are equal, there < decides -/
theorem tupLt_meets (x y : Addr) (vs ws : Array Value) (n m : Nat) (dx dy : Option Addr) (sx sy : Array (Option Value)) (eq lt : Nat → Bool) :
    Meets (Builtin.«tuple.__lt__» ⟨[.ref x, .ref y], []⟩)
      (fun A R s => s.heap.get? x = some { cls := .type "tuple", dict := dx, data := .seq vs n, slots := sx } ∧
        s.heap.get? y = some { cls := .type "tuple", dict := dy, data := .seq ws m, slots := sy } ∧
        (∀ j (h1 : j < vs.size) (h2 : j < ws.size), SeqAt.EqAt A.in1 s vs[j] ws[j] (eq j)) ∧
        (∀ j (h1 : j < vs.size) (h2 : j < ws.size), (∀ i, i < j → eq i = true) → eq j = false → SeqAt.RcLt A.in1 s vs[j] ws[j] (lt j)) ∧
        R (.ok (.ret (.bool (SeqAt.firstLt eq lt (decide (vs.size < ws.size)) (List.range (min vs.size ws.size)))))) s) :=
  .of_wp fun prog w A R s h => by
    obtain ⟨hp, g, d, tk, os⟩ := s
    obtain ⟨hl, hb, he, hr, h⟩ := h
    have f2 := AutoSeq1.sub_tuple_tuple
    have hZ : (vs.toList.zip ws.toList).length = min vs.size ws.size := by simp
    wp_walk using AutoSeq1.wpAny_loadPart' hl, AutoSeq1.wpAny_loadPart' hb, wpAny_forIn_list _ (fun rest c s' => c.1 = none ∧ s' = ⟨hp, g, d, tk, os⟩ ∧ ∃ i, rest = (vs.toList.zip ws.toList).drop i ∧ (∀ k, k < i → eq k = true) ∧
      R (.ok (.ret (.bool (SeqAt.firstLt eq lt (decide (vs.size < ws.size)) ((List.range (min vs.size ws.size)).drop i))))) ⟨hp, g, d, tk, os⟩) _
    case turn =>
      rintro ⟨p, q⟩ rest c s' ⟨hc, rfl, i, hz, hall, hR⟩
      have hlt : i < (vs.toList.zip ws.toList).length := by
        rcases Nat.lt_or_ge i (vs.toList.zip ws.toList).length with z | z
        · exact z
        · rw [List.drop_of_length_le z] at hz
          cases hz
      have hm : i < min vs.size ws.size := hZ ▸ hlt
      have h1 : i < vs.size := Nat.lt_of_lt_of_le hm (Nat.min_le_left _ _)
      have h2 : i < ws.size := Nat.lt_of_lt_of_le hm (Nat.min_le_right _ _)
      rw [List.drop_eq_getElem_cons hlt] at hz
      injection hz with hpq hrest
      have hp1 : p = vs[i] := by simpa using congrArg Prod.fst hpq
      have hq1 : q = ws[i] := by simpa using congrArg Prod.snd hpq
      subst hp1 hq1
      have hd : (List.range (min vs.size ws.size)).drop i = i :: (List.range (min vs.size ws.size)).drop (i + 1) := by
        simp [List.drop_eq_getElem_cons, hm]
      rw [hd] at hR
      refine wpAny_bind (he i h1 h2 prog w _ _ ?_)
      cases hq : eq i with
      | true =>
        rw [SeqAt.firstLt_yes hq] at hR
        wp_walk
        refine ⟨rfl, rfl, i + 1, hrest, fun k hk => ?_, hR⟩
        rcases Nat.lt_succ_iff_lt_or_eq.mp hk with z | z
        · exact hall k z
        · rw [z]; exact hq
      | false =>
        rw [SeqAt.firstLt_no hq] at hR
        have hr' : ∀ (E Q : Value → Shared → Prop), Q (.bool (lt i)) ⟨hp, g, d, tk, os⟩ → wpAny (model prog w) A.in1 (richCompare .Lt vs[i] ws[i]) Q E ⟨hp, g, d, tk, os⟩ := hr i h1 h2 hall hq prog w
        generalize richCompare .Lt vs[i] ws[i] = G at hr' ⊢
        wp_walk
        refine hr' _ _ ?_
        wp_walk
        exact ⟨_, rfl, hR⟩
    case fin =>
      rintro ⟨c1, c2⟩ s' ⟨hc, rfl, i, hz, _, hR⟩
      simp only at hc
      subst hc
      have hge : min vs.size ws.size ≤ i := by
        rcases Nat.lt_or_ge i (vs.toList.zip ws.toList).length with z | z
        · rw [List.drop_eq_getElem_cons z] at hz
          cases hz
        · exact hZ ▸ z
      rw [List.drop_of_length_le (by simpa using hge)] at hR
      wp_walk
      exact ⟨_, rfl, by simpa [Builtin.Tuple.tupleCompareSizes, SeqAt.firstLt] using hR⟩
    case h =>
      exact ⟨rfl, rfl, 0, rfl, fun _ z => absurd z (Nat.not_lt_zero _), by simpa using h⟩
theorem tupLt {A : Around} {s : Shared} {x y : Addr} {vs ws : Array Value} {eq lt : Nat → Bool} (hx : s.heap.IsTuple x vs) (hy : s.heap.IsTuple y ws) (hu : A.units < cLine)
    (he : ∀ j (h1 : j < vs.size) (h2 : j < ws.size), SeqAt.EqAt A.in1 s vs[j] ws[j] (eq j)) (hr : ∀ j (h1 : j < vs.size) (h2 : j < ws.size), (∀ i, i < j → eq i = true) → eq j = false → SeqAt.RcLt A.in1 s vs[j] ws[j] (lt j)) :
    SeqAt.RcLt A s (.ref x) (.ref y) (SeqAt.firstLt eq lt (decide (vs.size < ws.size)) (List.range (min vs.size ws.size))) := fun prog w E Q h => by
  obtain ⟨⟨c1, d1, a1, s1⟩, o1, e1, n1, f1⟩ := id hx
  obtain ⟨⟨c2, d2, a2, s2⟩, o2, e2, n2, f2⟩ := id hy
  simp only at e1 f1 e2 f2
  subst e1 f1 e2 f2
  refine richCompare_meets_room (op := .Lt) ⟨_, o1, rfl⟩ ⟨_, o2, rfl⟩ F.slot_tuple_lt F.entry_tuple_lt (F.args_tuple_lt_2 _ _) (tupLt_meets x y vs ws n1 n2 d1 d2 s1 s2 eq lt) ⟨o1, o2, he, hr, ?_⟩ hu
  exact ⟨fun z => (nomatch z), h⟩
mutual
/-- a < b -/
theorem rcK : ∀ (da db : PyData) (A : Around) (s : Shared) (a b : Value) (as bs : List Addr), Reads s.heap a da as → Reads s.heap b db bs → isK da = true → isK db = true → cmpK da db = true → A.units + min da.depth db.depth < cLine → SeqAt.RcLt A s a b (dataLt da db)
  | .int x, db, A, s, a, b, as, bs, ra, rb, _, k, c, u => by
    cases db with
    | int y => exact rcLt_alike (.int x) (.int y) A s a b as bs ra rb (by simp [alike]) (by simp) u
    | _ => first | (unfold cmpK at c; cases c) | (unfold isK at k; cases k)
  | .str x, db, A, s, a, b, as, bs, ra, rb, _, k, c, u => by
    cases db with
    | str y => exact rcLt_alike (.str x) (.str y) A s a b as bs ra rb (by simp [alike]) (by simp) u
    | _ => first | (unfold cmpK at c; cases c) | (unfold isK at k; cases k)
  | .tuple xs, db, A, s, a, b, as, bs, ra, rb, h, k, c, u => by
    cases db with
    | tuple ys =>
      unfold cmpK at c
      cases ra with
      | @tuple l o vs n _ as1 h1 h2 h3 h4 =>
        cases rb with
        | @tuple l' o' vs' n' _ bs1 k1 k2 k3 k4 =>
          have n1 : vs.size = xs.length := by simpa using SeqAt.ReadsAll.length _ _ _ h4
          have n2 : vs'.size = ys.length := by simpa using SeqAt.ReadsAll.length _ _ _ k4
          rw [dataLt_tuple]
          show SeqAt.RcLt A s _ _ (lexS _ _)
          rw [← lexK_first xs ys (isK_tup h) (isK_tup k) c, ← n1, ← n2]
          refine tupLt (eq := SeqAt.pairEq xs ys) (lt := fun j => dataLt (xs.getD j .none) (ys.getD j .none)) ⟨_, h1, h2, _, h3⟩ ⟨_, k1, k2, _, k3⟩ (SeqAt.room_here u) (fun j j1 j2 => ?_) fun j j1 j2 hall hj => ?_
          · have z := SeqAt.eqAt_readsAll xs ys A.in1 s vs.toList vs'.toList _ _ h4 k4 (isKs_lay xs (isK_tup h)) (isKs_lay ys (isK_tup k)) (SeqAt.room_in u) j (by simpa using j1) (by simpa using j2)
            simpa using z
          · have z := rcKs xs ys A.in1 s vs.toList vs'.toList _ _ h4 k4 (isK_tup h) (isK_tup k) c (SeqAt.room_in u) j (by simpa using j1) (by simpa using j2) hall hj
            simpa using z
    | _ => first | (unfold cmpK at c; cases c) | (unfold isK at k; cases k)
  | .none, _, _, _, _, _, _, _, _, _, h, _, _, _ => by unfold isK at h; cases h
  | .bool _, _, _, _, _, _, _, _, _, _, h, _, _, _ => by unfold isK at h; cases h
  | .list _, _, _, _, _, _, _, _, _, _, h, _, _, _ => by unfold isK at h; cases h
  | .dict _, _, _, _, _, _, _, _, _, _, h, _, _, _ => by unfold isK at h; cases h
theorem rcKs : ∀ (xs ys : List PyData) (A : Around) (s : Shared) (vs ws : List Value) (as bs : List Addr), ReadsAll s.heap vs xs as → ReadsAll s.heap ws ys bs → isKs xs = true → isKs ys = true → cmpKs xs ys = true →
    A.units + min (PyData.depthAll xs) (PyData.depthAll ys) < cLine → ∀ j (h1 : j < vs.length) (h2 : j < ws.length), (∀ i, i < j → SeqAt.pairEq xs ys i = true) → SeqAt.pairEq xs ys j = false → SeqAt.RcLt A s vs[j] ws[j] (dataLt (xs.getD j .none) (ys.getD j .none))
  | [], _, _, _, _, _, _, _, ra, _, _, _, _, _, j, h1, _, _, _ => by cases ra; exact absurd h1 (Nat.not_lt_zero _)
  | _ :: _, [], _, _, _, _, _, _, _, rb, _, _, _, _, j, _, h2, _, _ => by cases rb; exact absurd h2 (Nat.not_lt_zero _)
  | x :: xs, y :: ys, A, s, _, _, _, _, ra, rb, h, k, c, u, j, h1, h2, hall, hj => by
    obtain ⟨c1, c2⟩ := lexK_cons (isK_cons h).1 (isK_cons k).1 c
    cases ra with
    | cons r rs =>
      cases rb with
      | cons r' rs' =>
        cases j with
        | zero => exact rcK x y A s _ _ _ _ r r' (isK_cons h).1 (isK_cons k).1 (c2 hj).1 (SeqAt.room_head u)
        | succ j => exact rcKs xs ys A s _ _ _ _ rs rs' (isK_cons h).2 (isK_cons k).2 (c1 (hall 0 (Nat.succ_pos _))).1 (SeqAt.room_tail u) j (Nat.lt_of_succ_lt_succ h1) (Nat.lt_of_succ_lt_succ h2) (fun i hi => hall (i + 1) (Nat.succ_lt_succ hi)) hj
end
end

/-! ### sorting by such keys -/
section
open PySem.W PySem.Calls
variable {prog : Program} {w : World} {A : Around} {E : Value → Shared → Prop} {s : Shared}
theorem oneK {f : Bool} {da db : PyData} {a b : Value} {as bs : List Addr} {Q : Bool → Shared → Prop} (hf : f = true → ∀ xs, da ≠ .tuple xs) (ra : Reads s.heap a da as) (rb : Reads s.heap b db bs) (h : isK da = true) (k : isK db = true) (c : cmpK da db = true)
    (hu : A.units + min da.depth db.depth < cLine) (hq : Q (dataLt da db) s) : wpAny (model prog w) A (oneLt' f a b) Q E s := by
  cases f with
  | false =>
    rw [oneLt'_eq]
    simp only [Bool.false_eq_true, if_false]
    exact wpAny_bind (rcK da db A s a b as bs ra rb h k c hu prog w E _ (wpAny_truthy_bool hq))
  | true =>
    cases da with
    | int x =>
      cases db with
      | int y => exact oneLt_alike (f := true) (fun _ xs => by simp) ra rb (by simp [alike]) (by simp) hu hq
      | _ => first | (unfold cmpK at c; cases c) | (unfold isK at k; cases k)
    | str x =>
      cases db with
      | str y => exact oneLt_alike (f := true) (fun _ xs => by simp) ra rb (by simp [alike]) (by simp) hu hq
      | _ => first | (unfold cmpK at c; cases c) | (unfold isK at k; cases k)
    | tuple xs => exact absurd rfl (hf rfl xs)
    | _ => unfold isK at h; cases h
theorem katK {b fin : Bool} {Q : Bool → Shared → Prop} : ∀ (xs ys : List PyData) (i : Nat) (vs ws : List Value) (as bs : List Addr), ReadsAll s.heap vs xs as → ReadsAll s.heap ws ys bs → isKs xs = true → isKs ys = true → cmpKs xs ys = true →
    A.units + min (PyData.depthAll xs) (PyData.depthAll ys) < cLine → (b = true → i = 0 → ∀ x r t, xs = x :: r → x ≠ .tuple t) → fin = decide (xs.length < ys.length) → Q (lexS (keyToksAll xs) (keyToksAll ys)) s → KatLex prog w A b fin Q (vs.zip ws) i s
  | [], [], i, _, _, _, _, ra, rb, _, _, _, _, _, hf, hq => by
    cases ra
    cases rb
    subst hf
    have e : lexS (keyToksAll []) (keyToksAll []) = false := lex_irrefl _
    rw [e] at hq
    exact kat_nil hq
  | [], y :: ys, i, _, _, _, _, ra, rb, _, _, _, _, _, hf, hq => by
    cases ra
    subst hf
    have e : lexS (keyToksAll []) (keyToksAll (y :: ys)) = true := by
      rw [ka_nil, ka_cons]
      exact lex_diff (O := itemOrd) (by decide)
    rw [e] at hq
    rw [List.zip_nil_left]
    exact kat_nil (by simpa using hq)
  | x :: xs, [], i, _, _, _, _, ra, rb, _, _, _, _, _, hf, hq => by
    cases rb
    subst hf
    have e : lexS (keyToksAll (x :: xs)) (keyToksAll []) = false := by
      rw [ka_nil, ka_cons]
      exact lex_diff (O := itemOrd) (by decide)
    rw [e] at hq
    rw [List.zip_nil_right]
    exact kat_nil (by simpa using hq)
  | x :: xs, y :: ys, i, _, _, _, _, ra, rb, h, k, c, hu, hb, hf, hq => by
    obtain ⟨c1, c2⟩ := lexK_cons (isK_cons h).1 (isK_cons k).1 c
    have hf' : fin = decide (xs.length < ys.length) := by
      rw [hf]
      simp only [List.length_cons, Nat.add_lt_add_iff_right]
    cases ra with
    | cons r rs =>
      cases rb with
      | cons r' rs' =>
        rw [List.zip_cons_cons]
        refine kat_cons (SeqAt.eqAt_reads x y A s _ _ _ _ r r' (isK_lay x (isK_cons h).1) (isK_lay y (isK_cons k).1) (SeqAt.room_head hu) prog w _ _ ?_)
        cases e : PyData.eqv x y with
        | true =>
          rw [(c1 e).2] at hq
          exact kat_yes (katK xs ys (i + 1) _ _ _ _ rs rs' (isK_cons h).2 (isK_cons k).2 (c1 e).1 (SeqAt.room_tail hu) (fun _ z => absurd z (Nat.succ_ne_zero i)) hf' hq)
        | false =>
          rw [(c2 e).2] at hq
          refine kat_no (oneK (fun z t => ?_) r r' (isK_cons h).1 (isK_cons k).1 (c2 e).1 (SeqAt.room_head hu) hq)
          rw [Bool.and_eq_true] at z
          exact hb z.1 (by simpa using z.2) x xs t rfl
/-- keys by which a list can be sorted -/
structure KOk (ds : List PyData) : Prop where
  isk : ∀ d, d ∈ ds → isK d = true ∧ d.depth ≤ 60
  cmp : ∀ d, d ∈ ds → ∀ d', d' ∈ ds → cmpK d d' = true
  kind : ds.length ≤ 1 ∨ (∃ T, ∀ d, d ∈ ds → ∃ x r, d = .tuple (x :: r) ∧ dataType x = T) ∨ ∃ T, (T != Value.type "tuple") = true ∧ ∀ d, d ∈ ds → dataType d = T
theorem kind_of {h : Heap} {ds : List PyData} {v : Value} {d : PyData} {as : List Addr} (hd : d ∈ ds) (r : Reads h v d as) : (dataKind h ds).keyOf v = some (keyToks d) := by
  have q : ∃ d, d ∈ ds ∧ ∃ as, Reads h v d as := ⟨d, hd, as, r⟩
  have e : (dataKind h ds).keyOf v = some (keyToks q.choose) := by
    unfold dataKind
    exact dif_pos q
  obtain ⟨_, as', r2⟩ := q.choose_spec
  rw [e, (Reads.unique r2 _ _ r).1]
theorem sortsK {vs : List Value} {ds : List PyData} (e : EachIs (fun v d => ∃ as, Reads s.heap v d as) vs ds) (ok : KOk ds) (hu : A.units + 64 < cLine) : SortsAt prog w A s (dataKind s.heap ds) vs := by
  have room : ∀ {d d' : PyData}, d ∈ ds → A.units + min d.depth d'.depth < cLine := fun {d d'} hd => by
    have h1 := (ok.isk d hd).2
    have h2 := Nat.min_le_left d.depth d'.depth
    omega
  refine ⟨fun v hv => ?_, ?_⟩
  · obtain ⟨d, hd, as, r⟩ := e.left v hv
    exact ⟨_, kind_of hd r⟩
  rcases ok.kind with h1 | ⟨T, hT⟩ | ⟨T, nT, hT⟩
  · refine ⟨general', fun E x y a b Q ha hb hq => ?_, fun h2 => absurd h2 (by rw [e.length]; omega)⟩
    obtain ⟨d, as, hd, ra, rfl⟩ := dataKind_inv ha
    obtain ⟨d', as', hd', rb, rfl⟩ := dataKind_inv hb
    show wpAny (model prog w) A (oneLt' false x y) Q E s
    exact oneK (fun z => nomatch z) ra rb (ok.isk d hd).1 (ok.isk d' hd').1 (ok.cmp d hd d' hd') (room hd) hq
  · refine ⟨tuples' (T != Value.type "tuple"), fun E x y a b Q ha hb hq => ?_, fun h2 E Q hq => ?_⟩
    · obtain ⟨d, as, hd, ra, rfl⟩ := dataKind_inv ha
      obtain ⟨d', as', hd', rb, rfl⟩ := dataKind_inv hb
      have hr := room (d' := d') hd
      have hc := ok.cmp d hd d' hd'
      have i1 := (ok.isk d hd).1
      have i2 := (ok.isk d' hd').1
      obtain ⟨x1, r1, rfl, t1⟩ := hT d hd
      obtain ⟨x2, r2, rfl, t2⟩ := hT d' hd'
      have hq2 : Q (dataLt (.tuple (x1 :: r1)) (.tuple (x2 :: r2))) s := hq
      rw [dataLt_tuple] at hq2
      unfold cmpK at hc
      cases ra with
      | @tuple l o xs n _ _ g1 g2 g3 g4 =>
        cases rb with
        | @tuple l' o' xs' n' _ _ k1 k2 k3 k4 =>
          have n1 : xs.size = (x1 :: r1).length := by simpa using SeqAt.ReadsAll.length _ _ _ g4
          have n2 : xs'.size = (x2 :: r2).length := by simpa using SeqAt.ReadsAll.length _ _ _ k4
          have hr2 := SeqAt.room_in hr
          refine kat_lt g1 g3 k1 k3 (katK (x1 :: r1) (x2 :: r2) 0 _ _ _ _ g4 k4 (isK_tup i1) (isK_tup i2) hc ?_ (fun hb _ x r t ex => ?_) (by rw [n1, n2]) hq2)
          · have e1 : A.in1.units = A.units + 1 := rfl
            omega
          · obtain ⟨rfl, rfl⟩ := List.cons.inj ex
            rw [← t1] at hb
            exact dataType_tuple hb t
    · obtain ⟨fs, t1, t2, t3⟩ := each_katTups e fun d hd => by
        obtain ⟨x, r, q, _⟩ := hT d hd
        exact ⟨x, r, q⟩
      refine kat_kind (T := T) t1 (by omega) (fun f hf => ?_) (beq_self_eq_true _) hq
      obtain ⟨x, r, as, m1, m2⟩ := t3 f hf
      obtain ⟨x', r', q, q2⟩ := hT _ m1
      injection q with q
      injection q with q3 q4
      rw [← q2, ← q3]
      exact looks_reads m2
  · refine ⟨oneType', fun E x y a b Q ha hb hq => ?_, fun h2 E Q hq => ?_⟩
    · obtain ⟨d, as, hd, ra, rfl⟩ := dataKind_inv ha
      obtain ⟨d', as', hd', rb, rfl⟩ := dataKind_inv hb
      rw [keyLt'_oneType]
      exact oneK (fun _ => dataType_tuple (by rw [hT d hd]; exact nT)) ra rb (ok.isk d hd).1 (ok.isk d' hd').1 (ok.cmp d hd d' hd') (room hd) hq
    · refine kas_kind (T := T) h2 (fun v hv => ?_) nT (beq_self_eq_true _) hq
      obtain ⟨d, hd, as, r⟩ := e.left v hv
      rw [← hT d hd]
      exact looks_reads r
end

/-! ### sorted(l, key=f), f a def -/
section
open PySem.W PySem.Calls
variable {prog : Program} {w : World} {A : Around} {E : Value → Shared → Prop} {s : Shared} {P : PySem.Fin → Shared → Prop}
/-- what lies behind a sort: the keys' list is empty, the list holds out, all else stays -/
def SrtEnd (a kS : Addr) (out : List Value) (s : Shared) (P : PySem.Fin → Shared → Prop) : Prop :=
  ∀ (g1 g2 : Heap) (tk c d : Nat), (∀ b o, b ≠ kS → s.heap.get? b = some o → g1.get? b = some o) → g1.get? kS = some (seqObj "list" #[] c) → (∀ b o, b ≠ a → g1.get? b = some o → g2.get? b = some o) → g2.get? a = some (seqObj "list" out.toArray d) →
    P (.done (.ret .none)) { s with heap := g2, toks := tk }
theorem srt_tail {a kS : Addr} {b : Bool} {ks : Array Value} {n m : Nat} {st : SortSt} {out : List Value} (nk : s.heap.get? kS = some (seqObj "list" ks n)) (na : s.heap.get? a = some (seqObj "list" #[] m)) (hne : kS ≠ a)
    (z1 : ks.size ≤ sizeLine) (z2 : out.length ≤ sizeLine) (nf : failedOf st = none) (ho : (if b = true then ((arrOf st).map (·.2)).reverse else (arrOf st).map (·.2)) = out.toArray) (h : SrtEnd a kS out s P) : wpAny (model prog w) A (ksk_tail a b m (.ref kS) st) P E s := by
  have k1 := Heap.SameBut.update s.heap kS (Obj.mapSeq fun _ => (#[] : Array Value))
  obtain ⟨c, hc⟩ : ∃ c, (s.heap.update kS (Obj.mapSeq fun _ => (#[] : Array Value))).get? kS = some (seqObj "list" #[] c) := ⟨_, get?_update_seq nk fun _ => (#[] : Array Value)⟩
  generalize hg : s.heap.update kS (Obj.mapSeq fun _ => (#[] : Array Value)) = g at k1 hc
  have n1 : g.get? a = some (seqObj "list" #[] m) := (k1.2 a hne.symm).trans na
  have k2 := Heap.SameBut.update g a (Obj.mapSeq fun _ => out.toArray)
  obtain ⟨d, hd⟩ : ∃ d, (g.update a (Obj.mapSeq fun _ => out.toArray)).get? a = some (seqObj "list" out.toArray d) := ⟨_, get?_update_seq n1 fun _ => out.toArray⟩
  have z3 : out.toArray.size ≤ sizeLine + 1 := by rw [List.size_toArray]; omega
  unfold ksk_tail
  try dsimp only
  rw [ho]
  refine wpAny_bind (listUpdate_at nk rfl (hsz := z1) (hsz2 := Nat.zero_le _) ?_)
  rw [hg]
  refine wpAny_bind (wpAny_letGo (wpAny_bind (seqEpoch_at n1 rfl (wpAny_bind (listUpdate_at n1 rfl (hsz := Nat.zero_le _) (hsz2 := z3) ?_)))))
  rw [nf]
  simp only [bne_self_eq_false, Bool.false_eq_true, ↓reduceIte]
  exact wpAny_pure (h g _ s.toks c d (fun b o n e => (k1.2 b n).trans e) hc (fun b o n e => (k2.2 b n).trans e) hd)
theorem srt_end {κ : PyProof.Rows.KeyKind} {a kS : Addr} {b : Bool} {ks : Array Value} {vs : List Value} {n m : Nat} (nk : s.heap.get? kS = some (seqObj "list" ks n)) (na : s.heap.get? a = some (seqObj "list" #[] m)) (hne : kS ≠ a)
    (S : SortsAt prog w A s κ ks.toList) (hsz : ks.size = vs.length) (hZ : vs.length ≤ sizeLine) (h : SrtEnd a kS (sortVals κ b ks.toList vs) s P) : wpAny (model prog w) A (ksk_end a b vs.toArray m (.ref kS) ks) P E s := by
  obtain ⟨kd, h1, h2⟩ := S.kind
  have hl : ks.toList.length = vs.length := by rw [Array.length_toList, hsz]
  have hK := keysOf_zip (vs := vs) S.keys
  have zo : (sortVals κ b ks.toList vs).length ≤ sizeLine := by rw [sortVals_length b hl]; exact hZ
  have zk : ks.size ≤ sizeLine := by rw [hsz]; exact hZ
  obtain ⟨a0, e0⟩ : ∃ a0, (if b = true then (ks.zip vs.toArray).reverse else ks.zip vs.toArray) = a0 := ⟨_, rfl⟩
  have pm : a0.Perm (ks.zip vs.toArray) := by
    rw [← e0]
    cases b with
    | false => exact Array.Perm.refl _
    | true => exact Array.perm_iff_toList_perm.mpr (by rw [if_pos rfl, Array.toList_reverse]; exact List.reverse_perm _)
  have sz : a0.size = vs.length := by rw [pm.size_eq, Array.size_zip, hsz, List.size_toArray, Nat.min_self]
  have fin : ∀ st : SortSt, (arrOf st).Perm a0 → SortedToK κ (arrOf st) a0.size → Stable κ (arrOf st) a0 → (if b = true then ((arrOf st).map (·.2)).reverse else (arrOf st).map (·.2)) = (sortVals κ b ks.toList vs).toArray := by
    intro st p1 p2 p3
    rw [← e0] at p1 p2 p3
    have e := congrArg List.toArray (sort_out (rev := b) (keys := ks) (items := vs.toArray) (xs := arrOf st) (κ := κ) hK p1 p2 p3)
    rwa [Array.toArray_toList] at e
  have skip : ∀ t : Sem PySem.Fin, wpAny (model prog w) A t P E s → wpAny (model prog w) A (if b = true then (do let _ ← rule "list.sort.reverse"; t) else t) P E s := by
    intro t ht
    cases b with
    | true => exact wpAny_bind (wpAny_rule ht)
    | false => exact ht
  unfold ksk_end
  try dsimp only
  refine skip _ ?_
  rw [e0]
  by_cases h3 : vs.toArray.size < 2
  · rw [if_pos h3, if_pos h3]
    refine wpAny_bind (wpAny_pure ?_)
    rw [StateT.run_pure]
    refine wpAny_bind (wpAny_pure ?_)
    try dsimp only
    refine srt_tail (st := SortSt.mk' general' a0 #[] 7 none) nk na hne zk zo rfl (fin _ (Array.Perm.refl _) (fun i j hi hj => ?_) (Stable.refl _)) h
    rw [sz] at hj
    rw [List.size_toArray] at h3
    have : i = j := by omega
    subst this
    exact KeyOrd.kle_refl _
  · rw [if_neg h3, if_neg h3]
    rw [List.size_toArray] at h3
    refine wpAny_bind (h2 (by omega) _ (wpAny_bind (wpAny_mono (Q := fun (r : Unit × SortSt) s' => s' = s ∧ failedOf r.2 = none ∧ (if b = true then ((arrOf r.2).map (·.2)).reverse else (arrOf r.2).map (·.2)) = (sortVals κ b ks.toList vs).toArray) (E := E) ?_ ?_ fun _ _ e => e)))
    · refine wpAny_mono (H.wpS_sortRunsSt (κ := κ) (kd := kd) (a₀ := a0) (st := SortSt.mk' kd a0 #[] 7 none) (Q := fun _ st => failedOf st = none ∧ (if b = true then ((arrOf st).map (·.2)).reverse else (arrOf st).map (·.2)) = (sortVals κ b ks.toList vs).toArray)
        h1 (hK.perm pm) ⟨Array.Perm.refl _, rfl, rfl⟩ rfl (Stable.refl _) (by rw [sz]; omega) fun st q1 q2 q3 q4 => ⟨q2, fin st q1 q3 q4⟩) ?_ fun _ _ e => e
      rintro ⟨⟨⟩, st⟩ s2 ⟨rfl, hf, ho⟩
      exact ⟨rfl, hf, ho⟩
    · rintro ⟨⟨⟩, st⟩ s2 ⟨rfl, hf, ho⟩
      try dsimp only at ho hf ⊢
      exact srt_tail nk na hne zk zo hf ho h
end

section
open PySem.W PySem.Calls
variable {X : Cx} {pins : List (Addr × Obj)} {σ : L2.St} {H : Hp} {s : Shared} {k : Nat} {f : Addr} {fd : FuncData} {ps : List Str} {sp : Sp} {β : Type} {R : V → β → Prop} {key : β → PyData} {bs : List β} {xs : List V} {vs : List Value} {a kS : Addr} {b : Bool}
theorem each_take {α γ : Type} {R : α → γ → Prop} {x : α} {y : γ} : ∀ {as : List α} {cs : List γ}, EachIs R as cs → R x y → EachIs R (as ++ [x]) (cs ++ [y])
  | _, _, .nil, h => .cons h .nil
  | _, _, .cons h t, q => .cons h (each_take t q)
theorem each_at {α γ : Type} {R : α → γ → Prop} : ∀ {as : List α} {cs : List γ}, EachIs R as cs → ∀ {i : Nat} {x : α} {y : γ}, as[i]? = some x → cs[i]? = some y → R x y
  | _, _, .nil, i, x, y, h, _ => by simp at h
  | _, _, .cons h t, 0, x, y, hx, hy => by
    cases Option.some.inj hx
    cases Option.some.inj hy
    exact h
  | _, _, .cons h t, i + 1, x, y, hx, hy => each_at t (i := i) (by simpa using hx) (by simpa using hy)
theorem vals_at : ∀ {xs : List V} {vs : List Value}, Vals xs vs → ∀ {i : Nat} {v : Value}, vs[i]? = some v → ∃ x, xs[i]? = some x ∧ RelV x v
  | _, _, .nil, i, v, h => by simp at h
  | _, _, .cons h t, 0, v, hv => by
    cases Option.some.inj hv
    exact ⟨_, rfl, h⟩
  | _, _, .cons h t, i + 1, v, hv => by
    obtain ⟨x, e, r⟩ := vals_at t (i := i) (by simpa using hv)
    exact ⟨x, by simpa using e, r⟩
theorem vals_snoc {x : V} {v : Value} : ∀ {xs : List V} {vs : List Value}, Vals xs vs → RelV x v → Vals (xs ++ [x]) (vs ++ [v])
  | _, _, .nil, h => .cons h .nil
  | _, _, .cons h t, q => .cons h (vals_snoc t q)
theorem each_up {α γ δ : Type} {R : α → γ → Prop} {S : δ → α → Prop} : ∀ {ds : List δ} {as : List α} {cs : List γ}, EachIs S ds as → EachIs R as cs → EachIs (fun d c => ∃ x, S d x ∧ R x c) ds cs
  | _, _, _, .nil, .nil => .nil
  | _, _, _, .cons h t, .cons h' t' => .cons ⟨_, h, h'⟩ (each_up t t')
theorem vals_each : ∀ {xs : List V} {vs : List Value}, Vals xs vs → EachIs (fun v x => RelV x v) vs xs
  | _, _, .nil => .nil
  | _, _, .cons h t => .cons h (vals_each t)
theorem each_vals {γ : Type} {R : V → γ → Prop} : ∀ {vs : List Value} {cs : List γ}, EachIs (fun v c => ∃ x, RelV x v ∧ R x c) vs cs → ∃ xs, Vals xs vs ∧ EachIs R xs cs
  | _, _, .nil => ⟨[], .nil, .nil⟩
  | _, _, .cons ⟨x, h, h'⟩ t => by
    obtain ⟨xs, q, q'⟩ := each_vals t
    exact ⟨x :: xs, .cons h q, .cons h' q'⟩
theorem each_noL {K : Fg} {H H' : Hp} (e : TSame K H H') : ∀ {ks : List V} {cs : List β}, (∀ c, c ∈ cs → noL (key c) = true) → EachIs (fun y c => Dp K H y (key c)) ks cs → EachIs (fun y c => Dp K H' y (key c)) ks cs
  | _, _, _, .nil => .nil
  | _, _, n, .cons h t => .cons (dp_monoT e _ _ (n _ List.mem_cons_self) h) (each_noL e (fun c hc => n c (List.mem_cons_of_mem _ hc)) t)
/-- the key's call, inside the sort -/
theorem key_call (F : FnOk X.prog X.w X.K X.mg X.base CX0 k f fd ps sp) (hr : Room (k + 2) X.A) (hb : Binds X.K fd ps []) (I : Inv X pins σ H s) {x : V} {v : Value} {Q : VK} (r : RelV x v) (h : sp [x] H Q fun _ _ _ => False) :
    wpAny (model X.prog X.w) X.A.in1.in1 (call (.ref f) [v]) (EP X pins σ Q) (fun _ _ => False) s := by
  have hl : ([v] ++ ([] : List Value)).length = ps.length := F.len _ _ _ _ h
  have hr2 : Room k X.A.in1.in1 := Room.in1 (Room.in1 hr)
  refine wpAny_call (codeAny_mono (F.run X.A.in1.in1 X.stack s H ⟨[v], []⟩ ([v] ++ []) [x] Q (fun _ _ _ => False) hr2 I.env0.in1.in1 (hb s [v] I.kIn hl) (.cons r .nil) h) fun r s' hq => ?_)
  cases r with
  | error e => exact hq.elim
  | ok fl =>
    cases fl with
    | ret u => exact I.after hq
    | next => exact hq.elim
    | brk => exact hq.elim
    | cont => exact hq.elim
theorem srt_rest {H0 : Hp} {m : Nat} {Pn : PySem.Fin → Shared → Prop} {E : Value → Shared → Prop} (F : FnOk X.prog X.w X.K X.mg X.base CX0 k f fd ps sp) (hr : Room (k + 2) X.A) (hb : Binds X.K fd ps [])
    (I : Inv X ((a, seqObj "list" #[] m) :: pins) σ H s) (fp : FpOk X pins H0 a) (hk : H kS = some (.lst [])) (h0 : H0 kS = none) (hs : Same H0 H) (rv : Vals xs vs) (re : EachIs R xs bs) (hZ : xs.length ≤ 1000000) (ok : KOk (bs.map key))
    (turn : ∀ (i : Nat) (x : V) (c : β) (H' : Hp), xs[i]? = some x → bs[i]? = some c → Same H0 H' → ∀ Q : VK, (∀ y H'', Same H' H'' → Dp X.K H'' y (key c) → Q y H'') → sp [x] H' Q fun _ _ _ => False)
    (h : ∀ H' ys s', Inv X pins σ H' s' → Same H0 H' → H' a = some (.lst ys) → EachIs R ys (bs.mergeSort (dataLe b key)) → Pn (.done (.ret .none)) s') :
    wpAny (model X.prog X.w) X.A.in1.in1 (ksk_rest a (.ref f) b vs.toArray m (.ref kS)) Pn E s := by
  have hlen : xs.length = bs.length := re.length
  have hvl : xs.length = vs.length := rv.length
  have nl : ∀ c, c ∈ bs → noL (key c) = true := fun c hc => isK_noL _ (ok.isk _ (List.mem_map_of_mem hc)).1
  have hne : kS ≠ a := by
    intro e
    rw [e] at hk
    have z := (I.pin (a, seqObj "list" #[] m) (List.mem_append_right _ List.mem_cons_self)).2.1
    rw [show H a = none from z] at hk
    cases hk
  have sl : (1000000 : Nat) ≤ sizeLine := by rw [sizeLine_eq]; omega
  unfold ksk_rest
  refine wpAny_bind (wpAny_rule ?_)
  first
    | rw [List.forIn_toArray]
    | (rw [← Array.forIn_toList]; simp only [List.toList_toArray])
    | rw [← Array.forIn_toList]
  refine wpAny_bind (ksk_fold (fun i s' => ∃ H' ks, Inv X ((a, seqObj "list" #[] m) :: pins) σ H' s' ∧ H' kS = some (.lst ks) ∧ Same H0 H' ∧ EachIs (fun y c => Dp X.K H' y (key c)) ks (bs.take i)) vs 0 s
    ⟨H, [], I, hk, hs, by rw [List.take_zero]; exact .nil⟩ ?stp ?dn)
  case stp =>
    rintro j v s' hv ⟨H', ks, I', hk', hs', he⟩
    simp only [Nat.zero_add] at he ⊢
    obtain ⟨x, hx, hrel⟩ := vals_at rv hv
    have hj : j < xs.length := (List.getElem?_eq_some_iff.mp hx).1
    obtain ⟨c, hc⟩ : ∃ c, bs[j]? = some c := ⟨_, List.getElem?_eq_getElem (by omega)⟩
    have hkl : ks.length < 1000000 := by
      have z := he.length
      rw [List.length_take] at z
      omega
    refine wpAny_bind (wpAny_attempt (wpAny_mono (key_call F hr hb I' hrel (turn j x c H' hx hc hs' (fun y H'' => Same H' H'' ∧ Dp X.K H'' y (key c)) fun y H'' q1 q2 => ⟨q1, q2⟩)) (fun u s2 hu => ?_) fun _ _ z => z.elim))
    obtain ⟨y, H'', I2, ry, sm, dy⟩ := hu
    try dsimp only
    have hk2 : H'' kS = some (.lst ks) := sm _ _ hk'
    obtain ⟨_, its, n, rk, hg⟩ := (show ObjOk X.prog X.w H'' s2.heap kS (.lst ks) from I2.hok kS _ hk2)
    have hg' : s2.heap.get? kS = some (seqObj "list" its.toArray n) := hg
    have hil : its.length = ks.length := rk.length.symm
    have sb := Heap.SameBut.update s2.heap kS (Obj.mapSeq (·.push u))
    obtain ⟨n2, hg2⟩ : ∃ n2, (s2.heap.update kS (Obj.mapSeq (·.push u))).get? kS = some (seqObj "list" (its.toArray.push u) n2) := ⟨_, get?_update_seq hg' (·.push u)⟩
    refine wpAny_bind (listUpdate_at hg' rfl (hsz := by rw [List.size_toArray]; omega) (hsz2 := by rw [Array.size_push, List.size_toArray]; omega) (wpAny_pure ⟨rfl, ?_⟩))
    have kp : ∀ b o, b ≠ kS → H'' b = some o → upd H'' kS (.lst (ks ++ [y])) b = some o := fun b o hb e => by rw [upd_ne hb]; exact e
    have ts : TSame X.K H'' (upd H'' kS (.lst (ks ++ [y]))) := fun z zs q => by
      rcases q with (q | ⟨o, q⟩) | q
      · exact .inl (.inl (kp _ _ (by rintro rfl; rw [hk2] at q; cases q) q))
      · exact .inl (.inr ⟨o, kp _ _ (by rintro rfl; rw [hk2] at q; cases q) q⟩)
      · exact .inr q
    refine ⟨upd H'' kS (.lst (ks ++ [y])), ks ++ [y], I2.write (x := kS) (e := kS) (t' := s2.toks) (by rw [hk2]; trivial) (.inl rfl) (fun b u hb e => (sb.2 b hb).trans e) ⟨_, hg2⟩ ⟨?_, its ++ [u], n2, vals_snoc rk ry, ?_⟩, upd_same, fun b o e => ?_, ?_⟩
    · rw [List.length_append]
      have : [y].length = 1 := rfl
      omega
    · rw [hg2]
      simp [seqObj]
    · exact kp b o (by rintro rfl; rw [h0] at e; cases e) (sm _ _ (hs' _ _ e))
    · have e1 : bs.take (j + 1) = bs.take j ++ [c] := by rw [List.take_add_one, hc]; rfl
      rw [e1]
      refine each_take ?_ (dp_monoT ts _ _ (nl c (List.mem_of_getElem? hc)) dy)
      exact each_noL ts (fun c hc => nl c (List.mem_of_mem_take hc)) (he.mono fun _ _ q => dpUp sm q)
  case dn =>
    rintro s' ⟨H', ks, I', hk', hs', he⟩
    rw [Nat.zero_add, List.take_of_length_le (by omega)] at he
    obtain ⟨_, its, n, rk, hg⟩ := (show ObjOk X.prog X.w H' s'.heap kS (.lst ks) from I'.hok kS _ hk')
    have hg' : s'.heap.get? kS = some (seqObj "list" its.toArray n) := hg
    have hil : its.length = ks.length := rk.length.symm
    have pin := I'.pin (a, seqObj "list" #[] m) (List.mem_append_right _ List.mem_cons_self)
    have na : s'.heap.get? a = some (seqObj "list" #[] m) := pin.1
    have hkl : ks.length = bs.length := he.length
    try dsimp only
    refine wpAny_bind (listItems_at hg' rfl ?_)
    have hE : EachIs (fun v d => ∃ as, Reads s'.heap v d as) its (bs.map key) := by
      refine each_map (R := fun v d => ∃ as, Reads s'.heap v d as) key ((each_up (vals_each rk) he).mono ?_)
      rintro v c ⟨y, r1, r2⟩
      exact Dp.reads I' _ _ _ r2 r1
    have un := hr.un
    have hS : SortsAt X.prog X.w X.A.in1.in1 s' (dataKind s'.heap (bs.map key)) its.toArray.toList := by
      rw [List.toList_toArray]
      refine sortsK hE ok ?_
      show X.A.units + 1 + 1 + 64 < cLine
      omega
    refine srt_end hg' na hne hS (by rw [List.size_toArray]; omega) (by omega) fun g1 g2 tk c d q1 q2 q3 q4 => ?_
    have I2 : Inv X ((a, seqObj "list" #[] m) :: pins) σ (upd H' kS (.lst [])) { s' with heap := g1, toks := s'.toks } :=
      I'.write (x := kS) (e := kS) (t' := s'.toks) (by rw [hk']; trivial) (.inl rfl) q1 ⟨_, q2⟩ ⟨Nat.zero_le _, [], c, .nil, q2⟩
    have I3 : Inv X pins σ (upd H' kS (.lst [])) { s' with heap := g1, toks := s'.toks } := I2.pins_of fun p hp => I2.pin p (List.mem_append_right _ (List.mem_cons_of_mem _ hp))
    have pin2 := I2.pin (a, seqObj "list" #[] m) (List.mem_append_right _ List.mem_cons_self)
    have hR : EachIs (fun v c => ∃ x, RelV x v ∧ R x c) vs bs := each_up (vals_each rv) re
    have hO : EachIs (fun v c => ∃ x, RelV x v ∧ R x c) (sortVals (dataKind s'.heap (bs.map key)) b its.toArray.toList vs) (bs.mergeSort (dataLe b key)) := by
      refine sortVals_each (κ := dataKind s'.heap (bs.map key)) (fun c => keyToks (key c)) hR (each_of_map (R := fun v d => (dataKind s'.heap (bs.map key)).keyOf v = some (keyToks d)) key ?_)
      rw [List.toList_toArray]
      exact (each_mem hE).mono fun v d ⟨⟨as, r⟩, hd⟩ => kind_of hd r
    obtain ⟨ys, v1, v2⟩ := each_vals hO
    have yl : ys.length ≤ sizeLine := by
      have z := v2.length
      rw [List.length_mergeSort] at z
      omega
    have I4 := I3.take (it := a) (o := .lst ys) (h' := g2) (t' := tk) q3 ⟨pin2.2.1, fp.2⟩ ⟨yl, _, d, v1, q4⟩
    refine h _ ys _ I4 (fun b o e => ?_) upd_same v2
    have n1 : b ≠ a := by rintro rfl; rw [fp.1] at e; cases e
    have n2 : b ≠ kS := by rintro rfl; rw [h0] at e; cases e
    rw [upd_ne n1, upd_ne n2]
    exact hs' _ _ e
end

section
open PySem.W PySem.Calls
variable {X : Cx} {k : Nat} {f : Addr} {fd : FuncData} {ps : List Str} {sp : Sp}
/-- sorted(l, key=f): items that go together with bs, f's key of an item of c is key c -/
def rSortBy (K : Fg) (f : Addr) (sp : Sp) : List V → List V → Hp → VK → Prop := fun us zs H Q => ∃ (β : Type) (R : V → β → Prop) (key : β → PyData) (bs : List β) (a : Addr) (xs : List V), us = [.ref a] ∧ zs = [.ref f] ∧ SqL K H a xs ∧ EachIs R xs bs ∧ xs.length ≤ 1000000 ∧ KOk (bs.map key) ∧
  (∀ (x : V) (c : β) (H' : Hp), x ∈ xs → c ∈ bs → R x c → Same H H' → ∀ Q' : VK, (∀ y H'', Same H' H'' → Dp K H'' y (key c) → Q' y H'') → sp [x] H' Q' fun _ _ _ => False) ∧
  ∀ p H' ys, Same H H' → H p = none → H' p = some (.lst ys) → EachIs R ys (bs.mergeSort (dataLe false key)) → Q (.ref p) H'
theorem cr_sortBy (F : FnOk X.prog X.w X.K X.mg X.base CX0 k f fd ps sp) (hr : Room (k + 2) X.A) (hb : Binds X.K fd ps []) : CallRK X (.builtin "sorted") [Str.ofString "key"] (rSortBy X.K f sp) := by
  intro pins s σ H us zs ws zw Q I r rz h
  obtain ⟨β, R, key, bs, a, xs, rfl, rfl, hs, re, hz, ok, turn, q⟩ := h
  obtain rfl := Vals.ref1 r
  obtain ⟨w1, rfl, e1⟩ := vals1 rz
  obtain rfl : w1 = Value.ref f := e1
  obtain ⟨its, rv, hl, hz2⟩ := I.list hs
  have hlist : s.heap.IsList a its.toArray := hl.isList
  have nz : s.heap.objs.size ≤ s.heap.objs.size + 1 := Nat.le_succ _
  have ha0 : H (s.heap.objs.size + 1) = none := I.hok.fresh nz
  refine sorted_of_sort hlist (by rw [← rv.length]; exact hz2) (PyProof.Rows.ksk_s1 _ _) (fun _ => PyProof.Rows.ksk_l1 _ _) fun E' => ?_
  show wpAny _ _ (Builtin.«list.sort» ⟨[.ref (s.heap.objs.size + 1)], [(Str.ofString "key", .ref f)]⟩) _ _ _
  rw [PyProof.Rows.ksk_t1 f (s.heap.objs.size + 1)]
  have ho := copyHeap_at s.heap its
  obtain ⟨m, ho1⟩ : ∃ m, ((copyHeap s.heap its).update (s.heap.objs.size + 1) (Obj.mapSeq fun _ => (#[] : Array Value))).get? (s.heap.objs.size + 1) = some (seqObj "list" #[] m) := ⟨_, get?_update_seq ho fun _ => (#[] : Array Value)⟩
  have il : its.length ≤ sizeLine := by rw [← rv.length]; exact hz2
  have zi : its.toArray.size ≤ sizeLine := by rw [List.size_toArray]; exact il
  unfold ksk_tree
  refine wpAny_bind (listItems_at ho rfl (wpAny_bind (listUpdate_at ho rfl (hsz := zi) (hsz2 := Nat.zero_le _) (wpAny_bind (seqEpoch_at ho1 rfl (wpAny_bind (wpAny_newTuple (wpAny_bind (wpAny_newList (wpAny_holding ?_) (Nat.zero_le _))) (by exact il))))))))
  have old : ∀ c o, s.heap.get? c = some o → (sortingHeap (copyHeap s.heap its) (s.heap.objs.size + 1) its).get? c = some o := fun _ _ => sorting_copy_old
  have ha : (sortingHeap (copyHeap s.heap its) (s.heap.objs.size + 1) its).get? (s.heap.objs.size + 1) = some (seqObj "list" #[] m) := Heap.get?_push_of_some _ (Heap.get?_push_of_some _ ho1)
  obtain ⟨kS, ek⟩ : ∃ kS : Nat, (((copyHeap s.heap its).update (s.heap.objs.size + 1) (Obj.mapSeq fun _ => (#[] : Array Value))).push (seqObj "tuple" its.toArray 0)).objs.size = kS := ⟨_, rfl⟩
  have hk : (sortingHeap (copyHeap s.heap its) (s.heap.objs.size + 1) its).get? kS = some (seqObj "list" #[] 0) := by rw [← ek]; exact Heap.get?_push_size _ rfl
  have hlt : s.heap.objs.size + 1 < kS := by
    have z : s.heap.objs.size + 1 < (copyHeap s.heap its).objs.size := Heap.lt_size ho
    rw [← ek, size_push', Heap.size_update]
    omega
  have lk : s.heap.objs.size ≤ kS := by omega
  have hk0 : H kS = none := I.hok.fresh lk
  show wpAny _ _ (ksk_rest (s.heap.objs.size + 1) (.ref f) false its.toArray m (.ref (((copyHeap s.heap its).update (s.heap.objs.size + 1) (Obj.mapSeq fun _ => (#[] : Array Value))).push (seqObj "tuple" its.toArray 0)).objs.size)) _ _ { s with heap := sortingHeap (copyHeap s.heap its) (s.heap.objs.size + 1) its }
  rw [ek]
  have I1 : Inv X pins σ (upd H kS (.lst [])) { s with heap := sortingHeap (copyHeap s.heap its) (s.heap.objs.size + 1) its, toks := s.toks } := I.laid (t' := s.toks) old lk ⟨Nat.zero_le _, [], 0, .nil, hk⟩
  have fp : FpOk X pins H (s.heap.objs.size + 1) := I.fpOk nz ha0
  have I2 : Inv X ((s.heap.objs.size + 1, seqObj "list" #[] m) :: pins) σ (upd H kS (.lst [])) { s with heap := sortingHeap (copyHeap s.heap its) (s.heap.objs.size + 1) its, toks := s.toks } := I1.pins_of fun p hp => by
    rcases List.mem_cons.mp hp with rfl | hp
    · refine ⟨ha, ?_, fp.2.1, fp.2.2.1, fun v z => nomatch z⟩
      rw [upd_ne (Nat.ne_of_lt hlt)]
      exact ha0
    · exact I1.pin p (List.mem_append_right _ hp)
  refine srt_rest (H0 := H) (R := R) (key := key) (bs := bs) (xs := xs) F hr hb I2 fp upd_same hk0 (fun b o e => ?_) rv re hz ok (fun i x c H' hx hc hs => turn x c H' (List.mem_of_getElem? hx) (List.mem_of_getElem? hc) (each_at re hx hc) hs) fun H' ys s' I' hs' ha' hR => ⟨rfl, .ref _, H', I', rfl, q _ _ _ hs' ha0 ha' hR⟩
  rw [upd_ne (by rintro rfl; rw [hk0] at e; cases e)]
  exact e
/-- < of keys -/
def rLtK (K : Fg) : R2 := fun x y H Q => ∃ d e, Dp K H x d ∧ Dp K H y e ∧ isK d = true ∧ isK e = true ∧ cmpK d e = true ∧ d.depth ≤ 60 ∧ Q (.bl (dataLt d e)) H
theorem op_ltK (hu : X.A.units + 64 < cLine) : OpR X (compareOp .Lt) (rLtK X.K) := by
  intro pins s σ H x y v u Q I rx ry h
  obtain ⟨d, e, hd, he, kd, ke, hc, dp, q⟩ := h
  obtain ⟨as, r1⟩ := Dp.reads I d x v hd rx
  obtain ⟨bs, r2⟩ := Dp.reads I e y u he ry
  have h2 := Nat.min_le_left d.depth e.depth
  exact rcK d e X.A s v u as bs r1 r2 kd ke hc (by omega) X.prog X.w X.xe (EP X pins σ Q) ⟨.bl _, H, I, rfl, q⟩
def rLtU (K : Fg) : R2 := fun x y H Q => rI0 (fun i j => .bl (decide (i < j))) x y H Q ∨ rLtK K x y H Q
theorem op_ltU (hu : X.A.units + 64 < cLine) : OpR X (compareOp .Lt) (rLtU X.K) := op_lt.or (op_ltK hu)
theorem hu0 {A : Around} {k : Nat} (hr : Room k A) : A.units < cLine := by
  have := hr.un
  omega
theorem cr_sortByK {K : Fg} (F : FnOk X.prog X.w X.K X.mg X.base CX0 k f fd ps sp) (hr : Room (k + 2) X.A) (hb : Binds X.K fd ps []) (hK : X.K = K := by rfl) : CallRK X (.builtin "sorted") [Str.ofString "key"] (rSortBy K f sp) := hK ▸ cr_sortBy F hr hb
theorem op_ltUK {K : Fg} (hu : X.A.units + 64 < cLine) (hK : X.K = K := by rfl) : OpR X (compareOp .Lt) (rLtU K) := hK ▸ op_ltU hu
end

/-! ### {k: v for x in xs}, the keys tuples of ints and texts -/
section
variable {X : Cx}
theorem dT_put {pins : List (Addr × Obj)} {σ : L2.St} {H : Hp} {s : Shared} {E : Value → Shared → Prop} {D b : Addr} {kvs : List (List L2.Key × V)} {k : List L2.Key} {v : V} {r : Value} {Q : Unit → Shared → Prop} (hu : X.A.units < cLine) (I : Inv X pins σ H s)
    (hD : H D = some (.dT kvs)) (hb : H b = some (.tup (k.map kV))) (hz : kvs.length < sizeLine) (rv : RelV v r) (h : ∀ s', Inv X pins σ (upd H D (.dT (putK kvs k v))) s' → Q () s') : wpAny (model X.prog X.w) X.A (dictSet D (.ref b) r) Q E s := by
  obtain ⟨_, hd, xs, rel, dd⟩ := dt_of I.hok hD
  have zx : xs.length ≤ sizeLine := by rw [← Paired.length rel]; omega
  have zp : (putK kvs k v).length ≤ sizeLine := by
    have := length_putK kvs k v
    omega
  refine wpAny_dictSet_heap (hsz := zx) hu (key_of I.hok hb) dd fun g dg sb => h _ ?_
  obtain ⟨q, es, ep, g1, g2, g3, g4, _, g5⟩ := dg
  refine d_write I (by rw [hD]; trivial) sb ⟨q, g1⟩ ⟨zp, hd, _, (rel.put k hb rv).keeps fun c ys ec => ?_, q, es, ep, g1, g2, g3, g4, g5⟩
  rw [upd_ne (ne_of ec hD fun z => nomatch z)]
  exact ec
/-- the turns of such a comprehension -/
def DtTurns (J : It) (g : TG) (tt : TT) (tk tv : TE) (vs : List Nat) (σ : L2.St) (D : Addr) (Qd : Hp → Prop) (W : Nat → Nat → Hp → Prop) : Prop := ∀ i m H, W i m H → (J.stop i H ∧ Qd H) ∨ (J.go i H ∧ ∃ Nx : Hp → Prop, (∀ H', Nx H' → ∃ m', m' < m ∧ W (i + 1) m' H') ∧
  ∀ x H', J.yld i H x H' → g x (wipe σ vs) H' fun σ2 H2 => wipe σ2 vs = wipe σ vs ∧ tt σ2 H2 fun b H3 => if b = true then tk σ2 H3 fun y H4 => tv σ2 H4 fun z H5 => ∃ (kvs : List (List L2.Key × V)) (k : List L2.Key) (b : Addr), y = .ref b ∧ H5 b = some (.tup (k.map kV)) ∧ H5 D = some (.dT kvs) ∧ kvs.length < sizeLine ∧ Nx (upd H5 D (.dT (putK kvs k z))) else Nx H3)
def tDct (wi : TI) (g : TG) (tt : TT) (tk tv : TE) (vs : List Nat) : TE := fun σ H Q => wi σ H fun J H1 => ∀ D, H1 D = none → ∃ W : Nat → Nat → Hp → Prop, (∃ m, W 0 m (upd H1 D (.dT []))) ∧ DtTurns J g tt tk tv vs σ D (Q (.ref D)) W
theorem dct_core {pins : List (Addr × Obj)} {s : Shared} {σ : L2.St} {H : Hp} {Q : VK} {kx vx tg iter : Expr} {ifs : List Expr} {sc : Scope} {own : List (Str × Nat)} {pos pos2 : Pos} {wi : TI} {g : TG} {tt : TT} {tk tv : TE} {use : Option (Value → Sem Unit)} {Qf : Value → Shared → Prop}
    (hc : X.calm = true) (hu : X.A.units < cLine) (hN : X.N.Nodup) (I : Inv X pins σ H s) (hi : PI X tg iter wi) (ok : BlkOk X.N X.env.scope sc own)
    (hg : ∀ (s : Shared) (H : Hp) (C : Addr) (cl : List (Str × Addr)) (fl : List Addr), PG (X.blk s H sc (compEnvC sc cl C X.env) fl) tg g) (ht : ∀ (s : Shared) (H : Hp) (C : Addr) (cl : List (Str × Addr)) (fl : List Addr), PTs (X.blk s H sc (compEnvC sc cl C X.env) fl) ifs tt)
    (hk : ∀ (s : Shared) (H : Hp) (C : Addr) (cl : List (Str × Addr)) (fl : List Addr), PE (X.blk s H sc (compEnvC sc cl C X.env) fl) kx tk)
    (hv : ∀ (s : Shared) (H : Hp) (C : Addr) (cl : List (Str × Addr)) (fl : List Addr), PE (X.blk s H sc (compEnvC sc cl C X.env) fl) vx tv) (hs : ∀ x, foldedSetIterable iter X.env x = pure x)
    (h : tDct wi g tt tk tv (own.map (·.2)) σ H Q)
    (hend : ∀ D C s' m H', Inv X pins σ H' s' → Q (.ref D) H' → s'.heap.Ns C m → FpOk X pins H' C → compPost (model X.prog X.w) X.A X.xe use Qf (.ref D) C (.ok .next) s') :
    wpAny (model X.prog X.w) X.A (comprehension (.DictComp kx vx [⟨tg, iter, ifs, 0⟩] sc pos) sc X.env pos2 newDict false (eval iter X.env) use) Qf X.xe s := by
  have fr : ∀ y ∈ sc.names, y.2 = .free → ∃ c, X.env.cells.lookup y.1 = some c := fun y hy e => (ok.free y hy e).elim (fun z => I.ok.has _ (.inl z)) fun z => I.ok.has _ (.inr z)
  refine wpAny_comprehension_free (use := use) rfl hs (closure_ok fr) ok.kind (fun y hy e => by rw [ok.uniq y hy, e]) (thn (hi.run pins s σ H _ I h) fun _ s1 hx => thn hx fun _ s2 h2 => ?_)
  obtain ⟨it, fl, tn, J, G, e, I2, T, t0, ff, q⟩ := h2
  subst e
  refine wpAny_newObj_type (newEnv_comp ?_)
  generalize hD : s2.heap.objs.size = D
  have lD : s2.heap.objs.size ≤ D := Nat.le_of_eq hD
  obtain ⟨W, ⟨m0, w0⟩, turn⟩ := q D (I2.hok.fresh lD)
  generalize hs3 : ({ s2 with heap := s2.heap.push { cls := .type "dict", data := .dict #[] } } : Shared) = s3
  have p3 : s3.heap = s2.heap.push { cls := .type "dict", data := .dict #[] } := by rw [← hs3]
  have I3 : Inv X pins σ (upd G D (.dT [])) s3 := by
    rw [← hs3, ← hD]
    exact I2.laid (t' := s2.toks) (fun b o e => Heap.get?_push_of_some _ e) (Nat.le_refl _) (dt_empty s2.heap I2.big)
  have small : ∀ b ∈ fl, b < s2.heap.objs.size := fun b hb => by
    obtain ⟨o, e, _⟩ := T.obj _ _ t0 b hb
    exact Heap.lt_size e
  generalize hG3 : upd G D (.dT []) = G3 at I3 w0
  have ff3 : ∀ b ∈ fl, FpOk X pins G3 b ∧ b < s3.heap.objs.size := fun b hb => by
    have lt := small b hb
    refine ⟨⟨?_, (ff b hb).2⟩, by rw [p3, Heap.size_push]; exact Nat.lt_succ_of_lt lt⟩
    rw [← hG3, upd_ne (by rw [← hD]; exact Nat.ne_of_lt lt)]
    exact (ff b hb).1
  have t3 : tn 0 s3.heap := T.keep _ _ _ t0 fun b _ o e => by rw [p3]; exact Heap.get?_push_of_some _ e
  have I4 := block_start I3 ok hN ff3
  have pg := hg s3 G3 s3.heap.objs.size (cellsFrom (s3.heap.objs.size + 1) sc.names (cloFrom X.env.cells sc.names [])) fl
  have pt := ht s3 G3 s3.heap.objs.size (cellsFrom (s3.heap.objs.size + 1) sc.names (cloFrom X.env.cells sc.names [])) fl
  have pk := hk s3 G3 s3.heap.objs.size (cellsFrom (s3.heap.objs.size + 1) sc.names (cloFrom X.env.cells sc.names [])) fl
  have pv := hv s3 G3 s3.heap.objs.size (cellsFrom (s3.heap.objs.size + 1) sc.names (cloFrom X.env.cells sc.names [])) fl
  show codeAny _ _ (.compStart (.DictComp kx vx [⟨tg, iter, ifs, 0⟩] sc pos) 0 (.ref it) (.ref D) (compEnvC sc (cellsFrom (s3.heap.objs.size + 1) sc.names (cloFrom X.env.cells sc.names [])) s3.heap.objs.size X.env))
    (compPost (model X.prog X.w) X.A X.xe use Qf (.ref D) s3.heap.objs.size) { s3 with heap := pushCells (s3.heap.push { cls := .type "dict", data := .dict #[] }) sc.names }
  generalize hce : compEnvC sc (cellsFrom (s3.heap.objs.size + 1) sc.names (cloFrom X.env.cells sc.names [])) s3.heap.objs.size X.env = ce at I4 pg pt pk pv ⊢
  have cL : ce.locals = s3.heap.objs.size := by rw [← hce]; rfl
  generalize hs4 : ({ s3 with heap := pushCells (s3.heap.push { cls := .type "dict", data := .dict #[] }) sc.names } : Shared) = s4 at I4 ⊢
  have t4 : tn 0 s4.heap := T.keep _ _ _ t3 fun b _ o e => by rw [← hs4]; exact pushCells_keeps _ _ _ _ (Heap.get?_push_of_some _ e)
  have nf : ∀ b ∈ fl, G3 b = none := fun b hb => (ff3 b hb).1.1
  have fps : ∀ {σ' : L2.St} {H' : Hp} {s' : Shared}, Inv (X.blk s3 G3 sc ce fl) [] σ' H' s' → (∀ b ∈ fl, H' b = none) → ∀ b ∈ fl, FpOk (X.blk s3 G3 sc ce fl) [] H' b := fun {σ' H' s'} I' hn b hb =>
    ⟨hn b hb, (I'.ok.exf b hb).1, I'.ok.exfs b hb, .inl hb, fun x c e => (I'.ok.exf b hb).2 x c e, fun p hp => absurd (show p ∈ ([] : List (Addr × Obj)) ++ [] from hp) List.not_mem_nil⟩
  suffices loop : codeAny (model X.prog X.w) X.A (.compLoop (.DictComp kx vx [⟨tg, iter, ifs, 0⟩] sc pos) 0 (.ref it) (.ref D) ce) (compPost (model X.prog X.w) X.A X.xe use Qf (.ref D) s3.heap.objs.size) s4 from
    codeAny_compStart_dict loop (T.self X.A 0 _ _ _ t4 loop)
  refine compLoop_anyD (fun n s' => ∃ i H', Inv (X.blk s3 G3 sc ce fl) [] (wipe σ (own.map (·.2))) H' s' ∧ tn i s'.heap ∧ (∀ b ∈ fl, H' b = none) ∧ W i n H') ?_ m0 ⟨0, G3, I4, t4, nf, w0⟩
  rintro n s5 ⟨i, H5, I5, t5, n5, w5⟩
  rcases turn i n H5 w5 with ⟨stop, qq⟩ | ⟨go, Nx, hNx, step⟩
  · refine thnF (T.done (X.blk s3 G3 sc ce fl) rfl rfl rfl hc i [] s5 _ H5 (fun _ _ => False) I5 (fps I5 n5) t5 stop) fun r s6 ⟨hr, I6⟩ => ?_
    subst hr
    have I7 : Inv X pins σ H5 s6 := I3.call' (ch := fl) I6.os I6.base I6.hok I6.bare fun b hb => ⟨(ff3 b hb).1.2.2.2.1, (ff3 b hb).1.2.1, (ff3 b hb).1.2.2.2.2.1, (ff3 b hb).1.2.2.2.2.2⟩
    have nC : H5 s3.heap.objs.size = none := cL ▸ (show H5 ce.locals = none from I6.free)
    obtain ⟨m, hn, _⟩ := I6.loc
    have hn2 : s6.heap.Ns ce.locals m := hn
    exact hend D s3.heap.objs.size s6 m H5 I7 qq (cL ▸ hn2) (I3.fpOk (Nat.le_refl _) nC)
  · refine thnF (T.item (X.blk s3 G3 sc ce fl) rfl rfl rfl hc i [] s5 _ H5 (fun _ _ => False) I5 (fps I5 n5) t5 go) fun r s6 ⟨u, hr, h6⟩ => ?_
    subst hr
    refine thnF h6 fun _ s7 ⟨x, H7, I7, r7, y7, t7, n7⟩ => ?_
    refine thnF (pg.run _ s7 _ H7 x u _ (I7.pinned (fps I7 n7) (T.obj _ _ t7)) r7 (step x H7 y7)) fun _ s8 ⟨σ8, H8, I8, hw, q8⟩ => thnF (pt.run _ s8 σ8 H8 _ I8 q8) fun b s9 ⟨H9, I9, q9⟩ => ?_
    have fin : ∀ {s' : Shared} {H' : Hp}, Inv (X.blk s3 G3 sc ce fl) ([] ++ pinsAt fl s7.heap) σ8 H' s' → Nx H' → ∃ m, m < n ∧ ∃ i H', Inv (X.blk s3 G3 sc ce fl) [] (wipe σ (own.map (·.2))) H' s' ∧ tn i s'.heap ∧ (∀ b ∈ fl, H' b = none) ∧ W i m H' := fun {s' H'} I' nx => by
      obtain ⟨m', hm, w'⟩ := hNx H' nx
      have pn : ∀ b ∈ fl, ∀ o, s7.heap.get? b = some o → s'.heap.get? b = some o ∧ H' b = none := fun b hb o e => by
        have z := I'.pin (b, o) (List.mem_append_right _ (List.mem_append_right _ (mem_pinsAt hb e)))
        exact ⟨z.1, z.2.1⟩
      have hl : (wipe σ (own.map (·.2))).length = σ8.length := by rw [← hw, wipe_length]
      refine ⟨m', hm, i + 1, H', (I'.unpinned (pins := [])).weak hl (fun j v e => ?_), T.keep _ _ _ t7 fun b hb o e => (pn b hb o e).1, fun b hb => ?_, w'⟩
      · rw [← hw] at e
        exact (wipe_some e).1
      · obtain ⟨o, e, _⟩ := T.obj _ _ t7 b hb
        exact (pn b hb o e).2
    cases b with
    | false =>
      simp only [Bool.false_eq_true, ↓reduceIte] at q9 ⊢
      exact fin I9 q9
    | true =>
      simp only [↓reduceIte] at q9 ⊢
      refine thnF (pk.run _ s9 σ8 H9 _ I9 q9) fun z s10 ⟨yk, H10, I10, r10, q10⟩ => thnF (pv.run _ s10 σ8 H10 _ I10 q10) fun z2 s11 ⟨yv, H11, I11, r11, kvs, k, b, ek, hb, hD11, hz, nx⟩ => ?_
      subst ek
      obtain rfl : z = Value.ref b := r10
      exact dT_put (X := X.blk s3 G3 sc ce fl) hu I11 hD11 hb hz r11 fun s12 I12 => fin I12 nx
/-- as a value -/
theorem pe_dct {kx vx tg iter : Expr} {ifs : List Expr} {sc : Scope} {own : List (Str × Nat)} {pos : Pos} {wi : TI} {g : TG} {tt : TT} {tk tv : TE} (hc : X.calm = true) (hu : X.A.units < cLine) (hN : X.N.Nodup) (hi : PI X tg iter wi) (ok : BlkOk X.N X.env.scope sc own)
    (hg : ∀ (s : Shared) (H : Hp) (C : Addr) (cl : List (Str × Addr)) (fl : List Addr), PG (X.blk s H sc (compEnvC sc cl C X.env) fl) tg g) (ht : ∀ (s : Shared) (H : Hp) (C : Addr) (cl : List (Str × Addr)) (fl : List Addr), PTs (X.blk s H sc (compEnvC sc cl C X.env) fl) ifs tt)
    (hk : ∀ (s : Shared) (H : Hp) (C : Addr) (cl : List (Str × Addr)) (fl : List Addr), PE (X.blk s H sc (compEnvC sc cl C X.env) fl) kx tk)
    (hv : ∀ (s : Shared) (H : Hp) (C : Addr) (cl : List (Str × Addr)) (fl : List Addr), PE (X.blk s H sc (compEnvC sc cl C X.env) fl) vx tv) (hs : ∀ x, foldedSetIterable iter X.env x = pure x := by intro _; rfl) :
    PE X (.DictComp kx vx [⟨tg, iter, ifs, 0⟩] sc pos) (tDct wi g tt tk tv (own.map (·.2))) := by
  refine ⟨fun pins s σ H Q I h => ?_⟩
  rw [arm_eval_DictComp]
  refine dct_core hc hu hN I hi ok hg ht hk hv hs h fun D C s' m H' I' q hn f => ⟨m, hn, fun g sb => ?_⟩
  obtain ⟨f0, f1, f2, f3, f4, f5⟩ := f
  exact ⟨.ref D, H', I'.turned (t' := s'.toks) (fun b o hb e => (sb.2 b hb).trans e) f0 f1 f3 f4 f5, rfl, q⟩
/-- given to a name that is the def's own -/
theorem ps_setDct {i : Nat} {y : Str} {py : Pos} {kx vx tg iter : Expr} {ifs : List Expr} {sc : Scope} {own : List (Str × Nat)} {pos spos : Pos} {wi : TI} {g : TG} {tt : TT} {tk tv : TE} (hc : X.calm = true) (hu : X.A.units < cLine) (hN : X.N.Nodup) (hy : X.N[i]? = some y) (hyl : X.env.scope.names.lookup y = some .local)
    (hw : swapsWith (.DictComp kx vx [⟨tg, iter, ifs, 0⟩] sc pos) (some (.Name y py)) spos.line X.env = pure true) (hi : PI X tg iter wi) (ok : BlkOk X.N X.env.scope sc own)
    (hg : ∀ (s : Shared) (H : Hp) (C : Addr) (cl : List (Str × Addr)) (fl : List Addr), PG (X.blk s H sc (compEnvC sc cl C X.env) fl) tg g) (ht : ∀ (s : Shared) (H : Hp) (C : Addr) (cl : List (Str × Addr)) (fl : List Addr), PTs (X.blk s H sc (compEnvC sc cl C X.env) fl) ifs tt)
    (hk : ∀ (s : Shared) (H : Hp) (C : Addr) (cl : List (Str × Addr)) (fl : List Addr), PE (X.blk s H sc (compEnvC sc cl C X.env) fl) kx tk)
    (hv : ∀ (s : Shared) (H : Hp) (C : Addr) (cl : List (Str × Addr)) (fl : List Addr), PE (X.blk s H sc (compEnvC sc cl C X.env) fl) vx tv) (hs : ∀ x, foldedSetIterable iter X.env x = pure x := by intro _; rfl) :
    PS X (.Assign [.Name y py] (.DictComp kx vx [⟨tg, iter, ifs, 0⟩] sc pos) spos) (tAsg (tDct wi g tt tk tv (own.map (·.2))) (gName i)) := by
  refine ⟨fun pins s σ H D I h => ?_⟩
  rw [exec_Assign_Name_used _ _ _ _ hw]
  have h2 : tDct wi g tt tk tv (own.map (·.2)) σ H (fun x H1 => gName i x σ H1 D.nx) := h
  refine wpAny_bind (wpAny_standAt (wpAny_bind ?_))
  show wpAny _ X.A (do let _ ← comprehension (.DictComp kx vx [⟨tg, iter, ifs, 0⟩] sc pos) sc X.env (firstIterPos [⟨tg, iter, ifs, 0⟩] pos) newDict false (eval iter X.env) (some (assign (.Name y py) X.env))) _ _ s
  refine wpAny_bind (thn (dct_core (Qf := fun _ s' => SP X pins D .next s') hc hu hN I hi ok hg ht hk hv hs h2 fun L C s' m H' J q hn f => ?_) fun _ s' z => wpAny_pure (wpAny_pure z))
  show wpAny _ _ (assign (.Name y py) X.env (.ref L)) _ _ _
  obtain ⟨f0, f1, f2, f3, f4, f5⟩ := f
  refine wpAny_assign_Name (store_ok2 (v := V.ref L) J hN hy (.inl hyl) rfl (fun s2 I2 ⟨a, sb, ha⟩ => ?_) (.inr hyl))
  have ne : C ≠ a := ha.elim (fun z => z ▸ f1) fun z e => f4 y a z e.symm
  exact ⟨m, hn.sameBut sb ne, fun g sg => ⟨_, H', I2.turned (t' := s2.toks) (fun b o hb e => (sg.2 b hb).trans e) f0 f1 f3 f4 f5, q⟩⟩
theorem sw_dict {kx vx : Expr} {gs : List Comprehension} {sc : Scope} {pos py : Pos} {y : Str} {l : Nat} {env : Env} (hk : env.scope.kind = .function) (hy : env.scope.names.lookup y = some .local) (hl : (py.line == pos.line) = true)
    (ha : (sc.names.any fun (n, k) => n == y && (k == .local || k == .cell)) = false) : swapsWith (.DictComp kx vx gs sc pos) (some (.Name y py)) l env = pure true := by
  have k1 : env.kindOf y = some .local := hy
  have k2 : env.blockKind = .function := by
    unfold Env.blockKind
    rw [hk]
    rfl
  unfold swapsWith
  simp only [k2, k1, ha, Expr.pos, hl]
  rfl
end

/-! ### texts -/
section
/-- a text of at most n signs, each a sign -/
def okS (n : Nat) (x : Str) : Prop := x.length ≤ n ∧ ∀ c, c ∈ x.cps.toList → c < 0x110000
theorem okS.mono {n m : Nat} {x : Str} (h : okS n x) (l : n ≤ m) : okS m x := ⟨Nat.le_trans h.1 l, h.2⟩
theorem okS.strOk {n : Nat} {x : Str} (h : okS n x) : PyData.strOk x = true := by
  unfold PyData.strOk
  rw [← Array.all_toList, List.all_eq_true]
  exact fun c hc => decide_eq_true (h.2 c hc)
theorem okS.size {n : Nat} {x : Str} (h : okS n x) (l : n ≤ 1000000) : x.length ≤ sizeLine := by
  rw [sizeLine_eq]
  have := h.1
  omega
theorem okS_of {n : Nat} {x : Str} (h1 : Nat.ble x.cps.toList.length n = true) (h2 : x.cps.toList.all (fun c => Nat.blt c 0x110000) = true) : okS n x := by
  refine ⟨?_, fun c hc => Nat.le_of_ble_eq_true (List.all_eq_true.mp h2 c hc)⟩
  show x.cps.size ≤ n
  rw [← Array.length_toList]
  exact Nat.le_of_ble_eq_true h1
theorem okS_cut {n : Nat} {x : Str} (h : okS n x) (lo hi : Option Int) : okS n (cutS x lo hi) := by
  refine ⟨Nat.le_trans (cutS_length x lo hi) h.1, fun c hc => h.2 c ?_⟩
  unfold cutS at hc
  simp only [List.toList_toArray] at hc
  exact List.mem_of_mem_drop (List.mem_of_mem_take hc)
/-- at most k signs where the upper end is k -/
theorem okS_cutTo {n k : Nat} {x : Str} (h : okS n x) : okS k (cutS x none (some (k : Int))) := by
  refine ⟨?_, (okS_cut h _ _).2⟩
  unfold cutS
  show (List.toArray _).size ≤ k
  rw [List.size_toArray, List.length_take, HT.sIx_none, HT.sIx_nat]
  omega
theorem okS_app {n m : Nat} {x y : Str} (h : okS n x) (k : okS m y) : okS (n + m) (x ++ y) := by
  have e : (x ++ y).cps.toList = x.cps.toList ++ y.cps.toList := by
    show (x.cps ++ y.cps).toList = _
    simp
  refine ⟨?_, fun c hc => ?_⟩
  · show (x.cps ++ y.cps).size ≤ n + m
    rw [Array.size_append]
    exact Nat.add_le_add h.1 k.1
  · rw [e] at hc
    exact (List.mem_append.mp hc).elim (h.2 c) (k.2 c)
theorem okS_int (i : Int) (h : i.natAbs < 2 ^ 64) : okS 1921 (Str.ofString (toString i)) := by
  refine ⟨PyProof.Rows.int_text_len_1921 ?_, fun c hc => ?_⟩
  · exact Nat.lt_trans (PySem.Flt.log2_lt_of (by decide) h) (by decide)
  · refine Nat.lt_of_not_le fun hge => PyProof.Rows.int_text_free' c ⟨by omega, .inr (by omega)⟩ i hc
end
section
variable {X : Cx}
theorem pe_revS {e : Expr} {te : TE} {k : Nat} {p1 p2 p3 pos : Pos} (he : PE X e te) : PE X (.Subscript e (.Slice none none (some (.UnaryOp .USub (.Constant (.int 1) k p1) p2)) p3) pos) (tRevS te) := by
  refine ⟨fun pins s σ H Q I h => ?_⟩
  refine Subscript_ (thn (he.run pins s σ H _ I h) fun v s1 ⟨x, H1, I1, r1, z, ex, hz, q⟩ => ?_)
  subst ex
  obtain ⟨t, rfl⟩ := r1
  have hst : PO X (some (.UnaryOp .USub (.Constant (.int 1) k p1) p2)) (tPart (tUn (rU fun i => .int (-i)) (tC (.int 1)))) := po_some (pe_un un_neg pe_int)
  refine wpAny_Slice (thn (po_none.run pins s1 σ H1 (fun o G => o = none ∧ G = H1) I1 ⟨rfl, rfl⟩) fun vl s2 ⟨l, G2, I2, pl, el, e2⟩ => thn (po_none.run pins s2 σ G2 (fun o G => o = none ∧ G = G2) I2 ⟨rfl, rfl⟩) fun vu s3 ⟨u, G3, I3, pu, eu, e3⟩ => ?_)
  refine thn (hst.run pins s3 σ G3 (fun o G => o = some (-1) ∧ G = G3) I3 ⟨1, rfl, -1, rfl, rfl, rfl⟩) fun vs s4 ⟨o, G4, I4, pp, eo, e4⟩ => ?_
  subst e4 e3 e2 eo eu el
  obtain ⟨a, rfl, ea⟩ := IsPart.raw pl
  obtain ⟨b, rfl, eb⟩ := IsPart.raw pu
  obtain ⟨c, rfl, ec⟩ := IsPart.raw pp
  have I5 : Inv X pins σ G4 { s4 with heap := s4.heap.push { cls := .type "slice", data := .fields #[partValue a, partValue b, partValue c] } } := I4.kept (t' := s4.toks) fun _ _ q => Heap.get?_push_of_some _ q
  have nz : ((c.map (·.1)).getD 1 == 0) = false := by rw [ec]; rfl
  refine tail_any (ops := [.str z t, .ref s4.heap.objs.size]) (typeIs_str _ _ _) PySem.F.slot_str_getitem.lookup ?_ (by with_unfolding_all rfl)
  refine wpAny_getItem_str_slice (l := a) (u := b) (st := c) ⟨_, Heap.get?_push_size _ rfl, rfl, rfl⟩ nz ?_
  have hp : (slicePicked z a b c).length ≤ z.length := sliceIndicesBy_le _ _ _ (by rw [ec]; decide) _
  have e1 : ((c.map (·.1)).getD 1 == 1 && (slicePicked z a b c).length == z.length) = false := by rw [ec]; rfl
  unfold sliceMade
  rw [e1]
  have hl : (⟨((slicePicked z a b c).filterMap (z.cps[·]?)).toArray⟩ : Str).length ≤ z.length := by
    show (List.toArray _).size ≤ _
    rw [List.size_toArray]
    exact Nat.le_trans (List.length_filterMap_le _ _) hp
  refine ⟨Nat.le_trans hl hz, .str _, G4, I5.tok _, ⟨_, rfl⟩, q _ hl fun d hd => ?_⟩
  simp only [List.toList_toArray, List.mem_filterMap] at hd
  obtain ⟨i, _, hi⟩ := hd
  exact Array.mem_toList_iff.mpr (Array.mem_of_getElem? hi)
theorem pe_revU {e : Expr} {te : TE} {k : Nat} {p1 p2 p3 pos : Pos} {K : Fg} (he : PE X e te) (hK : X.K = K := by rfl) : PE X (.Subscript e (.Slice none none (some (.UnaryOp .USub (.Constant (.int 1) k p1) p2)) p3) pos) (fun σ H Q => tRevL K te σ H Q ∨ tRevS te σ H Q) := hK ▸ pe_orU (pe_revL he) (pe_revS he)
/-- sep.join(l) -/
def rJoinK (K : Fg) : V → List V → Hp → VK → Prop := fun x xs H Q => ∃ (a : Str) (p : Addr) (ys : List Str), x = .str a ∧ xs = [.ref p] ∧ (SqL K H p (ys.map V.str) ∨ SqT K H p (ys.map V.str)) ∧ (ys.map (·.length)).sum + ys.length * a.length ≤ 16777216 ∧ Q (.str (Txt.join a ys)) H
theorem pe_joinK {o e : Expr} {to te : TE} {apos pos : Pos} {K : Fg} (ho : PE X o to) (he : PE X e te) (hs : starEach [e] X.env = [(false, eval e X.env)] := by rfl) (hbase : attributeBase o "join" X.env (eval o X.env) = eval o X.env := by rfl) (hline : (apos.endLine == pos.line) = true := by rfl) (hK : X.K = K := by rfl) :
    PE X (.Call (.Attribute o "join" apos) [e] [] pos) (tM1 (rJoinK K) to te) := hK ▸ pe_join ho he hs hbase hline
end

/-! ### rows of values, two keys of them that order alike -/
section
open PySem.W
abbrev Row := List L2.Key
/-- a value's datum -/
def cd : L2.Key → PyData
  | .inl i => .int i
  | .inr s => .str s
def pcell : L2.Key → PyData
  | .inl i => .tuple [.int 0, .int i]
  | .inr s => .tuple [.int 1, .str s]
def lcell : L2.Key → PyData
  | .inl i => .tuple [.int 0, .int i, .str ""]
  | .inr s => .tuple [.int 1, .int 0, .str s]
def rowD (r : Row) : PyData := .tuple (r.map cd)
def pk (r : Row) : PyData := .tuple (r.map pcell)
def lk (r : Row) : PyData := .tuple (r.map lcell)
def cellOk : L2.Key → Prop
  | .inl i => -10000 < i ∧ i < 10000
  | .inr s => okS 2000 s
def rowOk (r : Row) : Prop := (∀ c, c ∈ r → cellOk c) ∧ r.length ≤ 100
theorem kt_pi (i : Int) : keyToks (pcell (.inl i)) = [.inl 1, .inl 0] ++ ([.inl 1] ++ .inl i :: [.inl 0]) := by
  simp [pcell, keyToks, keyToksAll]
theorem kt_ps (s : Str) : keyToks (pcell (.inr s)) = [.inl 1, .inl 1] ++ ([.inl 1] ++ .inr s.cps.toList :: [.inl 0]) := by
  simp [pcell, keyToks, keyToksAll]
theorem kt_li (i : Int) : keyToks (lcell (.inl i)) = [.inl 1, .inl 0] ++ ([.inl 1] ++ .inl i :: [.inl 1, .inr ("" : Str).cps.toList, .inl 0]) := by
  simp [lcell, keyToks, keyToksAll]
theorem kt_ls (s : Str) : keyToks (lcell (.inr s)) = [.inl 1, .inl 1] ++ ([.inl 1, .inl 0, .inl 1] ++ .inr s.cps.toList :: [.inl 0]) := by
  simp [lcell, keyToks, keyToksAll]
theorem dif_of {p : List Sg} {a b : Sg} {r t : List Sg} (n : a ≠ b) : Dif (p ++ a :: r) (p ++ b :: t) := ⟨p, a, b, r, t, rfl, rfl, n⟩
theorem lex_of {p : List Sg} {a b : Sg} {r t : List Sg} (n : a ≠ b) : lexS (p ++ a :: r) (p ++ b :: t) = itemLt a b := by
  rw [lex_lcp]
  exact lex_diff (O := itemOrd) n
theorem cell_dif {c d : L2.Key} (n : c ≠ d) : Dif (keyToks (pcell c)) (keyToks (pcell d)) ∧ Dif (keyToks (lcell c)) (keyToks (lcell d)) ∧ dataLt (pcell c) (pcell d) = dataLt (lcell c) (lcell d) := by
  unfold dataLt
  show _ ∧ _ ∧ lexS _ _ = lexS _ _
  cases c with
  | inl i =>
    cases d with
    | inl j =>
      have e : (Sum.inl i : Sg) ≠ .inl j := fun z => n (by rw [Sum.inl.inj z])
      rw [kt_pi, kt_pi, kt_li, kt_li]
      exact ⟨(dif_of e).pre _, (dif_of e).pre _, ((lex_lcp _ _ _).trans (lex_of e)).trans ((lex_lcp _ _ _).trans (lex_of e)).symm⟩
    | inr t =>
      have e : (Sum.inl 0 : Sg) ≠ .inl 1 := by decide
      rw [kt_pi, kt_ps, kt_li, kt_ls]
      refine ⟨dif_of (p := [.inl 1]) e, dif_of (p := [.inl 1]) e, ?_⟩
      exact (lex_of (p := [.inl 1]) e).trans (lex_of (p := [.inl 1]) e).symm
  | inr s =>
    cases d with
    | inl j =>
      have e : (Sum.inl 1 : Sg) ≠ .inl 0 := by decide
      rw [kt_pi, kt_ps, kt_li, kt_ls]
      refine ⟨dif_of (p := [.inl 1]) e, dif_of (p := [.inl 1]) e, ?_⟩
      exact (lex_of (p := [.inl 1]) e).trans (lex_of (p := [.inl 1]) e).symm
    | inr t =>
      have e : (Sum.inr s.cps.toList : Sg) ≠ .inr t.cps.toList := fun z => n (by rw [str_of_cps (Sum.inr.inj z)])
      rw [kt_ps, kt_ps, kt_ls, kt_ls]
      exact ⟨(dif_of e).pre _, (dif_of e).pre _, ((lex_lcp _ _ _).trans (lex_of e)).trans ((lex_lcp _ _ _).trans (lex_of e)).symm⟩
theorem ka_app {c : PyData} {xs : List PyData} : keyToksAll (c :: xs) = [Sum.inl 1] ++ (keyToks c ++ keyToksAll xs) := by rw [ka_cons]; rfl
theorem rows_dif : ∀ {r q : Row}, r ≠ q → Dif (keyToksAll (r.map pcell)) (keyToksAll (q.map pcell)) ∧ lexS (keyToksAll (r.map pcell)) (keyToksAll (q.map pcell)) = lexS (keyToksAll (r.map lcell)) (keyToksAll (q.map lcell))
  | [], [], n => absurd rfl n
  | [], d :: q, _ => by
    have e : (Sum.inl 0 : Sg) ≠ .inl 1 := by decide
    rw [List.map_cons, List.map_cons, ka_app, ka_app]
    refine ⟨?_, ?_⟩
    · show Dif (keyToksAll []) _
      rw [ka_nil]
      exact dif_of (p := []) e
    · show lexS (keyToksAll []) _ = lexS (keyToksAll []) _
      rw [ka_nil]
      exact (lex_of (p := []) e).trans (lex_of (p := []) e).symm
  | c :: r, [], _ => by
    have e : (Sum.inl 1 : Sg) ≠ .inl 0 := by decide
    rw [List.map_cons, List.map_cons, ka_app, ka_app]
    refine ⟨?_, ?_⟩
    · show Dif _ (keyToksAll [])
      rw [ka_nil]
      exact dif_of (p := []) e
    · show lexS _ (keyToksAll []) = lexS _ (keyToksAll [])
      rw [ka_nil]
      exact (lex_of (p := []) e).trans (lex_of (p := []) e).symm
  | c :: r, d :: q, n => by
    rw [List.map_cons, List.map_cons, List.map_cons, List.map_cons, ka_app, ka_app, ka_app, ka_app]
    by_cases h : c = d
    · subst h
      obtain ⟨h1, h2⟩ := rows_dif (r := r) (q := q) fun z => n (by rw [z])
      refine ⟨(h1.pre _).pre _, ?_⟩
      rw [lex_lcp, lex_lcp, lex_lcp, lex_lcp, h2]
    · obtain ⟨h1, h2, h3⟩ := cell_dif h
      refine ⟨(h1.app _ _).pre _, ?_⟩
      rw [lex_lcp, lex_lcp, h1.lex, h2.lex]
      exact h3
theorem key_same (r q : Row) : dataLt (pk r) (pk q) = dataLt (lk r) (lk q) := by
  unfold pk lk
  rw [dataLt_tuple, dataLt_tuple]
  by_cases h : r = q
  · subst h
    exact (show lexS _ _ = false from lex_irrefl _).trans (show lexS _ _ = false from lex_irrefl _).symm
  · exact (rows_dif h).2
theorem le_same : dataLe false pk = dataLe false lk := by
  rw [dataLe_eq, dataLe_eq]
  funext a b
  show (!dataLt (pk b) (pk a)) = !dataLt (lk b) (lk a)
  rw [key_same]
theorem le_anti {r q : Row} (h1 : dataLe false pk r q = true) (h2 : dataLe false pk q r = true) : r = q := by
  refine Decidable.byContradiction fun n => ?_
  have e1 : dataLt (pk q) (pk r) = false := by
    rw [dataLe_eq] at h1
    simpa using h1
  have e2 : dataLt (pk r) (pk q) = false := by
    rw [dataLe_eq] at h2
    simpa using h2
  unfold pk at e1 e2
  rw [dataLt_tuple] at e1 e2
  have e3 := lex_total (O := itemOrd) _ _ e2 e1
  obtain ⟨p, a, b, u, t, f1, f2, f3⟩ := (rows_dif n).1
  rw [f1, f2] at e3
  have e4 := List.append_cancel_left e3
  injection e4 with e5
  exact f3 e5
/-- the rows in order, each once -/
def sortR (ks : List Row) : List Row := ks.mergeSort (dataLe false pk)
theorem sortR_same {ks ls : List Row} (h1 : ks.Nodup) (h2 : ls.Nodup) (h : ∀ r, r ∈ ks ↔ r ∈ ls) : sortR ks = sortR ls := by
  have pm : ks.Perm ls := by
    letI b : BEq Row := instBEqOfDecidableEq
    have lb : LawfulBEq Row := inferInstance
    rw [List.perm_iff_count]
    intro r
    rw [h1.count, h2.count]
    simp only [h r]
  refine List.Perm.eq_of_pairwise (le := fun a b => dataLe false pk a b = true) (fun a b _ _ => le_anti) (sort_pairwise (sortLe_total _ _ _) _) (sort_pairwise (sortLe_total _ _ _) _) ?_
  exact (List.mergeSort_perm _ _).trans (pm.trans (List.mergeSort_perm _ _).symm)
theorem sortR_mem {ks : List Row} {r : Row} : r ∈ sortR ks ↔ r ∈ ks := (List.mergeSort_perm _ _).mem_iff
theorem sortR_nodup {ks : List Row} (h : ks.Nodup) : (sortR ks).Nodup := (List.mergeSort_perm _ _).nodup_iff.mpr h
/-! the keys' shape -/
theorem isK_p {c : L2.Key} (h : cellOk c) : isK (pcell c) = true ∧ isK (lcell c) = true := by
  cases c with
  | inl i => exact ⟨by simp [pcell, isK, isKs], by simp [lcell, isK, isKs]; decide +kernel⟩
  | inr s =>
    have e := okS.strOk h
    exact ⟨by simp [pcell, isK, isKs, e], by simp [lcell, isK, isKs, e]⟩
theorem isKs_r : ∀ {r : Row}, (∀ c, c ∈ r → cellOk c) → isKs (r.map pcell) = true ∧ isKs (r.map lcell) = true
  | [], _ => ⟨by simp [isKs], by simp [isKs]⟩
  | c :: r, h => by
    obtain ⟨h1, h2⟩ := isK_p (h c List.mem_cons_self)
    obtain ⟨h3, h4⟩ := isKs_r (r := r) fun d hd => h d (List.mem_cons_of_mem _ hd)
    exact ⟨by simp [isKs, h1, h3], by simp [isKs, h2, h4]⟩
theorem isK_r {r : Row} (h : rowOk r) : isK (pk r) = true ∧ isK (lk r) = true := by
  obtain ⟨h1, h2⟩ := isKs_r h.1
  unfold pk lk isK
  exact ⟨h1, h2⟩
theorem cmp_c (c d : L2.Key) : cmpK (pcell c) (pcell d) = true ∧ cmpK (lcell c) (lcell d) = true := by
  cases c <;> cases d <;> simp [pcell, lcell, cmpK, cmpKs, PyData.eqv]
theorem cmp_rs : ∀ r q : Row, cmpKs (r.map pcell) (q.map pcell) = true ∧ cmpKs (r.map lcell) (q.map lcell) = true
  | [], _ => by simp [cmpKs]
  | _ :: _, [] => by simp [cmpKs]
  | c :: r, d :: q => by
    obtain ⟨h1, h2⟩ := cmp_c c d
    obtain ⟨h3, h4⟩ := cmp_rs r q
    simp only [List.map_cons, cmpKs, h1, h2, h3, h4, ite_self, and_self]
theorem cmp_r (r q : Row) : cmpK (pk r) (pk q) = true ∧ cmpK (lk r) (lk q) = true := by
  unfold pk lk cmpK
  exact cmp_rs r q
theorem dep_rs : ∀ r : Row, PyData.depthAll (r.map pcell) ≤ 1 ∧ PyData.depthAll (r.map lcell) ≤ 1
  | [] => by simp [PyData.depthAll]
  | c :: r => by
    obtain ⟨h1, h2⟩ := dep_rs r
    have h3 : (pcell c).depth ≤ 1 ∧ (lcell c).depth ≤ 1 := by cases c <;> simp [pcell, lcell, PyData.depth, PyData.depthAll]
    simp only [List.map_cons, PyData.depthAll]
    omega
theorem dep_r (r : Row) : (pk r).depth ≤ 60 ∧ (lk r).depth ≤ 60 := by
  have h := dep_rs r
  unfold pk lk
  simp only [PyData.depth]
  omega
/-- rows of one width, each once, can be sorted by either key -/
theorem kok {ks : List Row} {w : Nat} (h : ∀ r, r ∈ ks → rowOk r ∧ r.length = w) (nd : ks.Nodup) : KOk (ks.map pk) ∧ KOk (ks.map lk) := by
  have kind : ks.length ≤ 1 ∨ ∀ r, r ∈ ks → r ≠ [] := by
    by_cases hw : w = 0
    · refine .inl ?_
      match ks, h, nd with
      | [], _, _ => exact Nat.zero_le _
      | [_], _, _ => exact Nat.le_refl _
      | a :: b :: r, h, nd =>
        have e1 := List.length_eq_zero_iff.mp ((h a List.mem_cons_self).2.trans hw)
        have e2 := List.length_eq_zero_iff.mp ((h b (List.mem_cons_of_mem _ List.mem_cons_self)).2.trans hw)
        rw [e1, e2] at nd
        simp at nd
    · refine .inr fun r hr e => hw ?_
      rw [← (h r hr).2, e]
      rfl
  have first : ∀ r : Row, r ≠ [] → (∃ x t, pk r = .tuple (x :: t) ∧ dataType x = .type "tuple") ∧ ∃ x t, lk r = .tuple (x :: t) ∧ dataType x = .type "tuple" := fun r hr => by
    cases r with
    | nil => exact absurd rfl hr
    | cons c r => exact ⟨⟨pcell c, _, rfl, by cases c <;> rfl⟩, lcell c, _, rfl, by cases c <;> rfl⟩
  refine ⟨⟨fun d hd => ?_, fun d hd e he => ?_, ?_⟩, ⟨fun d hd => ?_, fun d hd e he => ?_, ?_⟩⟩
  · obtain ⟨r, hr, rfl⟩ := List.mem_map.mp hd
    exact ⟨(isK_r (h r hr).1).1, (dep_r r).1⟩
  · obtain ⟨r, _, rfl⟩ := List.mem_map.mp hd
    obtain ⟨q, _, rfl⟩ := List.mem_map.mp he
    exact (cmp_r r q).1
  · refine kind.elim (fun z => .inl (by rw [List.length_map]; exact z)) fun z => .inr (.inl ⟨.type "tuple", fun d hd => ?_⟩)
    obtain ⟨r, hr, rfl⟩ := List.mem_map.mp hd
    exact (first r (z r hr)).1
  · obtain ⟨r, hr, rfl⟩ := List.mem_map.mp hd
    exact ⟨(isK_r (h r hr).1).2, (dep_r r).2⟩
  · obtain ⟨r, _, rfl⟩ := List.mem_map.mp hd
    obtain ⟨q, _, rfl⟩ := List.mem_map.mp he
    exact (cmp_r r q).2
  · refine kind.elim (fun z => .inl (by rw [List.length_map]; exact z)) fun z => .inr (.inl ⟨.type "tuple", fun d hd => ?_⟩)
    obtain ⟨r, hr, rfl⟩ := List.mem_map.mp hd
    exact (first r (z r hr)).2
/-! a dict's keys, put one by one -/
theorem keys_put {α : Type} [DecidableEq α] (kvs : List (α × V)) (k : α) (v : V) : (putK kvs k v).map (·.1) = if k ∈ kvs.map (·.1) then kvs.map (·.1) else kvs.map (·.1) ++ [k] := by
  unfold putK
  by_cases h : k ∈ kvs.map (·.1)
  · have h2 : (kvs.any fun kv => decide (kv.1 = k)) = true := by
      obtain ⟨p, hp, e⟩ := List.mem_map.mp h
      exact List.any_eq_true.mpr ⟨p, hp, decide_eq_true e⟩
    rw [if_pos h2, if_pos h, List.map_map]
    refine List.map_congr_left fun p _ => ?_
    show (if p.1 = k then (p.1, v) else p).1 = p.1
    split <;> rfl
  · have h2 : ¬ (kvs.any fun kv => decide (kv.1 = k)) = true := fun z => by
      obtain ⟨p, hp, e⟩ := List.any_eq_true.mp z
      exact h (List.mem_map.mpr ⟨p, hp, of_decide_eq_true e⟩)
    rw [if_neg h2, if_neg h, List.map_append]
    rfl
/-- the dict holds the rows rs, each once -/
def KeysAre {α : Type} (kvs : List (α × V)) (rs : List α) : Prop := (kvs.map (·.1)).Nodup ∧ ∀ r, r ∈ kvs.map (·.1) ↔ r ∈ rs
theorem keysAre_nil {α : Type} : KeysAre ([] : List (α × V)) [] := ⟨List.nodup_nil, fun _ => Iff.rfl⟩
theorem keysAre_put {α : Type} [DecidableEq α] {kvs : List (α × V)} {rs : List α} (h : KeysAre kvs rs) (k : α) (v : V) : KeysAre (putK kvs k v) (rs ++ [k]) := by
  unfold KeysAre
  rw [keys_put]
  by_cases c : k ∈ kvs.map (·.1)
  · rw [if_pos c]
    refine ⟨h.1, fun r => ?_⟩
    rw [List.mem_append, List.mem_singleton, ← h.2 r]
    exact ⟨.inl, fun z => z.elim id fun e => e ▸ c⟩
  · rw [if_neg c]
    refine ⟨?_, fun r => ?_⟩
    · rw [List.nodup_append]
      refine ⟨h.1, by simp, fun a ha b hb => ?_⟩
      rw [List.mem_singleton.mp hb]
      rintro rfl
      exact c ha
    · rw [List.mem_append, List.mem_append, h.2 r]
end

def topS (i : Nat) : Stmt := PySem.Challenge.pw_worldbase_k01_rows_and_their_sets.main.body.getD i (.Pass ⟨0, 0, 0, 0⟩)
abbrev s_value_key : Stmt := topS 1
theorem sc_value_key : FnScope ["value"] ["value"] (defScope s_value_key) := ⟨rfl, rfl, rfl, by decide +kernel, rfl, by decide +kernel, by decide +kernel⟩
abbrev s_row_key : Stmt := topS 2
theorem sc_row_key : FnScope ["row", "value"] ["row"] (defScope s_row_key) := ⟨rfl, rfl, rfl, by decide +kernel, rfl, by decide +kernel, by decide +kernel⟩
abbrev s_before : Stmt := topS 3
theorem sc_before : FnScope ["row", "other"] ["row", "other"] (defScope s_before) := ⟨rfl, rfl, rfl, by decide +kernel, rfl, by decide +kernel, by decide +kernel⟩
abbrev s_ascending : Stmt := topS 4
theorem sc_ascending : FnScope ["rows", "found", "row"] ["rows"] (defScope s_ascending) := ⟨rfl, rfl, rfl, by decide +kernel, rfl, by decide +kernel, by decide +kernel⟩
abbrev s__law_tape : Stmt := topS 6
theorem sc__law_tape : FnScope ["script", "mixed", "cell"] ["script"] (defScope s__law_tape) := ⟨rfl, rfl, rfl, by decide +kernel, rfl, by decide +kernel, by decide +kernel⟩
abbrev s__law_draw : Stmt := topS 7
theorem sc__law_draw : FnScope ["tape", "many", "place", "number"] ["tape", "many"] (defScope s__law_draw) := ⟨rfl, rfl, rfl, by decide +kernel, rfl, by decide +kernel, by decide +kernel⟩
abbrev s__law_pick : Stmt := topS 8
theorem sc__law_pick : FnScope ["tape", "rows"] ["tape", "rows"] (defScope s__law_pick) := ⟨rfl, rfl, rfl, by decide +kernel, rfl, by decide +kernel, by decide +kernel⟩
abbrev s__law_turns : Stmt := topS 9
theorem sc__law_turns : FnScope ["tape", "many", "left", "turns", "k"] ["tape", "many"] (defScope s__law_turns) := ⟨rfl, rfl, rfl, by decide +kernel, rfl, by decide +kernel, by decide +kernel⟩
abbrev s__law_shuffled : Stmt := topS 10
theorem sc__law_shuffled : FnScope ["tape", "rows", "left", "turned", "k"] ["tape", "rows"] (defScope s__law_shuffled) := ⟨rfl, rfl, rfl, by decide +kernel, rfl, by decide +kernel, by decide +kernel⟩
abbrev s__law_same : Stmt := topS 11
theorem sc__law_same : FnScope ["told", "wanted", "k"] ["told", "wanted"] (defScope s__law_same) := ⟨rfl, rfl, rfl, by decide +kernel, rfl, by decide +kernel, by decide +kernel⟩
abbrev s__law_text : Stmt := topS 12
theorem sc__law_text : FnScope ["tape", "most", "signs", "k"] ["tape", "most"] (defScope s__law_text) := ⟨rfl, rfl, rfl, by decide +kernel, rfl, by decide +kernel, by decide +kernel⟩
abbrev s__law_value_of : Stmt := topS 13
theorem sc__law_value_of : FnScope ["tape", "choice"] ["tape"] (defScope s__law_value_of) := ⟨rfl, rfl, rfl, by decide +kernel, rfl, by decide +kernel, by decide +kernel⟩
abbrev s__law_pool : Stmt := topS 14
theorem sc__law_pool : FnScope ["tape", "many", "k"] ["tape"] (defScope s__law_pool) := ⟨rfl, rfl, rfl, by decide +kernel, rfl, by decide +kernel, by decide +kernel⟩
abbrev s__law_row : Stmt := topS 15
theorem sc__law_row : FnScope ["tape", "pool", "columns", "k"] ["tape", "pool", "columns"] (defScope s__law_row) := ⟨rfl, rfl, rfl, by decide +kernel, rfl, by decide +kernel, by decide +kernel⟩
abbrev s__law_key : Stmt := topS 16
theorem sc__law_key : FnScope ["value"] ["value"] (defScope s__law_key) := ⟨rfl, rfl, rfl, by decide +kernel, rfl, by decide +kernel, by decide +kernel⟩
abbrev s__law_row_key : Stmt := topS 17
theorem sc__law_row_key : FnScope ["row", "value"] ["row"] (defScope s__law_row_key) := ⟨rfl, rfl, rfl, by decide +kernel, rfl, by decide +kernel, by decide +kernel⟩
abbrev s__law_set : Stmt := topS 18
theorem sc__law_set : FnScope ["rows", "seen", "row"] ["rows"] (defScope s__law_set) := ⟨rfl, rfl, rfl, by decide +kernel, rfl, by decide +kernel, by decide +kernel⟩
abbrev s__law_near_value : Stmt := topS 19
theorem sc__law_near_value : FnScope ["tape", "value", "others"] ["tape", "value"] (defScope s__law_near_value) := ⟨rfl, rfl, rfl, by decide +kernel, rfl, by decide +kernel, by decide +kernel⟩
abbrev s__law_near_row : Stmt := topS 20
theorem sc__law_near_row : FnScope ["tape", "row", "choice", "k"] ["tape", "row"] (defScope s__law_near_row) := ⟨rfl, rfl, rfl, by decide +kernel, rfl, by decide +kernel, by decide +kernel⟩
abbrev s__law_before_right : Stmt := topS 21
theorem sc__law_before_right : FnScope ["rows", "row", "other"] ["rows"] (defScope s__law_before_right) := ⟨rfl, rfl, rfl, by decide +kernel, rfl, by decide +kernel, by decide +kernel⟩
abbrev s__law_some_rows : Stmt := topS 22
theorem sc__law_some_rows : FnScope ["tape", "columns", "many", "pool", "rows", "k", "row", "j"] ["tape"] (defScope s__law_some_rows) := ⟨rfl, rfl, rfl, by decide +kernel, rfl, by decide +kernel, by decide +kernel⟩
abbrev s__law_ascending_right : Stmt := topS 23
theorem sc__law_ascending_right : FnScope ["tape", "first", "second", "k", "row", "due", "asked_of", "rows", "wanted"] ["tape"] (defScope s__law_ascending_right) := ⟨rfl, rfl, rfl, by decide +kernel, rfl, by decide +kernel, by decide +kernel⟩
abbrev s_law : Stmt := topS 24
theorem sc_law : FnScope ["script", "tape", "row", "other", "third", "k", "pairs", "door"] ["script"] (defScope s_law) := ⟨rfl, rfl, rfl, by decide +kernel, rfl, by decide +kernel, by decide +kernel⟩
structure Txt (K : PySem.W.Frag) (mg : Str → Option Value) where
  a_value_key : Addr
  d_value_key : FuncData
  F_value_key : Fun K "value_key" "value_key" s_value_key a_value_key d_value_key
  b_value_key : Binds K d_value_key ["value"] []
  m_value_key : mg "value_key" = some (.ref a_value_key)
  a_row_key : Addr
  d_row_key : FuncData
  F_row_key : Fun K "row_key" "row_key" s_row_key a_row_key d_row_key
  b_row_key : Binds K d_row_key ["row"] []
  m_row_key : mg "row_key" = some (.ref a_row_key)
  a_before : Addr
  d_before : FuncData
  F_before : Fun K "before" "before" s_before a_before d_before
  b_before : Binds K d_before ["row", "other"] []
  m_before : mg "before" = some (.ref a_before)
  a_ascending : Addr
  d_ascending : FuncData
  F_ascending : Fun K "ascending" "ascending" s_ascending a_ascending d_ascending
  b_ascending : Binds K d_ascending ["rows"] []
  m_ascending : mg "ascending" = some (.ref a_ascending)
  a__law_tape : Addr
  d__law_tape : FuncData
  F__law_tape : Fun K "_law_tape" "_law_tape" s__law_tape a__law_tape d__law_tape
  b__law_tape : Binds K d__law_tape ["script"] []
  m__law_tape : mg "_law_tape" = some (.ref a__law_tape)
  a__law_draw : Addr
  d__law_draw : FuncData
  F__law_draw : Fun K "_law_draw" "_law_draw" s__law_draw a__law_draw d__law_draw
  b__law_draw : Binds K d__law_draw ["tape", "many"] []
  m__law_draw : mg "_law_draw" = some (.ref a__law_draw)
  a__law_pick : Addr
  d__law_pick : FuncData
  F__law_pick : Fun K "_law_pick" "_law_pick" s__law_pick a__law_pick d__law_pick
  b__law_pick : Binds K d__law_pick ["tape", "rows"] []
  m__law_pick : mg "_law_pick" = some (.ref a__law_pick)
  a__law_turns : Addr
  d__law_turns : FuncData
  F__law_turns : Fun K "_law_turns" "_law_turns" s__law_turns a__law_turns d__law_turns
  b__law_turns : Binds K d__law_turns ["tape", "many"] []
  m__law_turns : mg "_law_turns" = some (.ref a__law_turns)
  a__law_shuffled : Addr
  d__law_shuffled : FuncData
  F__law_shuffled : Fun K "_law_shuffled" "_law_shuffled" s__law_shuffled a__law_shuffled d__law_shuffled
  b__law_shuffled : Binds K d__law_shuffled ["tape", "rows"] []
  m__law_shuffled : mg "_law_shuffled" = some (.ref a__law_shuffled)
  a__law_same : Addr
  d__law_same : FuncData
  F__law_same : Fun K "_law_same" "_law_same" s__law_same a__law_same d__law_same
  b__law_same : Binds K d__law_same ["told", "wanted"] []
  m__law_same : mg "_law_same" = some (.ref a__law_same)
  a__law_text : Addr
  d__law_text : FuncData
  F__law_text : Fun K "_law_text" "_law_text" s__law_text a__law_text d__law_text
  b__law_text : Binds K d__law_text ["tape", "most"] []
  m__law_text : mg "_law_text" = some (.ref a__law_text)
  a__law_value_of : Addr
  d__law_value_of : FuncData
  F__law_value_of : Fun K "_law_value_of" "_law_value_of" s__law_value_of a__law_value_of d__law_value_of
  b__law_value_of : Binds K d__law_value_of ["tape"] []
  m__law_value_of : mg "_law_value_of" = some (.ref a__law_value_of)
  a__law_pool : Addr
  d__law_pool : FuncData
  F__law_pool : Fun K "_law_pool" "_law_pool" s__law_pool a__law_pool d__law_pool
  b__law_pool : Binds K d__law_pool ["tape"] []
  m__law_pool : mg "_law_pool" = some (.ref a__law_pool)
  a__law_row : Addr
  d__law_row : FuncData
  F__law_row : Fun K "_law_row" "_law_row" s__law_row a__law_row d__law_row
  b__law_row : Binds K d__law_row ["tape", "pool", "columns"] []
  m__law_row : mg "_law_row" = some (.ref a__law_row)
  a__law_key : Addr
  d__law_key : FuncData
  F__law_key : Fun K "_law_key" "_law_key" s__law_key a__law_key d__law_key
  b__law_key : Binds K d__law_key ["value"] []
  m__law_key : mg "_law_key" = some (.ref a__law_key)
  a__law_row_key : Addr
  d__law_row_key : FuncData
  F__law_row_key : Fun K "_law_row_key" "_law_row_key" s__law_row_key a__law_row_key d__law_row_key
  b__law_row_key : Binds K d__law_row_key ["row"] []
  m__law_row_key : mg "_law_row_key" = some (.ref a__law_row_key)
  a__law_set : Addr
  d__law_set : FuncData
  F__law_set : Fun K "_law_set" "_law_set" s__law_set a__law_set d__law_set
  b__law_set : Binds K d__law_set ["rows"] []
  m__law_set : mg "_law_set" = some (.ref a__law_set)
  a__law_near_value : Addr
  d__law_near_value : FuncData
  F__law_near_value : Fun K "_law_near_value" "_law_near_value" s__law_near_value a__law_near_value d__law_near_value
  b__law_near_value : Binds K d__law_near_value ["tape", "value"] []
  m__law_near_value : mg "_law_near_value" = some (.ref a__law_near_value)
  a__law_near_row : Addr
  d__law_near_row : FuncData
  F__law_near_row : Fun K "_law_near_row" "_law_near_row" s__law_near_row a__law_near_row d__law_near_row
  b__law_near_row : Binds K d__law_near_row ["tape", "row"] []
  m__law_near_row : mg "_law_near_row" = some (.ref a__law_near_row)
  a__law_before_right : Addr
  d__law_before_right : FuncData
  F__law_before_right : Fun K "_law_before_right" "_law_before_right" s__law_before_right a__law_before_right d__law_before_right
  b__law_before_right : Binds K d__law_before_right ["rows"] []
  m__law_before_right : mg "_law_before_right" = some (.ref a__law_before_right)
  a__law_some_rows : Addr
  d__law_some_rows : FuncData
  F__law_some_rows : Fun K "_law_some_rows" "_law_some_rows" s__law_some_rows a__law_some_rows d__law_some_rows
  b__law_some_rows : Binds K d__law_some_rows ["tape"] []
  m__law_some_rows : mg "_law_some_rows" = some (.ref a__law_some_rows)
  a__law_ascending_right : Addr
  d__law_ascending_right : FuncData
  F__law_ascending_right : Fun K "_law_ascending_right" "_law_ascending_right" s__law_ascending_right a__law_ascending_right d__law_ascending_right
  b__law_ascending_right : Binds K d__law_ascending_right ["tape"] []
  m__law_ascending_right : mg "_law_ascending_right" = some (.ref a__law_ascending_right)
  a_law : Addr
  d_law : FuncData
  F_law : Fun K "law" "law" s_law a_law d_law
  z_isinstance : mg "isinstance" = none
  z_str : mg "str" = none
  z_tuple : mg "tuple" = none
  z_sorted : mg "sorted" = none
  z_list : mg "list" = none
  z_int : mg "int" = none
  z_abs : mg "abs" = none
  z_max : mg "max" = none
  z_len : mg "len" = none
  z_range : mg "range" = none
  z_bool : mg "bool" = none
  z_min : mg "min" = none

/-! ### the tape -/
/-- [list(script), place, left, mixed] at t -/
def TapeL (H : Hp) (t l : Addr) : Prop := ∃ (ns : List Int) (place left mixed : Int), H t = some (.lst [.ref l, .int place, .int left, .int mixed]) ∧ H l = some (.lst (ns.map V.int)) ∧ l ≠ t ∧ 0 ≤ place ∧ 0 ≤ left ∧ 0 ≤ mixed ∧ ns.length ≤ 63
def Tape (H : Hp) (t : Addr) : Prop := ∃ l, TapeL H t l
/-- all but the tape stays, and the tape is one -/
structure Ext (K : Fg) (t : Addr) (H H' : Hp) : Prop where
  oth : ∀ b o, b ≠ t → H b = some o → H' b = some o
  tup : TSame K H H'
  tp : ∃ l, TapeL H t l ∧ TapeL H' t l
section
variable {K : Fg} {H H' H1 H2 : Hp} {t p a : Addr}
theorem TapeL.same {l : Addr} (e : Same H H') (h : TapeL H t l) : TapeL H' t l := by
  obtain ⟨ns, a, b, c, h1, h2, r⟩ := h
  exact ⟨ns, a, b, c, e _ _ h1, e _ _ h2, r⟩
theorem Tape.same (e : Same H H') (h : Tape H t) : Tape H' t := ⟨_, h.choose_spec.same e⟩
theorem TapeL.one {l m : Addr} (h : TapeL H t l) (h' : TapeL H t m) : l = m := by
  obtain ⟨_, _, _, _, h1, _⟩ := h
  obtain ⟨_, _, _, _, h2, _⟩ := h'
  rw [h1] at h2
  simp only [Option.some.injEq, HO.lst.injEq, List.cons.injEq, V.ref.injEq] at h2
  exact h2.1
theorem Ext.tape (e : Ext K t H H') : Tape H' t := by
  obtain ⟨l, _, h⟩ := e.tp
  exact ⟨l, h⟩
theorem Ext.tape0 (e : Ext K t H H') : Tape H t := by
  obtain ⟨l, h, _⟩ := e.tp
  exact ⟨l, h⟩
theorem Ext.same (e : Same H H') (h : Tape H t) : Ext K t H H' := by
  obtain ⟨l, h⟩ := h
  exact ⟨fun b o _ q => e b o q, tsame e, l, h, h.same e⟩
theorem Ext.refl (h : Tape H t) : Ext K t H H := .same (Same.refl _) h
theorem Ext.trans (a : Ext K t H H1) (b : Ext K t H1 H2) : Ext K t H H2 := by
  obtain ⟨l, l1, l2⟩ := a.tp
  obtain ⟨m, m1, m2⟩ := b.tp
  have e := l2.one m1
  subst e
  exact ⟨fun x o n q => b.oth x o n (a.oth x o n q), fun x o q => b.tup x o (a.tup x o q), l, l1, m2⟩
theorem Ext.then (a : Ext K t H H1) (b : Same H1 H2) : Ext K t H H2 := a.trans (.same b a.tape)
theorem Ext.lst {xs : List V} (e : Ext K t H H') (n : a ≠ t) (h : SqL K H a xs) : SqL K H' a xs := by
  rcases h with (h | ⟨o, h⟩) | h
  · exact .inl (.inl (e.oth _ _ n h))
  · exact .inl (.inr ⟨o, e.oth _ _ n h⟩)
  · exact .inr h
theorem Tape.get (h : Tape H t) : ∃ xs, H t = some (.lst xs) := by
  obtain ⟨l, ns, a, b, c, h1, _⟩ := h
  exact ⟨_, h1⟩
theorem Tape.ne (h : Tape H t) (hp : H p = none) : p ≠ t := by
  rintro rfl
  obtain ⟨xs, h1⟩ := h.get
  rw [h1] at hp
  cases hp
theorem Ext.free (e : Ext K t H H') (hp : H' p = none) : H p = none := by
  cases h : H p with
  | none => rfl
  | some o => rw [e.oth p o (e.tape.ne hp) h] at hp; cases hp
theorem dpX {d : PyData} {v : V} (e : Ext K t H H') (n : noL d = true) (h : Dp K H v d) : Dp K H' v d := dp_monoT e.tup _ _ n h
theorem dpsX {d : List PyData} {v : List V} (e : Ext K t H H') (n : noLs d = true) (h : DpAll K H v d) : DpAll K H' v d := dps_monoT e.tup _ _ n h
theorem tsameL {xs : List V} (h1 : H1 p = some (.lst xs)) (h : ∀ b o, b ≠ p → H1 b = some o → H2 b = some o) : TSame K H1 H2 := fun a zs q => by
  rcases q with (q | ⟨o, q⟩) | q
  · exact .inl (.inl (h _ _ (by rintro rfl; rw [h1] at q; cases q) q))
  · exact .inl (.inr ⟨o, h _ _ (by rintro rfl; rw [h1] at q; cases q) q⟩)
  · exact .inr q
/-- an owned list (fresh ahead of H) may change -/
theorem Ext.mut {xs : List V} (e : Ext K t H H1) (hp : H p = none) (h1 : H1 p = some (.lst xs)) (h : ∀ b o, b ≠ p → H1 b = some o → H2 b = some o) : Ext K t H H2 := by
  have tp := tsameL (K := K) h1 h
  refine ⟨fun b o n q => h _ _ (by rintro rfl; rw [hp] at q; cases q) (e.oth b o n q), fun a zs q => tp _ _ (e.tup a zs q), ?_⟩
  have np := e.tape0.ne hp
  obtain ⟨l, l1, l2⟩ := e.tp
  refine ⟨l, l1, ?_⟩
  obtain ⟨_, _, _, _, _, k2, _⟩ := l1
  obtain ⟨ns, a, b, c, q1, q2, q3⟩ := l2
  exact ⟨ns, a, b, c, h _ _ np.symm q1, h _ _ (by rintro rfl; rw [hp] at k2; cases k2) q2, q3⟩
theorem Same.mut (e : Same H H1) (hp : H p = none) (h : ∀ b o, b ≠ p → H1 b = some o → H2 b = some o) : Same H H2 := fun b o q => h _ _ (by rintro rfl; rw [hp] at q; cases q) (e b o q)
end
def sp__law_tape (K : Fg) : Sp := fun vs H Q _ => ∃ (a : Addr) (ns : List Int), vs = [.ref a] ∧ SqL K H a (ns.map V.int) ∧ ns.length ≤ 63 ∧ ∀ t H', Same H H' → Tape H' t → Q (.ref t) H'
def sp__law_draw (K : Fg) : Sp := fun vs H Q _ => ∃ (t : Addr) (many : Int), vs = [.ref t, .int many] ∧ Tape H t ∧ many.natAbs < 2 ^ 62 ∧ ∀ r H', Ext K t H H' → 0 ≤ r → r < max many 1 → Q (.int r) H'
/-- an item of a list of values -/
def sp__law_pick (K : Fg) : Sp := fun vs H Q _ => ∃ (t a : Addr) (xs : List V), vs = [.ref t, .ref a] ∧ Tape H t ∧ SqL K H a xs ∧ a ≠ t ∧ 0 < xs.length ∧ xs.length < 2 ^ 60 ∧ ∀ (i : Nat) (v : V) (H' : Hp), Ext K t H H' → xs[i]? = some v → Q v H'
--', Ext K t H H' → xs[i]? = some v → Q v H'
/-- some of 0 .. many - 1 -/
def sp__law_turns (K : Fg) : Sp := fun vs H Q _ => ∃ (t : Addr) (many : Nat), vs = [.ref t, .int many] ∧ Tape H t ∧ many < 1000 ∧ ∀ (a : Addr) (ns : List Int) (H' : Hp), Ext K t H H' → H a = none → H' a = some (.lst (ns.map V.int)) → (∀ n ∈ ns, 0 ≤ n ∧ n < (many : Int)) → ns.length ≤ many → Q (.ref a) H'
--', Ext K t H H' → H a = none → H' a = some (.lst (ns.map V.int)) → (∀ n ∈ ns, 0 ≤ n ∧ n < (many : Int)) → ns.length ≤ many → Q (.ref a) H'
def sp__law_shuffled (K : Fg) : Sp := fun vs H Q _ => ∃ (t a : Addr) (xs : List V), vs = [.ref t, .ref a] ∧ Tape H t ∧ SqL K H a xs ∧ a ≠ t ∧ xs.length < 100000 ∧ ∀ (p : Addr) (ys : List V) (H' : Hp), Ext K t H H' → H p = none → H' p = some (.lst ys) → ys.Perm xs → Q (.ref p) H'
--', Ext K t H H' → H p = none → H' p = some (.lst ys) → ys.Perm xs → Q (.ref p) H'

theorem map_int_at {ns : List Int} {i : Nat} {x : V} (h : (ns.map V.int)[i]? = some x) : ∃ n, ns[i]? = some n ∧ x = V.int n := by
  rw [List.getElem?_map] at h
  cases e : ns[i]? with
  | none => rw [e] at h; cases h
  | some n => rw [e] at h; exact ⟨n, rfl, (Option.some.inj h).symm⟩
section
variable {P : Program} {w : World} {K : Fg} {mg : Str → Option Value} {base : Heap}
theorem ok__law_tape (T : Txt K mg) : FnOk P w K mg base CX0 1 T.a__law_tape T.d__law_tape ["script"] (sp__law_tape K) := by
  refine T.F__law_tape.ok sc__law_tape (fun vs H Q E h => ?_) (fun cdv A outer s H vs Q E hr h => ?_)
  · obtain ⟨_, _, rfl, _⟩ := h
    rfl
  obtain ⟨a, ns, rfl, ha, hl, k⟩ := h
  refine ⟨_, (pss_cons (ps_set (i := 1) sc__law_tape.nd rfl (Or.inl rfl) pe_int) (pss_cons (ps_for PassesOwn.never rfl (pi_listK (K := K) (pv 0)) (pg_name (i := 2) sc__law_tape.nd rfl (Or.inl rfl)) (pss_one (ps_set (i := 1) sc__law_tape.nd rfl (Or.inl rfl) (pe_op op_modU (pe_callTy call_intU (by rfl) T.z_int rfl (pa_cons (pe_op (op_addK (K := K)) (pe_op (op_mulK (K := K)) (pv 1) pe_int) (pe_callB call_absU (by rfl) T.z_abs rfl (pa_cons (pe_callTy call_intU (by rfl) T.z_int rfl (pa_cons (pv 2) pa_nil)) pa_nil))) pa_nil)) pe_int)))) (pss_one (ps_ret (pe_lst (pa_cons (pe_callTy (call_listK (K := K)) (by rfl) T.z_list rfl (pa_cons (pv 0) pa_nil)) (pa_cons pe_int (pa_cons pe_int (pa_cons (pv 1) pa_nil))))))))), ?_⟩
  walk_at "nz"
  refine r_forL rfl ha (fun i σ' H' => H' = H ∧ ∃ m c, σ' = [some (.ref a), some (.int m), c] ∧ 0 ≤ m ∧ m < 2147483647) ⟨rfl, 7, none, rfl, by decide, by decide⟩ (fun i σ' H' _ ⟨e, _⟩ => e ▸ ha) ?_ ?_
  · rintro i x σ' H' hi ⟨rfl, m, c, rfl, hm, hm2⟩
    obtain ⟨n, hn, rfl⟩ := map_int_at hi
    walk_at "nz"
    refine r_mulR (by decide) (r_int (r_abs (r_addI (r_int (r_modP (by decide) ?_)))))
    exact ⟨rfl, _, _, rfl, by omega, by omega⟩
  · rintro σ' H' ⟨rfl, m, c, rfl, hm, _⟩
    walk_at "nz"
    refine r_listV (.inl ha) fun l H1 s1 n1 e1 => ?_
    refine r_lst fun p H2 s2 hp e2 => k _ _ (s1.trans s2) ?_
    have nlp : l ≠ p := by rintro rfl; rw [e1] at hp; cases hp
    exact ⟨l, ns, 0, 0, m, e2, s2 _ _ e1, nlp, by decide, by decide, hm, hl⟩
theorem lt64 {n : Nat} (h : n < 2 ^ 64) : n < 2 ^ 8999 := Nat.lt_of_lt_of_le h (Nat.pow_le_pow_right (by decide) (by decide))
theorem atI0 {a b c d : V} : atI [a, b, c, d] 0 = some a := rfl
theorem atI1 {a b c d : V} : atI [a, b, c, d] 1 = some b := rfl
theorem atI2 {a b c d : V} : atI [a, b, c, d] 2 = some c := rfl
theorem atI3 {a b c d : V} : atI [a, b, c, d] 3 = some d := rfl
theorem r_setL {Q : Hp → Prop} {H : Hp} {p : Addr} {xs : List V} {k : Int} {j : Nat} {v : V} (h : H p = some (.lst xs)) (hj : ixN xs.length k = some j)
    (q : ∀ H', (∀ b o, b ≠ p → H b = some o → H' b = some o) → H' p = some (.lst (xs.set j v)) → Q H') : rSetL (.ref p) (.int k) v H Q :=
  ⟨p, xs, k, j, rfl, rfl, h, hj, q _ (fun b o hb e => by rw [upd_ne hb]; exact e) upd_same⟩
theorem tape_set {H H' : Hp} {t l : Addr} {ns : List Int} {a b c : Int} (hl : H l = some (.lst (ns.map V.int))) (n : l ≠ t) (ha : 0 ≤ a) (hb : 0 ≤ b) (hc : 0 ≤ c) (hz : ns.length ≤ 63)
    (h : ∀ b o, b ≠ t → H b = some o → H' b = some o) (e : H' t = some (.lst [.ref l, .int a, .int b, .int c])) : TapeL H' t l :=
  ⟨ns, a, b, c, e, h _ _ n hl, n, ha, hb, hc, hz⟩
theorem ext_set {H H' : Hp} {t l : Addr} (h0 : TapeL H t l) (h : ∀ b o, b ≠ t → H b = some o → H' b = some o) (h1 : TapeL H' t l) : Ext K t H H' := by
  obtain ⟨xs, hx⟩ := Tape.get ⟨l, h0⟩
  exact ⟨h, tsameL hx h, l, h0, h1⟩
theorem modr {i many : Int} : 0 ≤ i % max many 1 ∧ i % max many 1 < max many 1 := ⟨Int.emod_nonneg _ (by omega), Int.emod_lt_of_pos _ (by omega)⟩
theorem ok__law_draw (T : Txt K mg) : FnOk P w K mg base CX0 1 T.a__law_draw T.d__law_draw ["tape", "many"] (sp__law_draw K) := by
  refine T.F__law_draw.ok sc__law_draw (fun vs H Q E h => ?_) (fun cdv A outer s H vs Q E hr h => ?_)
  · obtain ⟨_, _, rfl, _⟩ := h
    rfl
  obtain ⟨t, many, rfl, ⟨l, hT⟩, hmany, k⟩ := h
  refine ⟨_, (pss_cons (ps_if (pt_cmpR (op_eqK (K := K) (hu64 hr)) (pe_ix (ixK (K := K)) (pv 0) pe_int (fun _ _ => rfl)) pe_int (nomark _)) (pss_cons (ps_set (i := 2) sc__law_draw.nd rfl (Or.inl rfl) (pe_ix (ixK (K := K)) (pv 0) pe_int (fun _ _ => rfl))) (pss_cons (ps_set (i := 3) sc__law_draw.nd rfl (Or.inl rfl) pe_int) (pss_cons (ps_if (pt_cmpR op_lt (pv 2) (pe_callB (call_lenK (K := K)) (by rfl) T.z_len rfl (pa_cons (pe_ix (ixK (K := K)) (pv 0) pe_int (fun _ _ => rfl)) pa_nil)) (nomark _)) (pss_one (ps_set (i := 3) sc__law_draw.nd rfl (Or.inl rfl) (pe_callB call_absU (by rfl) T.z_abs rfl (pa_cons (pe_callTy call_intU (by rfl) T.z_int rfl (pa_cons (pe_ix (ixK (K := K)) (pe_ix (ixK (K := K)) (pv 0) pe_int (fun _ _ => rfl)) (pv 2) (fun _ _ => rfl)) pa_nil)) pa_nil)))) (pss_cons (ps_asg (pe_op op_modU (pe_callTy call_intU (by rfl) T.z_int rfl (pa_cons (pe_op (op_addK (K := K)) (pe_op (op_addK (K := K)) (pe_op (op_mulK (K := K)) (pe_ix (ixK (K := K)) (pv 0) pe_int (fun _ _ => rfl)) pe_int) (pv 2)) pe_int) pa_nil)) pe_int) (pg_sub (pv 0) pe_int set_list)) (pss_one (ps_set (i := 3) sc__law_draw.nd rfl (Or.inl rfl) (pe_ix (ixK (K := K)) (pv 0) pe_int (fun _ _ => rfl)))))) (pss_cons (ps_asg (pe_op (op_addK (K := K)) (pv 2) pe_int) (pg_sub (pv 0) pe_int set_list)) (pss_cons (ps_if (pt_cmpR op_lt (pv 3) (pe_op op_pow pe_int pe_int) (nomark _)) (pss_cons (ps_set (i := 3) sc__law_draw.nd rfl (Or.inl rfl) (pe_op op_modU (pe_callTy call_intU (by rfl) T.z_int rfl (pa_cons (pe_op (op_addK (K := K)) (pe_op (op_addK (K := K)) (pe_op (op_mulK (K := K)) (pv 3) pe_int) (pe_op (op_mulK (K := K)) (pv 2) pe_int)) pe_int) pa_nil)) pe_int)) (pss_cons (ps_set (i := 3) sc__law_draw.nd rfl (Or.inl rfl) (pe_op op_modU (pe_callTy call_intU (by rfl) T.z_int rfl (pa_cons (pe_op (op_mulK (K := K)) (pv 3) pe_int) pa_nil)) pe_int)) (pss_one (ps_ret (pe_op op_modU (pe_callTy call_intU (by rfl) T.z_int rfl (pa_cons (pv 3) pa_nil)) (pe_callB (call_max2U rfl) (by rfl) T.z_max rfl (pa_cons (pv 1) (pa_cons pe_int pa_nil)))))))) pss_nil) (pss_one (ps_asg (pv 3) (pg_sub (pv 0) pe_int set_list)))))))) pss_nil) (pss_cons (ps_set (i := 3) sc__law_draw.nd rfl (Or.inl rfl) (pe_ix (ixK (K := K)) (pv 0) pe_int (fun _ _ => rfl))) (pss_cons (ps_asg (pe_op op_fdivU (pv 3) (pe_callB (call_max2U rfl) (by rfl) T.z_max rfl (pa_cons (pv 1) (pa_cons pe_int pa_nil)))) (pg_sub (pv 0) pe_int set_list)) (pss_one (ps_ret (pe_op op_modU (pe_callTy call_intU (by rfl) T.z_int rfl (pa_cons (pv 3) pa_nil)) (pe_callB (call_max2U rfl) (by rfl) T.z_max rfl (pa_cons (pv 1) (pa_cons pe_int pa_nil))))))))), ?_⟩
  walk_at "nz"
  have hT0 := hT
  obtain ⟨ns, place, left, mixed, e1, e2, nlt, p0, l0, m0, hz⟩ := hT
  have s1 : SqL K H t _ := SqL.of e1
  -- the tail, from a heap where number is known
  have tail2 : ∀ (number : Int) (H1 : Hp), 0 ≤ number → (∃ pl lf mx, H1 t = some (.lst [.ref l, .int pl, .int lf, .int mx]) ∧ 0 ≤ pl ∧ 0 ≤ mx) → (∀ b o, b ≠ t → H b = some o → H1 b = some o) →
      rMaxU [.int many, .int 2] H1 fun x H2 => rFdU (.int number) x H2 fun x H3 => rSetL (.ref t) (.int 2) x H3 fun H4 => rIntU [.int number] H4 fun x H5 => rMaxU [.int many, .int 1] H5 fun y H6 => rModU x y H6 Q := by
    rintro number H1 hn ⟨pl, lf, mx, f1, fp, fm⟩ f2
    refine r_max (r_fdW (by omega) (lt64 (by omega)) (r_setL f1 rfl fun H2 g1 g2 => r_int (r_max (r_modP (by omega) ?_))))
    refine k _ _ (ext_set hT0 (fun b o n q => g1 b o n (f2 b o n q)) (tape_set (f2 _ _ nlt e2) nlt fp (Int.ediv_nonneg hn (by omega)) fm hz g1 g2)) modr.1 modr.2
  have tail1 : ∀ (number place : Int) (H1 : Hp), 0 ≤ number → 0 ≤ place → (∃ pl lf mx, H1 t = some (.lst [.ref l, .int pl, .int lf, .int mx]) ∧ 0 ≤ lf ∧ 0 ≤ mx) → (∀ b o, b ≠ t → H b = some o → H1 b = some o) →
      rAddU K (V.int place) (V.int 1) H1 fun x_1 H1 => rSetL (V.ref t) (V.int 1) x_1 H1 fun H3 => rI CPow (fun i j => V.int (i ^ j.toNat)) (V.int 10) (V.int 18) H3 fun y H2 => rI0 (fun i j => V.bl (decide (i < j))) (.int number) y H2 fun x_2 H' =>
        ∃ k, x_2 = V.bl k ∧ if k = true then
            rMulU K (.int number) (V.int 48271) H' fun x H1 => rMulU K (V.int place) (V.int 69621) H1 fun y H2 => rAddU K x y H2 fun x H1 => rAddU K x (V.int 5) H1 fun x H1 => rIntU [x] H1 fun x H1 => rModU x (V.int 2147483647) H1 fun x H1 =>
              rMulU K x (V.int 69621) H1 fun x H1 => rIntU [x] H1 fun x H1 => rModU x (V.int 2147483629) H1 fun x H1 => rIntU [x] H1 fun x H1 => rMaxU [V.int many, V.int 1] H1 fun y H2 => rModU x y H2 Q
          else rSetL (V.ref t) (V.int 2) (.int number) H' fun H3 => rIx K (V.ref t) (V.int 2) H3 fun x H1 => rMaxU [V.int many, V.int 2] H1 fun y H2 => rFdU x y H2 fun x_3 H1 => rSetL (V.ref t) (V.int 2) x_3 H1 fun H3 =>
            rIntU [x] H3 fun x H1 => rMaxU [V.int many, V.int 1] H1 fun y H2 => rModU x y H2 Q := by
    rintro number place H1 hn hp ⟨pl, lf, mx, f1, fl, fm⟩ f2
    refine r_addI (r_setL f1 rfl fun H2 g1 g2 => r_I ⟨by decide, by decide, by decide⟩ (r_I0 (r_bl (r_if (fun c => ?_) (fun c => ?_)))))
    · refine r_mulR (by decide) (r_mulR (by decide) (r_addI (r_addI (r_int (r_modP (by decide) (r_mulR (by decide) (r_int (r_modP (by decide) (r_int (r_max (r_modP (by omega) ?_)))))))))))
      exact k _ _ (ext_set hT0 (fun b o n q => g1 b o n (f2 b o n q)) (tape_set (f2 _ _ nlt e2) nlt (by omega) fl fm hz g1 g2)) modr.1 modr.2
    · refine r_setL g2 rfl fun H3 g3 g4 => r_ixLV (SqL.of g4) atI2 ?_
      exact tail2 number H3 hn ⟨_, _, _, g4, by omega, fm⟩ fun b o n q => g3 b o n (g1 b o n (f2 b o n q))
  refine r_ixLV s1 atI2 (r_eqI (r_bl (r_if (fun c => ?_) (fun c => ?_))))
  · refine r_ixLV s1 atI1 (r_ixLV s1 atI0 (r_lenL (SqL.of e2) (r_I0 (r_bl (r_if (fun c2 => ?_) (fun c2 => ?_))))))
    · have hi : place.toNat < ns.length := by rw [List.length_map] at c2; omega
      have hat : atI (ns.map V.int) place = some (.int ns[place.toNat]) := at_of (j := place.toNat) (by omega) (by rw [List.getElem?_map, List.getElem?_eq_getElem hi]; rfl)
      refine r_ixLV s1 atI0 (r_ixLV (SqL.of e2) hat (r_int (r_abs ?_)))
      exact tail1 _ place H (by omega) p0 ⟨_, _, _, e1, l0, m0⟩ fun _ _ _ q => q
    · refine r_ixLV s1 atI3 (r_mulR (by decide) (r_addI (r_addI (r_int (r_modP (by decide) (r_setL e1 rfl fun H2 g1 g2 => r_ixLV (SqL.of g2) atI3 ?_))))))
      exact tail1 _ place H2 (by omega) p0 ⟨_, _, _, g2, l0, by omega⟩ g1
  · refine r_ixLV s1 atI2 ?_
    exact tail2 left H l0 ⟨_, _, _, e1, p0, m0⟩ fun _ _ _ q => q
end

section
variable {P : Program} {w : World} {K : Fg} {mg : Str → Option Value} {base : Heap}
theorem ok__law_pick (T : Txt K mg) : FnOk P w K mg base CX0 2 T.a__law_pick T.d__law_pick ["tape", "rows"] (sp__law_pick K) := by
  have G__law_draw := ok__law_draw (P := P) (w := w) (base := base) T
  refine T.F__law_pick.ok sc__law_pick (fun vs H Q E h => ?_) (fun cdv A outer s H vs Q E hr h => ?_)
  · obtain ⟨_, _, _, rfl, _⟩ := h
    rfl
  obtain ⟨t, a, xs, rfl, hT, hx, hn, h0, h1, k⟩ := h
  refine ⟨_, (pss_one (ps_ret (pe_ix (ixK (K := K)) (pv 1) (pe_call G__law_draw (hr.mono (by omega)) rfl T.m__law_draw T.F__law_draw.kp T.b__law_draw .nil pass0 (pa_cons (pv 0) (pa_cons (pe_callB (call_lenK (K := K)) (by rfl) T.z_len rfl (pa_cons (pv 1) pa_nil)) pa_nil))) (fun _ _ => rfl)))), ?_⟩
  walk_at "nz"
  refine r_lenL hx ⟨_, _, rfl, hT, by omega, fun r H1 e1 r0 r1 => ?_⟩
  have hr : r.toNat < xs.length := by omega
  exact r_ixLV (e1.lst hn hx) (at_of (j := r.toNat) (by omega) (List.getElem?_eq_getElem hr)) (k _ _ _ e1 (List.getElem?_eq_getElem hr))
/-- one turn: an item of left goes behind turned -/
theorem turn_pop {t p q : Addr} {lf tn : List V} {H H1 : Hp} {Q : Hp → Prop} (e : Ext K t H H1) (np : H p = none) (nq : H q = none) (npq : p ≠ q) (hq : H1 q = some (.lst lf)) (hp : H1 p = some (.lst tn)) (h0 : 0 < lf.length) (h1 : lf.length < 1000000) (h2 : tn.length < 1000000)
    (k : ∀ (i : Nat) y H2, lf[i]? = some y → Ext K t H H2 → H2 q = some (.lst (lf.eraseIdx i)) → H2 p = some (.lst (tn ++ [y])) → Q H2) :
    tyV K "list" (.ref p) H1 ∧ tyV K "list" (.ref q) H1 ∧ rLenU K [.ref q] H1 fun n H2 => sp__law_draw K [.ref t, n] H2 (fun r H3 => rPopAt (.ref q) [r] H3 fun y H4 => rAppend (.ref p) [y] H4 fun _ H5 => Q H5) E0 := by
  refine ⟨r_tyL (SqL.of hp), r_tyL (SqL.of hq), r_lenL (SqL.of hq) ⟨_, _, rfl, e.tape, by omega, fun r H3 e3 r0 r1 => ?_⟩⟩
  have tp := e.tape0.ne np
  have tq := e.tape0.ne nq
  refine r_popAt (e3.oth _ _ tq hq) r0 (by omega) (by omega) fun y H4 hy f4 g4 => ?_
  have p4 := f4 _ _ npq (e3.oth _ _ tp hp)
  refine r_append p4 h2 fun H5 f5 g5 => ?_
  have x4 : Ext K t H H4 := (e.trans e3).mut nq (e3.oth _ _ tq hq) f4
  exact k r.toNat y H5 hy (x4.mut np p4 f5) (f5 _ _ npq.symm g4) g5
theorem ok__law_shuffled (T : Txt K mg) : FnOk P w K mg base CX0 2 T.a__law_shuffled T.d__law_shuffled ["tape", "rows"] (sp__law_shuffled K) := by
  have G__law_draw := ok__law_draw (P := P) (w := w) (base := base) T
  refine T.F__law_shuffled.ok sc__law_shuffled (fun vs H Q E h => ?_) (fun cdv A outer s H vs Q E hr h => ?_)
  · obtain ⟨_, _, _, rfl, _⟩ := h
    rfl
  obtain ⟨t, a, xs, rfl, hT, hx, hn, hl, k⟩ := h
  refine ⟨_, (pss_cons (ps_set (i := 2) sc__law_shuffled.nd rfl (Or.inl rfl) (pe_callTy (call_listK (K := K)) (by rfl) T.z_list rfl (pa_cons (pv 1) pa_nil))) (pss_cons (ps_set (i := 3) sc__law_shuffled.nd rfl (Or.inl rfl) (pe_lst pa_nil)) (pss_cons (ps_for PassesOwn.never rfl (pi_range1 (by rfl) T.z_range (pa_cons (pe_callB (call_lenK (K := K)) (by rfl) T.z_len rfl (pa_cons (pv 1) pa_nil)) pa_nil)) (pg_name (i := 4) sc__law_shuffled.nd rfl (Or.inl rfl)) (pss_one (ps_expr (pe_bmK (K := K) PySem.F.plainAttrs_list PySem.F.slot_list_append PySem.F.type_list_append mt_append (pv 3) (pa_cons (pe_bmK (K := K) PySem.F.plainAttrs_list PySem.F.slot_list_pop PySem.F.type_list_pop mt_popAt (pv 2) (pa_cons (pe_call G__law_draw (hr.mono (by omega)) rfl T.m__law_draw T.F__law_draw.kp T.b__law_draw .nil pass0 (pa_cons (pv 0) (pa_cons (pe_callB (call_lenK (K := K)) (by rfl) T.z_len rfl (pa_cons (pv 2) pa_nil)) pa_nil))) pa_nil)) pa_nil))))) (pss_one (ps_ret (pv 3)))))), ?_⟩
  walk_at "nz"
  refine r_listV (.inl hx) fun q H1 s1 nq e1 => r_lst fun p H2 s2 np1 e2 => ?_
  have np : H p = none := s1.free np1
  have npq : p ≠ q := by rintro rfl; rw [e1] at np1; cases np1
  have x2 : Ext K t H H2 := .same (s1.trans s2) hT
  refine r_forR (n := (xs.length : Int)) (fun Q q => by walk_at "nz"; exact r_lenL (x2.lst hn hx) q) (by omega) (by omega)
    (fun i σ' H' => ∃ lf tn c, σ' = [some (.ref t), some (.ref a), some (.ref q), some (.ref p), c] ∧ Ext K t H H' ∧ H' q = some (.lst lf) ∧ H' p = some (.lst tn) ∧ (lf ++ tn).Perm xs ∧ tn.length = i)
    ⟨xs, [], none, rfl, x2, s2 _ _ e1, e2, by rw [List.append_nil], rfl⟩ ?_ ?_
  · rintro i σ' H' hi ⟨lf, tn, c, rfl, x, hq, hp, pm, hlen⟩
    have pl := pm.length_eq
    rw [List.length_append] at pl
    walk_at "nz"
    refine turn_pop x np nq npq hq hp (by omega) (by omega) (by omega) fun j y H2 hy x2 g1 g2 => ⟨_, _, _, rfl, x2, g1, g2, ?_, by rw [List.length_append]; simp [hlen]⟩
    refine List.Perm.trans ?_ pm
    rw [show lf.eraseIdx j ++ (tn ++ [y]) = (lf.eraseIdx j ++ tn) ++ [y] by rw [List.append_assoc]]
    refine List.Perm.trans (l₂ := (lf.eraseIdx j ++ [y]) ++ tn) ?_ ((perm_pop hy).append_right _)
    rw [List.append_assoc, List.append_assoc]
    exact List.Perm.append_left _ List.perm_append_comm
  · rintro σ' H' ⟨lf, tn, c, rfl, x, hq, hp, pm, hlen⟩
    walk_at "nz"
    have pl := pm.length_eq
    rw [List.length_append] at pl
    have : lf = [] := List.eq_nil_of_length_eq_zero (by omega)
    subst this
    exact k _ _ _ x np hp pm
theorem ok__law_turns (T : Txt K mg) : FnOk P w K mg base CX0 2 T.a__law_turns T.d__law_turns ["tape", "many"] (sp__law_turns K) := by
  have G__law_draw := ok__law_draw (P := P) (w := w) (base := base) T
  refine T.F__law_turns.ok sc__law_turns (fun vs H Q E h => ?_) (fun cdv A outer s H vs Q E hr h => ?_)
  · obtain ⟨_, _, rfl, _⟩ := h
    rfl
  obtain ⟨t, many, rfl, hT, hm, k⟩ := h
  refine ⟨_, (pss_cons (ps_set (i := 2) sc__law_turns.nd rfl (Or.inl rfl) (pe_listRg rfl (by rfl) T.z_list (prg_1 (by rfl) T.z_range (pv 1)))) (pss_cons (ps_set (i := 3) sc__law_turns.nd rfl (Or.inl rfl) (pe_lst pa_nil)) (pss_cons (ps_for PassesOwn.never rfl (pi_range1 (by rfl) T.z_range (pa_cons (pv 1) pa_nil)) (pg_name (i := 4) sc__law_turns.nd rfl (Or.inl rfl)) (pss_one (ps_expr (pe_bmK (K := K) PySem.F.plainAttrs_list PySem.F.slot_list_append PySem.F.type_list_append mt_append (pv 3) (pa_cons (pe_bmK (K := K) PySem.F.plainAttrs_list PySem.F.slot_list_pop PySem.F.type_list_pop mt_popAt (pv 2) (pa_cons (pe_call G__law_draw (hr.mono (by omega)) rfl T.m__law_draw T.F__law_draw.kp T.b__law_draw .nil pass0 (pa_cons (pv 0) (pa_cons (pe_callB (call_lenK (K := K)) (by rfl) T.z_len rfl (pa_cons (pv 2) pa_nil)) pa_nil))) pa_nil)) pa_nil))))) (pss_one (ps_ret (pe_slice (sl_K (K := K)) (pv 3) po_none (po_some (pe_ix (ixK (K := K)) (pe_lst (pa_cons (pv 1) (pa_cons (pv 1) (pa_cons pe_int pa_nil)))) (pe_call G__law_draw (hr.mono (by omega)) rfl T.m__law_draw T.F__law_draw.kp T.b__law_draw .nil pass0 (pa_cons (pv 0) (pa_cons pe_int pa_nil))) (fun _ _ => rfl))))))))), ?_⟩
  walk_at "nz"
  refine r_i (r_lstR (by decide) (by omega) (by decide) fun q H1 s1 nq e1 => r_lst fun p H2 s2 np1 e2 => ?_)
  have np : H p = none := s1.free np1
  have npq : p ≠ q := by rintro rfl; rw [e1] at np1; cases np1
  have x2 : Ext K t H _ := .same (s1.trans s2) hT
  have rl : (rgV 0 many).length = many := by unfold rgV; simp
  refine r_forR (n := (many : Int)) (by walk_at "ev") (by omega) (by omega)
    (fun i σ' H' => ∃ lf tn c, σ' = [some (.ref t), some (.int many), some (.ref q), some (.ref p), c] ∧ Ext K t H H' ∧ H' q = some (.lst lf) ∧ H' p = some (.lst tn) ∧ (lf ++ tn).Perm (rgV 0 many) ∧ tn.length = i)
    ⟨_, [], none, rfl, x2, s2 _ _ e1, e2, by rw [List.append_nil], rfl⟩ ?_ ?_
  · rintro i σ' H' hi ⟨lf, tn, c, rfl, x, hq, hp, pm, hlen⟩
    have pl := pm.length_eq
    rw [List.length_append] at pl
    walk_at "nz"
    refine turn_pop x np nq npq hq hp (by omega) (by omega) (by omega) fun j y H2 hy x2 g1 g2 => ⟨_, _, _, rfl, x2, g1, g2, ?_, by rw [List.length_append]; simp [hlen]⟩
    refine List.Perm.trans ?_ pm
    rw [show lf.eraseIdx j ++ (tn ++ [y]) = (lf.eraseIdx j ++ tn) ++ [y] by rw [List.append_assoc]]
    refine List.Perm.trans (l₂ := (lf.eraseIdx j ++ [y]) ++ tn) ?_ ((perm_pop hy).append_right _)
    rw [List.append_assoc, List.append_assoc]
    exact List.Perm.append_left _ List.perm_append_comm
  · rintro σ' H' ⟨lf, tn, c, rfl, x, hq, hp, pm, hlen⟩
    walk_at "nz"
    refine r_lst fun m H2 s2 nm e2 => ?_
    have x3 : Ext K t H H2 := x.then s2
    refine ⟨_, _, rfl, x3.tape, by decide, fun r H3 e3 r0 r1 => ?_⟩
    have nmt : m ≠ t := x.tape.ne nm
    have l3 := e3.oth _ _ nmt e2
    have fin : ∀ z : Int, r = z → (z = 0 ∨ z = 1 ∨ z = 2) → ∃ j, atI [V.int many, V.int many, V.int 1] r = some (.int j) := by
      rintro z rfl (rfl | rfl | rfl)
      · exact ⟨_, rfl⟩
      · exact ⟨_, rfl⟩
      · exact ⟨_, rfl⟩
    obtain ⟨j, hj⟩ := fin r rfl (by omega)
    refine r_ixLV (SqL.of l3) hj ⟨_, rfl, ?_⟩
    have tpp := hT.ne np
    refine r_slL (SqL.of (e3.oth _ _ tpp (s2 _ _ hp))) fun u H4 s4 nu e4 => ?_
    have x4 : Ext K t H H4 := (x3.trans e3).then s4
    have allI : ∀ v ∈ cutV tn none (some j), ∃ n : Int, v = .int n ∧ 0 ≤ n ∧ n < (many : Int) := fun v hv => by
      have h1 : v ∈ rgV 0 many := pm.subset (List.mem_append_right _ (cut_mem hv))
      unfold rgV at h1
      obtain ⟨i, hi, rfl⟩ := List.mem_map.mp h1
      have := List.mem_range.mp hi
      exact ⟨_, rfl, by omega, by omega⟩
    have intsOf : ∀ ys : List V, (∀ v ∈ ys, ∃ n : Int, v = .int n ∧ 0 ≤ n ∧ n < (many : Int)) → ∃ ns : List Int, ys = ns.map V.int ∧ ∀ n ∈ ns, 0 ≤ n ∧ n < (many : Int) := fun ys => by
      induction ys with
      | nil => intro _; exact ⟨[], rfl, fun _ h => nomatch h⟩
      | cons y r ih =>
        intro h
        obtain ⟨ns, e, hb⟩ := ih fun v hv => h v (List.mem_cons_of_mem _ hv)
        obtain ⟨n, e2, b⟩ := h y List.mem_cons_self
        exact ⟨n :: ns, by rw [e2, e]; rfl, fun m hm => (List.mem_cons.mp hm).elim (fun q => q ▸ b) (hb m)⟩
    obtain ⟨ns, en, hb⟩ := intsOf _ allI
    have pl := pm.length_eq
    rw [List.length_append] at pl
    refine k u ns H4 x4 ((x3.trans e3).free nu) (en ▸ e4) hb ?_
    have := cut_len (xs := tn) (lo := none) (hi := some j)
    rw [en, List.length_map] at this
    omega
end

/-- plain data of depth below n -/
def smp : Nat → PyData → Bool
  | 0, _ => false
  | n + 1, .tuple ds => decide (ds.length < 90000) && ds.all (smp n)
  | _ + 1, .list _ => false
  | _ + 1, .dict _ => false
  | _ + 1, .none => true
  | _ + 1, .bool _ => true
  | _ + 1, .int _ => true
  | _ + 1, .str _ => true
theorem smp_succ : ∀ {n : Nat} {d : PyData}, smp n d = true → smp (n + 1) d = true
  | 0, _, h => by cases h
  | n + 1, .tuple ds, h => by
    unfold smp at h ⊢
    rw [Bool.and_eq_true, List.all_eq_true] at h ⊢
    exact ⟨h.1, fun x hx => smp_succ (h.2 x hx)⟩
  | _ + 1, .list _, h => by cases h
  | _ + 1, .dict _, h => by cases h
  | _ + 1, .none, _ => rfl
  | _ + 1, .bool _, _ => rfl
  | _ + 1, .int _, _ => rfl
  | _ + 1, .str _, _ => rfl
theorem smp_le {n m : Nat} {d : PyData} (h : smp n d = true) (hl : n ≤ m) : smp m d = true := by
  induction hl with
  | refl => exact h
  | step _ ih => exact smp_succ ih
/-- told equals wanted where both are the same data -/
def sp__law_sameN (n : Nat) (K : Fg) : Sp := fun vs H Q _ => ∃ (a b : V) (d : PyData), vs = [a, b] ∧ Dp K H a d ∧ Dp K H b d ∧ smp n d = true ∧ ∀ H', Same H H' → Q (.bl true) H'
abbrev sp__law_same := sp__law_sameN 20
section
variable {P : Program} {w : World} {K : Fg} {mg : Str → Option Value} {base : Heap}
theorem r_ninT {H : Hp} {Q : VK} {x : V} {a : Addr} {xs : List V} (hx : SqL K H a xs) (h1 : flatV x = true) (h2 : xs.all flatV = true) {b : Bool} (h3 : inV x xs = b) (q : Q (.bl (!b)) H) : rNinU K x (.ref a) H Q :=
  .inl ⟨a, xs, rfl, .inl hx, h1, h2, by rw [h3]; exact q⟩
theorem all_bl {n : Nat} {b : Bool} : (List.replicate n (V.bl b)).all flatV = true := by
  rw [List.all_eq_true]
  intro x hx
  rw [(List.mem_replicate.mp hx).2]
  rfl
theorem in_tru {n : Nat} : inV (.bl false) (List.replicate n (V.bl true)) = false := by
  unfold inV
  rw [List.any_eq_false]
  intro x hx
  rw [(List.mem_replicate.mp hx).2]
  decide
theorem all_in {xs : List V} (h : ∀ x ∈ xs, x = V.bl true) : xs = List.replicate xs.length (V.bl true) := List.eq_replicate_iff.mpr ⟨rfl, h⟩
set_option maxHeartbeats 4000000 in
theorem ok__law_sameS (T : Txt K mg) {n : Nat} (G__law_same : FnOk P w K mg base CX0 n T.a__law_same T.d__law_same ["told", "wanted"] (sp__law_sameN n K)) : FnOk P w K mg base CX0 (n + 1) T.a__law_same T.d__law_same ["told", "wanted"] (sp__law_sameN (n + 1) K) := by
  refine T.F__law_same.ok sc__law_same (fun vs H Q E h => ?_) (fun cdv A outer s H vs Q E hr h => ?_)
  · obtain ⟨_, _, _, rfl, _⟩ := h
    rfl
  obtain ⟨a, b, d, rfl, ha, hb, hs, k⟩ := h
  refine ⟨_, (pss_cons (ps_if (pt_truthK (K := K) (pe_callB (call_isiK1 (K := K)) (by rfl) T.z_isinstance rfl (pa_cons (pv 1) (pa_cons (pe_bltn (by rfl) T.z_tuple rfl (v := .ty "tuple") rfl) pa_nil))) (fun _ => rfl)) (pss_cons (ps_if (PW.pt (pw_or (pt_not (pt_truthK (K := K) (pe_callB (call_isiK1 (K := K)) (by rfl) T.z_isinstance rfl (pa_cons (pv 0) (pa_cons (pe_bltn (by rfl) T.z_tuple rfl (v := .ty "tuple") rfl) pa_nil))) (fun _ => rfl))) (pw_or1 (pt_cmpR (op_neK (K := K) (hu64 hr)) (pe_callB (call_lenK (K := K)) (by rfl) T.z_len rfl (pa_cons (pv 0) pa_nil)) (pe_callB (call_lenK (K := K)) (by rfl) T.z_len rfl (pa_cons (pv 1) pa_nil)) (nomark _))))) (pss_one (ps_ret pe_bl)) pss_nil) (pss_one (ps_ret (pe_cmpR (op_ninK (K := K) (hu65 hr)) pe_bl (pe_lc (own := [("k", 2)]) (g := gName 2) (tt := tYes) rfl sc__law_same.nd (pi_range1 (by rfl) T.z_range (pa_cons (pe_callB (call_lenK (K := K)) (by rfl) T.z_len rfl (pa_cons (pv 1) pa_nil)) pa_nil)) (blkOk_by (N := ["told", "wanted", "k"]) (sc := defScope s__law_same) (by decide +kernel)) (fun _ _ _ _ _ => (pg_name (i := 2) sc__law_same.nd rfl (Or.inl rfl))) (fun _ _ _ _ _ => pts_nil) (fun _ _ _ _ _ => (pe_call G__law_same (hr.mono (by omega)) rfl T.m__law_same T.F__law_same.kp T.b__law_same .nil pass0 (pa_cons (pe_ix (ixK (K := K)) (pv 0) (pv 2) (fun _ _ => rfl)) (pa_cons (pe_ix (ixK (K := K)) (pv 1) (pv 2) (fun _ _ => rfl)) pa_nil))))) rfl)))) pss_nil) (pss_cons (ps_if (PW.pt (pw_or (pt_cmpR op_isN (pv 1) pe_non (nomark _)) (pw_or1 (pt_cmpR op_isN (pv 0) pe_non (nomark _))))) (pss_one (ps_ret (pe_and (pe_cmpR op_isN (pv 1) pe_non (nomark _)) (pe_one (pe_cmpR op_isN (pv 0) pe_non (nomark _)))))) pss_nil) (pss_cons (ps_if (PW.pt (pw_or (pt_cmpR (op_neK (K := K) (hu64 hr)) (pe_callB (call_isiK1 (K := K)) (by rfl) T.z_isinstance rfl (pa_cons (pv 0) (pa_cons (pe_bltn (by rfl) T.z_bool rfl (v := .ty "bool") rfl) pa_nil))) (pe_callB (call_isiK1 (K := K)) (by rfl) T.z_isinstance rfl (pa_cons (pv 1) (pa_cons (pe_bltn (by rfl) T.z_bool rfl (v := .ty "bool") rfl) pa_nil))) (nomark _)) (pw_or1 (pt_cmpR (op_neK (K := K) (hu64 hr)) (pe_callB (call_isiK1 (K := K)) (by rfl) T.z_isinstance rfl (pa_cons (pv 0) (pa_cons (pe_bltn (by rfl) T.z_str rfl (v := .ty "str") rfl) pa_nil))) (pe_callB (call_isiK1 (K := K)) (by rfl) T.z_isinstance rfl (pa_cons (pv 1) (pa_cons (pe_bltn (by rfl) T.z_str rfl (v := .ty "str") rfl) pa_nil))) (nomark _))))) (pss_one (ps_ret pe_bl)) pss_nil) (pss_one (ps_ret (pe_and (pe_cmpR (op_eqK (K := K) (hu64 hr)) (pe_callB (call_isiK1 (K := K)) (by rfl) T.z_isinstance rfl (pa_cons (pv 0) (pa_cons (pe_bltn (by rfl) T.z_int rfl (v := .ty "int") rfl) pa_nil))) (pe_callB (call_isiK1 (K := K)) (by rfl) T.z_isinstance rfl (pa_cons (pv 1) (pa_cons (pe_bltn (by rfl) T.z_int rfl (v := .ty "int") rfl) pa_nil))) (nomark _)) (pe_one (pe_cmpR (op_eqK (K := K) (hu64 hr)) (pv 0) (pv 1) (nomark _))))))))), ?_⟩
  walk_at "nz"
  have cs : (∃ b1 b2 b3, kitB (tnD d) "tuple" = some false ∧ kitB (tnD d) "bool" = some b1 ∧ kitB (tnD d) "str" = some b2 ∧ kitB (tnD d) "int" = some b3 ∧ a = b ∧ (b = .non → False) ∧ scal b b = true) ∨ (a = .non ∧ b = .non ∧ d = .none) ∨ ∃ ds, d = .tuple ds := by
    cases d with
    | none => exact .inr (.inl ⟨dp_non ha, dp_non hb, rfl⟩)
    | bool x =>
      cases dp_bl ha
      cases dp_bl hb
      exact .inl ⟨true, false, true, rfl, rfl, rfl, rfl, rfl, (fun c => nomatch c), rfl⟩
    | int x =>
      cases dp_int ha
      cases dp_int hb
      exact .inl ⟨false, false, true, rfl, rfl, rfl, rfl, rfl, (fun c => nomatch c), rfl⟩
    | str x =>
      cases dp_str ha
      cases dp_str hb
      exact .inl ⟨false, true, false, rfl, rfl, rfl, rfl, rfl, (fun c => nomatch c), rfl⟩
    | list ds => cases hs
    | dict ds => cases hs
    | tuple ds => exact .inr (.inr ⟨ds, rfl⟩)
  rcases cs with ⟨b1, b2, b3, h0, h1, h2, h3, rfl, nn, sc⟩ | ⟨rfl, rfl, rfl⟩ | ⟨ds, rfl⟩
  · refine r_isi hb h0 ⟨false, rfl, r_ifB (fun c => nomatch c) fun _ => ?_⟩
    rw [decide_eq_false nn]
    refine r_ifB (fun c => nomatch c) fun _ => r_ifB (fun c => nomatch c) fun _ => ?_
    refine r_isi ha h1 (r_isi ha h1 (r_neB ⟨_, rfl, r_ifN (fun c => absurd rfl c) fun _ => ?_⟩))
    refine r_isi ha h2 (r_isi ha h2 (r_neB ⟨_, rfl, r_ifN (fun c => absurd rfl c) fun _ => ?_⟩))
    refine r_isi ha h3 (r_isi ha h3 (r_eqB ⟨_, rfl, r_if (fun _ => ?_) fun c => absurd rfl c⟩))
    refine r_eqS sc ?_
    rw [decide_eq_true rfl]
    exact k _ (Same.refl _)
  · refine r_isi hb rfl ⟨false, rfl, r_ifB (fun c => nomatch c) fun _ => ?_⟩
    rw [decide_eq_true rfl]
    exact r_ifB (fun _ => r_ifB (fun _ => k _ (Same.refl _)) fun c => nomatch c) fun c => nomatch c
  · unfold smp at hs
    rw [Bool.and_eq_true, List.all_eq_true] at hs
    have hl : ds.length < 90000 := of_decide_eq_true hs.1
    refine r_isi hb rfl ⟨true, rfl, r_ifB (fun _ => ?_) (fun c => nomatch c)⟩
    refine r_isi ha rfl ⟨true, rfl, r_ifNB (fun c => nomatch c) fun _ => ?_⟩
    refine r_lenT ha (r_lenT hb (r_neI ⟨_, rfl, r_ifN (fun c => absurd rfl c) fun _ => ?_⟩))
    refine r_lcR (n := (ds.length : Int)) (fun Q q => by walk_at "nz"; exact r_lenT hb q) (by omega) (by omega) (fun p i acc H' => Same H H' ∧ acc.length = i ∧ ∀ x ∈ acc, x = V.bl true)
      (fun p H' s _ e => ⟨s, rfl, fun _ h => nomatch h⟩) (fun p i acc H' hi np e ⟨s, el, ht⟩ => ?_) (fun p acc H' np e ⟨s, el, ht⟩ => ?_)
    · walk_at "nz"
      have hi2 : i < ds.length := by omega
      have hd : ds[i]? = some ds[i] := List.getElem?_eq_getElem hi2
      refine r_ixT (dpUp s ha) (dix_nat hd) fun u hu => r_ixT (dpUp s hb) (dix_nat hd) fun v hv => ?_
      refine ⟨u, v, _, rfl, hu, hv, hs.2 _ (List.getElem_mem hi2), fun H2 s2 => lc_put hi (s2 _ _ e) (by omega) fun H3 f3 e3 => ⟨?_, by rw [List.length_append, el]; rfl, ?_⟩⟩
      · exact Same.mut (s.trans s2) np f3
      · intro x hx
        rcases List.mem_append.mp hx with h | h
        · exact ht x h
        · exact List.mem_singleton.mp h
    · have e2 := all_in ht
      exact r_ninT (b := false) (SqL.of e) rfl (by rw [e2]; exact all_bl) (by rw [e2]; exact in_tru) (k _ s)
theorem ok__law_sameN (T : Txt K mg) : ∀ n : Nat, FnOk P w K mg base CX0 n T.a__law_same T.d__law_same ["told", "wanted"] (sp__law_sameN n K)
  | 0 => by
    have no : ∀ vs H Q E, ¬ sp__law_sameN 0 K vs H Q E := fun vs H Q E h => by
      obtain ⟨a, b, d, _, _, _, h1, _⟩ := h
      cases h1
    exact ⟨fun vs H Q E h => absurd h (no vs H Q E), fun A outer s H args us vs Q E _ _ _ _ h => absurd h (no vs H Q E)⟩
  | n + 1 => ok__law_sameS T (ok__law_sameN T n)
theorem ok__law_same (T : Txt K mg) : FnOk P w K mg base CX0 20 T.a__law_same T.d__law_same ["told", "wanted"] (sp__law_same K) := ok__law_sameN T 20
end

/-! ### the helpers in use -/
section
variable {K : Fg} {H : Hp} {Q : VK} {E : XK} {t a : Addr}
theorem use_draw {many : Int} (hT : Tape H t) (k : ∀ r H', Ext K t H H' → 0 ≤ r → r < max many 1 → Q (.int r) H') (hm : many.natAbs < 2 ^ 62 := by decide) : sp__law_draw K [.ref t, .int many] H Q E := ⟨t, many, rfl, hT, hm, k⟩
theorem use_pick {xs : List V} {ds : List PyData} (hT : Tape H t) (ha : SqL K H a xs) (hd : DpAll K H xs ds) (hn : noLs ds = true) (hne : a ≠ t) (k : ∀ d v H', d ∈ ds → Ext K t H H' → Dp K H' v d → Q v H') (h0' : Nat.blt 0 ds.length = true := by rfl) (h1' : Nat.blt ds.length 100000 = true := by rfl) : sp__law_pick K [.ref t, .ref a] H Q E := by
  have h0 : 0 < ds.length := Nat.le_of_ble_eq_true h0'
  have h1 : ds.length < 100000 := Nat.le_of_ble_eq_true h1'
  have hl := dps_len hd
  refine ⟨t, a, xs, rfl, hT, ha, hne, by omega, by omega, fun i v H' e hi => ?_⟩
  obtain ⟨d, hd2, hv⟩ := dps_getV (dpsX e hn hd) hi
  exact k d v H' (List.mem_of_getElem? hd2) e hv
/-- from a list of ints -/
theorem use_pickI {ns : List Int} (hT : Tape H t) (ha : SqL K H a (ns.map V.int)) (hne : a ≠ t) (k : ∀ n H', n ∈ ns → Ext K t H H' → Q (.int n) H') (h0 : Nat.blt 0 ns.length = true := by rfl) (h1 : Nat.blt ns.length 100000 = true := by rfl) : sp__law_pick K [.ref t, .ref a] H Q E := by
  refine use_pick (ds := ns.map .int) hT ha (dps_of_ints ns) (noLs_map (fun _ => rfl) ns) hne (fun d v H' hd e hv => ?_) (by rw [List.length_map]; exact h0) (by rw [List.length_map]; exact h1)
  obtain ⟨n, hn, rfl⟩ := List.mem_map.mp hd
  rw [dp_int hv]
  exact k n H' hn e
theorem use_same {v u : V} {d : PyData} (h1 : Dp K H v d) (h2 : Dp K H u d) (hs : smp 20 d = true) (k : ∀ H', Same H H' → Q (.bl true) H') : sp__law_same K [v, u] H Q E := ⟨v, u, d, rfl, h1, h2, hs, k⟩
end

/-! ### rows in the heap -/
section
variable {K : Fg} {σ : L2.St} {H H' : Hp} {Q : VK} {t : Addr} {v : V} {r q : Row} {te : TE} {g : TG} {vs : List Nat} {tt : TT}
def RowAt (H : Hp) (v : V) (r : Row) : Prop := ∃ a, v = .ref a ∧ H a = some (.tup (r.map kV))
theorem RowAt.same (e : Same H H') (h : RowAt H v r) : RowAt H' v r := by
  obtain ⟨a, rfl, h⟩ := h
  exact ⟨a, rfl, e _ _ h⟩
theorem RowAt.ext (e : Ext K t H H') (h : RowAt H v r) : RowAt H' v r := by
  obtain ⟨a, rfl, h⟩ := h
  refine ⟨a, rfl, e.oth _ _ ?_ h⟩
  rintro rfl
  obtain ⟨xs, q⟩ := e.tape0.get
  rw [h] at q
  cases q
/-- a list changes -/
theorem RowAt.put {p : Addr} {xs : List V} (hp : H p = some (.lst xs)) (e : ∀ b o, b ≠ p → H b = some o → H' b = some o) (h : RowAt H v r) : RowAt H' v r := by
  obtain ⟨a, rfl, h⟩ := h
  refine ⟨a, rfl, e _ _ ?_ h⟩
  rintro rfl
  rw [h] at hp
  cases hp
theorem dp_cell (c : L2.Key) : Dp K H (kV c) (cd c) := by
  cases c with
  | inl i => exact .int i
  | inr s => exact .str s
theorem dps_cells : ∀ r : Row, DpAll K H (r.map kV) (r.map cd)
  | [] => .nil
  | c :: r => .cons (dp_cell c) (dps_cells r)
theorem RowAt.sq (h : RowAt H v r) : ∃ a, v = .ref a ∧ SqT K H a (r.map kV) := by
  obtain ⟨a, rfl, h⟩ := h
  exact ⟨a, rfl, SqT.of h⟩
theorem RowAt.dp (h : RowAt H v r) : Dp K H v (rowD r) := by
  obtain ⟨a, rfl, h⟩ := h
  exact .tup (SqT.of h) (dps_cells r)
theorem rows_dp : ∀ {xs : List V} {rs : List Row}, PySem.W.EachIs (RowAt H) xs rs → DpAll K H xs (rs.map rowD)
  | _, _, .nil => .nil
  | _, _, .cons h hs => .cons h.dp (rows_dp hs)
theorem noL_cells : ∀ r : Row, noLs (r.map cd) = true := noLs_map fun c => by cases c <;> (unfold cd noL; rfl)
theorem noL_rowD (r : Row) : noL (rowD r) = true := by
  unfold rowD noL
  exact noL_cells r
/-- a tuple of a list's values -/
theorem r_tupLv {a : Addr} {xs : List V} (h : SqL K H a xs) (q : ∀ p H', Same H H' → H p = none → H' p = some (.tup xs) → Q (.ref p) H') : rTupU K [.ref a] H Q :=
  ⟨a, xs, rfl, .inl ⟨h, fun l hl => q l _ (same_new hl _) hl upd_same⟩⟩
/-- (x, ..) -/
theorem r_tupW {us : List V} (q : ∀ p H', Same H H' → H p = none → H' p = some (.tup us) → Q (.ref p) H') (hn : Nat.ble us.length 100000 = true := by rfl) : nwT us H Q :=
  ⟨Nat.le_trans (Nat.le_of_ble_eq_true hn) (by decide), fun p hp => q p _ (same_new hp _) hp upd_same⟩
/-- t[lo:hi] of a row -/
theorem r_slR {lo hi : Option Int} (h : RowAt H v r) (k : ∀ u q H', Same H H' → RowAt H' u q → (∀ c, c ∈ q → c ∈ r) → q = (r.drop (HT.sIx r.length 0 lo)).take (HT.sIx r.length r.length hi - HT.sIx r.length 0 lo) → Q u H') : rSlU K v lo hi H Q := by
  obtain ⟨a, rfl, h⟩ := h
  have hl : (r.map kV).length = r.length := List.length_map _
  refine .inr (.inl ⟨a, r.map kV, rfl, SqT.of h, fun e => ?_, fun _ p hp => ?_⟩)
  · rw [hl] at e
    refine k _ r H (Same.refl _) ⟨a, rfl, h⟩ (fun c hc => hc) ?_
    rw [e.1, e.2]
    simp
  · have ec : cutV (r.map kV) lo hi = ((r.drop (HT.sIx r.length 0 lo)).take (HT.sIx r.length r.length hi - HT.sIx r.length 0 lo)).map kV := by
      unfold cutV
      rw [hl, List.map_take, List.map_drop]
    rw [ec]
    exact k _ _ _ (same_new hp _) ⟨p, rfl, upd_same⟩ (fun c hc => List.mem_of_mem_drop (List.mem_of_mem_take hc)) rfl
/-- a + b of rows -/
theorem r_catR {u : V} (h : RowAt H v r) (h2 : RowAt H u q) (hz : r.length + q.length ≤ 100000) (k : ∀ w H', Same H H' → RowAt H' w (r ++ q) → Q w H') : rAddU K v u H Q := by
  obtain ⟨a, rfl, h⟩ := h
  obtain ⟨b, rfl, h2⟩ := h2
  refine .inr (.inr (.inl ⟨a, b, r.map kV, q.map kV, rfl, rfl, SqT.of h, SqT.of h2, ?_, fun e => ?_, fun _ e => ?_, fun _ _ p hp => ?_⟩))
  · rw [List.length_map, List.length_map]
    exact small2 hz
  · have e1 := List.map_eq_nil_iff.mp e
    subst e1
    exact k _ H (Same.refl _) ⟨b, rfl, h2⟩
  · have e1 := List.map_eq_nil_iff.mp e
    subst e1
    refine k _ H (Same.refl _) ⟨a, rfl, ?_⟩
    rw [List.append_nil]
    exact h
  · rw [← List.map_append]
    exact k _ _ (same_new hp _) ⟨p, rfl, upd_same⟩
/-- a comprehension over a tuple that stays -/
theorem r_lcT {i0 : Nat} {a : Addr} {xs : List V} (hx : σ[i0]? = some (some (.ref a))) (h : SqT K H a xs) (Pv : Addr → Nat → List V → Hp → Prop) (h0 : ∀ p H', Same H H' → H p = none → H' p = some (.lst []) → Pv p 0 [] H')
    (hk : ∀ p i acc H', i ≤ xs.length → H p = none → H' p = some (.lst acc) → Pv p i acc H' → TSame K H H')
    (hs : ∀ p i x acc H', xs[i]? = some x → H p = none → H' p = some (.lst acc) → Pv p i acc H' → LcTurn g tt te vs σ p (LcNx Pv p xs.length i) x H')
    (hd : ∀ p acc H', H p = none → H' p = some (.lst acc) → Pv p xs.length acc H' → Q (.ref p) H') : tLc (iSeqU K (tVar i0)) g tt te vs σ H Q := by
  refine .inr ⟨_, hx, a, rfl, ⟨xs, h⟩, ?_⟩
  intro p hp
  refine lc_tup (xs := xs) (fun i H' => i ≤ xs.length ∧ ∃ acc, H' p = some (.lst acc) ∧ Pv p i acc H') ⟨Nat.zero_le _, [], upd_same, h0 p _ (same_new hp _) hp upd_same⟩ (fun i H' hi ⟨_, acc, e, hP⟩ => hk p i acc H' hi hp e hP _ _ h) (fun i x H' hi ⟨_, acc, e, hP⟩ => ?_) (fun H' ⟨_, acc, e, hP⟩ => hd p acc H' hp e hP)
  exact hs p i x acc H' hi hp e hP
def DcNx (Pv : Nat → List (List L2.Key × V) → Hp → Prop) (p : Addr) (n i : Nat) : Hp → Prop := fun H' => i + 1 ≤ n ∧ ∃ kvs, H' p = some (.dT kvs) ∧ Pv (i + 1) kvs H'
abbrev DcTurn (g : TG) (tt : TT) (tk tv : TE) (vs : List Nat) (σ : L2.St) (p : Addr) (Nx : Hp → Prop) (x : V) (H' : Hp) : Prop := g x (wipe σ vs) H' fun σ2 H2 => wipe σ2 vs = wipe σ vs ∧ tt σ2 H2 fun b H3 => if b = true then tk σ2 H3 fun y H4 => tv σ2 H4 fun z H5 =>
  ∃ (kvs : List (List L2.Key × V)) (k : List L2.Key) (b : Addr), y = .ref b ∧ H5 b = some (.tup (k.map kV)) ∧ H5 p = some (.dT kvs) ∧ kvs.length < sizeLine ∧ Nx (upd H5 p (.dT (putK kvs k z))) else Nx H3
/-- {k: v for ..} over a tuple that stays: behind turn i the dict at p holds kvs and Pv stands -/
theorem r_dcT {i0 : Nat} {a : Addr} {xs : List V} {tk tv : TE} (hx : σ[i0]? = some (some (.ref a))) (h : SqT K H a xs) (Pv : Nat → List (List L2.Key × V) → Hp → Prop) (h0 : ∀ p H', Same H H' → H p = none → H' p = some (.dT []) → Pv 0 [] H')
    (hk : ∀ i kvs H', i ≤ xs.length → Pv i kvs H' → TSame K H H')
    (hs : ∀ p i x kvs H', xs[i]? = some x → H p = none → H' p = some (.dT kvs) → Pv i kvs H' → DcTurn g tt tk tv vs σ p (DcNx Pv p xs.length i) x H')
    (hd : ∀ p kvs H', H p = none → H' p = some (.dT kvs) → Pv xs.length kvs H' → Q (.ref p) H') : tDct (iSeqU K (tVar i0)) g tt tk tv vs σ H Q := by
  refine .inr ⟨_, hx, a, rfl, ⟨xs, h⟩, fun p hp => ?_⟩
  refine ⟨fun i m H' => m = xs.length - i ∧ i ≤ xs.length ∧ ∃ kvs, H' p = some (.dT kvs) ∧ Pv i kvs H', ⟨xs.length, rfl, Nat.zero_le _, [], upd_same, h0 p _ (same_new hp _) hp upd_same⟩, ?_⟩
  rintro i m H' ⟨rfl, hi, kvs, e, hP⟩
  have q := hk i kvs H' hi hP _ _ h
  by_cases hlt : i < xs.length
  · refine .inr ⟨⟨xs, xs[i], q, by simp [hlt]⟩, DcNx Pv p xs.length i, fun H' z => ⟨xs.length - (i + 1), by omega, rfl, z⟩, fun x H'' y => ?_⟩
    obtain ⟨e1, y⟩ := y
    subst e1
    exact hs p i x kvs _ (y xs q) hp e hP
  · have e1 : i = xs.length := by omega
    subst e1
    exact .inl ⟨⟨xs, q, Nat.le_refl _⟩, hd p kvs H' hp e hP⟩
theorem dc_put {Pv : Nat → List (List L2.Key × V) → Hp → Prop} {p : Addr} {n i : Nat} {kvs : List (List L2.Key × V)} {r : Row} {u z : V} (hi : i < n) (hr : RowAt H u r) (hp : H p = some (.dT kvs)) (hl : kvs.length < 1000000)
    (q : ∀ H', (∀ b o, b ≠ p → H b = some o → H' b = some o) → H' p = some (.dT (putK kvs r z)) → Pv (i + 1) (putK kvs r z) H') :
    ∃ (kvs : List (List L2.Key × V)) (k : List L2.Key) (b : Addr), u = .ref b ∧ H b = some (.tup (k.map kV)) ∧ H p = some (.dT kvs) ∧ kvs.length < sizeLine ∧ DcNx Pv p n i (upd H p (.dT (putK kvs k z))) := by
  obtain ⟨b, rfl, hb⟩ := hr
  exact ⟨kvs, r, b, rfl, hb, hp, Nat.lt_trans hl (by decide), by omega, _, upd_same, q _ (fun c o hc e => by rw [upd_ne hc]; exact e) upd_same⟩
/-- list(d): the rows that are its keys -/
def rListD : List V → Hp → VK → Prop := fun xs H Q => ∃ (d : Addr) (kvs : List (List L2.Key × V)), xs = [V.ref d] ∧ Rd H d (.dT kvs) ∧ ∀ (p : Addr) (bs : List Addr), H p = none → IsKeys H kvs bs → Q (.ref p) (upd H p (.lst (bs.map V.ref)))
theorem call_list_dTU {X : Cx} (hc : X.calm = true) : CallR X (.type "list") rListD := call_list_dT hc
theorem r_listD {a : Addr} {kvs : List (List L2.Key × V)} (h : H a = some (.dT kvs)) (q : ∀ p xs H', Same H H' → H p = none → H' p = some (.lst xs) → PySem.W.EachIs (RowAt H') xs (kvs.map (·.1)) → Q (.ref p) H') :
    rListD [V.ref a] H Q := by
  refine ⟨a, kvs, rfl, .inl h, fun p bs hp hk => q p _ _ (same_new hp _) hp upd_same ?_⟩
  have s : Same H (upd H p (.lst (bs.map V.ref))) := same_new hp _
  generalize upd H p (.lst (bs.map V.ref)) = H' at s
  clear q h hp
  unfold IsKeys at hk
  induction hk with
  | nil => exact .nil
  | cons h t ih => exact .cons ⟨_, rfl, s _ _ h⟩ ih
theorem each_rows (e : Same H H') : ∀ {xs : List V} {rs : List Row}, PySem.W.EachIs (RowAt H) xs rs → PySem.W.EachIs (RowAt H') xs rs := fun h => h.mono fun _ _ => RowAt.same e
theorem each_rowsX (e : Ext K t H H') : ∀ {xs : List V} {rs : List Row}, PySem.W.EachIs (RowAt H) xs rs → PySem.W.EachIs (RowAt H') xs rs := fun h => h.mono fun _ _ => RowAt.ext e
end

/-! ### promises -/
section
variable (K : Fg)
def sp_value_key : Sp := fun vs H Q _ => ∃ c : L2.Key, vs = [kV c] ∧ ∀ y H', Same H H' → Dp K H' y (pcell c) → Q y H'
def sp__law_key : Sp := fun vs H Q _ => ∃ c : L2.Key, vs = [kV c] ∧ ∀ y H', Same H H' → Dp K H' y (lcell c) → Q y H'
def sp_row_key : Sp := fun vs H Q _ => ∃ v r, vs = [v] ∧ RowAt H v r ∧ r.length ≤ 1000 ∧ ∀ y H', Same H H' → Dp K H' y (pk r) → Q y H'
def sp__law_row_key : Sp := fun vs H Q _ => ∃ v r, vs = [v] ∧ RowAt H v r ∧ r.length ≤ 1000 ∧ ∀ y H', Same H H' → Dp K H' y (lk r) → Q y H'
def sp_before (_ : Fg) : Sp := fun vs H Q _ => ∃ v u r q, vs = [v, u] ∧ RowAt H v r ∧ RowAt H u q ∧ rowOk r ∧ rowOk q ∧ ∀ H', Same H H' → Q (.bl (PySem.W.dataLt (pk r) (pk q))) H'
/-- rows of one width -/
def RowsOk (w : Nat) (rs : List Row) : Prop := (∀ r, r ∈ rs → rowOk r ∧ r.length = w) ∧ rs.length ≤ 1000
/-- ks are the rows rs, each once -/
def SetOf (rs ks : List Row) : Prop := ks.Nodup ∧ ∀ r, r ∈ ks ↔ r ∈ rs
def sp_ascending : Sp := fun vs H Q _ => ∃ (a : Addr) (xs : List V) (rs : List Row) (w : Nat), vs = [.ref a] ∧ SqT K H a xs ∧ PySem.W.EachIs (RowAt H) xs rs ∧ RowsOk w rs ∧ ∀ y H' ks, Same H H' → SetOf rs ks → Dp K H' y (.tuple ((sortR ks).map rowD)) → Q y H'
def sp__law_set : Sp := fun vs H Q _ => ∃ (a : Addr) (xs : List V) (rs : List Row) (w : Nat), vs = [.ref a] ∧ SqL K H a xs ∧ PySem.W.EachIs (RowAt H) xs rs ∧ RowsOk w rs ∧ ∀ b ys H' ks, Same H H' → SetOf rs ks → SqT K H' b ys → PySem.W.EachIs (RowAt H') ys (sortR ks) → Q (.ref b) H'
end
section
variable {P : Program} {w : World} {K : Fg} {mg : Str → Option Value} {base : Heap}
def cellT : L2.Key → String
  | .inl _ => "int"
  | .inr _ => "str"
theorem cell_ty {H : Hp} (c : L2.Key) : tnD (cd c) = cellT c := by cases c <;> rfl
theorem ok_value_key (T : Txt K mg) : FnOk P w K mg base CX0 1 T.a_value_key T.d_value_key ["value"] (sp_value_key K) := by
  refine T.F_value_key.ok sc_value_key (fun vs H Q E h => ?_) (fun cdv A outer s H vs Q E hr h => ?_)
  · obtain ⟨_, rfl, _⟩ := h
    rfl
  obtain ⟨c, rfl, k⟩ := h
  refine ⟨_, (pss_cons (ps_if (pt_truthK (K := K) (pe_callB (call_isiK1 (K := K)) (by rfl) T.z_isinstance rfl (pa_cons (pv 0) (pa_cons (pe_bltn (by rfl) T.z_str rfl (v := .ty "str") rfl) pa_nil))) (fun _ => rfl)) (pss_one (ps_ret (pe_tup (pa_cons pe_int (pa_cons (pv 0) pa_nil))))) pss_nil) (pss_one (ps_ret (pe_tup (pa_cons pe_int (pa_cons (pv 0) pa_nil)))))), ?_⟩
  walk_at "nz"
  cases c with
  | inl i =>
    refine r_isi (b := false) (dp_cell (.inl i)) rfl (u_no (r_tupN (ds := [.int 0, .int i]) ?_ (Nat.le_of_ble_eq_true rfl) fun p H' s _ d => k _ _ s d))
    exact .cons (.int 0) (.cons (.int i) .nil)
  | inr x =>
    refine r_isi (b := true) (dp_cell (.inr x)) rfl (u_yes (r_tupN (ds := [.int 1, .str x]) ?_ (Nat.le_of_ble_eq_true rfl) fun p H' s _ d => k _ _ s d))
    exact .cons (.int 1) (.cons (.str x) .nil)
theorem ok__law_key (T : Txt K mg) : FnOk P w K mg base CX0 1 T.a__law_key T.d__law_key ["value"] (sp__law_key K) := by
  refine T.F__law_key.ok sc__law_key (fun vs H Q E h => ?_) (fun cdv A outer s H vs Q E hr h => ?_)
  · obtain ⟨_, rfl, _⟩ := h
    rfl
  obtain ⟨c, rfl, k⟩ := h
  refine ⟨_, (pss_cons (ps_if (pt_truthK (K := K) (pe_callB (call_isiK1 (K := K)) (by rfl) T.z_isinstance rfl (pa_cons (pv 0) (pa_cons (pe_bltn (by rfl) T.z_str rfl (v := .ty "str") rfl) pa_nil))) (fun _ => rfl)) (pss_one (ps_ret (pe_tup (pa_cons pe_int (pa_cons pe_int (pa_cons (pv 0) pa_nil)))))) pss_nil) (pss_one (ps_ret (pe_tup (pa_cons pe_int (pa_cons (pv 0) (pa_cons pe_str pa_nil))))))), ?_⟩
  walk_at "nz"
  cases c with
  | inl i =>
    refine r_isi (b := false) (dp_cell (.inl i)) rfl (u_no (r_tupN (ds := [.int 0, .int i, .str ""]) ?_ (Nat.le_of_ble_eq_true rfl) fun p H' s _ d => k _ _ s d))
    exact .cons (.int 0) (.cons (.int i) (.cons (.str _) .nil))
  | inr x =>
    refine r_isi (b := true) (dp_cell (.inr x)) rfl (u_yes (r_tupN (ds := [.int 1, .int 0, .str x]) ?_ (Nat.le_of_ble_eq_true rfl) fun p H' s _ d => k _ _ s d))
    exact .cons (.int 1) (.cons (.int 0) (.cons (.str x) .nil))
theorem cell_at {r : Row} {i : Nat} {x : V} (h : (r.map kV)[i]? = some x) : ∃ c, r[i]? = some c ∧ x = kV c := by
  rw [List.getElem?_map] at h
  cases e : r[i]? with
  | none => rw [e] at h; cases h
  | some c => rw [e] at h; exact ⟨c, rfl, (Option.some.inj h).symm⟩
theorem dps_snoc {H : Hp} {f : L2.Key → PyData} {r : Row} {i : Nat} {c : L2.Key} {acc : List V} {y : V} (h : DpAll K H acc ((r.take i).map f)) (hc : r[i]? = some c) (hy : Dp K H y (f c)) : DpAll K H (acc ++ [y]) ((r.take (i + 1)).map f) := by
  rw [List.take_add_one, hc, Option.toList_some, List.map_append]
  exact dps_append h (.cons hy .nil)
theorem noL_p (c : L2.Key) : noL (pcell c) = true ∧ noL (lcell c) = true := by cases c <;> (simp [pcell, lcell, noL, noLs])
theorem ok_row_key (T : Txt K mg) : FnOk P w K mg base CX0 2 T.a_row_key T.d_row_key ["row"] (sp_row_key K) := by
  have G_value_key := ok_value_key (P := P) (w := w) (base := base) T
  refine T.F_row_key.ok sc_row_key (fun vs H Q E h => ?_) (fun cdv A outer s H vs Q E hr h => ?_)
  · obtain ⟨_, _, rfl, _⟩ := h
    rfl
  obtain ⟨v, r, rfl, hr0, hl, k⟩ := h
  obtain ⟨a, rfl, sq⟩ := hr0.sq
  refine ⟨_, (pss_one (ps_ret (pe_callTy (call_tupleK (K := K)) (by rfl) T.z_tuple rfl (pa_cons (pe_lc (own := [("value", 1)]) (g := gName 1) (tt := tYes) rfl sc_row_key.nd (pi_listK (K := K) (pv 0)) (blkOk_by (N := ["row", "value"]) (sc := defScope s_row_key) (by decide +kernel)) (fun _ _ _ _ _ => (pg_name (i := 1) sc_row_key.nd rfl (Or.inl rfl))) (fun _ _ _ _ _ => pts_nil) (fun _ _ _ _ _ => (pe_call G_value_key (hr.mono (by omega)) rfl T.m_value_key T.F_value_key.kp T.b_value_key .nil pass0 (pa_cons (pv 1) pa_nil)))) pa_nil)))), ?_⟩
  walk_at "nz"
  refine r_lcT rfl sq (fun p i acc H' => Same H H' ∧ DpAll K H' acc ((r.take i).map pcell)) (fun p H' s _ _ => ⟨s, by rw [List.take_zero]; exact .nil⟩) (fun p i acc H' _ _ _ h => tsame h.1) (fun p i x acc H' hi np e ⟨s, hd⟩ => ?_) (fun p acc H' np e ⟨s, hd⟩ => ?_)
  · walk_at "nz"
    obtain ⟨c, hc, rfl⟩ := cell_at hi
    have il : i < (r.map kV).length := (List.getElem?_eq_some_iff.mp hi).1
    have al : acc.length < 1000000 := by
      rw [dps_len hd, List.length_map, List.length_take]
      omega
    refine ⟨c, rfl, fun y H2 s2 dy => lc_put il (s2 _ _ e) al fun H3 f3 e3 => ⟨Same.mut (s.trans s2) np f3, ?_⟩⟩
    have ts := tsameL (K := K) (s2 _ _ e) f3
    refine dps_snoc (f := pcell) (dps_monoT ts _ _ (noLs_map (fun c => (noL_p c).1) _) (dpsUp s2 hd)) hc (dp_monoT ts _ _ (noL_p c).1 dy)
  · rw [List.length_map, List.take_length] at hd
    exact r_tupL (SqL.of e) hd fun q H2 s2 _ d => k _ _ (s.trans s2) d
theorem ok__law_row_key (T : Txt K mg) : FnOk P w K mg base CX0 2 T.a__law_row_key T.d__law_row_key ["row"] (sp__law_row_key K) := by
  have G__law_key := ok__law_key (P := P) (w := w) (base := base) T
  refine T.F__law_row_key.ok sc__law_row_key (fun vs H Q E h => ?_) (fun cdv A outer s H vs Q E hr h => ?_)
  · obtain ⟨_, _, rfl, _⟩ := h
    rfl
  obtain ⟨v, r, rfl, hr0, hl, k⟩ := h
  obtain ⟨a, rfl, sq⟩ := hr0.sq
  refine ⟨_, (pss_one (ps_ret (pe_callTy (call_tupleK (K := K)) (by rfl) T.z_tuple rfl (pa_cons (pe_lc (own := [("value", 1)]) (g := gName 1) (tt := tYes) rfl sc__law_row_key.nd (pi_listK (K := K) (pv 0)) (blkOk_by (N := ["row", "value"]) (sc := defScope s__law_row_key) (by decide +kernel)) (fun _ _ _ _ _ => (pg_name (i := 1) sc__law_row_key.nd rfl (Or.inl rfl))) (fun _ _ _ _ _ => pts_nil) (fun _ _ _ _ _ => (pe_call G__law_key (hr.mono (by omega)) rfl T.m__law_key T.F__law_key.kp T.b__law_key .nil pass0 (pa_cons (pv 1) pa_nil)))) pa_nil)))), ?_⟩
  walk_at "nz"
  refine r_lcT rfl sq (fun p i acc H' => Same H H' ∧ DpAll K H' acc ((r.take i).map lcell)) (fun p H' s _ _ => ⟨s, by rw [List.take_zero]; exact .nil⟩) (fun p i acc H' _ _ _ h => tsame h.1) (fun p i x acc H' hi np e ⟨s, hd⟩ => ?_) (fun p acc H' np e ⟨s, hd⟩ => ?_)
  · walk_at "nz"
    obtain ⟨c, hc, rfl⟩ := cell_at hi
    have il : i < (r.map kV).length := (List.getElem?_eq_some_iff.mp hi).1
    have al : acc.length < 1000000 := by
      rw [dps_len hd, List.length_map, List.length_take]
      omega
    refine ⟨c, rfl, fun y H2 s2 dy => lc_put il (s2 _ _ e) al fun H3 f3 e3 => ⟨Same.mut (s.trans s2) np f3, ?_⟩⟩
    have ts := tsameL (K := K) (s2 _ _ e) f3
    refine dps_snoc (f := lcell) (dps_monoT ts _ _ (noLs_map (fun c => (noL_p c).2) _) (dpsUp s2 hd)) hc (dp_monoT ts _ _ (noL_p c).2 dy)
  · rw [List.length_map, List.take_length] at hd
    exact r_tupL (SqL.of e) hd fun q H2 s2 _ d => k _ _ (s.trans s2) d
theorem r_ltK {H : Hp} {Q : VK} {x y : V} {d e : PyData} (h1 : Dp K H x d) (h2 : Dp K H y e) (k1 : isK d = true) (k2 : isK e = true) (c : cmpK d e = true) (hd : d.depth ≤ 60) (q : Q (.bl (PySem.W.dataLt d e)) H) : rLtU K x y H Q := .inr ⟨d, e, h1, h2, k1, k2, c, hd, q⟩
theorem ok_before (T : Txt K mg) : FnOk P w K mg base CX0 3 T.a_before T.d_before ["row", "other"] (sp_before K) := by
  have G_row_key := ok_row_key (P := P) (w := w) (base := base) T
  refine T.F_before.ok sc_before (fun vs H Q E h => ?_) (fun cdv A outer s H vs Q E hr h => ?_)
  · obtain ⟨_, _, _, _, rfl, _⟩ := h
    rfl
  obtain ⟨v, u, r, q, rfl, h1, h2, o1, o2, k⟩ := h
  refine ⟨_, (pss_one (ps_ret (pe_cmpR (op_ltUK (K := K) (hu64 hr)) (pe_call G_row_key (hr.mono (by omega)) rfl T.m_row_key T.F_row_key.kp T.b_row_key .nil pass0 (pa_cons (pv 0) pa_nil)) (pe_call G_row_key (hr.mono (by omega)) rfl T.m_row_key T.F_row_key.kp T.b_row_key .nil pass0 (pa_cons (pv 1) pa_nil)) (nomark _)))), ?_⟩
  walk_at "nz"
  have l1 := o1.2
  have l2 := o2.2
  refine ⟨v, r, rfl, h1, by omega, fun y H1 s1 d1 => ⟨u, q, rfl, h2.same s1, by omega, fun z H2 s2 d2 => ?_⟩⟩
  exact r_ltK (dpUp s2 d1) d2 (isK_r o1).1 (isK_r o2).1 (cmp_r r q).1 (dep_r r).1 (k _ (s1.trans s2))
end

section
variable {P : Program} {w : World} {K : Fg} {mg : Str → Option Value} {base : Heap}
theorem each_len {H : Hp} {xs : List V} {rs : List Row} (h : PySem.W.EachIs (RowAt H) xs rs) : xs.length = rs.length := h.length
theorem take_snoc {α : Type} {l : List α} {i : Nat} {x : α} (h : l[i]? = some x) : l.take (i + 1) = l.take i ++ [x] := by
  rw [List.take_add_one, h]
  rfl
theorem each_get {α γ : Type} {R : α → γ → Prop} {as : List α} {cs : List γ} (h : PySem.W.EachIs R as cs) {i : Nat} {x : α} (e : as[i]? = some x) : ∃ y, cs[i]? = some y ∧ R x y := by
  have hi : i < as.length := (List.getElem?_eq_some_iff.mp e).1
  have hj : i < cs.length := by rw [← h.length]; exact hi
  exact ⟨cs[i], List.getElem?_eq_getElem hj, each_at h e (List.getElem?_eq_getElem hj)⟩
theorem nodup_len {α : Type} [DecidableEq α] : ∀ {ks rs : List α}, ks.Nodup → (∀ r, r ∈ ks → r ∈ rs) → ks.length ≤ rs.length
  | [], _, _, _ => Nat.zero_le _
  | k :: ks, rs, nd, h => by
    rw [List.nodup_cons] at nd
    have hk := h k List.mem_cons_self
    have e := nodup_len (ks := ks) (rs := rs.erase k) nd.2 fun r hr => (List.mem_erase_of_ne fun z => nd.1 (by rw [← z]; exact hr)).mpr (h r (List.mem_cons_of_mem _ hr))
    rw [List.length_erase_of_mem hk] at e
    have : 0 < rs.length := List.length_pos_of_mem hk
    rw [List.length_cons]
    omega
theorem keys_len {kvs : List (Row × V)} {rs : List Row} (h : KeysAre kvs rs) : kvs.length ≤ rs.length := by
  rw [← List.length_map (as := kvs) (·.1)]
  exact nodup_len h.1 fun r hr => (h.2 r).mp hr
theorem ok_ascending (T : Txt K mg) : FnOk P w K mg base CX0 5 T.a_ascending T.d_ascending ["rows"] (sp_ascending K) := by
  have G_row_key := ok_row_key (P := P) (w := w) (base := base) T
  refine T.F_ascending.ok sc_ascending (fun vs H Q E h => ?_) (fun cdv A outer s H vs Q E hr h => ?_)
  · obtain ⟨_, _, _, _, rfl, _⟩ := h
    rfl
  obtain ⟨a, xs, rs, wd, rfl, sq, hx, ho, k⟩ := h
  refine ⟨_, (pss_cons (ps_setDct (i := 1) (own := [("row", 2)]) (g := gName 2) (tt := tYes) rfl (hu0 hr) sc_ascending.nd rfl rfl (sw_dict rfl rfl rfl (by decide +kernel)) (pi_listK (K := K) (pv 0)) (blkOk_by (N := ["rows", "found", "row"]) (sc := defScope s_ascending) (by decide +kernel)) (fun _ _ _ _ _ => (pg_name (i := 2) sc_ascending.nd rfl (Or.inl rfl))) (fun _ _ _ _ _ => pts_nil) (fun _ _ _ _ _ => (pv 2)) (fun _ _ _ _ _ => pe_bl)) (pss_one (ps_ret (pe_callTy (call_tupleK (K := K)) (by rfl) T.z_tuple rfl (pa_cons (pe_callBK (ks := ["key"]) (cr_sortByK (K := K) G_row_key (hr.mono (by omega)) T.b_row_key) (by rfl) T.z_sorted rfl (pa_cons (pe_callTy (call_list_dTU rfl) (by rfl) T.z_list rfl (pa_cons (pv 1) pa_nil)) pa_nil) (pk_cons (pe_glob (v := .ref T.a_row_key) (by rfl) T.m_row_key rfl) pk_nil)) pa_nil))))), ?_⟩
  walk_at "nz"
  refine r_dcT rfl sq (fun i kvs H' => Same H H' ∧ KeysAre kvs (rs.take i)) (fun p H' s _ _ => ⟨s, by rw [List.take_zero]; exact keysAre_nil⟩) (fun i kvs H' _ h => tsame h.1) (fun p i x kvs H' hi np e ⟨s, hk⟩ => ?_) (fun p kvs H' np e ⟨s, hk⟩ => ?_)
  · walk_at "nz"
    obtain ⟨r, hr1, hrow⟩ := each_get hx hi
    have il : i < xs.length := (List.getElem?_eq_some_iff.mp hi).1
    have kl := keys_len hk
    rw [List.length_take] at kl
    refine dc_put il (hrow.same s) e (by have := ho.2; omega) fun H2 f2 e2 => ⟨Same.mut s np f2, ?_⟩
    rw [take_snoc hr1]
    exact keysAre_put hk r _
  · walk_at "nz"
    rw [hx.length, List.take_length] at hk
    have kl := keys_len hk
    have hl := ho.2
    have hin : ∀ r, r ∈ kvs.map (·.1) → rowOk r ∧ r.length = wd := fun r hr => ho.1 r ((hk.2 r).mp hr)
    refine r_listD e fun l ys H1 s1 n1 e1 he => ?_
    have hlen : ys.length ≤ 1000 := by
      rw [he.length, List.length_map]
      omega
    refine ⟨Row, RowAt H1, pk, kvs.map (·.1), l, ys, rfl, rfl, SqL.of e1, he, by omega, (kok hin hk.1).1, fun x c H2 _ hc hrc s2 Q' q' => ⟨x, c, rfl, hrc.same s2, by have := (hin c hc).1.2; omega, q'⟩, fun p2 H2 zs s2 n2 e2 hz => ?_⟩
    have hd : DpAll K H2 zs ((sortR (kvs.map (·.1))).map rowD) := rows_dp (each_rows s2 hz)
    exact r_tupL (SqL.of e2) hd fun y H3 s3 _ d => k _ _ (kvs.map (·.1)) (((s.trans s1).trans s2).trans s3) ⟨hk.1, hk.2⟩ d
theorem ok__law_set (T : Txt K mg) : FnOk P w K mg base CX0 5 T.a__law_set T.d__law_set ["rows"] (sp__law_set K) := by
  have G__law_row_key := ok__law_row_key (P := P) (w := w) (base := base) T
  refine T.F__law_set.ok sc__law_set (fun vs H Q E h => ?_) (fun cdv A outer s H vs Q E hr h => ?_)
  · obtain ⟨_, _, _, _, rfl, _⟩ := h
    rfl
  obtain ⟨a, xs, rs, wd, rfl, sq, hx, ho, k⟩ := h
  refine ⟨_, (pss_cons (ps_set (i := 1) sc__law_set.nd rfl (Or.inl rfl) pe_dnewT) (pss_cons (ps_for PassesOwn.never rfl (pi_listK (K := K) (pv 0)) (pg_name (i := 2) sc__law_set.nd rfl (Or.inl rfl)) (pss_one (ps_dput (hu_of hr) (pv 1) (pv 2) pe_bl rfl))) (pss_one (ps_ret (pe_callTy (call_tupleK (K := K)) (by rfl) T.z_tuple rfl (pa_cons (pe_callBK (ks := ["key"]) (cr_sortByK (K := K) G__law_row_key (hr.mono (by omega)) T.b__law_row_key) (by rfl) T.z_sorted rfl (pa_cons (pe_callTy (call_list_dTU rfl) (by rfl) T.z_list rfl (pa_cons (pv 1) pa_nil)) pa_nil) (pk_cons (pe_glob (v := .ref T.a__law_row_key) (by rfl) T.m__law_row_key rfl) pk_nil)) pa_nil)))))), ?_⟩
  walk_at "nz"
  intro p hp
  have s0 : Same H (upd H p (.dT [])) := same_new hp _
  refine r_forL rfl (s0.seq sq) (fun i σ' H' => Same H H' ∧ ∃ kvs c, KeysAre kvs (rs.take i) ∧ H' p = some (.dT kvs) ∧ σ' = [some (.ref a), some (.ref p), c]) ⟨s0, [], none, by rw [List.take_zero]; exact keysAre_nil, upd_same, rfl⟩ (fun i σ' H' _ h => h.1.seq sq) ?_ ?_
  · rintro i x σ' H' hi ⟨s, kvs, c, hk, e, rfl⟩
    walk_at "nz"
    obtain ⟨r, hr1, hrow⟩ := each_get hx hi
    have kl := keys_len hk
    rw [List.length_take] at kl
    obtain ⟨b, rfl, hb⟩ := hrow.same s
    simp only [sDPut]
    walk_at "nz"
    have hl := ho.2
    have sl : kvs.length < sizeLine := Nat.lt_of_le_of_lt (Nat.le_trans kl (Nat.le_trans (Nat.min_le_right _ _) hl)) (by decide)
    refine ⟨p, _, rfl, DPut.t e hb sl, Same.mut s hp fun b o hb e => by rw [upd_ne hb]; exact e, _, some (.ref b), ?_, upd_same, rfl⟩
    rw [take_snoc hr1]
    exact keysAre_put hk r _
  · rintro σ' H' ⟨s, kvs, c, hk, e, rfl⟩
    walk_at "nz"
    rw [hx.length, List.take_length] at hk
    have kl := keys_len hk
    have hl := ho.2
    have hin : ∀ r, r ∈ kvs.map (·.1) → rowOk r ∧ r.length = wd := fun r hr => ho.1 r ((hk.2 r).mp hr)
    refine r_listD e fun l ys H1 s1 n1 e1 he => ?_
    have hlen : ys.length ≤ 1000 := by
      rw [he.length, List.length_map]
      omega
    refine ⟨Row, RowAt H1, lk, kvs.map (·.1), l, ys, rfl, rfl, SqL.of e1, he, by omega, (kok hin hk.1).2, fun x c H2 _ hc hrc s2 Q' q' => ⟨x, c, rfl, hrc.same s2, by have := (hin c hc).1.2; omega, q'⟩, fun p2 H2 zs s2 n2 e2 hz => ?_⟩
    rw [← le_same] at hz
    refine r_tupLv (SqL.of e2) fun y H3 s3 _ d => k y zs H3 _ (((s.trans s1).trans s2).trans s3) (show SetOf rs (kvs.map (·.1)) from hk) (SqT.of d) (each_rows (s2.trans s3) hz)
end

/-! ### promises of the law's own data -/
section
variable (K : Fg)
def sp__law_text : Sp := fun vs H Q _ => ∃ (t : Addr) (n : Int), vs = [.ref t, .int n] ∧ Tape H t ∧ 0 ≤ n ∧ n ≤ 100 ∧ ∀ s H', Ext K t H H' → okS 100 s → Q (.str s) H'
def sp__law_value_of : Sp := fun vs H Q _ => ∃ (t : Addr), vs = [.ref t] ∧ Tape H t ∧ ∀ c H', Ext K t H H' → cellOk c → Q (kV c) H'
def sp__law_pool : Sp := fun vs H Q _ => ∃ (t : Addr), vs = [.ref t] ∧ Tape H t ∧ ∀ (l : Addr) (cs : Row) (H' : Hp), Ext K t H H' → H l = none → H' l = some (.lst (cs.map kV)) → (∀ c, c ∈ cs → cellOk c) → 0 < cs.length → cs.length ≤ 100 → Q (.ref l) H'
def sp__law_row : Sp := fun vs H Q _ => ∃ (t a : Addr) (n : Int) (cs : Row), vs = [.ref t, .ref a, .int n] ∧ Tape H t ∧ SqL K H a (cs.map kV) ∧ a ≠ t ∧ (∀ c, c ∈ cs → cellOk c) ∧ 0 < cs.length ∧ cs.length ≤ 100 ∧ 0 ≤ n ∧ n ≤ 100 ∧ ∀ y r H', Ext K t H H' → RowAt H' y r → rowOk r → r.length = n.toNat → Q y H'
def sp__law_near_value : Sp := fun vs H Q _ => ∃ (t : Addr) (c : L2.Key), vs = [.ref t, kV c] ∧ Tape H t ∧ cellOk c ∧ ∀ d H', Ext K t H H' → cellOk d → Q (kV d) H'
def sp__law_near_row : Sp := fun vs H Q _ => ∃ (t : Addr) (v : V) (r : Row), vs = [.ref t, v] ∧ Tape H t ∧ RowAt H v r ∧ rowOk r ∧ ∀ y q H', Ext K t H H' → RowAt H' y q → rowOk q → Q y H'
end
def cellOkB : L2.Key → Bool
  | .inl i => decide (-10000 < i) && decide (i < 10000)
  | .inr s => Nat.ble s.cps.toList.length 2000 && s.cps.toList.all (fun c => Nat.blt c 0x110000)
theorem cellOk_of {c : L2.Key} (h : cellOkB c = true) : cellOk c := by
  cases c with
  | inl i =>
    unfold cellOkB at h
    rw [Bool.and_eq_true] at h
    exact ⟨of_decide_eq_true h.1, of_decide_eq_true h.2⟩
  | inr s =>
    unfold cellOkB at h
    rw [Bool.and_eq_true] at h
    exact okS_of h.1 h.2
theorem cells_of {cs : Row} (h : cs.all cellOkB = true) : ∀ c, c ∈ cs → cellOk c := fun c hc => cellOk_of (List.all_eq_true.mp h c hc)
section
variable {K : Fg} {H : Hp} {Q : VK} {E : XK} {t a : Addr}
theorem use_pickC {cs : Row} (hT : Tape H t) (ha : SqL K H a (cs.map kV)) (hne : a ≠ t) (h0 : 0 < cs.length) (h1 : cs.length < 100000) (k : ∀ c H', c ∈ cs → Ext K t H H' → Q (kV c) H') : sp__law_pick K [.ref t, .ref a] H Q E := by
  refine ⟨t, a, _, rfl, hT, ha, hne, by rw [List.length_map]; exact h0, by rw [List.length_map]; omega, fun i v H' e hi => ?_⟩
  obtain ⟨c, hc, rfl⟩ := cell_at hi
  exact k c H' (List.mem_of_getElem? hc) e
/-- a comprehension over range(n), n made on the way -/
theorem tLcR_eq {σ : L2.St} {g : TG} {tt : TT} {te : TE} {vs : List Nat} {ta : TA} : tLc (iRng1 ta) g tt te vs σ H Q = ta σ H fun xs H1 => tLc (iRng1 fun _ H Q => Q xs H) g tt te vs σ H1 Q := rfl
/-- a sign of a text -/
theorem r_ixS {z : Str} {i : Int} {n : Nat} (hl : Nat.ble z.cps.toList.length n = true ∧ Nat.ble n z.cps.toList.length = true) (ha : z.cps.toList.all (fun c => Nat.blt c 0x110000) = true) (hn : n ≤ 1000) (h0 : 0 ≤ i) (h1 : i < (n : Int)) (q : ∀ s, okS 1 s → Q (.str s) H) : rIx K (.str z) (.int i) H Q := by
  have l1 := Nat.le_of_ble_eq_true hl.1
  have l2 := Nat.le_of_ble_eq_true hl.2
  have hi : i.toNat < z.cps.toList.length := by omega
  refine .inr (.inr ⟨z, i, z.cps.toList[i.toNat], rfl, rfl, ?_, ?_, q _ ⟨Nat.le_refl _, fun c hc => ?_⟩⟩)
  · show z.cps.size ≤ sizeLine
    rw [← Array.length_toList, sizeLine_eq]
    omega
  · unfold atI
    rw [ixN_of h0 (by omega)]
    exact List.getElem?_eq_getElem hi
  · have e : c = z.cps.toList[i.toNat] := by simpa using hc
    rw [e]
    exact Nat.le_of_ble_eq_true (List.all_eq_true.mp ha _ (List.getElem_mem hi))
theorem cut_to {xs : List V} {m : Int} (h : 0 ≤ m) : cutV xs none (some m) = xs.take (min m.toNat xs.length) := by
  have e : HT.sIx xs.length xs.length (some m) = min m.toNat xs.length := by
    unfold HT.sIx
    exact if_neg (by omega)
  unfold cutV
  rw [e, HT.sIx_none, Nat.sub_zero, List.drop_zero]
theorem sum_glue : ∀ {ys : List Str}, (∀ y, y ∈ ys → okS 1 y) → (ys.map (·.length)).sum ≤ ys.length
  | [], _ => Nat.le_refl _
  | y :: ys, h => by
    have h1 := (h y List.mem_cons_self).1
    have h2 := sum_glue (ys := ys) fun z hz => h z (List.mem_cons_of_mem _ hz)
    simp only [List.map_cons, List.sum_cons, List.length_cons]
    omega
theorem okS_glue : ∀ {ys : List Str}, (∀ y, y ∈ ys → okS 1 y) → okS ys.length (Str.join "" ys)
  | [], _ => ⟨Nat.zero_le _, fun c hc => nomatch hc⟩
  | [y], h => h y List.mem_cons_self
  | y :: z :: r, h => by
    have e1 := okS_glue (ys := z :: r) fun x hx => h x (List.mem_cons_of_mem _ hx)
    have e2 := okS_app (okS_app (h y List.mem_cons_self) (okS_of (n := 0) (x := "") (by decide +kernel) (by decide +kernel))) e1
    exact e2.mono (by simp only [List.length_cons]; omega)
end
section
variable {P : Program} {w : World} {K : Fg} {mg : Str → Option Value} {base : Heap}
theorem ok__law_text (T : Txt K mg) : FnOk P w K mg base CX0 2 T.a__law_text T.d__law_text ["tape", "most"] (sp__law_text K) := by
  have G__law_draw := ok__law_draw (P := P) (w := w) (base := base) T
  refine T.F__law_text.ok sc__law_text (fun vs H Q E h => ?_) (fun cdv A outer s H vs Q E hr h => ?_)
  · obtain ⟨_, _, rfl, _⟩ := h
    rfl
  obtain ⟨t, n, rfl, hT, n0, n1, k⟩ := h
  refine ⟨_, (pss_cons (ps_set (i := 2) sc__law_text.nd rfl (Or.inr rfl) pe_str) (pss_one (ps_ret (pe_joinK (K := K) pe_str (pe_lc (own := [("k", 3)]) (g := gName 3) (tt := tYes) rfl sc__law_text.nd (pi_range1 (by rfl) T.z_range (pa_cons (pe_call G__law_draw (hr.mono (by omega)) rfl T.m__law_draw T.F__law_draw.kp T.b__law_draw .nil pass0 (pa_cons (pv 0) (pa_cons (pe_op (op_addK (K := K)) (pv 1) pe_int) pa_nil))) pa_nil)) (blkOk_by (N := ["tape", "most", "signs", "k"]) (sc := defScope s__law_text) (by decide +kernel)) (fun _ _ _ _ _ => (pg_name (i := 3) sc__law_text.nd rfl (Or.inl rfl))) (fun _ _ _ _ _ => pts_nil) (fun _ _ _ _ _ => (pe_ix (ixK (K := K)) (pv 2) (pe_call G__law_draw (hr.mono (by omega)) rfl T.m__law_draw T.F__law_draw.kp T.b__law_draw .nil pass0 (pa_cons (pv 0) (pa_cons pe_int pa_nil))) (fun _ _ => rfl)))))))), ?_⟩
  walk_at "nz"
  refine ⟨⟨_, rfl⟩, ?_⟩
  rw [tLcR_eq]
  walk_at "nz"
  refine r_addI (use_draw hT (fun r H1 e1 r0 r1 => ?_) (by omega))
  refine r_lcR (n := r) (fun Q q => q) (by omega) (by omega) (fun p i acc H' => Ext K t H1 H' ∧ ∃ ys : List Str, acc = ys.map V.str ∧ ys.length = i ∧ ∀ y, y ∈ ys → okS 1 y) (fun p H' s _ e => ⟨.same s e1.tape, [], rfl, rfl, fun _ h => nomatch h⟩) (fun p i acc H' hi np e ⟨x, ys, ea, hl, hy⟩ => ?_) (fun p acc H' np e ⟨x, ys, ea, hl, hy⟩ => ?_)
  · walk_at "nz"
    refine use_draw x.tape (fun d H2 e2 d0 d1 => ?_)
    refine r_ixS (n := 94) (by decide +kernel) (by decide +kernel) (by decide) d0 (by omega) fun s hs => ?_
    have pt := e1.tape.ne np
    refine lc_put hi (e2.oth _ _ pt e) (by rw [ea, List.length_map]; omega) fun H3 f3 e3 => ⟨(x.trans e2).mut np (e2.oth _ _ pt e) f3, ys ++ [s], by rw [ea, List.map_append]; rfl, by rw [List.length_append, hl]; rfl, fun y h => ?_⟩
    rcases List.mem_append.mp h with h | h
    · exact hy y h
    · rw [List.mem_singleton.mp h]
      exact hs
  · subst ea
    have hs := sum_glue hy
    have e0 : ("" : Str).length = 0 := by decide +kernel
    refine ⟨_, p, ys, rfl, rfl, .inl (SqL.of e), by rw [e0]; omega, k _ _ (e1.trans x) ?_⟩
    unfold Txt.join
    rw [PySem.StrLaws.glued_eq_join]
    exact (okS_glue hy).mono (by omega)
theorem ok__law_value_of (T : Txt K mg) : FnOk P w K mg base CX0 3 T.a__law_value_of T.d__law_value_of ["tape"] (sp__law_value_of K) := by
  have G__law_draw := ok__law_draw (P := P) (w := w) (base := base) T
  have G__law_text := ok__law_text (P := P) (w := w) (base := base) T
  have G__law_pick := ok__law_pick (P := P) (w := w) (base := base) T
  refine T.F__law_value_of.ok sc__law_value_of (fun vs H Q E h => ?_) (fun cdv A outer s H vs Q E hr h => ?_)
  · obtain ⟨_, rfl, _⟩ := h
    rfl
  obtain ⟨t, rfl, hT, k⟩ := h
  refine ⟨_, (pss_cons (ps_set (i := 1) sc__law_value_of.nd rfl (Or.inl rfl) (pe_call G__law_draw (hr.mono (by omega)) rfl T.m__law_draw T.F__law_draw.kp T.b__law_draw .nil pass0 (pa_cons (pv 0) (pa_cons pe_int pa_nil)))) (pss_cons (ps_if (pt_cmpR op_lt (pv 1) pe_int (nomark _)) (pss_one (ps_ret (pe_call G__law_draw (hr.mono (by omega)) rfl T.m__law_draw T.F__law_draw.kp T.b__law_draw .nil pass0 (pa_cons (pv 0) (pa_cons pe_int pa_nil))))) pss_nil) (pss_cons (ps_if (pt_cmpR (op_eqK (K := K) (hu64 hr)) (pv 1) pe_int (nomark _)) (pss_one (ps_ret (pe_call G__law_pick (hr.mono (by omega)) rfl T.m__law_pick T.F__law_pick.kp T.b__law_pick .nil pass0 (pa_cons (pv 0) (pa_cons (pe_lst (pa_cons (pe_un un_neg pe_int) (pa_cons pe_int (pa_cons pe_int (pa_cons pe_int (pa_cons (pe_un un_neg pe_int) (pa_cons pe_int (pa_cons pe_int pa_nil)))))))) pa_nil))))) pss_nil) (pss_cons (ps_if (pt_cmpR (op_eqK (K := K) (hu64 hr)) (pv 1) pe_int (nomark _)) (pss_one (ps_ret (pe_op op_sub (pe_call G__law_draw (hr.mono (by omega)) rfl T.m__law_draw T.F__law_draw.kp T.b__law_draw .nil pass0 (pa_cons (pv 0) (pa_cons pe_int pa_nil))) pe_int))) pss_nil) (pss_cons (ps_if (pt_cmpR op_lt (pv 1) pe_int (nomark _)) (pss_one (ps_ret (pe_call G__law_pick (hr.mono (by omega)) rfl T.m__law_pick T.F__law_pick.kp T.b__law_pick .nil pass0 (pa_cons (pv 0) (pa_cons (pe_lst (pa_cons pe_str (pa_cons pe_str (pa_cons pe_str (pa_cons pe_str (pa_cons pe_str (pa_cons pe_str (pa_cons pe_str (pa_cons pe_str (pa_cons pe_str (pa_cons pe_str (pa_cons pe_str pa_nil)))))))))))) pa_nil))))) pss_nil) (pss_one (ps_ret (pe_call G__law_text (hr.mono (by omega)) rfl T.m__law_text T.F__law_text.kp T.b__law_text .nil pass0 (pa_cons (pv 0) (pa_cons pe_int pa_nil)))))))))), ?_⟩
  walk_at "nz"
  refine use_draw hT (fun c H1 e1 c0 c1 => ?_)
  refine r_I0 (t_if (fun _ => use_draw e1.tape (fun d H2 e2 d0 d1 => k (.inl d) _ (e1.trans e2) ⟨by omega, by omega⟩)) fun _ => ?_)
  refine r_eqI (t_if (fun _ => ?_) fun _ => ?_)
  · refine r_U (r_U (r_lst fun a H2 s2 n2 e2 => ?_))
    refine use_pickC (cs := [.inl (-9999), .inl 9999, .inl 10, .inl 9, .inl (-1), .inl 17, .inl 40]) (e1.then s2).tape (SqL.of e2) (e1.tape.ne n2) (by decide) (by decide) fun d H3 hd e3 => ?_
    exact k d _ ((e1.then s2).trans e3) (cells_of (by decide +kernel) d hd)
  refine r_eqI (t_if (fun _ => ?_) fun _ => ?_)
  · exact use_draw e1.tape fun d H2 e2 d0 d1 => r_I0 (k (.inl (d - 9999)) _ (e1.trans e2) ⟨by omega, by omega⟩)
  refine r_I0 (t_if (fun _ => ?_) fun _ => ?_)
  · refine r_lst fun a H2 s2 n2 e2 => ?_
    refine use_pickC (cs := [.inr "", .inr "a", .inr "b", .inr "ab", .inr "1", .inr "10", .inr "9", .inr "B", .inr "it's", .inr " ", .inr "-1"]) (e1.then s2).tape (SqL.of e2) (e1.tape.ne n2) (by decide) (by decide) fun d H3 hd e3 => ?_
    exact k d _ ((e1.then s2).trans e3) (cells_of (by decide +kernel) d hd)
  · exact ⟨t, 12, rfl, e1.tape, by decide, by decide, fun s H2 e2 hs => k (.inr s) _ (e1.trans e2) (hs.mono (by decide))⟩
theorem ok__law_pool (T : Txt K mg) : FnOk P w K mg base CX0 4 T.a__law_pool T.d__law_pool ["tape"] (sp__law_pool K) := by
  have G__law_draw := ok__law_draw (P := P) (w := w) (base := base) T
  have G__law_value_of := ok__law_value_of (P := P) (w := w) (base := base) T
  have G__law_pick := ok__law_pick (P := P) (w := w) (base := base) T
  refine T.F__law_pool.ok sc__law_pool (fun vs H Q E h => ?_) (fun cdv A outer s H vs Q E hr h => ?_)
  · obtain ⟨_, rfl, _⟩ := h
    rfl
  obtain ⟨t, rfl, hT, k⟩ := h
  refine ⟨_, (pss_cons (ps_set (i := 1) sc__law_pool.nd rfl (Or.inl rfl) (pe_op (op_addK (K := K)) pe_int (pe_call G__law_draw (hr.mono (by omega)) rfl T.m__law_draw T.F__law_draw.kp T.b__law_draw .nil pass0 (pa_cons (pv 0) (pa_cons pe_int pa_nil))))) (pss_cons (ps_if (pt_cmpR (op_eqK (K := K) (hu64 hr)) (pe_call G__law_draw (hr.mono (by omega)) rfl T.m__law_draw T.F__law_draw.kp T.b__law_draw .nil pass0 (pa_cons (pv 0) (pa_cons pe_int pa_nil))) pe_int (nomark _)) (pss_one (ps_ret (pe_slice (sl_K (K := K)) (pe_call G__law_pick (hr.mono (by omega)) rfl T.m__law_pick T.F__law_pick.kp T.b__law_pick .nil pass0 (pa_cons (pv 0) (pa_cons (pe_lst (pa_cons (pe_lst (pa_cons pe_int (pa_cons pe_int (pa_cons pe_int (pa_cons pe_int (pa_cons pe_int pa_nil)))))) (pa_cons (pe_lst (pa_cons pe_int (pa_cons pe_int (pa_cons pe_str (pa_cons pe_int (pa_cons pe_int pa_nil)))))) (pa_cons (pe_lst (pa_cons pe_str (pa_cons pe_str (pa_cons pe_str (pa_cons pe_int (pa_cons pe_str pa_nil)))))) pa_nil)))) pa_nil))) po_none (po_some (pv 1))))) pss_nil) (pss_one (ps_ret (pe_lc (own := [("k", 2)]) (g := gName 2) (tt := tYes) rfl sc__law_pool.nd (pi_range1 (by rfl) T.z_range (pa_cons (pv 1) pa_nil)) (blkOk_by (N := ["tape", "many", "k"]) (sc := defScope s__law_pool) (by decide +kernel)) (fun _ _ _ _ _ => (pg_name (i := 2) sc__law_pool.nd rfl (Or.inl rfl))) (fun _ _ _ _ _ => pts_nil) (fun _ _ _ _ _ => (pe_call G__law_value_of (hr.mono (by omega)) rfl T.m__law_value_of T.F__law_value_of.kp T.b__law_value_of .nil pass0 (pa_cons (pv 0) pa_nil)))))))), ?_⟩
  walk_at "nz"
  refine use_draw hT (fun m H1 e1 m0 m1 => r_addI (use_draw e1.tape fun c H2 e2 c0 c1 => r_eqI (t_if (fun _ => ?_) fun _ => ?_)))
  · have x2 := e1.trans e2
    refine r_lst fun l1 H3 s3 n3 g3 => r_lst fun l2 H4 s4 n4 g4 => r_lst fun l3 H5 s5 n5 g5 => r_lst fun l4 H6 s6 n6 g6 => ?_
    have x6 := (((x2.then s3).then s4).then s5).then s6
    have q1 : H6 l1 = _ := s6 _ _ (s5 _ _ (s4 _ _ g3))
    have q2 : H6 l2 = _ := s6 _ _ (s5 _ _ g4)
    have q3 : H6 l3 = _ := s6 _ _ g5
    have z1 : H l1 = none := x2.free n3
    have z2 : H l2 = none := (x2.then s3).free n4
    have z3 : H l3 = none := ((x2.then s3).then s4).free n5
    have fin : ∀ (l : Addr) (cs : Row) (H7 : Hp), Ext K t H6 H7 → H6 l = some (.lst (cs.map kV)) → l ≠ t → cs.all cellOkB = true → cs.length = 5 → ∃ i, V.int (2 + m) = V.int i ∧ rSlU K (.ref l) none (some i) H7 Q := by
      intro l cs H7 e7 hl ne hc h5
      refine ⟨_, rfl, r_slL (SqL.of (e7.oth _ _ ne hl)) fun p H8 s8 n8 g8 => ?_⟩
      have ec : cutV (cs.map kV) none (some (2 + m)) = (cs.take (min (2 + m).toNat 5)).map kV := by
        rw [cut_to (by omega), List.length_map, h5, List.map_take]
      rw [ec] at g8
      refine k p _ H8 ((x6.trans e7).then s8) ((x6.trans e7).free n8) g8 (fun c hc2 => cells_of hc c (List.mem_of_mem_take hc2)) ?_ ?_
      · rw [List.length_take, h5]
        omega
      · rw [List.length_take]
        omega
    refine ⟨t, l4, _, rfl, x6.tape, SqL.of g6, (((x2.then s3).then s4).then s5).tape.ne n6, Nat.le_of_ble_eq_true rfl, Nat.le_of_ble_eq_true rfl, fun i v H7 e7 hi => ?_⟩
    match i, hi with
    | 0, hi => cases hi; exact fin l1 [.inl 1, .inl 2, .inl 3, .inl 4, .inl 5] H7 e7 q1 (hT.ne z1) (by decide +kernel) rfl
    | 1, hi => cases hi; exact fin l2 [.inl 0, .inl 1, .inr "1", .inl 10, .inl 9] H7 e7 q2 (hT.ne z2) (by decide +kernel) rfl
    | 2, hi => cases hi; exact fin l3 [.inr "a", .inr "b", .inr "ab", .inl 3, .inr ""] H7 e7 q3 (hT.ne z3) (by decide +kernel) rfl
    | _ + 3, hi => cases hi
  · have x2 := e1.trans e2
    refine r_lcR (n := 2 + m) (by walk_at "ev") (by omega) (by omega) (fun p i acc H' => Ext K t H2 H' ∧ ∃ r : Row, acc = r.map kV ∧ r.length = i ∧ ∀ c, c ∈ r → cellOk c) (fun p H' s _ e => ⟨.same s x2.tape, [], rfl, rfl, fun _ h => nomatch h⟩) (fun p i acc H' hi np e ⟨x, r, ea, hl, hy⟩ => ?_) (fun p acc H' np e ⟨x, r, ea, hl, hy⟩ => ?_)
    · walk_at "nz"
      have pt := x2.tape.ne np
      refine ⟨t, rfl, x.tape, fun c H2 e2 hcc => ?_⟩
      refine lc_put hi (e2.oth _ _ pt e) (by rw [ea, List.length_map]; omega) fun H3 f3 e3 => ⟨(x.trans e2).mut np (e2.oth _ _ pt e) f3, r ++ [c], by rw [ea, List.map_append]; rfl, by rw [List.length_append, hl]; rfl, fun y h => ?_⟩
      rcases List.mem_append.mp h with h | h
      · exact hy y h
      · rw [List.mem_singleton.mp h]
        exact hcc
    · subst ea
      exact k p r H' (x2.trans x) (x2.free np) e hy (by omega) (by omega)
theorem ok__law_row (T : Txt K mg) : FnOk P w K mg base CX0 3 T.a__law_row T.d__law_row ["tape", "pool", "columns"] (sp__law_row K) := by
  have G__law_pick := ok__law_pick (P := P) (w := w) (base := base) T
  refine T.F__law_row.ok sc__law_row (fun vs H Q E h => ?_) (fun cdv A outer s H vs Q E hr h => ?_)
  · obtain ⟨_, _, _, _, rfl, _⟩ := h
    rfl
  obtain ⟨t, a, n, cs, rfl, hT, ha, hne, hc, h0, h1, n0, n1, k⟩ := h
  refine ⟨_, (pss_one (ps_ret (pe_callTy (call_tupleK (K := K)) (by rfl) T.z_tuple rfl (pa_cons (pe_lc (own := [("k", 3)]) (g := gName 3) (tt := tYes) rfl sc__law_row.nd (pi_range1 (by rfl) T.z_range (pa_cons (pv 2) pa_nil)) (blkOk_by (N := ["tape", "pool", "columns", "k"]) (sc := defScope s__law_row) (by decide +kernel)) (fun _ _ _ _ _ => (pg_name (i := 3) sc__law_row.nd rfl (Or.inl rfl))) (fun _ _ _ _ _ => pts_nil) (fun _ _ _ _ _ => (pe_call G__law_pick (hr.mono (by omega)) rfl T.m__law_pick T.F__law_pick.kp T.b__law_pick .nil pass0 (pa_cons (pv 0) (pa_cons (pv 1) pa_nil))))) pa_nil)))), ?_⟩
  walk_at "nz"
  refine r_lcR (n := n) (by walk_at "ev") (by omega) (by omega) (fun p i acc H' => Ext K t H H' ∧ ∃ r : Row, acc = r.map kV ∧ r.length = i ∧ ∀ c, c ∈ r → cellOk c) (fun p H' s _ e => ⟨.same s hT, [], rfl, rfl, fun _ h => nomatch h⟩) (fun p i acc H' hi np e ⟨x, r, ea, hl, hy⟩ => ?_) (fun p acc H' np e ⟨x, r, ea, hl, hy⟩ => ?_)
  · walk_at "nz"
    have pt := hT.ne np
    refine use_pickC x.tape (x.lst hne ha) hne h0 (by omega) fun c H2 hcc e2 => ?_
    refine lc_put hi (e2.oth _ _ pt e) (by rw [ea, List.length_map]; omega) fun H3 f3 e3 => ⟨(x.trans e2).mut np (e2.oth _ _ pt e) f3, r ++ [c], by rw [ea, List.map_append]; rfl, by rw [List.length_append, hl]; rfl, fun y h => ?_⟩
    rcases List.mem_append.mp h with h | h
    · exact hy y h
    · rw [List.mem_singleton.mp h]
      exact hc c hcc
  · subst ea
    refine r_tupLv (SqL.of e) fun q H2 s2 _ e2 => k _ r _ (x.then s2) ⟨q, rfl, e2⟩ ⟨hy, by omega⟩ hl
end

section
variable (K : Fg)
/-- a pair of rows -/
def PairAt (K : Fg) (H : Hp) (x : V) (p : Row × Row) : Prop := ∃ (z : Addr) (u v : V), x = .ref z ∧ SqT K H z [u, v] ∧ RowAt H u p.1 ∧ RowAt H v p.2 ∧ rowOk p.1 ∧ rowOk p.2
def sp__law_before_right : Sp := fun vs H Q _ => ∃ (a : Addr) (xs : List V) (ps : List (Row × Row)), vs = [.ref a] ∧ SqL K H a xs ∧ PySem.W.EachIs (PairAt K H) xs ps ∧ ∀ H', Same H H' → Q (.bl true) H'
def sp__law_some_rows : Sp := fun vs H Q _ => ∃ (t : Addr), vs = [.ref t] ∧ Tape H t ∧ ∀ (l : Addr) (xs : List V) (rs : List Row) (w : Nat) (H' : Hp), Ext K t H H' → H l = none → H' l = some (.lst xs) → PySem.W.EachIs (RowAt H') xs rs → RowsOk w rs → Q (.ref l) H'
end
section
variable {K : Fg} {H H' : Hp} {Q : VK} {t : Addr} {v : V} {r : Row}
theorem r_lenR (h : RowAt H v r) (q : Q (.int (r.length : Int)) H) : rLenU K [v] H Q := by
  refine r_lenT h.dp ?_
  rw [List.length_map]
  exact q
theorem r_ixR {j : Int} (h : RowAt H v r) (h0 : 0 ≤ j) (h1 : j < (r.length : Int)) (q : ∀ c, c ∈ r → Q (kV c) H) : rIx K v (.int j) H Q := by
  obtain ⟨a, rfl, h⟩ := h
  have hj : j.toNat < r.length := by omega
  have e : atI (r.map kV) j = some (kV r[j.toNat]) := by
    unfold atI
    rw [List.length_map, ixN_of h0 h1, Option.bind_some, List.getElem?_map, List.getElem?_eq_getElem hj]
    rfl
  exact .inr (.inl ⟨a, _, j, _, rfl, rfl, SqT.of h, e, q _ (List.getElem_mem hj)⟩)
theorem r_subS {lo hi : Option Int} {z : Str} {n : Nat} (h : okS n z) (hn : n ≤ 1000000) (q : okS n (cutS z lo hi) → Q (.str (cutS z lo hi)) H) : rSlU K (.str z) lo hi H Q := .inr (.inr ⟨z, rfl, h.size hn, q (okS_cut h lo hi)⟩)
theorem r_toS {k : Nat} {z : Str} {n : Nat} (h : okS n z) (hn : n ≤ 1000000) (q : okS k (cutS z none (some (k : Int))) → Q (.str (cutS z none (some (k : Int)))) H) : rSlU K (.str z) none (some (k : Int)) H Q := .inr (.inr ⟨z, rfl, h.size hn, q (okS_cutTo h)⟩)
theorem r_addS {x y : Str} {n m : Nat} (h : okS n x) (h2 : okS m y) (hn : n + m ≤ 1000000) (q : okS (n + m) (x ++ y) → Q (.str (x ++ y)) H) : rAddU K (.str x) (.str y) H Q := by
  refine .inr (.inl ⟨x, y, rfl, rfl, ?_, q (okS_app h h2)⟩)
  have h3 := h.1
  have h4 := h2.1
  rw [sizeLine_eq]
  omega
/-- row[:j] + (near row[j],) + row[j + 1:] -/
theorem swap_cell {j : Int} (hT : Tape H t) (hr : RowAt H v r) (ho : rowOk r) (h0 : 0 ≤ j) (h1 : j < (r.length : Int)) (k : ∀ y q H', Ext K t H H' → RowAt H' y q → rowOk q → q.length = r.length → Q y H') :
    rSlU K v none (some j) H fun x H1 => rIx K v (.int j) H1 fun y H2 => sp__law_near_value K [.ref t, y] H2 (fun z H3 => nwT [z] H3 fun u H4 => rAddU K x u H4 fun w H5 => rAddU K (.int j) (.int 1) H5 fun i H6 => ∃ n, i = .int n ∧ rSlU K v (some n) none H6 fun w2 H7 => rAddU K w w2 H7 Q) E0 := by
  have l2 := ho.2
  refine r_slR hr fun u q1 H1 s1 a1 m1 e1 => r_ixR (hr.same s1) h0 h1 fun c hc => ⟨t, c, rfl, hT.same s1, ho.1 c hc, fun d H2 e2 hd => r_tupW fun p H3 s3 n3 g3 => ?_⟩
  have l1 : q1.length = j.toNat := by
    rw [e1, List.length_take, List.length_drop, HT.sIx_none]
    have e : HT.sIx r.length r.length (some j) = min j.toNat r.length := by
      unfold HT.sIx
      exact if_neg (by omega)
    rw [e]
    omega
  have x3 : Ext K t H H3 := ((Ext.same s1 hT).trans e2).then s3
  refine r_catR (q := [d]) ((a1.ext e2).same s3) ⟨p, rfl, g3⟩ (by rw [l1]; show _ + 1 ≤ _; omega) fun w H4 s4 a4 => r_addI ⟨_, rfl, r_slR (hr.ext (x3.then s4)) fun u2 q2 H5 s5 a5 m5 e5 => ?_⟩
  have l5 : q2.length = r.length - (j.toNat + 1) := by
    rw [e5, List.length_take, List.length_drop, HT.sIx_none]
    have e : HT.sIx r.length 0 (some (j + 1)) = min (j.toNat + 1) r.length := by
      unfold HT.sIx
      refine (if_neg (by omega)).trans ?_
      have z : (j + 1).toNat = j.toNat + 1 := by omega
      rw [z]
    rw [e]
    omega
  have ll : ((q1 ++ [d]) ++ q2).length = r.length := by
    rw [List.length_append, List.length_append, l1, l5]
    show j.toNat + 1 + _ = _
    omega
  refine r_catR (a4.same s5) a5 (by rw [← List.length_append, ll]; omega) fun y H6 s6 a6 => k y _ H6 (((x3.then s4).then s5).then s6) a6 ⟨fun c hc => ?_, by rw [ll]; exact l2⟩ ll
  rcases List.mem_append.mp hc with hc | hc
  · rcases List.mem_append.mp hc with hc | hc
    · exact ho.1 c (m1 c hc)
    · rw [List.mem_singleton.mp hc]
      exact hd
  · exact ho.1 c (m5 c hc)
end
section
variable {P : Program} {w : World} {K : Fg} {mg : Str → Option Value} {base : Heap}
theorem ok__law_near_value (T : Txt K mg) : FnOk P w K mg base CX0 3 T.a__law_near_value T.d__law_near_value ["tape", "value"] (sp__law_near_value K) := by
  have G__law_pick := ok__law_pick (P := P) (w := w) (base := base) T
  refine T.F__law_near_value.ok sc__law_near_value (fun vs H Q E h => ?_) (fun cdv A outer s H vs Q E hr h => ?_)
  · obtain ⟨_, _, rfl, _⟩ := h
    rfl
  obtain ⟨t, c, rfl, hT, hc, k⟩ := h
  refine ⟨_, (pss_cons (ps_if (pt_truthK (K := K) (pe_callB (call_isiK1 (K := K)) (by rfl) T.z_isinstance rfl (pa_cons (pv 1) (pa_cons (pe_bltn (by rfl) T.z_str rfl (v := .ty "str") rfl) pa_nil))) (fun _ => rfl)) (pss_cons (ps_set (i := 2) sc__law_near_value.nd rfl (Or.inl rfl) (pe_lst (pa_cons (pe_slice (sl_K (K := K)) (pv 1) (po_some pe_int) po_none) (pa_cons (pe_op (op_addK (K := K)) (pe_slice (sl_K (K := K)) (pv 1) po_none (po_some pe_int)) pe_str) (pa_cons (pe_slice (sl_K (K := K)) (pv 1) po_none (po_some (pe_un un_neg pe_int))) (pa_cons (pe_revU (K := K) (pv 1)) (pa_cons pe_str (pa_cons pe_int (pa_cons (pe_un un_neg pe_int) (pa_cons (pe_slice (sl_K (K := K)) (pe_op (op_addK (K := K)) (pv 1) pe_str) po_none (po_some pe_int)) (pa_cons (pe_slice (sl_K (K := K)) (pe_op (op_addK (K := K)) pe_str (pv 1)) po_none (po_some pe_int)) pa_nil))))))))))) (pss_one (ps_ret (pe_call G__law_pick (hr.mono (by omega)) rfl T.m__law_pick T.F__law_pick.kp T.b__law_pick .nil pass0 (pa_cons (pv 0) (pa_cons (pv 2) pa_nil)))))) pss_nil) (pss_one (ps_ret (pe_call G__law_pick (hr.mono (by omega)) rfl T.m__law_pick T.F__law_pick.kp T.b__law_pick .nil pass0 (pa_cons (pv 0) (pa_cons (pe_lst (pa_cons (pe_callB (call_min2U rfl) (by rfl) T.z_min rfl (pa_cons (pe_op (op_addK (K := K)) (pv 1) pe_int) (pa_cons pe_int pa_nil))) (pa_cons (pe_callB (call_max2U rfl) (by rfl) T.z_max rfl (pa_cons (pe_op op_sub (pv 1) pe_int) (pa_cons (pe_un un_neg pe_int) pa_nil))) (pa_cons (pe_un un_neg (pv 1)) (pa_cons (pe_callTy call_str_int (by rfl) T.z_str rfl (pa_cons (pv 1) pa_nil)) (pa_cons pe_str (pa_cons pe_int (pa_cons pe_int (pa_cons (pe_op op_fdivU (pv 1) pe_int) pa_nil))))))))) pa_nil)))))), ?_⟩
  walk_at "nz"
  cases c with
  | inr z =>
    have hz : okS 2000 z := hc
    have one : ∀ y : Str, Nat.ble y.cps.toList.length 1 = true → y.cps.toList.all (fun c => Nat.blt c 0x110000) = true → okS 1 y := fun y h1 h2 => okS_of h1 h2
    refine r_isi (b := true) (dp_cell (.inr z)) rfl (u_yes ?_)
    refine ⟨_, rfl, r_subS hz (by decide) fun o1 => ⟨_, rfl, r_toS (k := 11) hz (by decide) fun o2 => r_addS o2 (one "a" (by decide +kernel) (by decide +kernel)) (by decide) fun o3 => r_U ⟨_, rfl, r_subS hz (by decide) fun o4 => .inr ⟨z, rfl, hz.size (by decide), fun r hr1 hr2 => ?_⟩⟩⟩⟩
    have o5 : okS 2000 r := ⟨Nat.le_trans hr1 hz.1, fun c hc => hz.2 c (hr2 c hc)⟩
    refine r_U (r_addS hz (one "~" (by decide +kernel) (by decide +kernel)) (by decide) fun o6 => ⟨_, rfl, r_toS (k := 12) o6 (by decide) fun o7 => r_addS (one " " (by decide +kernel) (by decide +kernel)) hz (by decide) fun o8 => ⟨_, rfl, r_toS (k := 12) o8 (by decide) fun o9 => r_lst fun a H2 s2 n2 e2 => ?_⟩⟩)
    refine use_pickC (cs := [.inr _, .inr _, .inr _, .inr r, .inr "", .inl 0, .inl (-9999), .inr _, .inr _]) (hT.same s2) (SqL.of e2) (hT.ne n2) (Nat.le_of_ble_eq_true rfl) (Nat.le_of_ble_eq_true rfl) fun d H3 hd e3 => ?_
    refine k d _ ((Ext.same s2 hT).trans e3) ?_
    simp only [List.mem_cons, List.not_mem_nil, or_false] at hd
    rcases hd with rfl | rfl | rfl | rfl | rfl | rfl | rfl | rfl | rfl
    · exact o1
    · exact o3.mono (by decide)
    · exact o4
    · exact o5
    · exact cellOk_of (by decide +kernel)
    · exact cellOk_of (by decide +kernel)
    · exact cellOk_of (by decide +kernel)
    · exact o7.mono (by decide)
    · exact o9.mono (by decide)
  | inl i =>
    have hi : -10000 < i ∧ i < 10000 := hc
    refine r_isi (b := false) (dp_cell (.inl i)) rfl (u_no ?_)
    refine r_addI (r_min (r_I0 (r_U (r_max (r_U ⟨i, rfl, Nat.lt_trans (PySem.Flt.log2_lt_of (by decide) (show i.natAbs < 2 ^ 64 by omega)) (by decide), ?_⟩)))))
    refine r_fdW (by decide) (by decide) (r_lst fun a H2 s2 n2 e2 => ?_)
    refine use_pickC (cs := [.inl _, .inl _, .inl _, .inr _, .inr "", .inl 9, .inl 10, .inl _]) (hT.same s2) (SqL.of e2) (hT.ne n2) (Nat.le_of_ble_eq_true rfl) (Nat.le_of_ble_eq_true rfl) fun d H3 hd e3 => ?_
    refine k d _ ((Ext.same s2 hT).trans e3) ?_
    simp only [List.mem_cons, List.not_mem_nil, or_false] at hd
    rcases hd with rfl | rfl | rfl | rfl | rfl | rfl | rfl | rfl
    · exact ⟨by omega, by omega⟩
    · exact ⟨by omega, by omega⟩
    · exact ⟨by omega, by omega⟩
    · exact (okS_int i (by omega)).mono (by decide)
    · exact cellOk_of (by decide +kernel)
    · exact cellOk_of (by decide +kernel)
    · exact cellOk_of (by decide +kernel)
    · exact ⟨by omega, by omega⟩
theorem ok__law_near_row (T : Txt K mg) : FnOk P w K mg base CX0 4 T.a__law_near_row T.d__law_near_row ["tape", "row"] (sp__law_near_row K) := by
  have G__law_draw := ok__law_draw (P := P) (w := w) (base := base) T
  have G__law_value_of := ok__law_value_of (P := P) (w := w) (base := base) T
  have G__law_near_value := ok__law_near_value (P := P) (w := w) (base := base) T
  refine T.F__law_near_row.ok sc__law_near_row (fun vs H Q E h => ?_) (fun cdv A outer s H vs Q E hr h => ?_)
  · obtain ⟨_, _, _, rfl, _⟩ := h
    rfl
  obtain ⟨t, v, r, rfl, hT, hr0, ho, k⟩ := h
  refine ⟨_, (pss_cons (ps_set (i := 2) sc__law_near_row.nd rfl (Or.inl rfl) (pe_call G__law_draw (hr.mono (by omega)) rfl T.m__law_draw T.F__law_draw.kp T.b__law_draw .nil pass0 (pa_cons (pv 0) (pa_cons pe_int pa_nil)))) (pss_cons (ps_if (pt_cmpR (op_eqK (K := K) (hu64 hr)) (pv 2) pe_int (nomark _)) (pss_one (ps_ret (pe_slice (sl_K (K := K)) (pv 1) po_none (po_some (pe_call G__law_draw (hr.mono (by omega)) rfl T.m__law_draw T.F__law_draw.kp T.b__law_draw .nil pass0 (pa_cons (pv 0) (pa_cons (pe_op (op_addK (K := K)) (pe_callB (call_lenK (K := K)) (by rfl) T.z_len rfl (pa_cons (pv 1) pa_nil)) pe_int) pa_nil))))))) pss_nil) (ps_cutU (ps_if (PW.pt (pw_and (pt_cmpR (op_eqK (K := K) (hu64 hr)) (pv 2) pe_int (nomark _)) (pw_and1 (pt_cmpR op_lt (pe_callB (call_lenK (K := K)) (by rfl) T.z_len rfl (pa_cons (pv 1) pa_nil)) pe_int (nomark _))))) (pss_one (ps_ret (pe_op (op_addK (K := K)) (pv 1) (pe_tup (pa_cons (pe_call G__law_value_of (hr.mono (by omega)) rfl T.m__law_value_of T.F__law_value_of.kp T.b__law_value_of .nil pass0 (pa_cons (pv 0) pa_nil)) pa_nil))))) pss_nil) (ps_cutU (ps_if (PW.pt (pw_or (pt_cmpR (op_eqK (K := K) (hu64 hr)) (pe_callB (call_lenK (K := K)) (by rfl) T.z_len rfl (pa_cons (pv 1) pa_nil)) pe_int (nomark _)) (pw_or1 (pt_cmpR (op_eqK (K := K) (hu64 hr)) (pv 2) pe_int (nomark _))))) (pss_one (ps_ret (pv 1))) pss_nil) (pss_cons (ps_set (i := 3) sc__law_near_row.nd rfl (Or.inl rfl) (pe_call G__law_draw (hr.mono (by omega)) rfl T.m__law_draw T.F__law_draw.kp T.b__law_draw .nil pass0 (pa_cons (pv 0) (pa_cons (pe_callB (call_lenK (K := K)) (by rfl) T.z_len rfl (pa_cons (pv 1) pa_nil)) pa_nil)))) (pss_one (ps_ret (pe_op (op_addK (K := K)) (pe_op (op_addK (K := K)) (pe_slice (sl_K (K := K)) (pv 1) po_none (po_some (pv 3))) (pe_tup (pa_cons (pe_call G__law_near_value (hr.mono (by omega)) rfl T.m__law_near_value T.F__law_near_value.kp T.b__law_near_value .nil pass0 (pa_cons (pv 0) (pa_cons (pe_ix (ixK (K := K)) (pv 1) (pv 3) (fun _ _ => rfl)) pa_nil))) pa_nil))) (pe_slice (sl_K (K := K)) (pv 1) (po_some (pe_op (op_addK (K := K)) (pv 3) pe_int)) po_none))))))))), ?_⟩
  walk_at "nz"
  have l2 := ho.2
  refine use_draw hT (fun c H1 e1 c0 c1 => r_eqI (t_if (fun _ => ?_) fun _ => ?_))
  · refine r_lenR (hr0.ext e1) (r_addI (use_draw e1.tape (fun d H2 e2 d0 d1 => ⟨_, rfl, r_slR ((hr0.ext e1).ext e2) fun u q H3 s3 a3 m3 e3 => k u q H3 ((e1.trans e2).then s3) a3 ⟨fun c hc => ho.1 c (m3 c hc), ?_⟩⟩) (by omega)))
    rw [e3, List.length_take, List.length_drop]
    omega
  have a1 := hr0.ext e1
  refine r_cut (fun σ' H' => H' = H1 ∧ σ' = [some (.ref t), some v, some (.int c), none]) ?_ ?_
  · walk_at "nz"
    refine r_eqI (t_if (fun _ => ?_) fun _ => ⟨rfl, by trivial⟩)
    refine r_lenR a1 (r_I0 (t_if (fun lt => ?_) fun _ => ⟨rfl, by trivial⟩))
    refine ⟨t, rfl, e1.tape, fun d H2 e2 hd => r_tupW fun p H3 s3 n3 g3 => ?_⟩
    refine r_catR (q := [d]) ((a1.ext e2).same s3) ⟨p, rfl, g3⟩ (by show _ + 1 ≤ _; omega) fun y H4 s4 a4 => k y _ H4 (((e1.trans e2).then s3).then s4) a4 ⟨fun c hc => ?_, by rw [List.length_append]; show _ + 1 ≤ _; omega⟩
    rcases List.mem_append.mp hc with hc | hc
    · exact ho.1 c hc
    · rw [List.mem_singleton.mp hc]
      exact hd
  rintro σ' H' ⟨rfl, rfl⟩
  walk_at "nz"
  refine r_cut (fun σ' H2 => H2 = H' ∧ σ' = [some (.ref t), some v, some (.int c), none] ∧ 0 < r.length) ?_ ?_
  · walk_at "nz"
    refine r_lenR a1 (r_eqI (t_if (fun _ => k _ _ _ e1 a1 ho) fun ne => r_eqI (t_if (fun _ => k _ _ _ e1 a1 ho) fun _ => ⟨rfl, by omega⟩)))
  rintro σ' H2 ⟨rfl, rfl, pos⟩
  walk_at "nz"
  refine r_lenR a1 (use_draw e1.tape (fun j H3 e3 j0 j1 => ⟨_, rfl, ?_⟩) (by omega))
  exact swap_cell e3.tape (a1.ext e3) ho j0 (by omega) fun y q H4 e4 a4 o4 _ => k y q H4 ((e1.trans e3).trans e4) a4 o4
theorem ok__law_before_right (T : Txt K mg) : FnOk P w K mg base CX0 21 T.a__law_before_right T.d__law_before_right ["rows"] (sp__law_before_right K) := by
  have G__law_same := ok__law_same (P := P) (w := w) (base := base) T
  have G_before := ok_before (P := P) (w := w) (base := base) T
  have G__law_row_key := ok__law_row_key (P := P) (w := w) (base := base) T
  refine T.F__law_before_right.ok sc__law_before_right (fun vs H Q E h => ?_) (fun cdv A outer s H vs Q E hr h => ?_)
  · obtain ⟨_, _, _, rfl, _⟩ := h
    rfl
  obtain ⟨a, xs, ps, rfl, ha, hx, k⟩ := h
  refine ⟨_, (pss_cons (ps_for PassesOwn.never rfl (pi_listK (K := K) (pv 0)) (pg_tupK (K := K) (n := 2) rfl (pgs_cons (pg_name (i := 1) sc__law_before_right.nd rfl (Or.inl rfl)) (pgs_cons (pg_name (i := 2) sc__law_before_right.nd rfl (Or.inl rfl)) pgs_nil))) (pss_one (ps_if (pt_not (pt_truthK (K := K) (pe_call G__law_same (hr.mono (by omega)) rfl T.m__law_same T.F__law_same.kp T.b__law_same .nil pass0 (pa_cons (pe_call G_before (hr.mono (by omega)) rfl T.m_before T.F_before.kp T.b_before .nil pass0 (pa_cons (pv 1) (pa_cons (pv 2) pa_nil))) (pa_cons (pe_cmpR (op_ltUK (K := K) (hu64 hr)) (pe_call G__law_row_key (hr.mono (by omega)) rfl T.m__law_row_key T.F__law_row_key.kp T.b__law_row_key .nil pass0 (pa_cons (pv 1) pa_nil)) (pe_call G__law_row_key (hr.mono (by omega)) rfl T.m__law_row_key T.F__law_row_key.kp T.b__law_row_key .nil pass0 (pa_cons (pv 2) pa_nil)) (nomark _)) pa_nil))) (fun _ => rfl))) (pss_one (ps_ret pe_bl)) pss_nil))) (pss_one (ps_ret pe_bl))), ?_⟩
  walk_at "nz"
  refine r_forL rfl ha (fun i σ' H' => Same H H' ∧ ∃ c d, σ' = [some (.ref a), c, d]) ⟨Same.refl _, _, _, rfl⟩ (fun i σ' H' _ h => h.1.seq ha) ?_ ?_
  · rintro i x σ' H' hi ⟨s, c, d, rfl⟩
    obtain ⟨⟨r, q⟩, hp, z, u, v, rfl, hz, a1, a2, o1, o2⟩ := each_get hx hi
    have l1 : r.length ≤ 100 := o1.2
    have l2 : q.length ≤ 100 := o2.2
    walk_at "nz"
    refine r_un2V (tsame s _ _ hz) ?_
    refine ⟨u, v, r, q, rfl, a1.same s, a2.same s, o1, o2, fun H1 s1 => ?_⟩
    have x1 := s.trans s1
    refine ⟨u, r, rfl, a1.same x1, by omega, fun y H2 s2 d2 => ⟨v, q, rfl, a2.same (x1.trans s2), by omega, fun y3 H3 s3 d3 => ?_⟩⟩
    refine r_ltK (dpUp s3 d2) d3 (isK_r o1).2 (isK_r o2).2 (cmp_r r q).2 (dep_r r).2 ?_
    rw [← key_same]
    exact use_same (.bl _) (.bl _) rfl fun H4 s4 => u_notT ⟨((x1.trans s2).trans s3).trans s4, _, _, rfl⟩
  · rintro σ' H' ⟨s, c, d, rfl⟩
    walk_at "nz"
    exact k _ s
theorem ok__law_some_rows (T : Txt K mg) : FnOk P w K mg base CX0 5 T.a__law_some_rows T.d__law_some_rows ["tape"] (sp__law_some_rows K) := by
  have G__law_pick := ok__law_pick (P := P) (w := w) (base := base) T
  have G__law_draw := ok__law_draw (P := P) (w := w) (base := base) T
  have G__law_pool := ok__law_pool (P := P) (w := w) (base := base) T
  have G__law_row := ok__law_row (P := P) (w := w) (base := base) T
  have G__law_near_value := ok__law_near_value (P := P) (w := w) (base := base) T
  refine T.F__law_some_rows.ok sc__law_some_rows (fun vs H Q E h => ?_) (fun cdv A outer s H vs Q E hr h => ?_)
  · obtain ⟨_, rfl, _⟩ := h
    rfl
  obtain ⟨t, rfl, hT, k⟩ := h
  refine ⟨_, (pss_cons (ps_set (i := 1) sc__law_some_rows.nd rfl (Or.inl rfl) (pe_call G__law_pick (hr.mono (by omega)) rfl T.m__law_pick T.F__law_pick.kp T.b__law_pick .nil pass0 (pa_cons (pv 0) (pa_cons (pe_lst (pa_cons pe_int (pa_cons pe_int (pa_cons pe_int (pa_cons pe_int (pa_cons pe_int (pa_cons pe_int (pa_cons pe_int pa_nil)))))))) pa_nil)))) (pss_cons (ps_set (i := 2) sc__law_some_rows.nd rfl (Or.inl rfl) (pe_call G__law_draw (hr.mono (by omega)) rfl T.m__law_draw T.F__law_draw.kp T.b__law_draw .nil pass0 (pa_cons (pv 0) (pa_cons pe_int pa_nil)))) (pss_cons (ps_set (i := 3) sc__law_some_rows.nd rfl (Or.inl rfl) (pe_call G__law_pool (hr.mono (by omega)) rfl T.m__law_pool T.F__law_pool.kp T.b__law_pool .nil pass0 (pa_cons (pv 0) pa_nil))) (ps_cutU (ps_if (pt_cmpR (op_eqK (K := K) (hu64 hr)) (pe_call G__law_draw (hr.mono (by omega)) rfl T.m__law_draw T.F__law_draw.kp T.b__law_draw .nil pass0 (pa_cons (pv 0) (pa_cons pe_int pa_nil))) pe_int (nomark _)) (pss_one (ps_set (i := 2) sc__law_some_rows.nd rfl (Or.inl rfl) pe_int)) pss_nil) (pss_cons (ps_set (i := 4) sc__law_some_rows.nd rfl (Or.inl rfl) (pe_lst pa_nil)) (pss_cons (ps_for PassesOwn.never rfl (pi_range1 (by rfl) T.z_range (pa_cons (pv 2) pa_nil)) (pg_name (i := 5) sc__law_some_rows.nd rfl (Or.inl rfl)) (pss_cons (ps_set (i := 6) sc__law_some_rows.nd rfl (Or.inl rfl) (pe_call G__law_row (hr.mono (by omega)) rfl T.m__law_row T.F__law_row.kp T.b__law_row .nil pass0 (pa_cons (pv 0) (pa_cons (pv 3) (pa_cons (pv 1) pa_nil))))) (ps_cutU (ps_if (PW.pt (pw_and (pt_cmpR op_gt (pe_callB (call_lenK (K := K)) (by rfl) T.z_len rfl (pa_cons (pv 4) pa_nil)) pe_int (nomark _)) (pw_and1 (pt_cmpR (op_eqK (K := K) (hu64 hr)) (pe_call G__law_draw (hr.mono (by omega)) rfl T.m__law_draw T.F__law_draw.kp T.b__law_draw .nil pass0 (pa_cons (pv 0) (pa_cons pe_int pa_nil))) pe_int (nomark _))))) (pss_one (ps_set (i := 6) sc__law_some_rows.nd rfl (Or.inl rfl) (pe_call G__law_pick (hr.mono (by omega)) rfl T.m__law_pick T.F__law_pick.kp T.b__law_pick .nil pass0 (pa_cons (pv 0) (pa_cons (pv 4) pa_nil))))) pss_nil) (ps_cutU (ps_if (PW.pt (pw_and (pt_cmpR op_gt (pv 1) pe_int (nomark _)) (pw_and1 (pt_cmpR (op_eqK (K := K) (hu64 hr)) (pe_call G__law_draw (hr.mono (by omega)) rfl T.m__law_draw T.F__law_draw.kp T.b__law_draw .nil pass0 (pa_cons (pv 0) (pa_cons pe_int pa_nil))) pe_int (nomark _))))) (pss_cons (ps_set (i := 7) sc__law_some_rows.nd rfl (Or.inl rfl) (pe_call G__law_draw (hr.mono (by omega)) rfl T.m__law_draw T.F__law_draw.kp T.b__law_draw .nil pass0 (pa_cons (pv 0) (pa_cons (pv 1) pa_nil)))) (pss_one (ps_set (i := 6) sc__law_some_rows.nd rfl (Or.inl rfl) (pe_op (op_addK (K := K)) (pe_op (op_addK (K := K)) (pe_slice (sl_K (K := K)) (pv 6) po_none (po_some (pv 7))) (pe_tup (pa_cons (pe_call G__law_near_value (hr.mono (by omega)) rfl T.m__law_near_value T.F__law_near_value.kp T.b__law_near_value .nil pass0 (pa_cons (pv 0) (pa_cons (pe_ix (ixK (K := K)) (pv 6) (pv 7) (fun _ _ => rfl)) pa_nil))) pa_nil))) (pe_slice (sl_K (K := K)) (pv 6) (po_some (pe_op (op_addK (K := K)) (pv 7) pe_int)) po_none))))) pss_nil) (pss_one (ps_expr (pe_bmK (K := K) PySem.F.plainAttrs_list PySem.F.slot_list_append PySem.F.type_list_append mt_append (pv 4) (pa_cons (pv 6) pa_nil)))))))) (pss_one (ps_ret (pv 4))))))))), ?_⟩
  walk_at "nz"
  refine r_lst fun a H1 s1 n1 e1 => use_pickI (ns := [0, 1, 1, 2, 2, 3, 6]) (hT.same s1) (SqL.of e1) (hT.ne n1) fun col H2 hcol e2 => ?_
  have hc : 0 ≤ col ∧ col ≤ 6 := by
    simp only [List.mem_cons, List.not_mem_nil, or_false] at hcol
    omega
  have x2 : Ext K t H H2 := (Ext.same s1 hT).trans e2
  refine use_draw x2.tape fun m H3 e3 m0 m1 => ⟨t, rfl, e3.tape, fun l cs H4 e4 n4 g4 hcs c0 c1 => ?_⟩
  have x4 := (x2.trans e3).trans e4
  have lt : l ≠ t := e3.tape.ne n4
  refine r_cut (fun σ' H' => Ext K t H4 H' ∧ ∃ m : Int, 0 ≤ m ∧ m ≤ 60 ∧ σ' = [some (.ref t), some (.int col), some (.int m), some (.ref l), none, none, none, none]) ?_ ?_
  · walk_at "nz"
    exact use_draw x4.tape fun c H5 e5 c0 c1 => r_eqI (t_if (fun _ => ⟨e5, 60, by decide, by decide, rfl⟩) fun _ => ⟨e5, m, m0, by omega, rfl⟩)
  rintro σ' H5 ⟨e5, m, m0, m1, rfl⟩
  walk_at "nz"
  have x5 := x4.trans e5
  have g5 := e5.oth _ _ lt g4
  refine r_lst fun p H6 s6 n6 g6 => ?_
  have pt := x5.tape.ne n6
  refine r_forR (n := m) (by walk_at "ev") (by omega) (by omega) (fun i σ' H' => Ext K t H5 H' ∧ ∃ (xs : List V) (rs : List Row) (c5 c6 c7 : Option V), H' p = some (.lst xs) ∧ PySem.W.EachIs (RowAt H') xs rs ∧ (∀ r, r ∈ rs → rowOk r ∧ r.length = col.toNat) ∧ rs.length = i ∧
    σ' = [some (.ref t), some (.int col), some (.int m), some (.ref l), some (.ref p), c5, c6, c7]) ⟨.same s6 x5.tape, [], [], none, none, none, g6, .nil, (fun _ h => nomatch h), rfl, rfl⟩ ?_ ?_
  · rintro i σ' H' hi ⟨x, xs, rs, c5, c6, c7, hp, hx, hrs, hlen, rfl⟩
    have xl := hx.length
    walk_at "nz"
    refine ⟨t, l, col, cs, rfl, x.tape, SqL.of (x.oth _ _ lt g5), lt, hcs, c0, c1, hc.1, by omega, fun y r H7 e7 a7 o7 l7 => ?_⟩
    refine r_cut (fun σ' H8 => Ext K t H7 H8 ∧ ∃ y r, RowAt H8 y r ∧ rowOk r ∧ r.length = col.toNat ∧ σ' = [some (.ref t), some (.int col), some (.int m), some (.ref l), some (.ref p), some (.int (i : Int)), some y, c7]) ?_ ?_
    · walk_at "nz"
      have hp7 := e7.oth _ _ pt hp
      refine r_lenL (SqL.of hp7) (r_I0 (t_if (fun pos => ?_) fun _ => ⟨.refl e7.tape, y, r, a7, o7, l7, rfl⟩))
      refine use_draw e7.tape fun c H8 e8 c0 c1 => r_eqI (t_if (fun _ => ?_) fun _ => ⟨e8, y, r, a7.ext e8, o7, l7, rfl⟩)
      refine ⟨t, p, xs, rfl, e8.tape, SqL.of (e8.oth _ _ pt hp7), pt, by omega, by omega, fun i2 v H9 e9 hv => ?_⟩
      obtain ⟨r2, hr2, a2⟩ := each_get hx hv
      have z := hrs r2 (List.mem_of_getElem? hr2)
      exact ⟨e8.trans e9, v, r2, ((a2.ext e7).ext e8).ext e9, z.1, z.2, rfl⟩
    rintro σ' H8 ⟨e8, y, r, a8, o8, l8, rfl⟩
    walk_at "nz"
    refine r_cut (fun σ' H9 => Ext K t H8 H9 ∧ ∃ y r c, RowAt H9 y r ∧ rowOk r ∧ r.length = col.toNat ∧ σ' = [some (.ref t), some (.int col), some (.int m), some (.ref l), some (.ref p), some (.int (i : Int)), some y, c]) ?_ ?_
    · walk_at "nz"
      refine r_I0 (t_if (fun pos => ?_) fun _ => ⟨.refl e8.tape, y, r, c7, a8, o8, l8, rfl⟩)
      refine use_draw e8.tape fun c H9 e9 c0 c1 => r_eqI (t_if (fun _ => ?_) fun _ => ⟨e9, y, r, c7, a8.ext e9, o8, l8, rfl⟩)
      refine use_draw e9.tape (fun j H10 e10 j0 j1 => ⟨_, rfl, ?_⟩) (by omega)
      exact swap_cell e10.tape ((a8.ext e9).ext e10) o8 j0 (by omega) fun y2 q H11 e11 a11 o11 l11 => ⟨(e9.trans e10).trans e11, y2, q, _, a11, o11, l11.trans l8, rfl⟩
    rintro σ' H9 ⟨e9, y, r, c, a9, o9, l9, rfl⟩
    walk_at "nz"
    have x9 := ((x.trans e7).trans e8).trans e9
    have hp9 := ((e7.trans e8).trans e9).oth _ _ pt hp
    refine ⟨r_tyL (SqL.of hp9), r_append hp9 (by omega) fun H10 f10 g10 => ?_⟩
    refine ⟨x9.mut n6 hp9 f10, xs ++ [y], rs ++ [r], _, _, _, g10, each_take ((each_rowsX ((e7.trans e8).trans e9) hx).mono fun _ _ q => q.put hp9 f10) (a9.put hp9 f10), fun r2 h2 => ?_, by rw [List.length_append, hlen]; rfl, rfl⟩
    rcases List.mem_append.mp h2 with h2 | h2
    · exact hrs r2 h2
    · rw [List.mem_singleton.mp h2]
      exact ⟨o9, l9⟩
  · rintro σ' H' ⟨x, xs, rs, c5, c6, c7, hp, hx, hrs, hlen, rfl⟩
    walk_at "nz"
    exact k p xs rs col.toNat H' (x5.trans x) (x5.free n6) hp hx ⟨hrs, by omega⟩
end

section
variable (K : Fg)
def sp__law_ascending_right : Sp := fun vs H Q _ => ∃ (t : Addr), vs = [.ref t] ∧ Tape H t ∧ ∀ H', Ext K t H H' → Q (.bl true) H'
def sp_law : Sp := fun vs H Q _ => ∃ (a : Addr) (ns : List Int), vs = [.ref a] ∧ SqL K H a (ns.map V.int) ∧ ns.length ≤ 63 ∧ ∀ H', Q (.bl true) H'
end
section
variable {K : Fg} {H H' : Hp} {Q : VK} {t : Addr} {v : V} {r : Row}
theorem each_set {α γ : Type} {R : α → γ → Prop} {x : α} {y : γ} : ∀ {as : List α} {cs : List γ} (i : Nat), PySem.W.EachIs R as cs → R x y → PySem.W.EachIs R (as.set i x) (cs.set i y)
  | _, _, _, .nil, _ => .nil
  | _, _, 0, .cons _ t, q => .cons q t
  | _, _, i + 1, .cons h t, q => .cons h (each_set i t q)
theorem each_last {α γ : Type} {R : α → γ → Prop} {as : List α} {cs : List γ} (h : PySem.W.EachIs R as cs) (n : as ≠ []) : ∃ bs x ds y, as = bs ++ [x] ∧ cs = ds ++ [y] ∧ PySem.W.EachIs R bs ds := by
  induction h with
  | nil => exact absurd rfl n
  | @cons a c as cs h t ih =>
    by_cases e : as = []
    · subst e
      cases t
      exact ⟨[], a, [], c, rfl, rfl, .nil⟩
    · obtain ⟨bs, x, ds, y, rfl, rfl, q⟩ := ih e
      exact ⟨a :: bs, x, c :: ds, y, rfl, rfl, .cons h q⟩
theorem each_perm {α γ : Type} {R : α → γ → Prop} {us vs : List α} (p : us.Perm vs) : ∀ {cs : List γ}, PySem.W.EachIs R vs cs → ∃ es, es.Perm cs ∧ PySem.W.EachIs R us es := by
  induction p with
  | nil => intro cs h; cases h; exact ⟨[], .nil, .nil⟩
  | cons x _ ih =>
    intro cs h
    cases h with
    | cons h1 h2 =>
      obtain ⟨es, p, q⟩ := ih h2
      exact ⟨_ :: es, p.cons _, .cons h1 q⟩
  | swap x y l =>
    intro cs h
    cases h with
    | cons h1 h2 => cases h2 with
      | cons h3 h4 => exact ⟨_, .swap _ _ _, .cons h3 (.cons h1 h4)⟩
  | trans _ _ h1 h2 =>
    intro cs h
    obtain ⟨es, p, q⟩ := h2 h
    obtain ⟨fs, p2, q2⟩ := h1 q
    exact ⟨fs, p2.trans p, q2⟩
theorem smp_cell (c : L2.Key) (n : Nat) : smp (n + 1) (cd c) = true := by cases c <;> rfl
theorem smp_row {r : Row} (h : r.length ≤ 1000) : smp 19 (rowD r) = true := by
  unfold rowD smp
  rw [Bool.and_eq_true, List.all_eq_true]
  refine ⟨decide_eq_true (by rw [List.length_map]; omega), fun d hd => ?_⟩
  obtain ⟨c, _, rfl⟩ := List.mem_map.mp hd
  exact smp_cell c 17
theorem smp_rows {rs : List Row} (h : ∀ r, r ∈ rs → r.length ≤ 1000) (hl : rs.length ≤ 1000) : smp 20 (.tuple (rs.map rowD)) = true := by
  unfold smp
  rw [Bool.and_eq_true, List.all_eq_true]
  refine ⟨decide_eq_true (by rw [List.length_map]; omega), fun d hd => ?_⟩
  obtain ⟨r, hr, rfl⟩ := List.mem_map.mp hd
  exact smp_row (h r hr)
/-- rows and the rows in order that are wanted of them -/
def AskAt (K : Fg) (H : Hp) (x : V) : Prop := ∃ (z l b : Addr) (xs ys : List V) (rs ks : List Row) (w : Nat), x = .ref z ∧ SqT K H z [.ref l, .ref b] ∧ SqL K H l xs ∧ PySem.W.EachIs (RowAt H) xs rs ∧ RowsOk w rs ∧ SqT K H b ys ∧ PySem.W.EachIs (RowAt H) ys (sortR ks) ∧ SetOf rs ks
theorem AskAt.same {x : V} (e : Same H H') (h : AskAt K H x) : AskAt K H' x := by
  obtain ⟨z, l, b, xs, ys, rs, ks, w, rfl, h1, h2, h3, h4, h5, h6, h7⟩ := h
  exact ⟨z, l, b, xs, ys, rs, ks, w, rfl, tsame e _ _ h1, e.seq h2, each_rows e h3, h4, tsame e _ _ h5, each_rows e h6, h7⟩
theorem setOf_ok {w : Nat} {rs ks : List Row} (h : RowsOk w rs) (hs : SetOf rs ks) : RowsOk w ks ∧ RowsOk w (sortR ks) := by
  have l1 : ks.length ≤ 1000 := Nat.le_trans (nodup_len hs.1 fun r hr => (hs.2 r).mp hr) h.2
  have l2 : (sortR ks).length = ks.length := (List.mergeSort_perm _ _).length_eq
  exact ⟨⟨fun r hr => h.1 r ((hs.2 r).mp hr), l1⟩, fun r hr => h.1 r ((hs.2 r).mp (sortR_mem.mp hr)), by omega⟩
theorem PairAt.same {x : V} {p : Row × Row} (e : Same H H') (h : PairAt K H x p) : PairAt K H' x p := by
  obtain ⟨z, u, v, rfl, h1, h2, h3, h4, h5⟩ := h
  exact ⟨z, u, v, rfl, tsame e _ _ h1, h2.same e, h3.same e, h4, h5⟩
theorem PairAt.ext {x : V} {p : Row × Row} (e : Ext K t H H') (h : PairAt K H x p) : PairAt K H' x p := by
  obtain ⟨z, u, v, rfl, h1, h2, h3, h4, h5⟩ := h
  exact ⟨z, u, v, rfl, e.tup _ _ h1, h2.ext e, h3.ext e, h4, h5⟩
theorem pair_mk {z : Addr} {u v : V} {r q : Row} (h : H z = some (.tup [u, v])) (a1 : RowAt H u r) (a2 : RowAt H v q) (o1 : rowOk r) (o2 : rowOk q) : PairAt K H (.ref z) (r, q) := ⟨z, u, v, rfl, SqT.of h, a1, a2, o1, o2⟩
/-- (near row[0],) + row[1:] -/
theorem swap_first (hT : Tape H t) (hr : RowAt H v r) (ho : rowOk r) (h1 : 0 < r.length) (k : ∀ y q H', Ext K t H H' → RowAt H' y q → rowOk q → q.length = r.length → Q y H') :
    rIx K v (.int 0) H fun y H2 => sp__law_near_value K [.ref t, y] H2 (fun z H3 => nwT [z] H3 fun u H4 => ∃ n, V.int 1 = .int n ∧ rSlU K v (some n) none H4 fun w2 H5 => rAddU K u w2 H5 Q) E0 := by
  have l2 := ho.2
  refine r_ixR hr (by decide) (by omega) fun c hc => ⟨t, c, rfl, hT, ho.1 c hc, fun d H2 e2 hd => r_tupW fun p H3 s3 n3 g3 => ⟨_, rfl, r_slR ((hr.ext e2).same s3) fun u q2 H4 s4 a4 m4 e4 => ?_⟩⟩
  have l5 : q2.length = r.length - 1 := by
    rw [e4, List.length_take, List.length_drop, HT.sIx_none]
    have e : HT.sIx r.length 0 (some 1) = min 1 r.length := HT.sIx_nat r.length 0 1
    rw [e]
    omega
  have x3 : Ext K t H H4 := (e2.then s3).then s4
  have ll : ([d] ++ q2).length = r.length := by
    rw [List.length_append, l5]
    show 1 + _ = _
    omega
  refine r_catR (r := [d]) ⟨p, rfl, s4 _ _ g3⟩ a4 (by rw [l5]; show 1 + _ ≤ _; omega) fun y H6 s6 a6 => k y _ H6 (x3.then s6) a6 ⟨fun c hc => ?_, by rw [ll]; exact l2⟩ ll
  rcases List.mem_append.mp hc with hc | hc
  · rw [List.mem_singleton.mp hc]
    exact hd
  · exact ho.1 c (m4 c hc)
end
section
variable {P : Program} {w : World} {K : Fg} {mg : Str → Option Value} {base : Heap}
theorem ok__law_ascending_right (T : Txt K mg) : FnOk P w K mg base CX0 21 T.a__law_ascending_right T.d__law_ascending_right ["tape"] (sp__law_ascending_right K) := by
  have G__law_some_rows := ok__law_some_rows (P := P) (w := w) (base := base) T
  have G__law_set := ok__law_set (P := P) (w := w) (base := base) T
  have G__law_draw := ok__law_draw (P := P) (w := w) (base := base) T
  have G__law_shuffled := ok__law_shuffled (P := P) (w := w) (base := base) T
  have G__law_same := ok__law_same (P := P) (w := w) (base := base) T
  have G_ascending := ok_ascending (P := P) (w := w) (base := base) T
  have G__law_near_value := ok__law_near_value (P := P) (w := w) (base := base) T
  refine T.F__law_ascending_right.ok sc__law_ascending_right (fun vs H Q E h => ?_) (fun cdv A outer s H vs Q E hr h => ?_)
  · obtain ⟨_, rfl, _⟩ := h
    rfl
  obtain ⟨t, rfl, hT, k⟩ := h
  refine ⟨_, (pss_cons (ps_set (i := 1) sc__law_ascending_right.nd rfl (Or.inl rfl) (pe_call G__law_some_rows (hr.mono (by omega)) rfl T.m__law_some_rows T.F__law_some_rows.kp T.b__law_some_rows .nil pass0 (pa_cons (pv 0) pa_nil))) (pss_cons (ps_set (i := 2) sc__law_ascending_right.nd rfl (Or.inl rfl) (pe_callTy (call_listK (K := K)) (by rfl) T.z_list rfl (pa_cons (pv 1) pa_nil))) (ps_cutU (ps_if (pt_cmpR op_gt (pe_callB (call_lenK (K := K)) (by rfl) T.z_len rfl (pa_cons (pv 1) pa_nil)) pe_int (nomark _)) (pss_cons (ps_set (i := 3) sc__law_ascending_right.nd rfl (Or.inl rfl) (pe_call G__law_draw (hr.mono (by omega)) rfl T.m__law_draw T.F__law_draw.kp T.b__law_draw .nil pass0 (pa_cons (pv 0) (pa_cons (pe_callB (call_lenK (K := K)) (by rfl) T.z_len rfl (pa_cons (pv 1) pa_nil)) pa_nil)))) (pss_cons (ps_set (i := 4) sc__law_ascending_right.nd rfl (Or.inl rfl) (pe_ix (ixK (K := K)) (pv 1) (pv 3) (fun _ _ => rfl))) (pss_one (ps_if (pt_cmpR op_gt (pe_callB (call_lenK (K := K)) (by rfl) T.z_len rfl (pa_cons (pv 4) pa_nil)) pe_int (nomark _)) (pss_one (ps_asg (pe_op (op_addK (K := K)) (pe_tup (pa_cons (pe_call G__law_near_value (hr.mono (by omega)) rfl T.m__law_near_value T.F__law_near_value.kp T.b__law_near_value .nil pass0 (pa_cons (pv 0) (pa_cons (pe_ix (ixK (K := K)) (pv 4) pe_int (fun _ _ => rfl)) pa_nil))) pa_nil)) (pe_slice (sl_K (K := K)) (pv 4) (po_some pe_int) po_none)) (pg_sub (pv 2) (pv 3) set_list))) (pss_one (ps_expr (pe_bm0K (K := K) PySem.F.plainAttrs_list PySem.F.slot_list_pop PySem.F.type_list_pop mt_pop (pv 2)))))))) pss_nil) (pss_cons (ps_set (i := 5) sc__law_ascending_right.nd rfl (Or.inl rfl) (pe_call G__law_set (hr.mono (by omega)) rfl T.m__law_set T.F__law_set.kp T.b__law_set .nil pass0 (pa_cons (pv 1) pa_nil))) (pss_cons (ps_set (i := 6) sc__law_ascending_right.nd rfl (Or.inl rfl) (pe_lst (pa_cons (pe_tup (pa_cons (pv 1) (pa_cons (pv 5) pa_nil))) (pa_cons (pe_tup (pa_cons (pv 2) (pa_cons (pe_call G__law_set (hr.mono (by omega)) rfl T.m__law_set T.F__law_set.kp T.b__law_set .nil pass0 (pa_cons (pv 2) pa_nil)) pa_nil))) (pa_cons (pe_tup (pa_cons (pe_call G__law_shuffled (hr.mono (by omega)) rfl T.m__law_shuffled T.F__law_shuffled.kp T.b__law_shuffled .nil pass0 (pa_cons (pv 0) (pa_cons (pv 1) pa_nil))) (pa_cons (pv 5) pa_nil))) (pa_cons (pe_tup (pa_cons (pe_callTy (call_listK (K := K)) (by rfl) T.z_list rfl (pa_cons (pv 5) pa_nil)) (pa_cons (pv 5) pa_nil))) pa_nil)))))) (pss_cons (ps_for PassesOwn.never rfl (pi_listK (K := K) (pv 6)) (pg_tupK (K := K) (n := 2) rfl (pgs_cons (pg_name (i := 7) sc__law_ascending_right.nd rfl (Or.inl rfl)) (pgs_cons (pg_name (i := 8) sc__law_ascending_right.nd rfl (Or.inl rfl)) pgs_nil))) (pss_one (ps_if (pt_not (pt_truthK (K := K) (pe_call G__law_same (hr.mono (by omega)) rfl T.m__law_same T.F__law_same.kp T.b__law_same .nil pass0 (pa_cons (pe_call G_ascending (hr.mono (by omega)) rfl T.m_ascending T.F_ascending.kp T.b_ascending .nil pass0 (pa_cons (pe_callTy (call_tupleK (K := K)) (by rfl) T.z_tuple rfl (pa_cons (pv 7) pa_nil)) pa_nil)) (pa_cons (pv 8) pa_nil))) (fun _ => rfl))) (pss_one (ps_ret pe_bl)) pss_nil))) (pss_one (ps_ret pe_bl)))))))), ?_⟩
  walk_at "nz"
  refine ⟨t, rfl, hT, fun l xs rs wd H1 e1 n1 g1 hx ho => r_listV (.inl (SqL.of g1)) fun l2 H2 s2 n2 g2 => ?_⟩
  have lt : l ≠ t := hT.ne n1
  have lt2 : l2 ≠ t := e1.tape.ne n2
  have hl := ho.2
  have xl := hx.length
  have x2 := e1.then s2
  have hp1 := s2 _ _ g1
  have hx2 := each_rows s2 hx
  have nl : l ≠ l2 := by rintro rfl; rw [g1] at n2; cases n2
  refine r_cut (fun σ' H' => Ext K t H1 H' ∧ ∃ xs2 rs2 c3 c4, H' l2 = some (.lst xs2) ∧ PySem.W.EachIs (RowAt H') xs2 rs2 ∧ RowsOk wd rs2 ∧ σ' = [some (.ref t), some (.ref l), some (.ref l2), c3, c4, none, none, none, none]) ?_ ?_
  · walk_at "nz"
    refine r_lenL (SqL.of hp1) (r_I0 (t_if (fun pos => ?_) fun _ => ⟨.same s2 e1.tape, xs, rs, none, none, g2, hx2, ho, rfl⟩))
    refine r_lenL (SqL.of hp1) (use_draw x2.tape (fun j H3 e3 j0 j1 => ?_) (by omega))
    have hj : j.toNat < xs.length := by omega
    have hat : atI xs j = some xs[j.toNat] := by
      unfold atI
      rw [ixN_of j0 (by omega)]
      exact List.getElem?_eq_getElem hj
    have x3 : Ext K t H1 H3 := (Ext.same s2 e1.tape).trans e3
    obtain ⟨r, hr1, hr2⟩ := each_get hx (List.getElem?_eq_getElem hj)
    have ho3 := ho.1 r (List.mem_of_getElem? hr1)
    have a3 := hr2.ext x3
    have g3 := e3.oth _ _ lt2 g2
    have hx3 := each_rowsX x3 hx
    refine r_ixLV (SqL.of (e3.oth _ _ lt hp1)) hat (r_lenR a3 (r_I0 (t_if (fun rp => ?_) fun _ => ?_)))
    · refine swap_first e3.tape a3 ho3.1 (by omega) fun y q H4 e4 a4 o4 l4 => ?_
      have g4 := e4.oth _ _ lt2 g3
      refine r_setL g4 (ixN_of j0 (by omega)) fun H5 f5 g5 => ⟨(x3.trans e4).mut n2 g4 f5, _, rs.set j.toNat q, _, _, g5, each_set _ ((each_rowsX e4 hx3).mono fun _ _ z => z.put g4 f5) (a4.put g4 f5), ⟨fun r2 h2 => ?_, by rw [List.length_set]; exact hl⟩, rfl⟩
      rcases List.mem_or_eq_of_mem_set h2 with h2 | h2
      · exact ho.1 r2 h2
      · rw [h2]
        exact ⟨o4, l4.trans ho3.2⟩
    · obtain ⟨bs, x, ds, y, rfl, rfl, hb⟩ := each_last hx3 (by rintro rfl; simp at hj)
      refine ⟨r_tyL (SqL.of g3), l2, _, x, rfl, rfl, g3, by simp, ?_⟩
      rw [List.dropLast_concat]
      have f4 : ∀ b o, b ≠ l2 → H3 b = some o → upd H3 l2 (.lst bs) b = some o := fun b o hb e => by rw [upd_ne hb]; exact e
      refine ⟨x3.mut n2 g3 f4, bs, ds, _, _, upd_same, hb.mono fun _ _ z => z.put g3 f4, ⟨fun r2 h2 => ho.1 r2 (List.mem_append_left _ h2), ?_⟩, rfl⟩
      rw [List.length_append] at hl
      omega
  rintro σ' H3 ⟨e3, xs2, rs2, c3, c4, g3, hx3, ho3, rfl⟩
  walk_at "nz"
  have x3 := e1.trans e3
  have q3 := e3.oth _ _ lt g1
  have hx1 := each_rowsX e3 hx
  refine ⟨l, xs, rs, wd, rfl, SqL.of q3, hx1, ho, fun b ys H4 ks s4 hs hb hy => ?_⟩
  refine r_tupW fun z1 H5 s5 n5 g5 => ⟨l2, xs2, rs2, wd, rfl, (s4.trans s5).seq (SqL.of g3), each_rows (s4.trans s5) hx3, ho3, fun b2 ys2 H6 ks2 s6 hs2 hb2 hy2 => r_tupW fun z2 H7 s7 n7 g7 => ?_⟩
  have y7 := ((s4.trans s5).trans s6).trans s7
  have x7 := x3.then y7
  refine ⟨t, l, xs, rfl, x7.tape, SqL.of (y7 _ _ q3), lt, by omega, fun l3 xs3 H8 e8 n8 g8 pm => r_tupW fun z3 H9 s9 n9 g9 => ?_⟩
  have x9 := (x7.trans e8).then s9
  have hb9 : SqT K H9 b ys := tsame s9 _ _ (e8.tup _ _ (tsame ((s5.trans s6).trans s7) _ _ hb))
  have hy9 : PySem.W.EachIs (RowAt H9) ys (sortR ks) := each_rows s9 (each_rowsX e8 (each_rows ((s5.trans s6).trans s7) hy))
  obtain ⟨rs3, pm3, hx3'⟩ := each_perm pm (each_rowsX e8 (each_rows y7 hx1))
  have hs3 : SetOf rs3 ks := ⟨hs.1, fun r => (hs.2 r).trans pm3.mem_iff.symm⟩
  have ho4 : RowsOk wd rs3 := ⟨fun r hr => ho.1 r (pm3.mem_iff.mp hr), by rw [pm3.length_eq]; exact hl⟩
  have so := setOf_ok ho hs
  refine r_listV (.inr hb9) fun l4 H10 s10 n10 g10 => r_tupW fun z4 H11 s11 n11 g11 => r_lst fun l5 H12 s12 n12 g12 => ?_
  have A1 : AskAt K H9 (.ref z1) := ⟨z1, l, b, xs, ys, rs, ks, wd, rfl, tsame s9 _ _ (e8.tup _ _ (tsame (s6.trans s7) _ _ (SqT.of g5))), s9.seq (SqL.of (e8.oth _ _ lt (y7 _ _ q3))), each_rows s9 (each_rowsX e8 (each_rows y7 hx1)), ho, hb9, hy9, hs⟩
  have A2 : AskAt K H9 (.ref z2) := ⟨z2, l2, b2, xs2, ys2, rs2, ks2, wd, rfl, tsame s9 _ _ (e8.tup _ _ (SqT.of g7)), s9.seq (SqL.of (e8.oth _ _ lt2 (y7 _ _ g3))), each_rows s9 (each_rowsX e8 (each_rows y7 hx3)), ho3, tsame s9 _ _ (e8.tup _ _ (tsame s7 _ _ hb2)), each_rows s9 (each_rowsX e8 (each_rows s7 hy2)), hs2⟩
  have A3 : AskAt K H9 (.ref z3) := ⟨z3, l3, b, xs3, ys, rs3, ks, wd, rfl, SqT.of g9, s9.seq (SqL.of g8), each_rows s9 hx3', ho4, hb9, hy9, hs3⟩
  have A4 : AskAt K H11 (.ref z4) := ⟨z4, l4, b, ys, ys, sortR ks, ks, wd, rfl, SqT.of g11, s11.seq (SqL.of g10), each_rows (s10.trans s11) hy9, so.2, tsame (s10.trans s11) _ _ hb9, each_rows (s10.trans s11) hy9, ⟨hs.1, fun r => sortR_mem.symm⟩⟩
  have y12 := (s10.trans s11).trans s12
  have hA : ∀ (i : Nat) (x : V), [V.ref z1, V.ref z2, V.ref z3, V.ref z4][i]? = some x → AskAt K H12 x := fun i x hi => by
    match i, hi with
    | 0, hi => cases hi; exact A1.same y12
    | 1, hi => cases hi; exact A2.same y12
    | 2, hi => cases hi; exact A3.same y12
    | 3, hi => cases hi; exact A4.same s12
    | _ + 4, hi => cases hi
  have x12 := x9.then y12
  refine r_forL rfl (SqL.of g12) (fun i σ' H' => Same H12 H' ∧ ∃ c d, σ' = [some (.ref t), some (.ref l), some (.ref l2), c3, c4, some (.ref b), some (.ref l5), c, d]) ⟨Same.refl _, _, _, rfl⟩ (fun i σ' H' _ h => h.1.seq (SqL.of g12)) ?_ ?_
  · rintro i x σ' H' hi ⟨s, c, d, rfl⟩
    obtain ⟨z, l', b', xs', ys', rs', ks', w', rfl, h1, h2, h3, h4, h5, h6, h7⟩ := (hA i x hi).same s
    walk_at "nz"
    refine r_un2V h1 (r_tupLv h2 fun p G1 q1 m1 u1 => ⟨p, xs', rs', w', rfl, SqT.of u1, each_rows q1 h3, h4, fun y G2 ks2' q2 st dp => ?_⟩)
    have e : sortR ks' = sortR ks2' := sortR_same h7.1 st.1 fun r => (h7.2 r).trans (st.2 r).symm
    have so2 := (setOf_ok h4 st).2
    have y2 := q1.trans q2
    have dd : Dp K G2 (.ref b') (.tuple ((sortR ks2').map rowD)) := by
      rw [← e]
      exact .tup (tsame y2 _ _ h5) (rows_dp (each_rows y2 h6))
    refine use_same dp dd (smp_rows (fun r hr => by have := (so2.1 r hr).1.2; omega) so2.2) fun G3 q3 => u_notT ⟨(s.trans y2).trans q3, _, _, rfl⟩
  · rintro σ' H' ⟨s, c, d, rfl⟩
    walk_at "nz"
    exact k _ (x12.then s)
theorem ok_law (T : Txt K mg) : FnOk P w K mg base CX0 22 T.a_law T.d_law ["script"] (sp_law K) := by
  have G__law_tape := ok__law_tape (P := P) (w := w) (base := base) T
  have G__law_row := ok__law_row (P := P) (w := w) (base := base) T
  have G__law_near_row := ok__law_near_row (P := P) (w := w) (base := base) T
  have G__law_turns := ok__law_turns (P := P) (w := w) (base := base) T
  have G__law_before_right := ok__law_before_right (P := P) (w := w) (base := base) T
  have G__law_pool := ok__law_pool (P := P) (w := w) (base := base) T
  have G__law_draw := ok__law_draw (P := P) (w := w) (base := base) T
  have G__law_value_of := ok__law_value_of (P := P) (w := w) (base := base) T
  have G__law_ascending_right := ok__law_ascending_right (P := P) (w := w) (base := base) T
  refine T.F_law.ok sc_law (fun vs H Q E h => ?_) (fun cdv A outer s H vs Q E hr h => ?_)
  · obtain ⟨_, _, rfl, _⟩ := h
    rfl
  obtain ⟨a, ns, rfl, ha, hl, k⟩ := h
  refine ⟨_, (pss_cons (ps_set (i := 1) sc_law.nd rfl (Or.inr rfl) (pe_call G__law_tape (hr.mono (by omega)) rfl T.m__law_tape T.F__law_tape.kp T.b__law_tape .nil pass0 (pa_cons (pv 0) pa_nil))) (pss_cons (ps_set (i := 2) sc_law.nd rfl (Or.inl rfl) (pe_call G__law_row (hr.mono (by omega)) rfl T.m__law_row T.F__law_row.kp T.b__law_row .nil pass0 (pa_cons (pv 1) (pa_cons (pe_call G__law_pool (hr.mono (by omega)) rfl T.m__law_pool T.F__law_pool.kp T.b__law_pool .nil pass0 (pa_cons (pv 1) pa_nil)) (pa_cons (pe_call G__law_draw (hr.mono (by omega)) rfl T.m__law_draw T.F__law_draw.kp T.b__law_draw .nil pass0 (pa_cons (pv 1) (pa_cons pe_int pa_nil))) pa_nil))))) (pss_cons (ps_set (i := 3) sc_law.nd rfl (Or.inl rfl) (pe_call G__law_near_row (hr.mono (by omega)) rfl T.m__law_near_row T.F__law_near_row.kp T.b__law_near_row .nil pass0 (pa_cons (pv 1) (pa_cons (pv 2) pa_nil)))) (pss_cons (ps_set (i := 4) sc_law.nd rfl (Or.inl rfl) (pe_call G__law_near_row (hr.mono (by omega)) rfl T.m__law_near_row T.F__law_near_row.kp T.b__law_near_row .nil pass0 (pa_cons (pv 1) (pa_cons (pv 3) pa_nil)))) (ps_cutU (ps_if (pt_cmpR (op_eqK (K := K) (hu64 hr)) (pe_call G__law_draw (hr.mono (by omega)) rfl T.m__law_draw T.F__law_draw.kp T.b__law_draw .nil pass0 (pa_cons (pv 1) (pa_cons pe_int pa_nil))) pe_int (nomark _)) (pss_one (ps_set (i := 3) sc_law.nd rfl (Or.inl rfl) (pe_call G__law_row (hr.mono (by omega)) rfl T.m__law_row T.F__law_row.kp T.b__law_row .nil pass0 (pa_cons (pv 1) (pa_cons (pe_lc (own := [("k", 5)]) (g := gName 5) (tt := tYes) rfl sc_law.nd (pi_range1 (by rfl) T.z_range (pa_cons pe_int pa_nil)) (blkOk_by (N := ["script", "tape", "row", "other", "third", "k", "pairs", "door"]) (sc := defScope s_law) (by decide +kernel)) (fun _ _ _ _ _ => (pg_name (i := 5) sc_law.nd rfl (Or.inl rfl))) (fun _ _ _ _ _ => pts_nil) (fun _ _ _ _ _ => (pe_call G__law_value_of (hr.mono (by omega)) rfl T.m__law_value_of T.F__law_value_of.kp T.b__law_value_of .nil pass0 (pa_cons (pv 1) pa_nil)))) (pa_cons (pe_call G__law_draw (hr.mono (by omega)) rfl T.m__law_draw T.F__law_draw.kp T.b__law_draw .nil pass0 (pa_cons (pv 1) (pa_cons pe_int pa_nil))) pa_nil)))))) pss_nil) (pss_cons (ps_set (i := 6) sc_law.nd rfl (Or.inl rfl) (pe_lst (pa_cons (pe_tup (pa_cons (pv 2) (pa_cons (pv 3) pa_nil))) (pa_cons (pe_tup (pa_cons (pv 3) (pa_cons (pv 2) pa_nil))) (pa_cons (pe_tup (pa_cons (pv 2) (pa_cons (pv 2) pa_nil))) (pa_cons (pe_tup (pa_cons (pv 3) (pa_cons (pv 4) pa_nil))) (pa_cons (pe_tup (pa_cons (pv 4) (pa_cons (pv 2) pa_nil))) pa_nil))))))) (pss_cons (ps_for PassesOwn.never rfl (pi_listK (K := K) (pe_call G__law_turns (hr.mono (by omega)) rfl T.m__law_turns T.F__law_turns.kp T.b__law_turns .nil pass0 (pa_cons (pv 1) (pa_cons pe_int pa_nil)))) (pg_name (i := 7) sc_law.nd rfl (Or.inl rfl)) (ps_cutU (ps_if (PW.pt (pw_and (pt_cmpR op_lt (pv 7) pe_int (nomark _)) (pw_and1 (pt_not (pt_truthK (K := K) (pe_call G__law_before_right (hr.mono (by omega)) rfl T.m__law_before_right T.F__law_before_right.kp T.b__law_before_right .nil pass0 (pa_cons (pe_lst (pa_cons (pe_ix (ixK (K := K)) (pv 6) (pv 7) (fun _ _ => rfl)) pa_nil)) pa_nil)) (fun _ => rfl)))))) (pss_one (ps_ret pe_bl)) pss_nil) (pss_one (ps_if (PW.pt (pw_and (pt_cmpR (op_eqK (K := K) (hu64 hr)) (pv 7) pe_int (nomark _)) (pw_and1 (pt_not (pt_truthK (K := K) (pe_call G__law_ascending_right (hr.mono (by omega)) rfl T.m__law_ascending_right T.F__law_ascending_right.kp T.b__law_ascending_right .nil pass0 (pa_cons (pv 1) pa_nil)) (fun _ => rfl)))))) (pss_one (ps_ret pe_bl)) pss_nil)))) (pss_one (ps_ret (pe_call G__law_before_right (hr.mono (by omega)) rfl T.m__law_before_right T.F__law_before_right.kp T.b__law_before_right .nil pass0 (pa_cons (pe_lst (pa_cons (pe_tup (pa_cons (pv 2) (pa_cons (pv 3) pa_nil))) (pa_cons (pe_tup (pa_cons (pv 2) (pa_cons (pv 4) pa_nil))) (pa_cons (pe_tup (pa_cons (pv 2) (pa_cons (pv 3) pa_nil))) (pa_cons (pe_tup (pa_cons (pv 4) (pa_cons (pv 3) pa_nil))) pa_nil))))) pa_nil))))))))))), ?_⟩
  walk_at "nz"
  refine ⟨a, ns, rfl, ha, hl, fun t H1 s1 hT => ⟨t, rfl, hT, fun l cs H2 e2 n2 g2 hcs c0 c1 => use_draw e2.tape fun n H3 e3 n0 n1 => ?_⟩⟩
  have lt : l ≠ t := hT.ne n2
  refine ⟨t, l, n, cs, rfl, e3.tape, SqL.of (e3.oth _ _ lt g2), lt, hcs, c0, c1, n0, by omega, fun v r H4 e4 a4 o4 _ => ⟨t, v, r, rfl, e4.tape, a4, o4, fun v2 r2 H5 e5 a5 o5 => ⟨t, v2, r2, rfl, e5.tape, a5, o5, fun v3 r3 H6 e6 a6 o6 => ?_⟩⟩⟩
  have b6 := (a4.ext e5).ext e6
  have d6 := a5.ext e6
  refine r_cut (fun σ' H' => Ext K t H6 H' ∧ ∃ u q, RowAt H' u q ∧ rowOk q ∧ σ' = [some (.ref a), some (.ref t), some v, some u, some v3, none, none, none]) ?_ ?_
  · walk_at "nz"
    refine use_draw e6.tape fun c H7 e7 c0 c1 => r_eqI (t_if (fun _ => ?_) fun _ => ⟨e7, v2, r2, d6.ext e7, o5, rfl⟩)
    refine r_lcR (n := 3) (by walk_at "ev") (by decide) (by decide) (fun p i acc H' => Ext K t H7 H' ∧ ∃ r : Row, acc = r.map kV ∧ r.length = i ∧ ∀ c, c ∈ r → cellOk c) (fun p H' s _ e => ⟨.same s e7.tape, [], rfl, rfl, fun _ h => nomatch h⟩) (fun p i acc H' hi np e ⟨x, r, ea, hl, hy⟩ => ?_) (fun p acc H' np e ⟨x, r, ea, hl, hy⟩ => ?_)
    · walk_at "nz"
      have pt := e7.tape.ne np
      refine ⟨t, rfl, x.tape, fun c H8 e8 hcc => ?_⟩
      refine lc_put hi (e8.oth _ _ pt e) (by rw [ea, List.length_map]; omega) fun H9 f9 e9 => ⟨(x.trans e8).mut np (e8.oth _ _ pt e) f9, r ++ [c], by rw [ea, List.map_append]; rfl, by rw [List.length_append, hl]; rfl, fun y h => ?_⟩
      rcases List.mem_append.mp h with h | h
      · exact hy y h
      · rw [List.mem_singleton.mp h]
        exact hcc
    · subst ea
      have pt := e7.tape.ne np
      have h3 : r.length = 3 := hl
      refine use_draw x.tape fun n H8 e8 n0 n1 => ⟨t, p, n, r, rfl, e8.tape, SqL.of (e8.oth _ _ pt e), pt, hy, by omega, by omega, n0, by omega, fun u q H9 e9 a9 o9 _ => ⟨((e7.trans x).trans e8).trans e9, u, q, a9, o9, rfl⟩⟩
  rintro σ' H7 ⟨e7, u, q, aq, oq, rfl⟩
  walk_at "nz"
  have ar := b6.ext e7
  have a3 := a6.ext e7
  refine r_tupW fun z1 G1 s1 _ g1 => r_tupW fun z2 G2 s2 _ g2 => r_tupW fun z3 G3 s3 _ g3 => r_tupW fun z4 G4 s4 _ g4 => r_tupW fun z5 G5 s5 _ g5 => r_lst fun p H8 s8 n8 g8 => ?_
  have y5 := (((s1.trans s2).trans s3).trans s4).trans s5
  have y8 := y5.trans s8
  have x8 := e7.then y8
  have pt : p ≠ t := (e7.then y5).tape.ne n8
  have A1 : PairAt K H8 (.ref z1) (r, q) := pair_mk (s8 _ _ (s5 _ _ (s4 _ _ (s3 _ _ (s2 _ _ g1))))) (ar.same y8) (aq.same y8) o4 oq
  have A2 : PairAt K H8 (.ref z2) (q, r) := pair_mk (s8 _ _ (s5 _ _ (s4 _ _ (s3 _ _ g2)))) (aq.same y8) (ar.same y8) oq o4
  have A3 : PairAt K H8 (.ref z3) (r, r) := pair_mk (s8 _ _ (s5 _ _ (s4 _ _ g3))) (ar.same y8) (ar.same y8) o4 o4
  have A4 : PairAt K H8 (.ref z4) (q, r3) := pair_mk (s8 _ _ (s5 _ _ g4)) (aq.same y8) (a3.same y8) oq o6
  have A5 : PairAt K H8 (.ref z5) (r3, r) := pair_mk (s8 _ _ g5) (a3.same y8) (ar.same y8) o6 o4
  have hA : PySem.W.EachIs (PairAt K H8) [.ref z1, .ref z2, .ref z3, .ref z4, .ref z5] [(r, q), (q, r), (r, r), (q, r3), (r3, r)] := .cons A1 (.cons A2 (.cons A3 (.cons A4 (.cons A5 .nil))))
  refine r_forLe (fun l' xs H9 => Ext K t H8 H9 ∧ l' ≠ t ∧ ∃ ms : List Int, xs = ms.map V.int ∧ ∀ m ∈ ms, 0 ≤ m ∧ m < 6) (fun Q q => ?_) fun l' xs H9 ⟨x9, l't, ms, exs, hms⟩ hsq => ?_
  · walk_at "nz"
    exact ⟨t, 6, rfl, x8.tape, by decide, fun l' ms H9 e9 n9 g9 hm _ => q l' _ H9 ⟨e9, x8.tape.ne n9, ms, rfl, hm⟩ (SqL.of g9)⟩
  subst exs
  refine ⟨fun i σ' H' => Ext K t H9 H' ∧ ∃ c, σ' = [some (.ref a), some (.ref t), some v, some u, some v3, none, some (.ref p), c], ⟨.refl x9.tape, _, rfl⟩, fun i σ' H' _ h => h.1.lst l't hsq, ?_, ?_⟩
  · rintro i x σ' H' hi ⟨x, c, rfl⟩
    obtain ⟨m, hm, rfl⟩ := map_int_at hi
    have hm2 := hms m (List.mem_of_getElem? hm)
    walk_at "nz"
    have x10 := x9.trans x
    refine r_cut (fun σ' H2 => Ext K t H9 H2 ∧ σ' = [some (.ref a), some (.ref t), some v, some u, some v3, none, some (.ref p), some (.int m)]) ?_ ?_
    · walk_at "nz"
      refine r_I0 (t_if (fun lt5 => ?_) fun _ => ⟨x, by trivial⟩)
      have hat : atI [V.ref z1, V.ref z2, V.ref z3, V.ref z4, V.ref z5] m = [V.ref z1, V.ref z2, V.ref z3, V.ref z4, V.ref z5][m.toNat]? := by
        unfold atI
        rw [ixN_of hm2.1 (by show m < (5 : Nat); omega)]
        rfl
      have h5 : m.toNat < [V.ref z1, V.ref z2, V.ref z3, V.ref z4, V.ref z5].length := by show m.toNat < 5; omega
      rw [List.getElem?_eq_getElem h5] at hat
      obtain ⟨pq, hpq, hp⟩ := each_get hA (List.getElem?_eq_getElem h5)
      have hp2 := hp.ext x10
      refine r_ixLV (SqL.of (x10.oth _ _ pt g8)) hat (r_lst fun l6 H10 s10 n10 g10 => ⟨l6, _, [pq], rfl, SqL.of g10, .cons (hp2.same s10) .nil, fun H11 s11 => u_notT ⟨x.then (s10.trans s11), by trivial⟩⟩)
    rintro σ2 H2 ⟨x2, rfl⟩
    walk_at "nz"
    refine r_eqI (t_if (fun _ => ?_) fun _ => ⟨x2, _, rfl⟩)
    exact ⟨t, rfl, x2.tape, fun H3 e3 => u_notT ⟨x2.trans e3, _, rfl⟩⟩
  · rintro σ' H' ⟨x, c, rfl⟩
    walk_at "nz"
    have x10 := x9.trans x
    have br := (ar.same y8).ext x10
    have bq := (aq.same y8).ext x10
    have b3 := (a3.same y8).ext x10
    refine r_tupW fun w1 G1 s1 _ g1 => r_tupW fun w2 G2 s2 _ g2 => r_tupW fun w3 G3 s3 _ g3 => r_tupW fun w4 G4 s4 _ g4 => r_lst fun l6 G5 s5 _ g5 => ?_
    have y := (((s1.trans s2).trans s3).trans s4).trans s5
    refine ⟨l6, _, [(r, q), (r, r3), (r, q), (r3, q)], rfl, SqL.of g5, .cons ?_ (.cons ?_ (.cons ?_ (.cons ?_ .nil))), fun H11 s11 => k _⟩
    · exact pair_mk (s5 _ _ (s4 _ _ (s3 _ _ (s2 _ _ g1)))) (br.same y) (bq.same y) o4 oq
    · exact pair_mk (s5 _ _ (s4 _ _ (s3 _ _ g2))) (br.same y) (b3.same y) o4 o6
    · exact pair_mk (s5 _ _ (s4 _ _ g3)) (br.same y) (bq.same y) o4 oq
    · exact pair_mk (s5 _ _ g4) (b3.same y) (bq.same y) o6 oq
end

theorem all_mk {l : PySem.W.OpenLaw} {w : World} {K : PySem.W.Frag} {h : Heap} {mg : Str → Option Value} {fa f0 f1 f2 f3 f4 f5 f6 f7 f8 f9 f10 f11 f12 f13 f14 f15 f16 f17 f18 f19 f20 f21 f22 : Addr} (X : K.In h) (G : h.Ns mainGlobals mg) (hfa : mg "law" = some (.ref fa))
    {od0 an0 od1 an1 od2 an2 od3 an3 od4 an4 od5 an5 od6 an6 od7 an7 od8 an8 od9 an9 od10 an10 od11 an11 od12 an12 od13 an13 od14 an14 od15 an15 od16 an16 od17 an17 od18 an18 od19 an19 od20 an20 od21 an21 od22 an22 : Option Addr} {sl0 sl1 sl2 sl3 sl4 sl5 sl6 sl7 sl8 sl9 sl10 sl11 sl12 sl13 sl14 sl15 sl16 sl17 sl18 sl19 sl20 sl21 sl22 : Array (Option Value)} {oc0 kV0 dc0 pm0 cd0 ct0 oc1 kV1 dc1 pm1 cd1 ct1 oc2 kV2 dc2 pm2 cd2 ct2 oc3 kV3 dc3 pm3 cd3 ct3 oc4 kV4 dc4 pm4 cd4 ct4 oc5 kV5 dc5 pm5 cd5 ct5 oc6 kV6 dc6 pm6 cd6 ct6 oc7 kV7 dc7 pm7 cd7 ct7 oc8 kV8 dc8 pm8 cd8 ct8 oc9 kV9 dc9 pm9 cd9 ct9 oc10 kV10 dc10 pm10 cd10 ct10 oc11 kV11 dc11 pm11 cd11 ct11 oc12 kV12 dc12 pm12 cd12 ct12 oc13 kV13 dc13 pm13 cd13 ct13 oc14 kV14 dc14 pm14 cd14 ct14 oc15 kV15 dc15 pm15 cd15 ct15 oc16 kV16 dc16 pm16 cd16 ct16 oc17 kV17 dc17 pm17 cd17 ct17 oc18 kV18 dc18 pm18 cd18 ct18 oc19 kV19 dc19 pm19 cd19 ct19 oc20 kV20 dc20 pm20 cd20 ct20 oc21 kV21 dc21 pm21 cd21 ct21 oc22 kV22 dc22 pm22 cd22 ct22 : Value}
    (a0 : PySem.W.nsIn K mainGlobals "value_key" = some (some (.ref f0))) (l0 : K.lookup f0 = some ⟨oc0, od0, .func (PySem.W.fnOf "value_key" "value_key" (defArgs s_value_key) (defBody s_value_key) (defScope s_value_key) .none kV0 dc0 pm0 an0 cd0 ct0), sl0⟩) (c0 : PySem.W.codeIn K cd0 "value_key" = true) (k0 : PySem.W.keepIn K (.ref f0) = true)
    (a1 : PySem.W.nsIn K mainGlobals "row_key" = some (some (.ref f1))) (l1 : K.lookup f1 = some ⟨oc1, od1, .func (PySem.W.fnOf "row_key" "row_key" (defArgs s_row_key) (defBody s_row_key) (defScope s_row_key) .none kV1 dc1 pm1 an1 cd1 ct1), sl1⟩) (c1 : PySem.W.codeIn K cd1 "row_key" = true) (k1 : PySem.W.keepIn K (.ref f1) = true)
    (a2 : PySem.W.nsIn K mainGlobals "before" = some (some (.ref f2))) (l2 : K.lookup f2 = some ⟨oc2, od2, .func (PySem.W.fnOf "before" "before" (defArgs s_before) (defBody s_before) (defScope s_before) .none kV2 dc2 pm2 an2 cd2 ct2), sl2⟩) (c2 : PySem.W.codeIn K cd2 "before" = true) (k2 : PySem.W.keepIn K (.ref f2) = true)
    (a3 : PySem.W.nsIn K mainGlobals "ascending" = some (some (.ref f3))) (l3 : K.lookup f3 = some ⟨oc3, od3, .func (PySem.W.fnOf "ascending" "ascending" (defArgs s_ascending) (defBody s_ascending) (defScope s_ascending) .none kV3 dc3 pm3 an3 cd3 ct3), sl3⟩) (c3 : PySem.W.codeIn K cd3 "ascending" = true) (k3 : PySem.W.keepIn K (.ref f3) = true)
    (a4 : PySem.W.nsIn K mainGlobals "_law_tape" = some (some (.ref f4))) (l4 : K.lookup f4 = some ⟨oc4, od4, .func (PySem.W.fnOf "_law_tape" "_law_tape" (defArgs s__law_tape) (defBody s__law_tape) (defScope s__law_tape) .none kV4 dc4 pm4 an4 cd4 ct4), sl4⟩) (c4 : PySem.W.codeIn K cd4 "_law_tape" = true) (k4 : PySem.W.keepIn K (.ref f4) = true)
    (a5 : PySem.W.nsIn K mainGlobals "_law_draw" = some (some (.ref f5))) (l5 : K.lookup f5 = some ⟨oc5, od5, .func (PySem.W.fnOf "_law_draw" "_law_draw" (defArgs s__law_draw) (defBody s__law_draw) (defScope s__law_draw) .none kV5 dc5 pm5 an5 cd5 ct5), sl5⟩) (c5 : PySem.W.codeIn K cd5 "_law_draw" = true) (k5 : PySem.W.keepIn K (.ref f5) = true)
    (a6 : PySem.W.nsIn K mainGlobals "_law_pick" = some (some (.ref f6))) (l6 : K.lookup f6 = some ⟨oc6, od6, .func (PySem.W.fnOf "_law_pick" "_law_pick" (defArgs s__law_pick) (defBody s__law_pick) (defScope s__law_pick) .none kV6 dc6 pm6 an6 cd6 ct6), sl6⟩) (c6 : PySem.W.codeIn K cd6 "_law_pick" = true) (k6 : PySem.W.keepIn K (.ref f6) = true)
    (a7 : PySem.W.nsIn K mainGlobals "_law_turns" = some (some (.ref f7))) (l7 : K.lookup f7 = some ⟨oc7, od7, .func (PySem.W.fnOf "_law_turns" "_law_turns" (defArgs s__law_turns) (defBody s__law_turns) (defScope s__law_turns) .none kV7 dc7 pm7 an7 cd7 ct7), sl7⟩) (c7 : PySem.W.codeIn K cd7 "_law_turns" = true) (k7 : PySem.W.keepIn K (.ref f7) = true)
    (a8 : PySem.W.nsIn K mainGlobals "_law_shuffled" = some (some (.ref f8))) (l8 : K.lookup f8 = some ⟨oc8, od8, .func (PySem.W.fnOf "_law_shuffled" "_law_shuffled" (defArgs s__law_shuffled) (defBody s__law_shuffled) (defScope s__law_shuffled) .none kV8 dc8 pm8 an8 cd8 ct8), sl8⟩) (c8 : PySem.W.codeIn K cd8 "_law_shuffled" = true) (k8 : PySem.W.keepIn K (.ref f8) = true)
    (a9 : PySem.W.nsIn K mainGlobals "_law_same" = some (some (.ref f9))) (l9 : K.lookup f9 = some ⟨oc9, od9, .func (PySem.W.fnOf "_law_same" "_law_same" (defArgs s__law_same) (defBody s__law_same) (defScope s__law_same) .none kV9 dc9 pm9 an9 cd9 ct9), sl9⟩) (c9 : PySem.W.codeIn K cd9 "_law_same" = true) (k9 : PySem.W.keepIn K (.ref f9) = true)
    (a10 : PySem.W.nsIn K mainGlobals "_law_text" = some (some (.ref f10))) (l10 : K.lookup f10 = some ⟨oc10, od10, .func (PySem.W.fnOf "_law_text" "_law_text" (defArgs s__law_text) (defBody s__law_text) (defScope s__law_text) .none kV10 dc10 pm10 an10 cd10 ct10), sl10⟩) (c10 : PySem.W.codeIn K cd10 "_law_text" = true) (k10 : PySem.W.keepIn K (.ref f10) = true)
    (a11 : PySem.W.nsIn K mainGlobals "_law_value_of" = some (some (.ref f11))) (l11 : K.lookup f11 = some ⟨oc11, od11, .func (PySem.W.fnOf "_law_value_of" "_law_value_of" (defArgs s__law_value_of) (defBody s__law_value_of) (defScope s__law_value_of) .none kV11 dc11 pm11 an11 cd11 ct11), sl11⟩) (c11 : PySem.W.codeIn K cd11 "_law_value_of" = true) (k11 : PySem.W.keepIn K (.ref f11) = true)
    (a12 : PySem.W.nsIn K mainGlobals "_law_pool" = some (some (.ref f12))) (l12 : K.lookup f12 = some ⟨oc12, od12, .func (PySem.W.fnOf "_law_pool" "_law_pool" (defArgs s__law_pool) (defBody s__law_pool) (defScope s__law_pool) .none kV12 dc12 pm12 an12 cd12 ct12), sl12⟩) (c12 : PySem.W.codeIn K cd12 "_law_pool" = true) (k12 : PySem.W.keepIn K (.ref f12) = true)
    (a13 : PySem.W.nsIn K mainGlobals "_law_row" = some (some (.ref f13))) (l13 : K.lookup f13 = some ⟨oc13, od13, .func (PySem.W.fnOf "_law_row" "_law_row" (defArgs s__law_row) (defBody s__law_row) (defScope s__law_row) .none kV13 dc13 pm13 an13 cd13 ct13), sl13⟩) (c13 : PySem.W.codeIn K cd13 "_law_row" = true) (k13 : PySem.W.keepIn K (.ref f13) = true)
    (a14 : PySem.W.nsIn K mainGlobals "_law_key" = some (some (.ref f14))) (l14 : K.lookup f14 = some ⟨oc14, od14, .func (PySem.W.fnOf "_law_key" "_law_key" (defArgs s__law_key) (defBody s__law_key) (defScope s__law_key) .none kV14 dc14 pm14 an14 cd14 ct14), sl14⟩) (c14 : PySem.W.codeIn K cd14 "_law_key" = true) (k14 : PySem.W.keepIn K (.ref f14) = true)
    (a15 : PySem.W.nsIn K mainGlobals "_law_row_key" = some (some (.ref f15))) (l15 : K.lookup f15 = some ⟨oc15, od15, .func (PySem.W.fnOf "_law_row_key" "_law_row_key" (defArgs s__law_row_key) (defBody s__law_row_key) (defScope s__law_row_key) .none kV15 dc15 pm15 an15 cd15 ct15), sl15⟩) (c15 : PySem.W.codeIn K cd15 "_law_row_key" = true) (k15 : PySem.W.keepIn K (.ref f15) = true)
    (a16 : PySem.W.nsIn K mainGlobals "_law_set" = some (some (.ref f16))) (l16 : K.lookup f16 = some ⟨oc16, od16, .func (PySem.W.fnOf "_law_set" "_law_set" (defArgs s__law_set) (defBody s__law_set) (defScope s__law_set) .none kV16 dc16 pm16 an16 cd16 ct16), sl16⟩) (c16 : PySem.W.codeIn K cd16 "_law_set" = true) (k16 : PySem.W.keepIn K (.ref f16) = true)
    (a17 : PySem.W.nsIn K mainGlobals "_law_near_value" = some (some (.ref f17))) (l17 : K.lookup f17 = some ⟨oc17, od17, .func (PySem.W.fnOf "_law_near_value" "_law_near_value" (defArgs s__law_near_value) (defBody s__law_near_value) (defScope s__law_near_value) .none kV17 dc17 pm17 an17 cd17 ct17), sl17⟩) (c17 : PySem.W.codeIn K cd17 "_law_near_value" = true) (k17 : PySem.W.keepIn K (.ref f17) = true)
    (a18 : PySem.W.nsIn K mainGlobals "_law_near_row" = some (some (.ref f18))) (l18 : K.lookup f18 = some ⟨oc18, od18, .func (PySem.W.fnOf "_law_near_row" "_law_near_row" (defArgs s__law_near_row) (defBody s__law_near_row) (defScope s__law_near_row) .none kV18 dc18 pm18 an18 cd18 ct18), sl18⟩) (c18 : PySem.W.codeIn K cd18 "_law_near_row" = true) (k18 : PySem.W.keepIn K (.ref f18) = true)
    (a19 : PySem.W.nsIn K mainGlobals "_law_before_right" = some (some (.ref f19))) (l19 : K.lookup f19 = some ⟨oc19, od19, .func (PySem.W.fnOf "_law_before_right" "_law_before_right" (defArgs s__law_before_right) (defBody s__law_before_right) (defScope s__law_before_right) .none kV19 dc19 pm19 an19 cd19 ct19), sl19⟩) (c19 : PySem.W.codeIn K cd19 "_law_before_right" = true) (k19 : PySem.W.keepIn K (.ref f19) = true)
    (a20 : PySem.W.nsIn K mainGlobals "_law_some_rows" = some (some (.ref f20))) (l20 : K.lookup f20 = some ⟨oc20, od20, .func (PySem.W.fnOf "_law_some_rows" "_law_some_rows" (defArgs s__law_some_rows) (defBody s__law_some_rows) (defScope s__law_some_rows) .none kV20 dc20 pm20 an20 cd20 ct20), sl20⟩) (c20 : PySem.W.codeIn K cd20 "_law_some_rows" = true) (k20 : PySem.W.keepIn K (.ref f20) = true)
    (a21 : PySem.W.nsIn K mainGlobals "_law_ascending_right" = some (some (.ref f21))) (l21 : K.lookup f21 = some ⟨oc21, od21, .func (PySem.W.fnOf "_law_ascending_right" "_law_ascending_right" (defArgs s__law_ascending_right) (defBody s__law_ascending_right) (defScope s__law_ascending_right) .none kV21 dc21 pm21 an21 cd21 ct21), sl21⟩) (c21 : PySem.W.codeIn K cd21 "_law_ascending_right" = true) (k21 : PySem.W.keepIn K (.ref f21) = true)
    (a22 : PySem.W.nsIn K mainGlobals "law" = some (some (.ref f22))) (l22 : K.lookup f22 = some ⟨oc22, od22, .func (PySem.W.fnOf "law" "law" (defArgs s_law) (defBody s_law) (defScope s_law) .none kV22 dc22 pm22 an22 cd22 ct22), sl22⟩) (c22 : PySem.W.codeIn K cd22 "law" = true) (k22 : PySem.W.keepIn K (.ref f22) = true)
    (z_isinstance : PySem.W.nsIn K mainGlobals "isinstance" = some none)
    (z_str : PySem.W.nsIn K mainGlobals "str" = some none)
    (z_tuple : PySem.W.nsIn K mainGlobals "tuple" = some none)
    (z_sorted : PySem.W.nsIn K mainGlobals "sorted" = some none)
    (z_list : PySem.W.nsIn K mainGlobals "list" = some none)
    (z_int : PySem.W.nsIn K mainGlobals "int" = some none)
    (z_abs : PySem.W.nsIn K mainGlobals "abs" = some none)
    (z_max : PySem.W.nsIn K mainGlobals "max" = some none)
    (z_len : PySem.W.nsIn K mainGlobals "len" = some none)
    (z_range : PySem.W.nsIn K mainGlobals "range" = some none)
    (z_bool : PySem.W.nsIn K mainGlobals "bool" = some none)
    (z_min : PySem.W.nsIn K mainGlobals "min" = some none) :
    ∃ fd : FuncData, (∀ (s : Shared) (v : Value), BindsTo s fd ⟨[v], []⟩ [("script", v)]) ∧ ∀ base : Heap, K.In base → base.Ns mainGlobals mg → FnOk l.prog w K mg base CX0 22 fa fd ["script"] (sp_law K) := by
  have e := hfa.symm.trans (PySem.W.mg_of X G a22)
  cases e
  have F0 := fun_mk (st := s_value_key) l0 c0 k0
  have F1 := fun_mk (st := s_row_key) l1 c1 k1
  have F2 := fun_mk (st := s_before) l2 c2 k2
  have F3 := fun_mk (st := s_ascending) l3 c3 k3
  have F4 := fun_mk (st := s__law_tape) l4 c4 k4
  have F5 := fun_mk (st := s__law_draw) l5 c5 k5
  have F6 := fun_mk (st := s__law_pick) l6 c6 k6
  have F7 := fun_mk (st := s__law_turns) l7 c7 k7
  have F8 := fun_mk (st := s__law_shuffled) l8 c8 k8
  have F9 := fun_mk (st := s__law_same) l9 c9 k9
  have F10 := fun_mk (st := s__law_text) l10 c10 k10
  have F11 := fun_mk (st := s__law_value_of) l11 c11 k11
  have F12 := fun_mk (st := s__law_pool) l12 c12 k12
  have F13 := fun_mk (st := s__law_row) l13 c13 k13
  have F14 := fun_mk (st := s__law_key) l14 c14 k14
  have F15 := fun_mk (st := s__law_row_key) l15 c15 k15
  have F16 := fun_mk (st := s__law_set) l16 c16 k16
  have F17 := fun_mk (st := s__law_near_value) l17 c17 k17
  have F18 := fun_mk (st := s__law_near_row) l18 c18 k18
  have F19 := fun_mk (st := s__law_before_right) l19 c19 k19
  have F20 := fun_mk (st := s__law_some_rows) l20 c20 k20
  have F21 := fun_mk (st := s__law_ascending_right) l21 c21 k21
  have F22 := fun_mk (st := s_law) l22 c22 k22
  have b0 := F0.binds (ps := ["value"]) fun _ _ _ _ _ _ us hl => match us, hl with | [_], _ => rfl
  have b1 := F1.binds (ps := ["row"]) fun _ _ _ _ _ _ us hl => match us, hl with | [_], _ => rfl
  have b2 := F2.binds (ps := ["row", "other"]) fun _ _ _ _ _ _ us hl => match us, hl with | [_, _], _ => rfl
  have b3 := F3.binds (ps := ["rows"]) fun _ _ _ _ _ _ us hl => match us, hl with | [_], _ => rfl
  have b4 := F4.binds (ps := ["script"]) fun _ _ _ _ _ _ us hl => match us, hl with | [_], _ => rfl
  have b5 := F5.binds (ps := ["tape", "many"]) fun _ _ _ _ _ _ us hl => match us, hl with | [_, _], _ => rfl
  have b6 := F6.binds (ps := ["tape", "rows"]) fun _ _ _ _ _ _ us hl => match us, hl with | [_, _], _ => rfl
  have b7 := F7.binds (ps := ["tape", "many"]) fun _ _ _ _ _ _ us hl => match us, hl with | [_, _], _ => rfl
  have b8 := F8.binds (ps := ["tape", "rows"]) fun _ _ _ _ _ _ us hl => match us, hl with | [_, _], _ => rfl
  have b9 := F9.binds (ps := ["told", "wanted"]) fun _ _ _ _ _ _ us hl => match us, hl with | [_, _], _ => rfl
  have b10 := F10.binds (ps := ["tape", "most"]) fun _ _ _ _ _ _ us hl => match us, hl with | [_, _], _ => rfl
  have b11 := F11.binds (ps := ["tape"]) fun _ _ _ _ _ _ us hl => match us, hl with | [_], _ => rfl
  have b12 := F12.binds (ps := ["tape"]) fun _ _ _ _ _ _ us hl => match us, hl with | [_], _ => rfl
  have b13 := F13.binds (ps := ["tape", "pool", "columns"]) fun _ _ _ _ _ _ us hl => match us, hl with | [_, _, _], _ => rfl
  have b14 := F14.binds (ps := ["value"]) fun _ _ _ _ _ _ us hl => match us, hl with | [_], _ => rfl
  have b15 := F15.binds (ps := ["row"]) fun _ _ _ _ _ _ us hl => match us, hl with | [_], _ => rfl
  have b16 := F16.binds (ps := ["rows"]) fun _ _ _ _ _ _ us hl => match us, hl with | [_], _ => rfl
  have b17 := F17.binds (ps := ["tape", "value"]) fun _ _ _ _ _ _ us hl => match us, hl with | [_, _], _ => rfl
  have b18 := F18.binds (ps := ["tape", "row"]) fun _ _ _ _ _ _ us hl => match us, hl with | [_, _], _ => rfl
  have b19 := F19.binds (ps := ["rows"]) fun _ _ _ _ _ _ us hl => match us, hl with | [_], _ => rfl
  have b20 := F20.binds (ps := ["tape"]) fun _ _ _ _ _ _ us hl => match us, hl with | [_], _ => rfl
  have b21 := F21.binds (ps := ["tape"]) fun _ _ _ _ _ _ us hl => match us, hl with | [_], _ => rfl
  let T : Txt K mg := ⟨f0, _, F0, b0, PySem.W.mg_of X G a0, f1, _, F1, b1, PySem.W.mg_of X G a1, f2, _, F2, b2, PySem.W.mg_of X G a2, f3, _, F3, b3, PySem.W.mg_of X G a3, f4, _, F4, b4, PySem.W.mg_of X G a4, f5, _, F5, b5, PySem.W.mg_of X G a5, f6, _, F6, b6, PySem.W.mg_of X G a6, f7, _, F7, b7, PySem.W.mg_of X G a7, f8, _, F8, b8, PySem.W.mg_of X G a8, f9, _, F9, b9, PySem.W.mg_of X G a9, f10, _, F10, b10, PySem.W.mg_of X G a10, f11, _, F11, b11, PySem.W.mg_of X G a11, f12, _, F12, b12, PySem.W.mg_of X G a12, f13, _, F13, b13, PySem.W.mg_of X G a13, f14, _, F14, b14, PySem.W.mg_of X G a14, f15, _, F15, b15, PySem.W.mg_of X G a15, f16, _, F16, b16, PySem.W.mg_of X G a16, f17, _, F17, b17, PySem.W.mg_of X G a17, f18, _, F18, b18, PySem.W.mg_of X G a18, f19, _, F19, b19, PySem.W.mg_of X G a19, f20, _, F20, b20, PySem.W.mg_of X G a20, f21, _, F21, b21, PySem.W.mg_of X G a21, fa, _, F22, PySem.W.mg_none_of X G z_isinstance, PySem.W.mg_none_of X G z_str, PySem.W.mg_none_of X G z_tuple, PySem.W.mg_none_of X G z_sorted, PySem.W.mg_none_of X G z_list, PySem.W.mg_none_of X G z_int, PySem.W.mg_none_of X G z_abs, PySem.W.mg_none_of X G z_max, PySem.W.mg_none_of X G z_len, PySem.W.mg_none_of X G z_range, PySem.W.mg_none_of X G z_bool, PySem.W.mg_none_of X G z_min⟩
  exact ⟨PySem.W.fnOf "law" "law" (defArgs s_law) (defBody s_law) (defScope s_law) .none kV22 dc22 pm22 an22 cd22 ct22, fun s v => .of_eq rfl, fun base _ _ => ok_law T⟩
end WB
open PySem PySem.W PyProof.Rows
set_option maxRecDepth 100000 in
set_option maxHeartbeats 0 in
theorem PySem.Challenge.cw_worldbase_k01_rows_and_their_sets_holds : PySem.Challenge.rw_worldbase_k01_rows_and_their_sets.Holds := by
  w_on; o_law; k_head; (case hw => w_witness2)
  k_fill
  refine L2.walk_of (l := PySem.Challenge.rw_worldbase_k01_rows_and_their_sets) (n := 63) (k := 22) (x := "script") (CX := fun _ => L2.CX0) (sp := fun w => WB.sp_law _) rfl (by decide) rfl ⟨rfl, by decide, by decide⟩ (fun w h Y => PySem.W.kIn_of Y) ?F (fun _ _ a ns hl _ hS => ⟨a, ns, rfl, hS, hl, fun _ => rfl⟩) (fun _ _ _ _ _ h => h)
  case F =>
    intro w mg fa h KX G hmg
    refine' WB.all_mk KX G hmg ?a0 ?l0 ?c0 ?k0 ?a1 ?l1 ?c1 ?k1 ?a2 ?l2 ?c2 ?k2 ?a3 ?l3 ?c3 ?k3 ?a4 ?l4 ?c4 ?k4 ?a5 ?l5 ?c5 ?k5 ?a6 ?l6 ?c6 ?k6 ?a7 ?l7 ?c7 ?k7 ?a8 ?l8 ?c8 ?k8 ?a9 ?l9 ?c9 ?k9 ?a10 ?l10 ?c10 ?k10 ?a11 ?l11 ?c11 ?k11 ?a12 ?l12 ?c12 ?k12 ?a13 ?l13 ?c13 ?k13 ?a14 ?l14 ?c14 ?k14 ?a15 ?l15 ?c15 ?k15 ?a16 ?l16 ?c16 ?k16 ?a17 ?l17 ?c17 ?k17 ?a18 ?l18 ?c18 ?k18 ?a19 ?l19 ?c19 ?k19 ?a20 ?l20 ?c20 ?k20 ?a21 ?l21 ?c21 ?k21 ?a22 ?l22 ?c22 ?k22 ?z_isinstance ?z_str ?z_tuple ?z_sorted ?z_list ?z_int ?z_abs ?z_max ?z_len ?z_range ?z_bool ?z_min
    (case a0 => k_is)
    (case l0 => k_is)
    (case c0 => k_is)
    (case k0 => k_is)
    (case a1 => k_is)
    (case l1 => k_is)
    (case c1 => k_is)
    (case k1 => k_is)
    (case a2 => k_is)
    (case l2 => k_is)
    (case c2 => k_is)
    (case k2 => k_is)
    (case a3 => k_is)
    (case l3 => k_is)
    (case c3 => k_is)
    (case k3 => k_is)
    (case a4 => k_is)
    (case l4 => k_is)
    (case c4 => k_is)
    (case k4 => k_is)
    (case a5 => k_is)
    (case l5 => k_is)
    (case c5 => k_is)
    (case k5 => k_is)
    (case a6 => k_is)
    (case l6 => k_is)
    (case c6 => k_is)
    (case k6 => k_is)
    (case a7 => k_is)
    (case l7 => k_is)
    (case c7 => k_is)
    (case k7 => k_is)
    (case a8 => k_is)
    (case l8 => k_is)
    (case c8 => k_is)
    (case k8 => k_is)
    (case a9 => k_is)
    (case l9 => k_is)
    (case c9 => k_is)
    (case k9 => k_is)
    (case a10 => k_is)
    (case l10 => k_is)
    (case c10 => k_is)
    (case k10 => k_is)
    (case a11 => k_is)
    (case l11 => k_is)
    (case c11 => k_is)
    (case k11 => k_is)
    (case a12 => k_is)
    (case l12 => k_is)
    (case c12 => k_is)
    (case k12 => k_is)
    (case a13 => k_is)
    (case l13 => k_is)
    (case c13 => k_is)
    (case k13 => k_is)
    (case a14 => k_is)
    (case l14 => k_is)
    (case c14 => k_is)
    (case k14 => k_is)
    (case a15 => k_is)
    (case l15 => k_is)
    (case c15 => k_is)
    (case k15 => k_is)
    (case a16 => k_is)
    (case l16 => k_is)
    (case c16 => k_is)
    (case k16 => k_is)
    (case a17 => k_is)
    (case l17 => k_is)
    (case c17 => k_is)
    (case k17 => k_is)
    (case a18 => k_is)
    (case l18 => k_is)
    (case c18 => k_is)
    (case k18 => k_is)
    (case a19 => k_is)
    (case l19 => k_is)
    (case c19 => k_is)
    (case k19 => k_is)
    (case a20 => k_is)
    (case l20 => k_is)
    (case c20 => k_is)
    (case k20 => k_is)
    (case a21 => k_is)
    (case l21 => k_is)
    (case c21 => k_is)
    (case k21 => k_is)
    (case a22 => k_is)
    (case l22 => k_is)
    (case c22 => k_is)
    (case k22 => k_is)
    (case z_isinstance => k_is)
    (case z_str => k_is)
    (case z_tuple => k_is)
    (case z_sorted => k_is)
    (case z_list => k_is)
    (case z_int => k_is)
    (case z_abs => k_is)
    (case z_max => k_is)
    (case z_len => k_is)
    (case z_range => k_is)
    (case z_bool => k_is)
    (case z_min => k_is)

