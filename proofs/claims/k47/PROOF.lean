import PyProof.Rows.All
import Wide.All
import OpenK.AllK
import Wide.FinOn
import HandS.ForMost
import HandS.Gcd
import HandS.Wide
import HandS.IsInst
import HandS.Conv
import HandS.Deep
import HandS.TupAny
import HandS.TupMul
import HandS.Style
import HandS.Zip
import HandS.Rev
import HandS.RevRange
import HandS.SortKw
import HandS.Text
import HandS.Dict
import KE.SortKeyHeap
import KE.KEqDict
import HandS.SortKw
import HandS.DictTup
import HandS.TupLen
import HandS.DictComp
import HandS.Text
import HandS.Dict
import HandS.Walk
import HandS.Keys
import HandS.Strs
import KE.KIntText
import PySem.Challenge.RW_worldbase_k47_determined_letters_and_dem
set_option Elab.async false
set_option linter.all false
set_option maxRecDepth 100000
set_option maxHeartbeats 1000000
namespace WB
/-! ### data over the abstract heap -/
open PySem PySem.Spec PyProof.Rows L2
abbrev Fg := PySem.W.Frag
theorem hu64 {A : Around} {k : Nat} (hr : Room k A) : A.units + 64 < cLine := by have := hr.un; omega
theorem hu65 {A : Around} {k : Nat} (hr : Room k A) : A.units + 65 < cLine := by have := hr.un; omega
/-- tuples stay -/
def TSame (K : Fg) (H H' : Hp) : Prop := ∀ a xs, SqT K H a xs → SqT K H' a xs
theorem rdSame {H H' : Hp} {a : Addr} {u : HO} (e : Same H H') (h : Rd H a u) : Rd H' a u := by
  rcases h with h | ⟨o, h⟩
  · exact .inl (e _ _ h)
  · exact .inr ⟨o, e _ _ h⟩
theorem tsame {K : Fg} {H H' : Hp} (e : Same H H') : TSame K H H' := fun a xs h => by
  rcases h with h | h
  · exact .inl (rdSame e h)
  · exact .inr h
theorem TSame.trans {K : Fg} {H H1 H2 : Hp} (a : TSame K H H1) (b : TSame K H1 H2) : TSame K H H2 := fun x o h => b x o (a x o h)
mutual
theorem dp_mono {K : Fg} {H H' : Hp} (hl : ∀ a xs, SqL K H a xs → SqL K H' a xs) (ht : TSame K H H') : ∀ {d : PyData} {v : V}, Dp K H v d → Dp K H' v d
  | _, _, .non => .non
  | _, _, .bl b => .bl b
  | _, _, .int i => .int i
  | _, _, .str x => .str x
  | _, _, .lst h1 h2 => .lst (hl _ _ h1) (dps_mono hl ht h2)
  | _, _, .tup h1 h2 => .tup (ht _ _ h1) (dps_mono hl ht h2)
theorem dps_mono {K : Fg} {H H' : Hp} (hl : ∀ a xs, SqL K H a xs → SqL K H' a xs) (ht : TSame K H H') : ∀ {ds : List PyData} {vs : List V}, DpAll K H vs ds → DpAll K H' vs ds
  | _, _, .nil => .nil
  | _, _, .cons h1 h2 => .cons (dp_mono hl ht h1) (dps_mono hl ht h2)
end
theorem dpUp {K : Fg} {H H' : Hp} (e : Same H H') {d : PyData} {v : V} (h : Dp K H v d) : Dp K H' v d := dp_mono (fun _ _ h => e.seq h) (tsame e) h
theorem dpsUp {K : Fg} {H H' : Hp} (e : Same H H') {ds : List PyData} {vs : List V} (h : DpAll K H vs ds) : DpAll K H' vs ds := dps_mono (fun _ _ h => e.seq h) (tsame e) h
mutual
def noL : PyData → Bool
  | .none => true
  | .bool _ => true
  | .int _ => true
  | .str _ => true
  | .tuple xs => noLs xs
  | .list _ => false
  | .dict _ => false
def noLs : List PyData → Bool
  | [] => true
  | x :: xs => noL x && noLs xs
end
mutual
theorem dp_monoT {K : Fg} {H H' : Hp} (ht : TSame K H H') : ∀ (d : PyData) (v : V), noL d = true → Dp K H v d → Dp K H' v d
  | .none, _, _, h => by cases h; exact .non
  | .bool b, _, _, h => by cases h; exact .bl b
  | .int i, _, _, h => by cases h; exact .int i
  | .str x, _, _, h => by cases h; exact .str x
  | .list _, _, n, _ => by unfold noL at n; cases n
  | .dict _, _, n, _ => by unfold noL at n; cases n
  | .tuple ds, _, n, h => by
    unfold noL at n
    cases h with
    | tup h1 h2 => exact .tup (ht _ _ h1) (dps_monoT ht ds _ n h2)
theorem dps_monoT {K : Fg} {H H' : Hp} (ht : TSame K H H') : ∀ (ds : List PyData) (vs : List V), noLs ds = true → DpAll K H vs ds → DpAll K H' vs ds
  | [], _, _, h => by cases h; exact .nil
  | d :: ds, _, n, h => by
    unfold noLs at n
    rw [Bool.and_eq_true] at n
    cases h with
    | cons h1 h2 => exact .cons (dp_monoT ht d _ n.1 h1) (dps_monoT ht ds _ n.2 h2)
end
theorem noLs_map {α : Type} {f : α → PyData} (h : ∀ x, noL (f x) = true) : ∀ xs : List α, noLs (xs.map f) = true
  | [] => rfl
  | x :: xs => by
    rw [List.map_cons]
    unfold noLs
    rw [h x, noLs_map h xs]
    rfl
theorem dp_int {K : Fg} {H : Hp} {v : V} {i : Int} (h : Dp K H v (.int i)) : v = .int i := by cases h; rfl
theorem dp_bl {K : Fg} {H : Hp} {v : V} {i : Bool} (h : Dp K H v (.bool i)) : v = .bl i := by cases h; rfl
theorem dp_str {K : Fg} {H : Hp} {v : V} {i : Str} (h : Dp K H v (.str i)) : v = .str i := by cases h; rfl
theorem dp_non {K : Fg} {H : Hp} {v : V} (h : Dp K H v .none) : v = .non := by cases h; rfl
theorem dp_tup {K : Fg} {H : Hp} {v : V} {ds : List PyData} (h : Dp K H v (.tuple ds)) : ∃ a xs, v = .ref a ∧ SqT K H a xs ∧ DpAll K H xs ds := by
  cases h with
  | tup h1 h2 => exact ⟨_, _, rfl, h1, h2⟩
theorem dp_lst {K : Fg} {H : Hp} {v : V} {ds : List PyData} (h : Dp K H v (.list ds)) : ∃ a xs, v = .ref a ∧ SqL K H a xs ∧ DpAll K H xs ds := by
  cases h with
  | lst h1 h2 => exact ⟨_, _, rfl, h1, h2⟩
theorem dps_len {K : Fg} {H : Hp} : ∀ {ds : List PyData} {vs : List V}, DpAll K H vs ds → vs.length = ds.length
  | _, _, .nil => rfl
  | _, _, .cons _ h => congrArg (· + 1) (dps_len h)
theorem dps_get {K : Fg} {H : Hp} : ∀ {ds : List PyData} {vs : List V} {i : Nat} {d : PyData}, DpAll K H vs ds → ds[i]? = some d → ∃ v, vs[i]? = some v ∧ Dp K H v d
  | _, _, i, d, .nil, h => by simp at h
  | _, _, 0, d, .cons (v := v) h1 h2, h => by
    have e := Option.some.inj h
    subst e
    exact ⟨v, rfl, h1⟩
  | _, _, i + 1, d, .cons h1 h2, h => by
    obtain ⟨v, e, q⟩ := dps_get h2 (i := i) (d := d) (by simpa using h)
    exact ⟨v, by simpa using e, q⟩
theorem dps_getV {K : Fg} {H : Hp} : ∀ {ds : List PyData} {vs : List V} {i : Nat} {v : V}, DpAll K H vs ds → vs[i]? = some v → ∃ d, ds[i]? = some d ∧ Dp K H v d
  | _, _, i, d, .nil, h => by simp at h
  | _, _, 0, d, .cons (d := v) h1 h2, h => by
    have e := Option.some.inj h
    subst e
    exact ⟨v, rfl, h1⟩
  | _, _, i + 1, d, .cons h1 h2, h => by
    obtain ⟨v, e, q⟩ := dps_getV h2 (i := i) (v := d) (by simpa using h)
    exact ⟨v, by simpa using e, q⟩
theorem dps_ints {K : Fg} {H : Hp} : ∀ {ns : List Int} {vs : List V}, DpAll K H vs (ns.map PyData.int) → vs = ns.map V.int
  | [], _, .nil => rfl
  | n :: ns, _, .cons h1 h2 => by rw [dp_int h1, dps_ints h2] <;> rfl
theorem dps_of_ints {K : Fg} {H : Hp} : ∀ (ns : List Int), DpAll K H (ns.map V.int) (ns.map PyData.int)
  | [] => .nil
  | n :: ns => .cons (.int n) (dps_of_ints ns)
theorem dps_append {K : Fg} {H : Hp} : ∀ {ds es : List PyData} {vs us : List V}, DpAll K H vs ds → DpAll K H us es → DpAll K H (vs ++ us) (ds ++ es)
  | _, _, _, _, .nil, h => h
  | _, _, _, _, .cons h1 h2, h => .cons h1 (dps_append h2 h)
theorem dps_set {K : Fg} {H : Hp} : ∀ {ds : List PyData} {vs : List V} {i : Nat} {v : V} {d : PyData}, DpAll K H vs ds → Dp K H v d → DpAll K H (vs.set i v) (ds.set i d)
  | _, _, _, _, _, .nil, _ => .nil
  | _, _, 0, _, _, .cons h1 h2, h => .cons h h2
  | _, _, i + 1, _, _, .cons h1 h2, h => .cons h1 (dps_set h2 h)
theorem dps_erase {K : Fg} {H : Hp} : ∀ {ds : List PyData} {vs : List V} {i : Nat}, DpAll K H vs ds → DpAll K H (vs.eraseIdx i) (ds.eraseIdx i)
  | _, _, _, .nil => .nil
  | _, _, 0, .cons h1 h2 => h2
  | _, _, i + 1, .cons h1 h2 => .cons h1 (dps_erase h2)
theorem dps_take {K : Fg} {H : Hp} : ∀ {ds : List PyData} {vs : List V} (i : Nat), DpAll K H vs ds → DpAll K H (vs.take i) (ds.take i)
  | _, _, 0, _ => by simp; exact .nil
  | _, _, _ + 1, .nil => .nil
  | _, _, i + 1, .cons h1 h2 => .cons h1 (dps_take i h2)
theorem dps_drop {K : Fg} {H : Hp} : ∀ {ds : List PyData} {vs : List V} (i : Nat), DpAll K H vs ds → DpAll K H (vs.drop i) (ds.drop i)
  | _, _, 0, h => h
  | _, _, _ + 1, .nil => .nil
  | _, _, i + 1, .cons h1 h2 => dps_drop i h2
/-- d's item at the place i (from behind where i < 0) -/
def dix (ds : List PyData) (i : Int) : Option PyData := (ixN ds.length i).bind fun j => ds[j]?
theorem dix_at {K : Fg} {H : Hp} {ds : List PyData} {vs : List V} {i : Int} {d : PyData} (h : DpAll K H vs ds) (e : dix ds i = some d) : ∃ v, atI vs i = some v ∧ Dp K H v d := by
  unfold dix at e
  unfold atI
  rw [dps_len h]
  cases hj : ixN ds.length i with
  | none => rw [hj] at e; cases e
  | some j =>
    rw [hj] at e
    exact dps_get h e
theorem dix_nat {ds : List PyData} {j : Nat} {d : PyData} (h : ds[j]? = some d) : dix ds (j : Int) = some d := by
  have hl : j < ds.length := (List.getElem?_eq_some_iff.mp h).1
  unfold dix ixN
  rw [if_pos (by omega), if_pos (by omega)]
  simpa using h

/-! ### leaf rules -/
section
variable {K : Fg} {H H' : Hp} {Q : VK} {x y v : V} {d e : PyData} {ds es : List PyData} {i j : Int}
theorem r_var {σ : L2.St} {i : Nat} {Q : V → Prop} {v : V} (h : σ[i]? = some (some v)) (q : Q v) : ∃ v, σ[i]? = some (some v) ∧ Q v := ⟨v, h, q⟩
theorem r_bl {b : Bool} {Q : Bool → Prop} (q : Q b) : ∃ k, V.bl b = .bl k ∧ Q k := ⟨b, rfl, q⟩
theorem r_I0 {g : Int → Int → V} (q : Q (g i j) H) : rI0 g (.int i) (.int j) H Q := ⟨i, j, rfl, rfl, q⟩
theorem r_I {C : Int → Int → Prop} {g : Int → Int → V} (c : C i j) (q : Q (g i j) H) : rI C g (.int i) (.int j) H Q := ⟨i, j, rfl, rfl, c, q⟩
theorem r_U {g : Int → V} (q : Q (g i) H) : rU g (.int i) H Q := ⟨i, rfl, q⟩
/-- an item of a tuple that is data -/
theorem r_ixT (h : Dp K H x (.tuple ds)) (hd : dix ds i = some d) (q : ∀ v, Dp K H v d → Q v H) : rIx K x (.int i) H Q := by
  obtain ⟨a, xs, rfl, h1, h2⟩ := dp_tup h
  obtain ⟨v, hv, hd⟩ := dix_at h2 hd
  exact .inr (.inl ⟨a, xs, i, v, rfl, rfl, h1, hv, q v hd⟩)
theorem r_ixTi {n : Int} (h : Dp K H x (.tuple ds)) (hd : dix ds i = some (.int n)) (q : Q (.int n) H) : rIx K x (.int i) H Q :=
  r_ixT h hd fun v hv => by rw [dp_int hv]; exact q
theorem r_ixL (h : Dp K H x (.list ds)) (hd : dix ds i = some d) (q : ∀ v, Dp K H v d → Q v H) : rIx K x (.int i) H Q := by
  obtain ⟨a, xs, rfl, h1, h2⟩ := dp_lst h
  obtain ⟨v, hv, hd⟩ := dix_at h2 hd
  exact .inl ⟨a, xs, i, v, rfl, rfl, h1, hv, q v hd⟩
theorem r_ixLi {n : Int} (h : Dp K H x (.list ds)) (hd : dix ds i = some (.int n)) (q : Q (.int n) H) : rIx K x (.int i) H Q :=
  r_ixL h hd fun v hv => by rw [dp_int hv]; exact q
/-- a list by its values -/
theorem r_ixLV {a : Addr} {xs : List V} (h : SqL K H a xs) (hd : atI xs i = some v) (q : Q v H) : rIx K (.ref a) (.int i) H Q := .inl ⟨a, xs, i, v, rfl, rfl, h, hd, q⟩
theorem same_new {p : Addr} (h : H p = none) (o : HO) : Same H (upd H p o) := fun b u q => by rw [upd_ne (ne_of_none q h)]; exact q
/-- a new tuple, a new list -/
def nwT (vs : List V) (H : Hp) (Q : VK) : Prop := vs.length ≤ sizeLine ∧ ∀ p, H p = none → Q (.ref p) (upd H p (.tup vs))
def nwL (vs : List V) (H : Hp) (Q : VK) : Prop := vs.length ≤ sizeLine ∧ ∀ p, H p = none → Q (.ref p) (upd H p (.lst vs))
theorem tTup_eq {t : TA} {σ : L2.St} : tTup t σ H Q = t σ H fun vs H1 => nwT vs H1 Q := rfl
theorem tLst_eq {t : TA} {σ : L2.St} : tLst t σ H Q = t σ H fun vs H1 => nwL vs H1 Q := rfl
theorem r_tupN {vs : List V} (hs : DpAll K H vs ds) (hn : ds.length ≤ 100000) (q : ∀ p H', Same H H' → H p = none → Dp K H' (.ref p) (.tuple ds) → Q (.ref p) H') : nwT vs H Q := by
  refine ⟨by rw [dps_len hs]; exact Nat.le_trans hn (by decide), fun p hp => q p _ (same_new hp _) hp ?_⟩
  exact .tup (SqT.of upd_same) (dpsUp (same_new hp _) hs)
theorem r_lstN {vs : List V} (hn : vs.length ≤ 100000) (q : ∀ p H', Same H H' → H p = none → H' p = some (.lst vs) → Q (.ref p) H') : nwL vs H Q :=
  ⟨Nat.le_trans hn (by decide), fun p hp => q p _ (same_new hp _) hp upd_same⟩
theorem r_tup {vs : List V} (hs : DpAll K H vs ds) (q : ∀ p H', Same H H' → H p = none → Dp K H' (.ref p) (.tuple ds) → Q (.ref p) H') (hn : Nat.ble ds.length 100000 = true := by rfl) : nwT vs H Q := r_tupN hs (Nat.le_of_ble_eq_true hn) q
theorem r_lst {vs : List V} (q : ∀ p H', Same H H' → H p = none → H' p = some (.lst vs) → Q (.ref p) H') (hn : Nat.ble vs.length 100000 = true := by rfl) : nwL vs H Q := r_lstN (Nat.le_of_ble_eq_true hn) q
theorem small2 {n : Nat} (h : n ≤ 100000) : n ≤ sizeLine := Nat.le_trans h (by decide)
/-- if, by the test -/
theorem r_if {c A B : Prop} [Decidable c] (h1 : c → A) (h2 : ¬ c → B) : if (decide c) = true then A else B := by
  by_cases h : c
  · rw [if_pos (decide_eq_true h)]; exact h1 h
  · rw [if_neg (fun z => h (of_decide_eq_true z))]; exact h2 h
theorem r_ifN {c A B : Prop} [Decidable c] (h1 : ¬ c → A) (h2 : c → B) : if (!decide c) = true then A else B := by
  by_cases h : c
  · rw [decide_eq_true h, if_neg (by decide)]; exact h2 h
  · rw [decide_eq_false h, if_pos (by decide)]; exact h1 h
theorem r_ifB {b : Bool} {A B : Prop} (h1 : b = true → A) (h2 : b = false → B) : if b = true then A else B := by
  cases b with
  | true => rw [if_pos rfl]; exact h1 rfl
  | false => rw [if_neg (by decide)]; exact h2 rfl
theorem r_ifNB {b : Bool} {A B : Prop} (h1 : b = false → A) (h2 : b = true → B) : if (!b) = true then A else B := by
  cases b with
  | true => rw [if_neg (by decide)]; exact h2 rfl
  | false => rw [if_pos (by decide)]; exact h1 rfl
theorem r_tru {K : Fg} {b : Bool} {Q : Bool → Prop} {H : Hp} (q : Q b) : ∃ k, TruV K (.bl b) H k ∧ Q k := ⟨b, rfl, q⟩
theorem r_len (h : Dp K H x d) (n : Nat) (hd : d = .tuple ds ∨ d = .list ds) (hn : ds.length = n) (q : Q (.int (n : Int)) H) : ∃ p ys, [x] = [V.ref p] ∧ (SqL K H p ys ∨ SqT K H p ys) ∧ Q (.int (ys.length : Int)) H := by
  rcases hd with rfl | rfl
  · obtain ⟨a, xs, rfl, h1, h2⟩ := dp_tup h
    refine ⟨a, xs, rfl, .inr h1, ?_⟩
    rw [dps_len h2, hn]; exact q
  · obtain ⟨a, xs, rfl, h1, h2⟩ := dp_lst h
    refine ⟨a, xs, rfl, .inl h1, ?_⟩
    rw [dps_len h2, hn]; exact q
end

/-! ### unions of rules -/
section
variable {X : Cx}
def rAddU (K : Fg) : R2 := fun x y H Q => rI0 (fun i j => .int (i + j)) x y H Q ∨ ((∃ i j, x = .str i ∧ y = .str j ∧ i.length + j.length ≤ sizeLine ∧ Q (.str (i ++ j)) H) ∨ (rCatA K x y H Q ∨ rCat x y H Q))
theorem op_addU : OpR X (binaryOp .Add) (rAddU X.K) := op_add.or (op_add_str.or (op_catA.or op_cat))
def CDivX (_ j : Int) : Prop := j ≠ 0 ∧ j.natAbs.log2 < 9000
def rFdU : R2 := rI CDivX fun i j => .int (i.fdiv j)
theorem op_fdivU : OpR X (binaryOp .FloorDiv) rFdU := opI fun i j _ _ _ _ _ hc q => floordiv_int hc.1 q (.inl (PyProof.noPylong_of_log2 hc.2))
def rModU : R2 := fun x y H Q => rI (fun _ j => 0 < j) (fun i j => .int (i % j)) x y H Q ∨ rI (fun _ j => j ≠ 0) (fun i j => .int (i.fmod j)) x y H Q
theorem op_modU : OpR X (binaryOp .Mod) rModU := op_mod.or op_modN
def rMulU (K : Fg) : R2 := fun x y H Q => rI CMulW (fun i j => .int (i * j)) x y H Q ∨ (rI CMul (fun i j => .int (i * j)) x y H Q ∨ (rRep x y H Q ∨ rRepT K x y H Q))
theorem op_mulU : OpR X (binaryOp .Mult) (rMulU X.K) := op_mulW.or (op_mul.or (op_rep.or op_repT))
def rEqU (K : Fg) : R2 := fun x y H Q => rEq x y H Q ∨ rEqD K x y H Q
theorem op_eqU (hu : X.A.units + 64 < cLine) : OpR X (compareOp .Eq) (rEqU X.K) := op_eq.or (op_eqD hu)
def rNeU (K : Fg) : R2 := fun x y H Q => rNe x y H Q ∨ rNeD K x y H Q
theorem op_neU (hu : X.A.units + 64 < cLine) : OpR X (compareOp .NotEq) (rNeU X.K) := op_ne.or (op_neD hu)
def rInU (K : Fg) : R2 := fun x y H Q => rIn K false x y H Q ∨ rInD K x y H Q
theorem op_inU (hu : X.A.units + 65 < cLine) : OpR X (compareOp .In) (rInU X.K) := op_in_seq.or (op_inD hu)
def rNinU (K : Fg) : R2 := fun x y H Q => rIn K true x y H Q ∨ rNotInD K x y H Q
theorem op_ninU (hu : X.A.units + 65 < cLine) : OpR X (compareOp .NotIn) (rNinU X.K) := op_notIn_seq.or (op_notInD hu)
def rSlU (K : Fg) : V → Option Int → Option Int → Hp → VK → Prop := fun x lo hi H Q => rSlL K x lo hi H Q ∨ (rSlA K x lo hi H Q ∨ rSlS x lo hi H Q)
theorem sl_seqU : SlR X (rSlU X.K) := sl_list.or (sl_tupA.or sl_str)
theorem pi_orU {tg it : Expr} {w w' : TI} (h : PI X tg it w) (h' : PI X tg it w') : PI X tg it (fun σ H R => w σ H R ∨ w' σ H R) := by
  refine ⟨fun pins s σ H R I q => ?_⟩
  rcases q with q | q
  · exact h.run pins s σ H R I q
  · exact h'.run pins s σ H R I q
def iSeqU (K : Fg) (te : TE) : TI := fun σ H R => iList K te σ H R ∨ iTup K te σ H R
theorem pi_listU {tg l : Expr} {te : TE} (h : PE X l te) : PI X tg l (iSeqU X.K te) := pi_orU (pi_list h) (pi_tup h)
theorem pe_orU {e : Expr} {t t' : TE} (h : PE X e t) (h' : PE X e t') : PE X e (fun σ H Q => t σ H Q ∨ t' σ H Q) := by
  refine ⟨fun pins s σ H Q I q => ?_⟩
  rcases q with q | q
  · exact h.run pins s σ H Q I q
  · exact h'.run pins s σ H Q I q
def rLenU (K : Fg) : List V → Hp → VK → Prop := fun xs H Q => (∃ p ys, xs = [.ref p] ∧ (SqL K H p ys ∨ SqT K H p ys) ∧ Q (.int (ys.length : Int)) H) ∨ (∃ z : Str, xs = [.str z] ∧ z.length ≤ sizeLine ∧ Q (.int (z.length : Int)) H)
theorem call_lenU : CallR X (.builtin "len") (rLenU X.K) := call_len_seq.or call_len_str
end
/-! ### more leaf rules -/
section
variable {K : Fg} {H H' : Hp} {Q : VK} {x y v : V} {d e : PyData} {ds es : List PyData} {i j : Int}
theorem r_fdN (h0 : j ≠ 0) (hb : j.natAbs < 2 ^ 8999) (q : Q (.int (i.fdiv j)) H) : rFdU (.int i) (.int j) H Q := ⟨i, j, rfl, rfl, ⟨h0, Nat.lt_trans (PySem.Flt.log2_lt_of (by decide) hb) (by decide)⟩, q⟩
theorem r_fdW (h0 : 0 < j) (hb : j.natAbs < 2 ^ 8999) (q : Q (.int (i / j)) H) : rFdU (.int i) (.int j) H Q := r_fdN (by omega) hb (by rw [Int.fdiv_eq_ediv_of_nonneg i (by omega)]; exact q)
theorem r_modP (h0 : 0 < j) (q : Q (.int (i % j)) H) : rModU (.int i) (.int j) H Q := .inl ⟨i, j, rfl, rfl, h0, q⟩
theorem r_modN (h0 : j ≠ 0) (q : Q (.int (i.fmod j)) H) : rModU (.int i) (.int j) H Q := .inr ⟨i, j, rfl, rfl, h0, q⟩
theorem r_addI (q : Q (.int (i + j)) H) : rAddU K (.int i) (.int j) H Q := .inl ⟨i, j, rfl, rfl, q⟩
theorem r_mulI {a b : Nat} (ha : i.natAbs < 2 ^ a) (hb : j.natAbs < 2 ^ b) (h : a + b ≤ 900000) (q : Q (.int (i * j)) H) : rMulU K (.int i) (.int j) H Q :=
  .inl ⟨i, j, rfl, rfl, wide_mul (a := a + 1) (b := b + 1) (Nat.lt_of_lt_of_le ha (Nat.pow_le_pow_right (by decide) (by omega))) (Nat.lt_of_lt_of_le hb (Nat.pow_le_pow_right (by decide) (by omega))) (by omega) (by omega) (by omega), q⟩
theorem r_mulR (hj : -(2 ^ 64) < j ∧ j < 2 ^ 64) (q : Q (.int (i * j)) H) : rMulU K (.int i) (.int j) H Q := .inr (.inl ⟨i, j, rfl, rfl, .inr hj, q⟩)
theorem r_mulL (hj : -(2 ^ 64) < i ∧ i < 2 ^ 64) (q : Q (.int (i * j)) H) : rMulU K (.int i) (.int j) H Q := .inr (.inl ⟨i, j, rfl, rfl, .inl hj, q⟩)
theorem r_gcd (q : Q (.int ((Nat.gcd i.natAbs j.natAbs : Nat) : Int)) H) : rGcd [.int i, .int j] H Q := ⟨i, j, rfl, q⟩
theorem r_eqS (h : scal x y = true) (q : Q (.bl (decide (x = y))) H) : rEqU K x y H Q := .inl ⟨h, q⟩
theorem r_eqI (q : Q (.bl (decide (i = j))) H) : rEqU K (.int i) (.int j) H Q := .inl ⟨rfl, by
  have e : decide (V.int i = V.int j) = decide (i = j) := by simp
  rw [e]; exact q⟩
theorem r_neB {a b : Bool} (q : Q (.bl (!decide (a = b))) H) : rNeU K (.bl a) (.bl b) H Q := .inl ⟨rfl, by
  have e : decide (V.bl a = V.bl b) = decide (a = b) := by simp
  rw [e]; exact q⟩
theorem r_eqB {a b : Bool} (q : Q (.bl (decide (a = b))) H) : rEqU K (.bl a) (.bl b) H Q := .inl ⟨rfl, by
  have e : decide (V.bl a = V.bl b) = decide (a = b) := by simp
  rw [e]; exact q⟩
theorem r_neI (q : Q (.bl (!decide (i = j))) H) : rNeU K (.int i) (.int j) H Q := .inl ⟨rfl, by
  have e : decide (V.int i = V.int j) = decide (i = j) := by simp
  rw [e]; exact q⟩
end

/-! ### calls of built-ins, by names -/
section
variable {X : Cx} {K : Fg} {Q : VK} {H : Hp} {i j : Int} {d : PyData} {ds : List PyData} {x : V}
def rIntU : List V → Hp → VK → Prop := fun xs H Q => (∃ i, xs = [.int i] ∧ Q (.int i) H) ∨ ∃ k, xs = [.bl k] ∧ Q (.int (if k then 1 else 0)) H
theorem call_intU : CallR X (.type "int") rIntU := call_int1
theorem r_int (q : Q (.int i) H) : rIntU [.int i] H Q := .inl ⟨i, rfl, q⟩
def rAbsU : List V → Hp → VK → Prop := fun xs H Q => ∃ i, xs = [.int i] ∧ Q (.int (if i < 0 then -i else i)) H
theorem call_absU : CallR X (.builtin "abs") rAbsU := call_abs
theorem r_abs (q : Q (.int (i.natAbs : Int)) H) : rAbsU [.int i] H Q := ⟨i, rfl, by
  have e : (if i < 0 then -i else i) = (i.natAbs : Int) := by split <;> omega
  rw [e]; exact q⟩
def rMaxU : List V → Hp → VK → Prop := fun xs H Q => ∃ i j, xs = [.int i, .int j] ∧ Q (.int (if j > i then j else i)) H
theorem call_max2U (hc : X.calm = true) : CallR X (.builtin "max") rMaxU := call_max2 hc
theorem r_max (q : Q (.int (max i j)) H) : rMaxU [.int i, .int j] H Q := ⟨i, j, rfl, by
  have e : (if j > i then j else i) = max i j := by split <;> omega
  rw [e]; exact q⟩
def rMinU : List V → Hp → VK → Prop := fun xs H Q => ∃ i j, xs = [.int i, .int j] ∧ Q (.int (if j < i then j else i)) H
theorem call_min2U (hc : X.calm = true) : CallR X (.builtin "min") rMinU := call_min2 hc
theorem r_min (q : Q (.int (min i j)) H) : rMinU [.int i, .int j] H Q := ⟨i, j, rfl, by
  have e : (if j < i then j else i) = min i j := by split <;> omega
  rw [e]; exact q⟩
def rListU (K : Fg) : List V → Hp → VK → Prop := fun xs H Q => ∃ p ys, xs = [.ref p] ∧ (SqL K H p ys ∨ SqT K H p ys) ∧ ∀ l, H l = none → Q (.ref l) (upd H l (.lst ys))
theorem call_listU : CallR X (.type "list") (rListU X.K) := call_list_of
theorem r_listV {a : Addr} {xs : List V} (h : SqL K H a xs ∨ SqT K H a xs) (q : ∀ p H', Same H H' → H p = none → H' p = some (.lst xs) → Q (.ref p) H') : rListU K [.ref a] H Q :=
  ⟨a, xs, rfl, h, fun l hl => q l _ (same_new hl _) hl upd_same⟩
def rTupU (K : Fg) : List V → Hp → VK → Prop := fun xs H Q => ∃ p ys, xs = [.ref p] ∧ ((SqL K H p ys ∧ ∀ l, H l = none → Q (.ref l) (upd H l (.tup ys))) ∨ (SqT K H p ys ∧ Q (.ref p) H))
theorem call_tupleU : CallR X (.type "tuple") (rTupU X.K) := call_tuple_of
theorem r_tupL {a : Addr} {xs : List V} (h : SqL K H a xs) (hd : DpAll K H xs ds) (q : ∀ p H', Same H H' → H p = none → Dp K H' (.ref p) (.tuple ds) → Q (.ref p) H') : rTupU K [.ref a] H Q :=
  ⟨a, xs, rfl, .inl ⟨h, fun l hl => q l _ (same_new hl _) hl (.tup (SqT.of upd_same) (dpsUp (same_new hl _) hd))⟩⟩
theorem r_lenL {a : Addr} {xs : List V} (h : SqL K H a xs) (q : Q (.int (xs.length : Int)) H) : rLenU K [.ref a] H Q := .inl ⟨a, xs, rfl, .inl h, q⟩
theorem r_lenT (h : Dp K H x (.tuple ds)) (q : Q (.int (ds.length : Int)) H) : rLenU K [x] H Q := by
  obtain ⟨a, xs, rfl, h1, h2⟩ := dp_tup h
  refine .inl ⟨a, xs, rfl, .inr h1, ?_⟩
  rw [dps_len h2]; exact q
theorem r_lenS {z : Str} (h : z.length ≤ sizeLine) (q : Q (.int (z.length : Int)) H) : rLenU K [.str z] H Q := .inr ⟨z, rfl, h, q⟩
/-- the class of data -/
def tnD : PyData → String
  | .none => "NoneType"
  | .bool _ => "bool"
  | .int _ => "int"
  | .str _ => "str"
  | .list _ => "list"
  | .tuple _ => "tuple"
  | .dict _ => "dict"
theorem dp_ty (h : Dp K H x d) : TyX K H x (.type (tnD d)) := by
  cases h with
  | non => exact .base .non
  | bl b => exact .base (.bl b)
  | int i => exact .base (.int i)
  | str z => exact .base (.str z)
  | lst h1 h2 =>
    rcases h1 with (h | ⟨o, h⟩) | ⟨o, its, n, h, hc, _⟩
    · exact .base (.lst h)
    · exact .base (.frz h)
    · exact .kList h hc
  | tup h1 h2 =>
    rcases h1 with (h | ⟨o, h⟩) | ⟨o, its, n, h, hc, _⟩
    · exact .base (.tup h)
    · exact .fTuple h
    · exact .kTuple h hc
theorem r_isi {c : String} {b : Bool} (h : Dp K H x d) (e : kitB (tnD d) c = some b) (q : Q (.bl b) H) : rIsi K [x, .ty c] H Q :=
  ⟨x, .ty c, _, _, b, rfl, .ty c, dp_ty h, kit_ty e, q⟩
end
/-! ### loops -/
section
variable {K : Fg} {σ : L2.St} {H : Hp} {D : Ends} {g : TG} {tb : TS} {te : TE}
theorem r_forT {i0 : Nat} {v : V} {ds : List PyData} (hx : σ[i0]? = some (some v)) (h : Dp K H v (.tuple ds)) (Pv : Nat → L2.St → Hp → Prop) (h0 : Pv 0 σ H) (hk : ∀ i σ' H', i ≤ ds.length → Pv i σ' H' → TSame K H H')
    (hs : ∀ i d x σ' H', ds[i]? = some d → Dp K H x d → Pv i σ' H' → g x σ' H' fun σ2 H2 => tb { D with nx := Pv (i + 1), ct := Pv (i + 1), bk := D.nx } σ2 H2) (hd : ∀ σ' H', Pv ds.length σ' H' → D.nx σ' H') : tFor (iSeqU K (tVar i0)) g tb D σ H := by
  obtain ⟨a, xs, rfl, h1, h2⟩ := dp_tup h
  have hl := dps_len h2
  refine .inr ⟨_, hx, a, rfl, ⟨xs, h1⟩, for_tup (xs := xs) Pv h0 (fun i σ' H' hi p => hk i σ' H' (by omega) p _ _ h1) (fun i x σ' H' hi p => ?_) (fun σ' H' p => hd σ' H' (hl ▸ p))⟩
  obtain ⟨d, e, hd⟩ := dps_getV h2 hi
  exact hs i d x σ' H' e hd p
/-- over a list of values that stays -/
theorem r_forL {i0 : Nat} {a : Addr} {xs : List V} (hx : σ[i0]? = some (some (.ref a))) (h : SqL K H a xs) (Pv : Nat → L2.St → Hp → Prop) (h0 : Pv 0 σ H) (hk : ∀ i σ' H', i ≤ xs.length → Pv i σ' H' → SqL K H' a xs)
    (hs : ∀ i x σ' H', xs[i]? = some x → Pv i σ' H' → g x σ' H' fun σ2 H2 => tb { D with nx := Pv (i + 1), ct := Pv (i + 1), bk := D.nx } σ2 H2) (hd : ∀ σ' H', Pv xs.length σ' H' → D.nx σ' H') : tFor (iSeqU K (tVar i0)) g tb D σ H :=
  .inl ⟨_, hx, a, rfl, ⟨xs, h⟩, for_list (xs := xs) Pv h0 hk hs hd⟩
/-- over a list that is made or told on the way: what it is, R -/
theorem r_forLe (R : Addr → List V → Hp → Prop) (hev : ∀ Q : VK, (∀ a xs H1, R a xs H1 → SqL K H1 a xs → Q (.ref a) H1) → te σ H Q)
    (hb : ∀ a xs H1, R a xs H1 → SqL K H1 a xs → ∃ Pv : Nat → L2.St → Hp → Prop, Pv 0 σ H1 ∧ (∀ i σ' H', i ≤ xs.length → Pv i σ' H' → SqL K H' a xs) ∧
      (∀ i x σ' H', xs[i]? = some x → Pv i σ' H' → g x σ' H' fun σ2 H2 => tb { D with nx := Pv (i + 1), ct := Pv (i + 1), bk := D.nx } σ2 H2) ∧ (∀ σ' H', Pv xs.length σ' H' → D.nx σ' H')) : tFor (iSeqU K te) g tb D σ H := by
  refine .inl (hev _ fun a xs H1 r hs => ⟨a, rfl, ⟨xs, hs⟩, ?_⟩)
  obtain ⟨Pv, h0, hk, hs, hd⟩ := hb a xs H1 r hs
  exact for_list (xs := xs) Pv h0 hk hs hd
theorem r_forTe (R : Addr → List V → Hp → Prop) (hev : ∀ Q : VK, (∀ a xs H1, R a xs H1 → SqT K H1 a xs → Q (.ref a) H1) → te σ H Q)
    (hb : ∀ a xs H1, R a xs H1 → SqT K H1 a xs → ∃ Pv : Nat → L2.St → Hp → Prop, Pv 0 σ H1 ∧ (∀ i σ' H', i ≤ xs.length → Pv i σ' H' → SqT K H' a xs) ∧
      (∀ i x σ' H', xs[i]? = some x → Pv i σ' H' → g x σ' H' fun σ2 H2 => tb { D with nx := Pv (i + 1), ct := Pv (i + 1), bk := D.nx } σ2 H2) ∧ (∀ σ' H', Pv xs.length σ' H' → D.nx σ' H')) : tFor (iSeqU K te) g tb D σ H := by
  refine .inr (hev _ fun a xs H1 r hs => ⟨a, rfl, ⟨xs, hs⟩, ?_⟩)
  obtain ⟨Pv, h0, hk, hs, hd⟩ := hb a xs H1 r hs
  exact for_tup (xs := xs) Pv h0 hk hs hd
theorem r_forR {ta : TA} {n : Int} (hev : ∀ Q : List V → Hp → Prop, Q [.int n] H → ta σ H Q) (hn : n < 2 ^ 60) (h0' : -(2 ^ 60) < n) (Pv : Nat → L2.St → Hp → Prop) (h0 : Pv 0 σ H)
    (hs : ∀ i σ' H', i < n.toNat → Pv i σ' H' → g (.int (i : Int)) σ' H' fun σ2 H2 => tb { D with nx := Pv (i + 1), ct := Pv (i + 1), bk := D.nx } σ2 H2) (hd : ∀ σ' H', Pv n.toNat σ' H' → D.nx σ' H') : tFor (iRng1 ta) g tb D σ H := by
  refine hev _ ⟨n, rfl, by omega, by omega, for_range (lo := 0) (n := n.toNat) Pv h0 (fun i σ' H' hi p => ?_) hd⟩
  have e0 : (0 : Int) + (i : Int) = (i : Int) := Int.zero_add _
  rw [e0]
  exact hs i σ' H' hi p
/-- a comprehension: behind turn i the list at p holds acc and Pv stands -/
def LcNx (Pv : Addr → Nat → List V → Hp → Prop) (p : Addr) (n i : Nat) : Hp → Prop := fun H' => i + 1 ≤ n ∧ ∃ acc, H' p = some (.lst acc) ∧ Pv p (i + 1) acc H'
theorem lc_put {Pv : Addr → Nat → List V → Hp → Prop} {p : Addr} {n i : Nat} {acc : List V} {y : V} {H4 : Hp} (hi : i < n) (h : H4 p = some (.lst acc)) (hl : acc.length < 1000000)
    (hP : ∀ H5, (∀ b o, b ≠ p → H4 b = some o → H5 b = some o) → H5 p = some (.lst (acc ++ [y])) → Pv p (i + 1) (acc ++ [y]) H5) :
    ∃ acc, H4 p = some (.lst acc) ∧ acc.length < sizeLine ∧ LcNx Pv p n i (upd H4 p (.lst (acc ++ [y]))) :=
  ⟨acc, h, Nat.lt_trans hl (by decide), by omega, _, upd_same, hP _ (fun b o hb e => by rw [upd_ne hb]; exact e) upd_same⟩
theorem lc_not {Pv : Addr → Nat → List V → Hp → Prop} {p : Addr} {n i : Nat} {acc : List V} {H4 : Hp} (hi : i < n) (h : H4 p = some (.lst acc)) (hP : Pv p (i + 1) acc H4) : LcNx Pv p n i H4 := ⟨by omega, acc, h, hP⟩
abbrev LcTurn (g : TG) (tt : TT) (te : TE) (vs : List Nat) (σ : L2.St) (p : Addr) (Nx : Hp → Prop) (x : V) (H' : Hp) : Prop :=
  g x (wipe σ vs) H' fun σ2 H2 => wipe σ2 vs = wipe σ vs ∧ tt σ2 H2 fun b H3 => if b = true then te σ2 H3 fun y H4 => ∃ acc, H4 p = some (.lst acc) ∧ acc.length < sizeLine ∧ Nx (upd H4 p (.lst (acc ++ [y]))) else Nx H3
theorem r_lcR {ta : TA} {n : Int} {vs : List Nat} {tt : TT} {Q : VK} (hev : ∀ Q : List V → Hp → Prop, Q [.int n] H → ta σ H Q) (hn : n < 100000) (h0' : -100000 < n) (Pv : Addr → Nat → List V → Hp → Prop)
    (h0 : ∀ p H', Same H H' → H p = none → H' p = some (.lst []) → Pv p 0 [] H')
    (hs : ∀ p i acc H', i < n.toNat → H p = none → H' p = some (.lst acc) → Pv p i acc H' → LcTurn g tt te vs σ p (LcNx Pv p n.toNat i) (.int (i : Int)) H')
    (hd : ∀ p acc H', H p = none → H' p = some (.lst acc) → Pv p n.toNat acc H' → Q (.ref p) H') : tLc (iRng1 ta) g tt te vs σ H Q := by
  refine hev _ ⟨n, rfl, by omega, by omega, fun p hp => ?_⟩
  refine ⟨fun i m H' => m = n.toNat - i ∧ i ≤ n.toNat ∧ ∃ acc, H' p = some (.lst acc) ∧ Pv p i acc H', ⟨n.toNat, by simp, Nat.zero_le _, [], upd_same, h0 p _ (same_new hp _) hp upd_same⟩, ?_⟩
  rintro i m H' ⟨rfl, hi, acc, hac, hP⟩
  by_cases hlt : i < n.toNat
  · refine .inr ⟨hlt, LcNx Pv p n.toNat i, fun H'' hN => ⟨n.toNat - (i + 1), by omega, rfl, hN⟩, fun x H'' y => ?_⟩
    obtain ⟨e, y⟩ := y
    subst e
    have e0 : (0 : Int) + (i : Int) = (i : Int) := Int.zero_add _
    rw [e0] at y
    subst y
    exact hs p i acc H'' hlt hp hac hP
  · have e : i = n.toNat := by omega
    subst e
    exact .inl ⟨Nat.le_refl _, hd p acc H' hp hac hP⟩
/-- .. over a list of values -/
theorem r_lcLe {vs : List Nat} {tt : TT} {Q : VK} {tl : TE} (R : Addr → List V → Hp → Prop) (hev : ∀ Q : VK, (∀ a xs H1, R a xs H1 → SqL K H1 a xs → Q (.ref a) H1) → tl σ H Q)
    (hb : ∀ a xs H1, R a xs H1 → SqL K H1 a xs → ∃ Pv : Addr → Nat → List V → Hp → Prop, (∀ p H', Same H1 H' → H1 p = none → H' p = some (.lst []) → Pv p 0 [] H') ∧ (∀ p i acc H', i ≤ xs.length → H1 p = none → H' p = some (.lst acc) → Pv p i acc H' → SqL K H' a xs) ∧
      (∀ p i x acc H', xs[i]? = some x → H1 p = none → H' p = some (.lst acc) → Pv p i acc H' → LcTurn g tt te vs σ p (LcNx Pv p xs.length i) x H') ∧
      (∀ p acc H', H1 p = none → H' p = some (.lst acc) → Pv p xs.length acc H' → Q (.ref p) H')) : tLc (iSeqU K tl) g tt te vs σ H Q := by
  refine .inl (hev _ fun a xs H1 r hsq => ⟨a, rfl, ⟨xs, hsq⟩, ?_⟩)
  obtain ⟨Pv, h0, hk, hs, hd⟩ := hb a xs H1 r hsq
  intro p hp
  refine lc_list (xs := xs) (fun i H' => i ≤ xs.length ∧ ∃ acc, H' p = some (.lst acc) ∧ Pv p i acc H') ⟨Nat.zero_le _, [], upd_same, h0 p _ (same_new hp _) hp upd_same⟩ (fun i H' hi ⟨_, acc, e, hP⟩ => hk p i acc H' hi hp e hP) (fun i x H' hi ⟨_, acc, e, hP⟩ => ?_) (fun H' ⟨_, acc, e, hP⟩ => hd p acc H' hp e hP)
  exact hs p i x acc H' hi hp e hP
theorem r_lcL {i0 : Nat} {a : Addr} {xs : List V} {vs : List Nat} {tt : TT} {Q : VK} (hx : σ[i0]? = some (some (.ref a))) (h : SqL K H a xs) (Pv : Addr → Nat → List V → Hp → Prop) (h0 : ∀ p H', Same H H' → H p = none → H' p = some (.lst []) → Pv p 0 [] H')
    (hk : ∀ p i acc H', i ≤ xs.length → H p = none → H' p = some (.lst acc) → Pv p i acc H' → SqL K H' a xs)
    (hs : ∀ p i x acc H', xs[i]? = some x → H p = none → H' p = some (.lst acc) → Pv p i acc H' → LcTurn g tt te vs σ p (LcNx Pv p xs.length i) x H')
    (hd : ∀ p acc H', H p = none → H' p = some (.lst acc) → Pv p xs.length acc H' → Q (.ref p) H') : tLc (iSeqU K (tVar i0)) g tt te vs σ H Q :=
  r_lcLe (fun b ys H1 => b = a ∧ ys = xs ∧ H1 = H) (fun Q q => ⟨_, hx, q a xs H ⟨rfl, rfl, rfl⟩ h⟩) fun b ys H1 ⟨e1, e2, e3⟩ _ => by
    subst e1; subst e2; subst e3
    exact ⟨Pv, h0, hk, hs, hd⟩
end

/-! ### the same rules, the written part told by its name -/
section
variable {X : Cx} {K : Fg}
theorem ixK (hK : X.K = K := by rfl) : IxR X (rIx K) := hK ▸ ix_seq
theorem op_addK (hK : X.K = K := by rfl) : OpR X (binaryOp .Add) (rAddU K) := hK ▸ op_addU
theorem op_mulK (hK : X.K = K := by rfl) : OpR X (binaryOp .Mult) (rMulU K) := hK ▸ op_mulU
theorem op_eqK (hu : X.A.units + 64 < cLine) (hK : X.K = K := by rfl) : OpR X (compareOp .Eq) (rEqU K) := hK ▸ op_eqU hu
theorem op_neK (hu : X.A.units + 64 < cLine) (hK : X.K = K := by rfl) : OpR X (compareOp .NotEq) (rNeU K) := hK ▸ op_neU hu
theorem op_inK (hu : X.A.units + 65 < cLine) (hK : X.K = K := by rfl) : OpR X (compareOp .In) (rInU K) := hK ▸ op_inU hu
theorem op_ninK (hu : X.A.units + 65 < cLine) (hK : X.K = K := by rfl) : OpR X (compareOp .NotIn) (rNinU K) := hK ▸ op_ninU hu
theorem sl_K (hK : X.K = K := by rfl) : SlR X (rSlU K) := hK ▸ sl_seqU
theorem call_lenK (hK : X.K = K := by rfl) : CallR X (.builtin "len") (rLenU K) := hK ▸ call_lenU
theorem call_listK (hK : X.K = K := by rfl) : CallR X (.type "list") (rListU K) := hK ▸ call_listU
theorem call_tupleK (hK : X.K = K := by rfl) : CallR X (.type "tuple") (rTupU K) := hK ▸ call_tupleU
theorem call_isiK1 (hK : X.K = K := by rfl) : CallR X (.builtin "isinstance") (rIsi K) := hK ▸ call_isi
theorem cr_sumK (hc : X.calm = true) (hK : X.K = K := by rfl) : CallR X (.builtin "sum") (rSum K) := hK ▸ cr_sum hc
theorem cr_maxK (hc : X.calm = true) (hK : X.K = K := by rfl) : CallR X (.builtin "max") (rMax K) := hK ▸ cr_max hc
theorem cr_minK (hc : X.calm = true) (hK : X.K = K := by rfl) : CallR X (.builtin "min") (rMin K) := hK ▸ cr_min hc
theorem cr_anyK (hc : X.calm = true) (hK : X.K = K := by rfl) : CallR X (.builtin "any") (rAny K) := hK ▸ cr_any hc
theorem cr_allK (hc : X.calm = true) (hK : X.K = K := by rfl) : CallR X (.builtin "all") (rAll K) := hK ▸ cr_all hc
theorem pi_listK {tg l : Expr} {te : TE} (h : PE X l te) (hK : X.K = K := by rfl) : PI X tg l (iSeqU K te) := hK ▸ pi_listU h
def tTr (K : Fg) (ta : TE) : TT := fun σ H Q => ta σ H fun x H' => ∃ k, TruV K x H' k ∧ Q k H'
theorem pt_truthK {a : Expr} {ta : TE} (ha : PE X a ta) (he : ∀ whole, isTrue a X.env whole = (do let v ← whole; standAt a.pos; holding [v] (truthy v))) (hK : X.K = K := by rfl) : PT X a (tTr K ta) := hK ▸ pt_truth ha he
theorem pg_tupK {es : List Expr} {k : Nat} {t : TGs} {n : Nat} {pos : Pos} (hc : X.calm = true) (h : PGs X es t)
    (hn : (assignEach es X.env).length = n := by rfl) (hst : (assignEach es X.env).findIdx? (·.1) = none := by rfl) (hK : X.K = K := by rfl) : PG X (.Tuple es k pos) (gTup K n t) := hK ▸ pg_tup hc h hn hst
theorem pe_bm0K {o : Expr} {to : TE} {name : Str} {apos cpos : Pos} {T id : String} {r : V → List V → Hp → VK → Prop} (pa : PlainAttrs T) (slot : Slot T name id) (hty : typeOf (.builtin id) = pure (.type "method_descriptor")) (hm : MtR X id r) (ho : PE X o to)
    (hbase : attributeBase o name X.env (eval o X.env) = eval o X.env := by rfl) (hline : (apos.endLine == cpos.line) = true := by rfl) (hK : X.K = K := by rfl) : PE X (.Call (.Attribute o name apos) [] [] cpos) (tBM0 K T r to) := hK ▸ pe_bm0 pa slot hty hm ho hbase hline
theorem pe_bmK {o e : Expr} {es : List Expr} {to : TE} {t : TA} {name : Str} {apos cpos : Pos} {T id : String} {r : V → List V → Hp → VK → Prop} (pa : PlainAttrs T) (slot : Slot T name id) (hty : typeOf (.builtin id) = pure (.type "method_descriptor")) (hm : MtR X id r) (ho : PE X o to) (ha : PA X (e :: es) t)
    (hbase : attributeBase o name X.env (eval o X.env) = eval o X.env := by rfl)
    (hfew : ((backTo cpos (starEach (e :: es) X.env)).all (fun x => !x.1) && (backToKw cpos (keywordEach [] X.env)).all (fun x => x.1.isSome)
      && decide ((e :: es).length + ([] : List Keyword).length + (if ([] : List Keyword).isEmpty then 0 else 1) < 30)) = true := by rfl)
    (hline : (apos.endLine == cpos.line) = true := by rfl) (hs : starEach (e :: es) X.env = (false, eval e X.env) :: starEach es X.env := by rfl) (hplain : (backTo cpos (starEach es X.env)).any (·.1) = false := by rfl) (hK : X.K = K := by rfl) :
    PE X (.Call (.Attribute o name apos) (e :: es) [] cpos) (tBM K T r to t) := hK ▸ pe_bm pa slot hty hm ho ha hbase hfew hline hs hplain
/-- pop: the last item, or the item at a place -/
def rPopU : V → List V → Hp → VK → Prop := fun x vs H Q => rPop x vs H Q ∨ rPopAt x vs H Q
end
/-! ### lists that change -/
section
variable {K : Fg} {H : Hp} {Q : VK} {l : Addr} {xs : List V} {v : V}
theorem r_tyL (h : SqL K H l xs) : tyV K "list" (.ref l) H := .inl ⟨rfl, _, h⟩
theorem r_append (h : H l = some (.lst xs)) (hz : xs.length < 1000000) (q : ∀ H', (∀ b o, b ≠ l → H b = some o → H' b = some o) → H' l = some (.lst (xs ++ [v])) → Q .non H') : rAppend (.ref l) [v] H Q :=
  ⟨l, xs, v, rfl, rfl, h, Nat.lt_trans hz (by decide), q _ (fun b o hb e => by rw [upd_ne hb]; exact e) upd_same⟩
theorem sq_at {r : Int} {n : Nat} (h0 : 0 ≤ r) (h1 : r < (n : Int)) : seqIndex? r n = some r.toNat := by
  unfold seqIndex?
  have e : (if r < 0 then r + (n : Int) else r) = r := if_neg (by omega)
  simp only [e]
  rw [if_pos]
  rw [Bool.and_eq_true]
  exact ⟨decide_eq_true h0, decide_eq_true h1⟩
theorem r_popAt {r : Int} (h : H l = some (.lst xs)) (h0 : 0 ≤ r) (h1 : r < (xs.length : Int)) (h2 : xs.length < 2 ^ 60) (q : ∀ y H', xs[r.toNat]? = some y → (∀ b o, b ≠ l → H b = some o → H' b = some o) → H' l = some (.lst (xs.eraseIdx r.toNat)) → Q y H') : rPopAt (.ref l) [.int r] H Q := by
  have hr : r.toNat < xs.length := by omega
  exact ⟨l, xs, r, r.toNat, xs[r.toNat], rfl, rfl, h, by omega, by omega, sq_at h0 h1, List.getElem?_eq_getElem hr, q _ _ (List.getElem?_eq_getElem hr) (fun b o hb e => by rw [upd_ne hb]; exact e) upd_same⟩
theorem r_slL {lo hi : Option Int} (h : SqL K H l xs) (q : ∀ p H', Same H H' → H p = none → H' p = some (.lst (cutV xs lo hi)) → Q (.ref p) H') : rSlU K (.ref l) lo hi H Q :=
  .inl ⟨l, xs, rfl, h, fun p hp => q p _ (same_new hp _) hp upd_same⟩
theorem cut_mem {lo hi : Option Int} {x : V} (h : x ∈ cutV xs lo hi) : x ∈ xs := List.mem_of_mem_drop (List.mem_of_mem_take h)
theorem cut_len {lo hi : Option Int} : (cutV xs lo hi).length ≤ xs.length := by
  unfold cutV
  rw [List.length_take, List.length_drop]
  omega
theorem r_part {i : Int} {Q : Option Int → Prop} (q : Q (some i)) : ∃ j, V.int i = .int j ∧ Q (some j) := ⟨i, rfl, q⟩
theorem perm_pop {α : Type} {xs : List α} {i : Nat} {y : α} (h : xs[i]? = some y) : (xs.eraseIdx i ++ [y]).Perm xs := by
  have hi : i < xs.length := (List.getElem?_eq_some_iff.mp h).1
  have e : xs[i] = y := (List.getElem?_eq_some_iff.mp h).2
  have e1 : xs = xs.take i ++ y :: xs.drop (i + 1) := by
    rw [← e, List.getElem_cons_drop, List.take_append_drop]
  have e2 : xs.eraseIdx i = xs.take i ++ xs.drop (i + 1) := List.eraseIdx_eq_take_drop_succ xs i
  rw [e2]
  conv => rhs; rw [e1]
  rw [List.append_assoc]
  exact List.Perm.append_left _ (List.perm_append_singleton _ _)
end

/-- list(range(..)) -/
def nwR (a b : Int) (H : Hp) (Q : VK) : Prop := RgOk a b ∧ ∀ q, H q = none → Q (.ref q) (upd H q (.lst (rgV a b)))
theorem tLstRg_eq {te : L2.St → Hp → (Int → Int → Hp → Prop) → Prop} {σ : L2.St} {H : Hp} {Q : VK} : tLstRg te σ H Q = te σ H fun a b H1 => nwR a b H1 Q := rfl
theorem r_lstR {a b : Int} {H : Hp} {Q : VK} (ha : a.natAbs < 2 ^ 60) (hb : b.natAbs < 2 ^ 24) (ha2 : 0 ≤ a) (q : ∀ p H', Same H H' → H p = none → H' p = some (.lst (rgV a b)) → Q (.ref p) H') : nwR a b H Q :=
  ⟨⟨by omega, by omega, by omega, by omega, by omega⟩, fun p hp => q p _ (same_new hp _) hp upd_same⟩
theorem r_i {n : Int} {C : Int → Prop} (q : C n) : ∃ m, V.int n = .int m ∧ C m := ⟨n, rfl, q⟩
/-! ### tests, whole -/
section
variable {K : Fg} {H : Hp} {A B : Prop} {b : Bool}
theorem t_if {c : Prop} [Decidable c] (h1 : c → A) (h2 : ¬ c → B) : ∃ k, V.bl (decide c) = V.bl k ∧ if k = true then A else B := ⟨_, rfl, r_if h1 h2⟩
theorem t_ifN {c : Prop} [Decidable c] (h1 : ¬ c → A) (h2 : c → B) : ∃ k, V.bl (!decide c) = V.bl k ∧ if k = true then A else B := ⟨_, rfl, r_ifN h1 h2⟩
theorem t_ifB (h1 : b = true → A) (h2 : b = false → B) : ∃ k, V.bl b = V.bl k ∧ if k = true then A else B := ⟨_, rfl, r_ifB h1 h2⟩
theorem t_yes {c : Prop} [Decidable c] (h : c) (q : A) : ∃ k, V.bl (decide c) = V.bl k ∧ if k = true then A else B := t_if (fun _ => q) fun n => absurd h n
theorem t_no {c : Prop} [Decidable c] (h : ¬ c) (q : B) : ∃ k, V.bl (decide c) = V.bl k ∧ if k = true then A else B := t_if (fun n => absurd n h) fun _ => q
theorem t_yesB (q : A) : ∃ k, V.bl true = V.bl k ∧ if k = true then A else B := ⟨_, rfl, by rw [if_pos rfl]; exact q⟩
theorem t_noB (q : B) : ∃ k, V.bl false = V.bl k ∧ if k = true then A else B := ⟨_, rfl, by rw [if_neg (by decide)]; exact q⟩
theorem u_yes (q : A) : ∃ k, TruV K (.bl true) H k ∧ if k = true then A else B := ⟨_, rfl, by rw [if_pos rfl]; exact q⟩
theorem u_no (q : B) : ∃ k, TruV K (.bl false) H k ∧ if k = true then A else B := ⟨_, rfl, by rw [if_neg (by decide)]; exact q⟩
/-- not f(..), f(..) True -/
theorem u_notT (q : B) : ∃ k, TruV K (.bl true) H k ∧ if (!k) = true then A else B := ⟨_, rfl, by rw [if_neg (by decide)]; exact q⟩
theorem u_notF (q : A) : ∃ k, TruV K (.bl false) H k ∧ if (!k) = true then A else B := ⟨_, rfl, by rw [if_pos (by decide)]; exact q⟩
theorem u_ifB (h1 : b = true → A) (h2 : b = false → B) : ∃ k, TruV K (.bl b) H k ∧ if k = true then A else B := ⟨_, rfl, r_ifB h1 h2⟩
theorem u_notB (h1 : b = false → A) (h2 : b = true → B) : ∃ k, TruV K (.bl b) H k ∧ if (!k) = true then A else B := ⟨_, rfl, r_ifNB h1 h2⟩
end

/-! ### unpacking -/
section
variable {K : Fg} {H : Hp} {x : V}
theorem r_un2 {d1 d2 : PyData} {C : V → V → Prop} (h : Dp K H x (.tuple [d1, d2])) (q : ∀ u v, Dp K H u d1 → Dp K H v d2 → C u v) :
    ∃ a xs, x = V.ref a ∧ SqT K H a xs ∧ xs.length = 2 ∧ ∃ v r, xs = v :: r ∧ ∃ v1 r1, r = v1 :: r1 ∧ r1 = [] ∧ C v v1 := by
  obtain ⟨a, xs, rfl, h1, h2⟩ := dp_tup h
  cases h2 with
  | cons k1 k2 => cases k2 with
    | cons k3 k4 =>
      cases k4
      exact ⟨a, _, rfl, h1, rfl, _, _, rfl, _, _, rfl, rfl, q _ _ k1 k3⟩
theorem r_un3 {d1 d2 d3 : PyData} {C : V → V → V → Prop} (h : Dp K H x (.tuple [d1, d2, d3])) (q : ∀ u v w, Dp K H u d1 → Dp K H v d2 → Dp K H w d3 → C u v w) :
    ∃ a xs, x = V.ref a ∧ SqT K H a xs ∧ xs.length = 3 ∧ ∃ v r, xs = v :: r ∧ ∃ v1 r1, r = v1 :: r1 ∧ ∃ v2 r2, r1 = v2 :: r2 ∧ r2 = [] ∧ C v v1 v2 := by
  obtain ⟨a, xs, rfl, h1, h2⟩ := dp_tup h
  cases h2 with
  | cons k1 k2 => cases k2 with
    | cons k3 k4 => cases k4 with
      | cons k5 k6 =>
        cases k6
        exact ⟨a, _, rfl, h1, rfl, _, _, rfl, _, _, rfl, _, _, rfl, rfl, q _ _ _ k1 k3 k5⟩
/-- a pair of values (of any kind) -/
theorem r_un2V {a : Addr} {u v : V} {C : V → V → Prop} (h : SqT K H a [u, v]) (q : C u v) :
    ∃ b xs, V.ref a = V.ref b ∧ SqT K H b xs ∧ xs.length = 2 ∧ ∃ v r, xs = v :: r ∧ ∃ v1 r1, r = v1 :: r1 ∧ r1 = [] ∧ C v v1 :=
  ⟨a, _, rfl, h, rfl, _, _, rfl, _, _, rfl, rfl, q⟩
end

/-! ### ways that meet -/
def tCutU (t u : TS) : TS := fun D σ H => ∃ J : L2.St → Hp → Prop, t { D with nx := J } σ H ∧ ∀ σ' H', J σ' H' → u D σ' H'
theorem ps_cutU {X : Cx} {st : Stmt} {rest : List Stmt} {t u : TS} (h1 : PS X st t) (h2 : PSs X rest u) : PSs X (st :: rest) (tCutU t u) := by
  refine ⟨fun pins s σ H D I h => ?_⟩
  obtain ⟨J, h, hJ⟩ := h
  refine wpAny_execs_cons (thn (h1.run pins s σ H { D with nx := J } I h) fun f s1 q => ?_)
  cases f with
  | next =>
    obtain ⟨σ', H', I', q⟩ := q
    exact h2.run pins s1 σ' H' D I' (hJ σ' H' q)
  | ret v => exact q
  | brk => exact q
  | cont => exact q
theorem r_cut {t u : TS} {D : Ends} {σ : L2.St} {H : Hp} (J : L2.St → Hp → Prop) (h : t { D with nx := J } σ H) (hJ : ∀ σ' H', J σ' H' → u D σ' H') : tCutU t u D σ H := ⟨J, h, hJ⟩
theorem dps_perm {K : Fg} {H : Hp} {us vs : List V} (h : us.Perm vs) : ∀ {ds : List PyData}, DpAll K H vs ds → ∃ es, es.Perm ds ∧ DpAll K H us es := by
  induction h with
  | nil => intro ds hd; cases hd; exact ⟨[], .nil, .nil⟩
  | cons x _ ih =>
    intro ds hd
    cases hd with
    | cons h1 h2 =>
      obtain ⟨es, p, q⟩ := ih h2
      exact ⟨_, p.cons _, .cons h1 q⟩
  | swap x y l =>
    intro ds hd
    cases hd with
    | cons h1 h2 => cases h2 with
      | cons h3 h4 => exact ⟨_, .swap _ _ _, .cons h3 (.cons h1 h4)⟩
  | trans _ _ h1 h2 =>
    intro ds hd
    obtain ⟨es, p, q⟩ := h2 hd
    obtain ⟨fs, p2, q2⟩ := h1 q
    exact ⟨fs, p2.trans p, q2⟩
theorem ixN_of {n : Nat} {k : Int} (h0 : 0 ≤ k) (h1 : k < (n : Int)) : ixN n k = some k.toNat := by
  unfold ixN
  rw [if_pos h0, if_pos h1]
theorem perm_map_of {α β : Type} (f : α → β) {es : List β} {xs : List α} (h : es.Perm (xs.map f)) : ∃ ys : List α, ys.Perm xs ∧ es = ys.map f := by
  have key : ∀ {as bs : List β}, as.Perm bs → ∀ xs : List α, bs = xs.map f → ∃ ys : List α, ys.Perm xs ∧ as = ys.map f := by
    intro as bs h
    induction h with
    | nil =>
      intro xs e
      have : xs = [] := by cases xs with | nil => rfl | cons _ _ => cases e
      subst this
      exact ⟨[], .nil, rfl⟩
    | cons x _ ih =>
      intro xs e
      cases xs with
      | nil => cases e
      | cons a xs =>
        injection e with e1 e2
        obtain ⟨ys, p, q⟩ := ih xs e2
        exact ⟨a :: ys, p.cons a, by rw [e1, q]; rfl⟩
    | swap x y l =>
      intro xs e
      cases xs with
      | nil => cases e
      | cons a xs =>
        cases xs with
        | nil => injection e with e1 e2; cases e2
        | cons b xs =>
          injection e with e1 e2
          injection e2 with e2 e3
          exact ⟨b :: a :: xs, .swap _ _ _, by rw [e1, e2, e3]; rfl⟩
    | trans _ _ h1 h2 =>
      intro xs e
      obtain ⟨ys, p, q⟩ := h2 xs e
      obtain ⟨zs, p2, q2⟩ := h1 ys q
      exact ⟨zs, p2.trans p, q2⟩
  exact key h xs rfl
theorem r_tupV {K : Fg} {H : Hp} {Q : VK} {vs : List V} (q : ∀ p H', Same H H' → H p = none → SqT K H' p vs → Q (.ref p) H') (hn : Nat.ble vs.length 100000 = true := by rfl) : nwT vs H Q :=
  ⟨Nat.le_trans (Nat.le_of_ble_eq_true hn) (by decide), fun p hp => q p _ (same_new hp _) hp (SqT.of upd_same)⟩
/-- z[::-1]: some text of z's signs -/
def tRevS (te : TE) : TE := fun σ H Q => te σ H fun x H1 => ∃ z : Str, x = .str z ∧ z.length ≤ sizeLine ∧ ∀ r : Str, r.length ≤ z.length → (∀ c, c ∈ r.cps.toList → c ∈ z.cps.toList) → Q (.str r) H1

/-! steps -/
local macro_rules | `(tactic| walk_at "nz") => `(tactic| try simp only [cxOf, Cx.nox, Cx.wish, tSeq, tNext, tAsg, tRet, tRetN, tDrop, tIfS, tIf, tBreak, tCont, tTest, tB, tOp, tUn, tCons, tNil, tTup_eq, tLst_eq, tC, tVar, gName, gTup, gSub, tCB, tCall, tAnd, tOr, tNot, tAndV, tOrV, tNotV, tPar, tSl, tPart, tNoPart, tBM, tBM0, tAug, ipI, iSeqU, iList, iTup, gCons, gNil, tYes, tChain, L2.start, List.set_cons_zero, List.set_cons_succ, List.getElem?_cons_zero, List.getElem?_cons_succ, Option.some.injEq, exists_eq_left', List.map_cons, List.map_nil, List.length_cons, List.length_nil, List.replicate_succ, List.replicate_zero, Nat.zero_add, Nat.reduceAdd, Nat.reduceSub, List.cons_append, List.nil_append, wipe, tTr, ↓reduceIte, true_and, V.bl.injEq, Bool.false_eq_true, tLstRg_eq, tRg1, tRg2, List.append_nil, tCKw, tM1, tM0, tRevL, tRevS, tDNewT])
local macro_rules | `(tactic| walk_at "fd") => `(tactic| first
  | assumption
  | exact .int _
  | exact .bl _
  | exact .str _
  | exact .non
  | (refine dpUp (by assumption) ?_; walk_at "fd"))
local macro_rules | `(tactic| walk_at "fds") => `(tactic| first
  | assumption
  | exact .nil
  | exact .cons (by walk_at "fd") (by walk_at "fds")
  | (refine dpsUp (by assumption) ?_; walk_at "fds"))
local macro_rules | `(tactic| walk_at "s1") => `(tactic| first
  | (with_reducible refine r_var ?_ ?_; rfl)
  | with_reducible refine r_bl ?_
  | with_reducible refine r_I0 ?_
  | with_reducible refine r_U ?_
  | (with_reducible refine r_ixTi (by walk_at "fd") (by rfl) ?_)
  | (with_reducible refine r_ixT (by walk_at "fd") (by rfl) ?_)
  | (with_reducible refine r_tru ?_))
local macro_rules | `(tactic| walk_at "ev") => `(tactic| (intro Q q; walk_at "nz"; exact q))

/-! ### keys that are compared at the first place that differs -/
section
open PySem.W
abbrev Sg := Int ⊕ List Nat
abbrev lexS (l m : List Sg) : Bool := PyProof.Rows.lexLt itemOrd l m
mutual
/-- ints, texts, tuples of keys -/
def isK : PyData → Bool
  | .int _ => true
  | .str x => PyData.strOk x
  | .tuple xs => isKs xs
  | _ => false
def isKs : List PyData → Bool
  | [] => true
  | x :: xs => isK x && isKs xs
end
mutual
/-- the first place that differs can be compared -/
def cmpK : PyData → PyData → Bool
  | .int _, .int _ => true
  | .str _, .str _ => true
  | .tuple xs, .tuple ys => cmpKs xs ys
  | _, _ => false
def cmpKs : List PyData → List PyData → Bool
  | x :: xs, y :: ys => if PyData.eqv x y = true then cmpKs xs ys else cmpK x y
  | [], _ => true
  | _ :: _, [] => true
end
theorem isK_cons {x : PyData} {xs : List PyData} (h : isKs (x :: xs) = true) : isK x = true ∧ isKs xs = true := by
  unfold isKs at h
  rwa [Bool.and_eq_true] at h
theorem isK_tup {xs : List PyData} (h : isK (.tuple xs) = true) : isKs xs = true := by
  unfold isK at h
  exact h
mutual
theorem isK_lay : ∀ x : PyData, isK x = true → x.canLay0 = true
  | .int _, _ => by unfold PyData.canLay0; rfl
  | .str _, h => by unfold PyData.canLay0; unfold isK at h; exact h
  | .tuple xs, h => by unfold PyData.canLay0; exact isKs_lay xs (isK_tup h)
  | .none, h => by unfold isK at h; cases h
  | .bool _, h => by unfold isK at h; cases h
  | .list _, h => by unfold isK at h; cases h
  | .dict _, h => by unfold isK at h; cases h
theorem isKs_lay : ∀ xs : List PyData, isKs xs = true → PyData.canLayAll0 xs = true
  | [], _ => by unfold PyData.canLayAll0; rfl
  | x :: xs, h => by
    unfold PyData.canLayAll0
    rw [Bool.and_eq_true]
    exact ⟨isK_lay x (isK_cons h).1, isKs_lay xs (isK_cons h).2⟩
end
mutual
theorem isK_noL : ∀ x : PyData, isK x = true → noL x = true
  | .int _, _ => by unfold noL; rfl
  | .str _, h => by unfold noL; rfl
  | .tuple xs, h => by unfold noL; exact isKs_noL xs (isK_tup h)
  | .none, h => by unfold isK at h; cases h
  | .bool _, h => by unfold isK at h; cases h
  | .list _, h => by unfold isK at h; cases h
  | .dict _, h => by unfold isK at h; cases h
theorem isKs_noL : ∀ xs : List PyData, isKs xs = true → noLs xs = true
  | [], _ => by unfold noLs; rfl
  | x :: xs, h => by
    unfold noLs
    rw [Bool.and_eq_true]
    exact ⟨isK_noL x (isK_cons h).1, isKs_noL xs (isK_cons h).2⟩
end
mutual
theorem eqvK : ∀ x y : PyData, isK x = true → isK y = true → (PyData.eqv x y = true ↔ x = y)
  | .int a, y, _, k => by
    cases y with
    | int b => simp [PyData.eqv]
    | str b => simp [PyData.eqv]
    | tuple b => simp [PyData.eqv]
    | _ => unfold isK at k; cases k
  | .str a, y, _, k => by
    cases y with
    | int b => simp [PyData.eqv]
    | str b => simp [PyData.eqv]
    | tuple b => simp [PyData.eqv]
    | _ => unfold isK at k; cases k
  | .tuple a, y, h, k => by
    cases y with
    | int b => simp [PyData.eqv]
    | str b => simp [PyData.eqv]
    | tuple b =>
      have e := eqvKs a b (isK_tup h) (isK_tup k)
      simp [PyData.eqv, e]
    | _ => unfold isK at k; cases k
  | .none, _, h, _ => by unfold isK at h; cases h
  | .bool _, _, h, _ => by unfold isK at h; cases h
  | .list _, _, h, _ => by unfold isK at h; cases h
  | .dict _, _, h, _ => by unfold isK at h; cases h
theorem eqvKs : ∀ xs ys : List PyData, isKs xs = true → isKs ys = true → (PyData.eqvAll xs ys = true ↔ xs = ys)
  | [], [], _, _ => by simp [PyData.eqvAll]
  | [], _ :: _, _, _ => by simp [PyData.eqvAll]
  | _ :: _, [], _, _ => by simp [PyData.eqvAll]
  | x :: xs, y :: ys, h, k => by
    have e1 := eqvK x y (isK_cons h).1 (isK_cons k).1
    have e2 := eqvKs xs ys (isK_cons h).2 (isK_cons k).2
    simp [PyData.eqvAll, e1, e2]
end
theorem eqvK_refl {x : PyData} (h : isK x = true) : PyData.eqv x x = true := (eqvK x x h h).mpr rfl
theorem eqvK_no {x y : PyData} (h : isK x = true) (k : isK y = true) (n : x ≠ y) : PyData.eqv x y = false := by
  cases e : PyData.eqv x y with
  | false => rfl
  | true => exact absurd ((eqvK x y h k).mp e) n
/-- two rows of signs that differ at a place -/
def Dif (l m : List Sg) : Prop := ∃ (p : List Sg) (a b : Sg) (r t : List Sg), l = p ++ a :: r ∧ m = p ++ b :: t ∧ a ≠ b
theorem Dif.app {l m : List Sg} (h : Dif l m) (u v : List Sg) : Dif (l ++ u) (m ++ v) := by
  obtain ⟨p, a, b, r, t, rfl, rfl, n⟩ := h
  exact ⟨p, a, b, r ++ u, t ++ v, by simp, by simp, n⟩
theorem Dif.pre {l m : List Sg} (h : Dif l m) (u : List Sg) : Dif (u ++ l) (u ++ m) := by
  obtain ⟨p, a, b, r, t, rfl, rfl, n⟩ := h
  exact ⟨u ++ p, a, b, r, t, by simp, by simp, n⟩
theorem lex_lcp (p l m : List Sg) : lexS (p ++ l) (p ++ m) = lexS l m := lex_pre p l m
theorem Dif.lex {l m : List Sg} (h : Dif l m) (u v : List Sg) : lexS (l ++ u) (m ++ v) = lexS l m := by
  obtain ⟨p, a, b, r, t, rfl, rfl, n⟩ := h
  rw [List.append_assoc, List.append_assoc, lex_lcp, lex_lcp]
  exact (lex_diff (O := itemOrd) n).trans (lex_diff (O := itemOrd) n).symm
theorem ka_nil : keyToksAll [] = [Sum.inl 0] := by simp only [keyToksAll]
theorem ka_cons (x : PyData) (xs : List PyData) : keyToksAll (x :: xs) = Sum.inl 1 :: (keyToks x ++ keyToksAll xs) := by simp only [keyToksAll]
theorem ka_tup (xs : List PyData) : keyToks (.tuple xs) = keyToksAll xs := by simp only [keyToks]
mutual
theorem dif_k : ∀ x y : PyData, isK x = true → isK y = true → cmpK x y = true → x ≠ y → Dif (keyToks x) (keyToks y)
  | .int a, y, _, k, c, n => by
    cases y with
    | int b => exact ⟨[], .inl a, .inl b, [], [], by simp [keyToks], by simp [keyToks], fun e => n (by rw [Sum.inl.inj e])⟩
    | _ => first | (unfold cmpK at c; cases c) | (unfold isK at k; cases k)
  | .str a, y, _, k, c, n => by
    cases y with
    | str b => exact ⟨[], .inr a.cps.toList, .inr b.cps.toList, [], [], by simp [keyToks], by simp [keyToks], fun e => n (by rw [str_of_cps (Sum.inr.inj e)])⟩
    | _ => first | (unfold cmpK at c; cases c) | (unfold isK at k; cases k)
  | .tuple a, y, h, k, c, n => by
    cases y with
    | tuple b =>
      rw [ka_tup, ka_tup]
      unfold cmpK at c
      exact dif_ks a b (isK_tup h) (isK_tup k) c fun e => n (by rw [e])
    | _ => first | (unfold cmpK at c; cases c) | (unfold isK at k; cases k)
  | .none, _, h, _, _, _ => by unfold isK at h; cases h
  | .bool _, _, h, _, _, _ => by unfold isK at h; cases h
  | .list _, _, h, _, _, _ => by unfold isK at h; cases h
  | .dict _, _, h, _, _, _ => by unfold isK at h; cases h
theorem dif_ks : ∀ xs ys : List PyData, isKs xs = true → isKs ys = true → cmpKs xs ys = true → xs ≠ ys → Dif (keyToksAll xs) (keyToksAll ys)
  | [], [], _, _, _, n => absurd rfl n
  | [], y :: ys, _, _, _, _ => ⟨[], .inl 0, .inl 1, [], keyToks y ++ keyToksAll ys, by rw [ka_nil]; rfl, by rw [ka_cons]; rfl, by decide⟩
  | x :: xs, [], _, _, _, _ => ⟨[], .inl 1, .inl 0, keyToks x ++ keyToksAll xs, [], by rw [ka_cons]; rfl, by rw [ka_nil]; rfl, by decide⟩
  | x :: xs, y :: ys, h, k, c, n => by
    rw [ka_cons, ka_cons]
    unfold cmpKs at c
    by_cases e : x = y
    · subst e
      rw [eqvK_refl (isK_cons h).1, if_pos rfl] at c
      exact ((dif_ks xs ys (isK_cons h).2 (isK_cons k).2 c fun z => n (by rw [z])).pre (keyToks x)).pre [Sum.inl 1]
    · rw [eqvK_no (isK_cons h).1 (isK_cons k).1 e, if_neg (by decide)] at c
      exact ((dif_k x y (isK_cons h).1 (isK_cons k).1 c e).app _ _).pre [Sum.inl 1]
end
theorem lexK_cons {x y : PyData} {xs ys : List PyData} (h : isK x = true) (k : isK y = true) (c : cmpKs (x :: xs) (y :: ys) = true) :
    (PyData.eqv x y = true → cmpKs xs ys = true ∧ lexS (keyToksAll (x :: xs)) (keyToksAll (y :: ys)) = lexS (keyToksAll xs) (keyToksAll ys)) ∧
    (PyData.eqv x y = false → cmpK x y = true ∧ lexS (keyToksAll (x :: xs)) (keyToksAll (y :: ys)) = dataLt x y) := by
  rw [ka_cons, ka_cons]
  unfold cmpKs at c
  refine ⟨fun e => ?_, fun e => ?_⟩
  · rw [if_pos e] at c
    have e2 := (eqvK x y h k).mp e
    subst e2
    exact ⟨c, (lex_lcp [Sum.inl 1] _ _).trans (lex_lcp (keyToks x) _ _)⟩
  · rw [if_neg (by rw [e]; decide)] at c
    refine ⟨c, (lex_lcp [Sum.inl 1] _ _).trans ?_⟩
    exact (dif_k x y h k c fun z => by subst z; rw [eqvK_refl h] at e; cases e).lex _ _
theorem lexK_first : ∀ xs ys : List PyData, isKs xs = true → isKs ys = true → cmpKs xs ys = true →
    SeqAt.firstLt (SeqAt.pairEq xs ys) (fun j => dataLt (xs.getD j .none) (ys.getD j .none)) (decide (xs.length < ys.length)) (List.range (min xs.length ys.length)) = lexS (keyToksAll xs) (keyToksAll ys)
  | [], [], _, _, _ => by
    have e : lexS (keyToksAll []) (keyToksAll []) = false := lex_irrefl _
    rw [e]
    simp [SeqAt.firstLt]
  | [], y :: ys, _, _, _ => by
    have e : lexS (keyToksAll []) (keyToksAll (y :: ys)) = true := by
      rw [ka_nil, ka_cons]
      exact lex_diff (O := itemOrd) (by decide)
    rw [e]
    simp [SeqAt.firstLt]
  | x :: xs, [], _, _, _ => by
    have e : lexS (keyToksAll (x :: xs)) (keyToksAll []) = false := by
      rw [ka_nil, ka_cons]
      exact lex_diff (O := itemOrd) (by decide)
    rw [e]
    simp [SeqAt.firstLt]
  | x :: xs, y :: ys, h, k, c => by
    obtain ⟨c1, c2⟩ := lexK_cons (isK_cons h).1 (isK_cons k).1 c
    have ed : decide ((x :: xs).length < (y :: ys).length) = decide (xs.length < ys.length) := by simp
    have em : min (x :: xs).length (y :: ys).length = min xs.length ys.length + 1 := by simp only [List.length_cons]; omega
    rw [em, ed, List.range_succ_eq_map]
    cases e : PyData.eqv x y with
    | true =>
      rw [(c1 e).2, ← lexK_first xs ys (isK_cons h).2 (isK_cons k).2 (c1 e).1]
      rw [SeqAt.firstLt_yes (show SeqAt.pairEq (x :: xs) (y :: ys) 0 = true from e), firstLt_map]
      rfl
    | false =>
      rw [(c2 e).2]
      exact SeqAt.firstLt_no (show SeqAt.pairEq (x :: xs) (y :: ys) 0 = false from e)
/-- t < u for tuples: the places ahead of the first one that differs are equal, there < decides -/
theorem tupLt_meets (x y : Addr) (vs ws : Array Value) (n m : Nat) (dx dy : Option Addr) (sx sy : Array (Option Value)) (eq lt : Nat → Bool) :
    Meets (Builtin.«tuple.__lt__» ⟨[.ref x, .ref y], []⟩)
      (fun A R s => s.heap.get? x = some { cls := .type "tuple", dict := dx, data := .seq vs n, slots := sx } ∧
        s.heap.get? y = some { cls := .type "tuple", dict := dy, data := .seq ws m, slots := sy } ∧
        (∀ j (h1 : j < vs.size) (h2 : j < ws.size), SeqAt.EqAt A.in1 s vs[j] ws[j] (eq j)) ∧
        (∀ j (h1 : j < vs.size) (h2 : j < ws.size), (∀ i, i < j → eq i = true) → eq j = false → SeqAt.RcLt A.in1 s vs[j] ws[j] (lt j)) ∧
        R (.ok (.ret (.bool (SeqAt.firstLt eq lt (decide (vs.size < ws.size)) (List.range (min vs.size ws.size)))))) s) :=
  .of_wp fun prog w A R s h => by
    obtain ⟨hp, g, d, tk, os⟩ := s
    obtain ⟨hl, hb, he, hr, h⟩ := h
    have f2 := AutoSeq1.sub_tuple_tuple
    have hZ : (vs.toList.zip ws.toList).length = min vs.size ws.size := by simp
    wp_walk using AutoSeq1.wpAny_loadPart' hl, AutoSeq1.wpAny_loadPart' hb, wpAny_forIn_list _ (fun rest c s' => c.1 = none ∧ s' = ⟨hp, g, d, tk, os⟩ ∧ ∃ i, rest = (vs.toList.zip ws.toList).drop i ∧ (∀ k, k < i → eq k = true) ∧
      R (.ok (.ret (.bool (SeqAt.firstLt eq lt (decide (vs.size < ws.size)) ((List.range (min vs.size ws.size)).drop i))))) ⟨hp, g, d, tk, os⟩) _
    case turn =>
      rintro ⟨p, q⟩ rest c s' ⟨hc, rfl, i, hz, hall, hR⟩
      have hlt : i < (vs.toList.zip ws.toList).length := by
        rcases Nat.lt_or_ge i (vs.toList.zip ws.toList).length with z | z
        · exact z
        · rw [List.drop_of_length_le z] at hz
          cases hz
      have hm : i < min vs.size ws.size := hZ ▸ hlt
      have h1 : i < vs.size := Nat.lt_of_lt_of_le hm (Nat.min_le_left _ _)
      have h2 : i < ws.size := Nat.lt_of_lt_of_le hm (Nat.min_le_right _ _)
      rw [List.drop_eq_getElem_cons hlt] at hz
      injection hz with hpq hrest
      have hp1 : p = vs[i] := by simpa using congrArg Prod.fst hpq
      have hq1 : q = ws[i] := by simpa using congrArg Prod.snd hpq
      subst hp1 hq1
      have hd : (List.range (min vs.size ws.size)).drop i = i :: (List.range (min vs.size ws.size)).drop (i + 1) := by
        simp [List.drop_eq_getElem_cons, hm]
      rw [hd] at hR
      refine wpAny_bind (he i h1 h2 prog w _ _ ?_)
      cases hq : eq i with
      | true =>
        rw [SeqAt.firstLt_yes hq] at hR
        wp_walk
        refine ⟨rfl, rfl, i + 1, hrest, fun k hk => ?_, hR⟩
        rcases Nat.lt_succ_iff_lt_or_eq.mp hk with z | z
        · exact hall k z
        · rw [z]; exact hq
      | false =>
        rw [SeqAt.firstLt_no hq] at hR
        have hr' : ∀ (E Q : Value → Shared → Prop), Q (.bool (lt i)) ⟨hp, g, d, tk, os⟩ → wpAny (model prog w) A.in1 (richCompare .Lt vs[i] ws[i]) Q E ⟨hp, g, d, tk, os⟩ := hr i h1 h2 hall hq prog w
        generalize richCompare .Lt vs[i] ws[i] = G at hr' ⊢
        wp_walk
        refine hr' _ _ ?_
        wp_walk
        exact ⟨_, rfl, hR⟩
    case fin =>
      rintro ⟨c1, c2⟩ s' ⟨hc, rfl, i, hz, _, hR⟩
      simp only at hc
      subst hc
      have hge : min vs.size ws.size ≤ i := by
        rcases Nat.lt_or_ge i (vs.toList.zip ws.toList).length with z | z
        · rw [List.drop_eq_getElem_cons z] at hz
          cases hz
        · exact hZ ▸ z
      rw [List.drop_of_length_le (by simpa using hge)] at hR
      wp_walk
      exact ⟨_, rfl, by simpa [Builtin.Tuple.tupleCompareSizes, SeqAt.firstLt] using hR⟩
    case h =>
      exact ⟨rfl, rfl, 0, rfl, fun _ z => absurd z (Nat.not_lt_zero _), by simpa using h⟩
theorem tupLt {A : Around} {s : Shared} {x y : Addr} {vs ws : Array Value} {eq lt : Nat → Bool} (hx : s.heap.IsTuple x vs) (hy : s.heap.IsTuple y ws) (hu : A.units < cLine)
    (he : ∀ j (h1 : j < vs.size) (h2 : j < ws.size), SeqAt.EqAt A.in1 s vs[j] ws[j] (eq j)) (hr : ∀ j (h1 : j < vs.size) (h2 : j < ws.size), (∀ i, i < j → eq i = true) → eq j = false → SeqAt.RcLt A.in1 s vs[j] ws[j] (lt j)) :
    SeqAt.RcLt A s (.ref x) (.ref y) (SeqAt.firstLt eq lt (decide (vs.size < ws.size)) (List.range (min vs.size ws.size))) := fun prog w E Q h => by
  obtain ⟨⟨c1, d1, a1, s1⟩, o1, e1, n1, f1⟩ := id hx
  obtain ⟨⟨c2, d2, a2, s2⟩, o2, e2, n2, f2⟩ := id hy
  simp only at e1 f1 e2 f2
  subst e1 f1 e2 f2
  refine richCompare_meets_room (op := .Lt) ⟨_, o1, rfl⟩ ⟨_, o2, rfl⟩ F.slot_tuple_lt F.entry_tuple_lt (F.args_tuple_lt_2 _ _) (tupLt_meets x y vs ws n1 n2 d1 d2 s1 s2 eq lt) ⟨o1, o2, he, hr, ?_⟩ hu
  exact ⟨fun z => (nomatch z), h⟩
mutual
/-- a < b -/
theorem rcK : ∀ (da db : PyData) (A : Around) (s : Shared) (a b : Value) (as bs : List Addr), Reads s.heap a da as → Reads s.heap b db bs → isK da = true → isK db = true → cmpK da db = true → A.units + min da.depth db.depth < cLine → SeqAt.RcLt A s a b (dataLt da db)
  | .int x, db, A, s, a, b, as, bs, ra, rb, _, k, c, u => by
    cases db with
    | int y => exact rcLt_alike (.int x) (.int y) A s a b as bs ra rb (by simp [alike]) (by simp) u
    | _ => first | (unfold cmpK at c; cases c) | (unfold isK at k; cases k)
  | .str x, db, A, s, a, b, as, bs, ra, rb, _, k, c, u => by
    cases db with
    | str y => exact rcLt_alike (.str x) (.str y) A s a b as bs ra rb (by simp [alike]) (by simp) u
    | _ => first | (unfold cmpK at c; cases c) | (unfold isK at k; cases k)
  | .tuple xs, db, A, s, a, b, as, bs, ra, rb, h, k, c, u => by
    cases db with
    | tuple ys =>
      unfold cmpK at c
      cases ra with
      | @tuple l o vs n _ as1 h1 h2 h3 h4 =>
        cases rb with
        | @tuple l' o' vs' n' _ bs1 k1 k2 k3 k4 =>
          have n1 : vs.size = xs.length := by simpa using SeqAt.ReadsAll.length _ _ _ h4
          have n2 : vs'.size = ys.length := by simpa using SeqAt.ReadsAll.length _ _ _ k4
          rw [dataLt_tuple]
          show SeqAt.RcLt A s _ _ (lexS _ _)
          rw [← lexK_first xs ys (isK_tup h) (isK_tup k) c, ← n1, ← n2]
          refine tupLt (eq := SeqAt.pairEq xs ys) (lt := fun j => dataLt (xs.getD j .none) (ys.getD j .none)) ⟨_, h1, h2, _, h3⟩ ⟨_, k1, k2, _, k3⟩ (SeqAt.room_here u) (fun j j1 j2 => ?_) fun j j1 j2 hall hj => ?_
          · have z := SeqAt.eqAt_readsAll xs ys A.in1 s vs.toList vs'.toList _ _ h4 k4 (isKs_lay xs (isK_tup h)) (isKs_lay ys (isK_tup k)) (SeqAt.room_in u) j (by simpa using j1) (by simpa using j2)
            simpa using z
          · have z := rcKs xs ys A.in1 s vs.toList vs'.toList _ _ h4 k4 (isK_tup h) (isK_tup k) c (SeqAt.room_in u) j (by simpa using j1) (by simpa using j2) hall hj
            simpa using z
    | _ => first | (unfold cmpK at c; cases c) | (unfold isK at k; cases k)
  | .none, _, _, _, _, _, _, _, _, _, h, _, _, _ => by unfold isK at h; cases h
  | .bool _, _, _, _, _, _, _, _, _, _, h, _, _, _ => by unfold isK at h; cases h
  | .list _, _, _, _, _, _, _, _, _, _, h, _, _, _ => by unfold isK at h; cases h
  | .dict _, _, _, _, _, _, _, _, _, _, h, _, _, _ => by unfold isK at h; cases h
theorem rcKs : ∀ (xs ys : List PyData) (A : Around) (s : Shared) (vs ws : List Value) (as bs : List Addr), ReadsAll s.heap vs xs as → ReadsAll s.heap ws ys bs → isKs xs = true → isKs ys = true → cmpKs xs ys = true →
    A.units + min (PyData.depthAll xs) (PyData.depthAll ys) < cLine → ∀ j (h1 : j < vs.length) (h2 : j < ws.length), (∀ i, i < j → SeqAt.pairEq xs ys i = true) → SeqAt.pairEq xs ys j = false → SeqAt.RcLt A s vs[j] ws[j] (dataLt (xs.getD j .none) (ys.getD j .none))
  | [], _, _, _, _, _, _, _, ra, _, _, _, _, _, j, h1, _, _, _ => by cases ra; exact absurd h1 (Nat.not_lt_zero _)
  | _ :: _, [], _, _, _, _, _, _, _, rb, _, _, _, _, j, _, h2, _, _ => by cases rb; exact absurd h2 (Nat.not_lt_zero _)
  | x :: xs, y :: ys, A, s, _, _, _, _, ra, rb, h, k, c, u, j, h1, h2, hall, hj => by
    obtain ⟨c1, c2⟩ := lexK_cons (isK_cons h).1 (isK_cons k).1 c
    cases ra with
    | cons r rs =>
      cases rb with
      | cons r' rs' =>
        cases j with
        | zero => exact rcK x y A s _ _ _ _ r r' (isK_cons h).1 (isK_cons k).1 (c2 hj).1 (SeqAt.room_head u)
        | succ j => exact rcKs xs ys A s _ _ _ _ rs rs' (isK_cons h).2 (isK_cons k).2 (c1 (hall 0 (Nat.succ_pos _))).1 (SeqAt.room_tail u) j (Nat.lt_of_succ_lt_succ h1) (Nat.lt_of_succ_lt_succ h2) (fun i hi => hall (i + 1) (Nat.succ_lt_succ hi)) hj
end
end

/-! ### sorting by such keys -/
section
open PySem.W PySem.Calls
variable {prog : Program} {w : World} {A : Around} {E : Value → Shared → Prop} {s : Shared}
theorem oneK {f : Bool} {da db : PyData} {a b : Value} {as bs : List Addr} {Q : Bool → Shared → Prop} (hf : f = true → ∀ xs, da ≠ .tuple xs) (ra : Reads s.heap a da as) (rb : Reads s.heap b db bs) (h : isK da = true) (k : isK db = true) (c : cmpK da db = true)
    (hu : A.units + min da.depth db.depth < cLine) (hq : Q (dataLt da db) s) : wpAny (model prog w) A (oneLt' f a b) Q E s := by
  cases f with
  | false =>
    rw [oneLt'_eq]
    simp only [Bool.false_eq_true, if_false]
    exact wpAny_bind (rcK da db A s a b as bs ra rb h k c hu prog w E _ (wpAny_truthy_bool hq))
  | true =>
    cases da with
    | int x =>
      cases db with
      | int y => exact oneLt_alike (f := true) (fun _ xs => by simp) ra rb (by simp [alike]) (by simp) hu hq
      | _ => first | (unfold cmpK at c; cases c) | (unfold isK at k; cases k)
    | str x =>
      cases db with
      | str y => exact oneLt_alike (f := true) (fun _ xs => by simp) ra rb (by simp [alike]) (by simp) hu hq
      | _ => first | (unfold cmpK at c; cases c) | (unfold isK at k; cases k)
    | tuple xs => exact absurd rfl (hf rfl xs)
    | _ => unfold isK at h; cases h
theorem katK {b fin : Bool} {Q : Bool → Shared → Prop} : ∀ (xs ys : List PyData) (i : Nat) (vs ws : List Value) (as bs : List Addr), ReadsAll s.heap vs xs as → ReadsAll s.heap ws ys bs → isKs xs = true → isKs ys = true → cmpKs xs ys = true →
    A.units + min (PyData.depthAll xs) (PyData.depthAll ys) < cLine → (b = true → i = 0 → ∀ x r t, xs = x :: r → x ≠ .tuple t) → fin = decide (xs.length < ys.length) → Q (lexS (keyToksAll xs) (keyToksAll ys)) s → KatLex prog w A b fin Q (vs.zip ws) i s
  | [], [], i, _, _, _, _, ra, rb, _, _, _, _, _, hf, hq => by
    cases ra
    cases rb
    subst hf
    have e : lexS (keyToksAll []) (keyToksAll []) = false := lex_irrefl _
    rw [e] at hq
    exact kat_nil hq
  | [], y :: ys, i, _, _, _, _, ra, rb, _, _, _, _, _, hf, hq => by
    cases ra
    subst hf
    have e : lexS (keyToksAll []) (keyToksAll (y :: ys)) = true := by
      rw [ka_nil, ka_cons]
      exact lex_diff (O := itemOrd) (by decide)
    rw [e] at hq
    rw [List.zip_nil_left]
    exact kat_nil (by simpa using hq)
  | x :: xs, [], i, _, _, _, _, ra, rb, _, _, _, _, _, hf, hq => by
    cases rb
    subst hf
    have e : lexS (keyToksAll (x :: xs)) (keyToksAll []) = false := by
      rw [ka_nil, ka_cons]
      exact lex_diff (O := itemOrd) (by decide)
    rw [e] at hq
    rw [List.zip_nil_right]
    exact kat_nil (by simpa using hq)
  | x :: xs, y :: ys, i, _, _, _, _, ra, rb, h, k, c, hu, hb, hf, hq => by
    obtain ⟨c1, c2⟩ := lexK_cons (isK_cons h).1 (isK_cons k).1 c
    have hf' : fin = decide (xs.length < ys.length) := by
      rw [hf]
      simp only [List.length_cons, Nat.add_lt_add_iff_right]
    cases ra with
    | cons r rs =>
      cases rb with
      | cons r' rs' =>
        rw [List.zip_cons_cons]
        refine kat_cons (SeqAt.eqAt_reads x y A s _ _ _ _ r r' (isK_lay x (isK_cons h).1) (isK_lay y (isK_cons k).1) (SeqAt.room_head hu) prog w _ _ ?_)
        cases e : PyData.eqv x y with
        | true =>
          rw [(c1 e).2] at hq
          exact kat_yes (katK xs ys (i + 1) _ _ _ _ rs rs' (isK_cons h).2 (isK_cons k).2 (c1 e).1 (SeqAt.room_tail hu) (fun _ z => absurd z (Nat.succ_ne_zero i)) hf' hq)
        | false =>
          rw [(c2 e).2] at hq
          refine kat_no (oneK (fun z t => ?_) r r' (isK_cons h).1 (isK_cons k).1 (c2 e).1 (SeqAt.room_head hu) hq)
          rw [Bool.and_eq_true] at z
          exact hb z.1 (by simpa using z.2) x xs t rfl
/-- keys by which a list can be sorted -/
structure KOk (ds : List PyData) : Prop where
  isk : ∀ d, d ∈ ds → isK d = true ∧ d.depth ≤ 60
  cmp : ∀ d, d ∈ ds → ∀ d', d' ∈ ds → cmpK d d' = true
  kind : ds.length ≤ 1 ∨ (∃ T, ∀ d, d ∈ ds → ∃ x r, d = .tuple (x :: r) ∧ dataType x = T) ∨ ∃ T, (T != Value.type "tuple") = true ∧ ∀ d, d ∈ ds → dataType d = T
theorem kind_of {h : Heap} {ds : List PyData} {v : Value} {d : PyData} {as : List Addr} (hd : d ∈ ds) (r : Reads h v d as) : (dataKind h ds).keyOf v = some (keyToks d) := by
  have q : ∃ d, d ∈ ds ∧ ∃ as, Reads h v d as := ⟨d, hd, as, r⟩
  have e : (dataKind h ds).keyOf v = some (keyToks q.choose) := by
    unfold dataKind
    exact dif_pos q
  obtain ⟨_, as', r2⟩ := q.choose_spec
  rw [e, (Reads.unique r2 _ _ r).1]
theorem sortsK {vs : List Value} {ds : List PyData} (e : EachIs (fun v d => ∃ as, Reads s.heap v d as) vs ds) (ok : KOk ds) (hu : A.units + 64 < cLine) : SortsAt prog w A s (dataKind s.heap ds) vs := by
  have room : ∀ {d d' : PyData}, d ∈ ds → A.units + min d.depth d'.depth < cLine := fun {d d'} hd => by
    have h1 := (ok.isk d hd).2
    have h2 := Nat.min_le_left d.depth d'.depth
    omega
  refine ⟨fun v hv => ?_, ?_⟩
  · obtain ⟨d, hd, as, r⟩ := e.left v hv
    exact ⟨_, kind_of hd r⟩
  rcases ok.kind with h1 | ⟨T, hT⟩ | ⟨T, nT, hT⟩
  · refine ⟨general', fun E x y a b Q ha hb hq => ?_, fun h2 => absurd h2 (by rw [e.length]; omega)⟩
    obtain ⟨d, as, hd, ra, rfl⟩ := dataKind_inv ha
    obtain ⟨d', as', hd', rb, rfl⟩ := dataKind_inv hb
    show wpAny (model prog w) A (oneLt' false x y) Q E s
    exact oneK (fun z => nomatch z) ra rb (ok.isk d hd).1 (ok.isk d' hd').1 (ok.cmp d hd d' hd') (room hd) hq
  · refine ⟨tuples' (T != Value.type "tuple"), fun E x y a b Q ha hb hq => ?_, fun h2 E Q hq => ?_⟩
    · obtain ⟨d, as, hd, ra, rfl⟩ := dataKind_inv ha
      obtain ⟨d', as', hd', rb, rfl⟩ := dataKind_inv hb
      have hr := room (d' := d') hd
      have hc := ok.cmp d hd d' hd'
      have i1 := (ok.isk d hd).1
      have i2 := (ok.isk d' hd').1
      obtain ⟨x1, r1, rfl, t1⟩ := hT d hd
      obtain ⟨x2, r2, rfl, t2⟩ := hT d' hd'
      have hq2 : Q (dataLt (.tuple (x1 :: r1)) (.tuple (x2 :: r2))) s := hq
      rw [dataLt_tuple] at hq2
      unfold cmpK at hc
      cases ra with
      | @tuple l o xs n _ _ g1 g2 g3 g4 =>
        cases rb with
        | @tuple l' o' xs' n' _ _ k1 k2 k3 k4 =>
          have n1 : xs.size = (x1 :: r1).length := by simpa using SeqAt.ReadsAll.length _ _ _ g4
          have n2 : xs'.size = (x2 :: r2).length := by simpa using SeqAt.ReadsAll.length _ _ _ k4
          have hr2 := SeqAt.room_in hr
          refine kat_lt g1 g3 k1 k3 (katK (x1 :: r1) (x2 :: r2) 0 _ _ _ _ g4 k4 (isK_tup i1) (isK_tup i2) hc ?_ (fun hb _ x r t ex => ?_) (by rw [n1, n2]) hq2)
          · have e1 : A.in1.units = A.units + 1 := rfl
            omega
          · obtain ⟨rfl, rfl⟩ := List.cons.inj ex
            rw [← t1] at hb
            exact dataType_tuple hb t
    · obtain ⟨fs, t1, t2, t3⟩ := each_katTups e fun d hd => by
        obtain ⟨x, r, q, _⟩ := hT d hd
        exact ⟨x, r, q⟩
      refine kat_kind (T := T) t1 (by omega) (fun f hf => ?_) (beq_self_eq_true _) hq
      obtain ⟨x, r, as, m1, m2⟩ := t3 f hf
      obtain ⟨x', r', q, q2⟩ := hT _ m1
      injection q with q
      injection q with q3 q4
      rw [← q2, ← q3]
      exact looks_reads m2
  · refine ⟨oneType', fun E x y a b Q ha hb hq => ?_, fun h2 E Q hq => ?_⟩
    · obtain ⟨d, as, hd, ra, rfl⟩ := dataKind_inv ha
      obtain ⟨d', as', hd', rb, rfl⟩ := dataKind_inv hb
      rw [keyLt'_oneType]
      exact oneK (fun _ => dataType_tuple (by rw [hT d hd]; exact nT)) ra rb (ok.isk d hd).1 (ok.isk d' hd').1 (ok.cmp d hd d' hd') (room hd) hq
    · refine kas_kind (T := T) h2 (fun v hv => ?_) nT (beq_self_eq_true _) hq
      obtain ⟨d, hd, as, r⟩ := e.left v hv
      rw [← hT d hd]
      exact looks_reads r
end

/-! ### sorted(l, key=f), f a def -/
section
open PySem.W PySem.Calls
variable {prog : Program} {w : World} {A : Around} {E : Value → Shared → Prop} {s : Shared} {P : PySem.Fin → Shared → Prop}
/-- what lies behind a sort: the keys' list is empty, the list holds out, all else stays -/
def SrtEnd (a kS : Addr) (out : List Value) (s : Shared) (P : PySem.Fin → Shared → Prop) : Prop :=
  ∀ (g1 g2 : Heap) (tk c d : Nat), (∀ b o, b ≠ kS → s.heap.get? b = some o → g1.get? b = some o) → g1.get? kS = some (seqObj "list" #[] c) → (∀ b o, b ≠ a → g1.get? b = some o → g2.get? b = some o) → g2.get? a = some (seqObj "list" out.toArray d) →
    P (.done (.ret .none)) { s with heap := g2, toks := tk }
theorem srt_tail {a kS : Addr} {b : Bool} {ks : Array Value} {n m : Nat} {st : SortSt} {out : List Value} (nk : s.heap.get? kS = some (seqObj "list" ks n)) (na : s.heap.get? a = some (seqObj "list" #[] m)) (hne : kS ≠ a)
    (z1 : ks.size ≤ sizeLine) (z2 : out.length ≤ sizeLine) (nf : failedOf st = none) (ho : (if b = true then ((arrOf st).map (·.2)).reverse else (arrOf st).map (·.2)) = out.toArray) (h : SrtEnd a kS out s P) : wpAny (model prog w) A (ksk_tail a b m (.ref kS) st) P E s := by
  have k1 := Heap.SameBut.update s.heap kS (Obj.mapSeq fun _ => (#[] : Array Value))
  obtain ⟨c, hc⟩ : ∃ c, (s.heap.update kS (Obj.mapSeq fun _ => (#[] : Array Value))).get? kS = some (seqObj "list" #[] c) := ⟨_, get?_update_seq nk fun _ => (#[] : Array Value)⟩
  generalize hg : s.heap.update kS (Obj.mapSeq fun _ => (#[] : Array Value)) = g at k1 hc
  have n1 : g.get? a = some (seqObj "list" #[] m) := (k1.2 a hne.symm).trans na
  have k2 := Heap.SameBut.update g a (Obj.mapSeq fun _ => out.toArray)
  obtain ⟨d, hd⟩ : ∃ d, (g.update a (Obj.mapSeq fun _ => out.toArray)).get? a = some (seqObj "list" out.toArray d) := ⟨_, get?_update_seq n1 fun _ => out.toArray⟩
  have z3 : out.toArray.size ≤ sizeLine + 1 := by rw [List.size_toArray]; omega
  unfold ksk_tail
  try dsimp only
  rw [ho]
  refine wpAny_bind (listUpdate_at nk rfl (hsz := z1) (hsz2 := Nat.zero_le _) ?_)
  rw [hg]
  refine wpAny_bind (wpAny_letGo (wpAny_bind (seqEpoch_at n1 rfl (wpAny_bind (listUpdate_at n1 rfl (hsz := Nat.zero_le _) (hsz2 := z3) ?_)))))
  rw [nf]
  simp only [bne_self_eq_false, Bool.false_eq_true, ↓reduceIte]
  exact wpAny_pure (h g _ s.toks c d (fun b o n e => (k1.2 b n).trans e) hc (fun b o n e => (k2.2 b n).trans e) hd)
theorem srt_end {κ : PyProof.Rows.KeyKind} {a kS : Addr} {b : Bool} {ks : Array Value} {vs : List Value} {n m : Nat} (nk : s.heap.get? kS = some (seqObj "list" ks n)) (na : s.heap.get? a = some (seqObj "list" #[] m)) (hne : kS ≠ a)
    (S : SortsAt prog w A s κ ks.toList) (hsz : ks.size = vs.length) (hZ : vs.length ≤ sizeLine) (h : SrtEnd a kS (sortVals κ b ks.toList vs) s P) : wpAny (model prog w) A (ksk_end a b vs.toArray m (.ref kS) ks) P E s := by
  obtain ⟨kd, h1, h2⟩ := S.kind
  have hl : ks.toList.length = vs.length := by rw [Array.length_toList, hsz]
  have hK := keysOf_zip (vs := vs) S.keys
  have zo : (sortVals κ b ks.toList vs).length ≤ sizeLine := by rw [sortVals_length b hl]; exact hZ
  have zk : ks.size ≤ sizeLine := by rw [hsz]; exact hZ
  obtain ⟨a0, e0⟩ : ∃ a0, (if b = true then (ks.zip vs.toArray).reverse else ks.zip vs.toArray) = a0 := ⟨_, rfl⟩
  have pm : a0.Perm (ks.zip vs.toArray) := by
    rw [← e0]
    cases b with
    | false => exact Array.Perm.refl _
    | true => exact Array.perm_iff_toList_perm.mpr (by rw [if_pos rfl, Array.toList_reverse]; exact List.reverse_perm _)
  have sz : a0.size = vs.length := by rw [pm.size_eq, Array.size_zip, hsz, List.size_toArray, Nat.min_self]
  have fin : ∀ st : SortSt, (arrOf st).Perm a0 → SortedToK κ (arrOf st) a0.size → Stable κ (arrOf st) a0 → (if b = true then ((arrOf st).map (·.2)).reverse else (arrOf st).map (·.2)) = (sortVals κ b ks.toList vs).toArray := by
    intro st p1 p2 p3
    rw [← e0] at p1 p2 p3
    have e := congrArg List.toArray (sort_out (rev := b) (keys := ks) (items := vs.toArray) (xs := arrOf st) (κ := κ) hK p1 p2 p3)
    rwa [Array.toArray_toList] at e
  have skip : ∀ t : Sem PySem.Fin, wpAny (model prog w) A t P E s → wpAny (model prog w) A (if b = true then (do let _ ← rule "list.sort.reverse"; t) else t) P E s := by
    intro t ht
    cases b with
    | true => exact wpAny_bind (wpAny_rule ht)
    | false => exact ht
  unfold ksk_end
  try dsimp only
  refine skip _ ?_
  rw [e0]
  by_cases h3 : vs.toArray.size < 2
  · rw [if_pos h3, if_pos h3]
    refine wpAny_bind (wpAny_pure ?_)
    rw [StateT.run_pure]
    refine wpAny_bind (wpAny_pure ?_)
    try dsimp only
    refine srt_tail (st := SortSt.mk' general' a0 #[] 7 none) nk na hne zk zo rfl (fin _ (Array.Perm.refl _) (fun i j hi hj => ?_) (Stable.refl _)) h
    rw [sz] at hj
    rw [List.size_toArray] at h3
    have : i = j := by omega
    subst this
    exact KeyOrd.kle_refl _
  · rw [if_neg h3, if_neg h3]
    rw [List.size_toArray] at h3
    refine wpAny_bind (h2 (by omega) _ (wpAny_bind (wpAny_mono (Q := fun (r : Unit × SortSt) s' => s' = s ∧ failedOf r.2 = none ∧ (if b = true then ((arrOf r.2).map (·.2)).reverse else (arrOf r.2).map (·.2)) = (sortVals κ b ks.toList vs).toArray) (E := E) ?_ ?_ fun _ _ e => e)))
    · refine wpAny_mono (H.wpS_sortRunsSt (κ := κ) (kd := kd) (a₀ := a0) (st := SortSt.mk' kd a0 #[] 7 none) (Q := fun _ st => failedOf st = none ∧ (if b = true then ((arrOf st).map (·.2)).reverse else (arrOf st).map (·.2)) = (sortVals κ b ks.toList vs).toArray)
        h1 (hK.perm pm) ⟨Array.Perm.refl _, rfl, rfl⟩ rfl (Stable.refl _) (by rw [sz]; omega) fun st q1 q2 q3 q4 => ⟨q2, fin st q1 q3 q4⟩) ?_ fun _ _ e => e
      rintro ⟨⟨⟩, st⟩ s2 ⟨rfl, hf, ho⟩
      exact ⟨rfl, hf, ho⟩
    · rintro ⟨⟨⟩, st⟩ s2 ⟨rfl, hf, ho⟩
      try dsimp only at ho hf ⊢
      exact srt_tail nk na hne zk zo hf ho h
end

section
open PySem.W PySem.Calls
variable {X : Cx} {pins : List (Addr × Obj)} {σ : L2.St} {H : Hp} {s : Shared} {k : Nat} {f : Addr} {fd : FuncData} {ps : List Str} {sp : Sp} {β : Type} {R : V → β → Prop} {key : β → PyData} {bs : List β} {xs : List V} {vs : List Value} {a kS : Addr} {b : Bool}
theorem each_take {α γ : Type} {R : α → γ → Prop} {x : α} {y : γ} : ∀ {as : List α} {cs : List γ}, EachIs R as cs → R x y → EachIs R (as ++ [x]) (cs ++ [y])
  | _, _, .nil, h => .cons h .nil
  | _, _, .cons h t, q => .cons h (each_take t q)
theorem each_at {α γ : Type} {R : α → γ → Prop} : ∀ {as : List α} {cs : List γ}, EachIs R as cs → ∀ {i : Nat} {x : α} {y : γ}, as[i]? = some x → cs[i]? = some y → R x y
  | _, _, .nil, i, x, y, h, _ => by simp at h
  | _, _, .cons h t, 0, x, y, hx, hy => by
    cases Option.some.inj hx
    cases Option.some.inj hy
    exact h
  | _, _, .cons h t, i + 1, x, y, hx, hy => each_at t (i := i) (by simpa using hx) (by simpa using hy)
theorem vals_at : ∀ {xs : List V} {vs : List Value}, Vals xs vs → ∀ {i : Nat} {v : Value}, vs[i]? = some v → ∃ x, xs[i]? = some x ∧ RelV x v
  | _, _, .nil, i, v, h => by simp at h
  | _, _, .cons h t, 0, v, hv => by
    cases Option.some.inj hv
    exact ⟨_, rfl, h⟩
  | _, _, .cons h t, i + 1, v, hv => by
    obtain ⟨x, e, r⟩ := vals_at t (i := i) (by simpa using hv)
    exact ⟨x, by simpa using e, r⟩
theorem vals_snoc {x : V} {v : Value} : ∀ {xs : List V} {vs : List Value}, Vals xs vs → RelV x v → Vals (xs ++ [x]) (vs ++ [v])
  | _, _, .nil, h => .cons h .nil
  | _, _, .cons h t, q => .cons h (vals_snoc t q)
theorem each_up {α γ δ : Type} {R : α → γ → Prop} {S : δ → α → Prop} : ∀ {ds : List δ} {as : List α} {cs : List γ}, EachIs S ds as → EachIs R as cs → EachIs (fun d c => ∃ x, S d x ∧ R x c) ds cs
  | _, _, _, .nil, .nil => .nil
  | _, _, _, .cons h t, .cons h' t' => .cons ⟨_, h, h'⟩ (each_up t t')
theorem vals_each : ∀ {xs : List V} {vs : List Value}, Vals xs vs → EachIs (fun v x => RelV x v) vs xs
  | _, _, .nil => .nil
  | _, _, .cons h t => .cons h (vals_each t)
theorem each_vals {γ : Type} {R : V → γ → Prop} : ∀ {vs : List Value} {cs : List γ}, EachIs (fun v c => ∃ x, RelV x v ∧ R x c) vs cs → ∃ xs, Vals xs vs ∧ EachIs R xs cs
  | _, _, .nil => ⟨[], .nil, .nil⟩
  | _, _, .cons ⟨x, h, h'⟩ t => by
    obtain ⟨xs, q, q'⟩ := each_vals t
    exact ⟨x :: xs, .cons h q, .cons h' q'⟩
theorem each_noL {K : Fg} {H H' : Hp} (e : TSame K H H') : ∀ {ks : List V} {cs : List β}, (∀ c, c ∈ cs → noL (key c) = true) → EachIs (fun y c => Dp K H y (key c)) ks cs → EachIs (fun y c => Dp K H' y (key c)) ks cs
  | _, _, _, .nil => .nil
  | _, _, n, .cons h t => .cons (dp_monoT e _ _ (n _ List.mem_cons_self) h) (each_noL e (fun c hc => n c (List.mem_cons_of_mem _ hc)) t)
/-- the key's call, inside the sort -/
theorem key_call (F : FnOk X.prog X.w X.K X.mg X.base CX0 k f fd ps sp) (hr : Room (k + 2) X.A) (hb : Binds X.K fd ps []) (I : Inv X pins σ H s) {x : V} {v : Value} {Q : VK} (r : RelV x v) (h : sp [x] H Q fun _ _ _ => False) :
    wpAny (model X.prog X.w) X.A.in1.in1 (call (.ref f) [v]) (EP X pins σ Q) (fun _ _ => False) s := by
  have hl : ([v] ++ ([] : List Value)).length = ps.length := F.len _ _ _ _ h
  have hr2 : Room k X.A.in1.in1 := Room.in1 (Room.in1 hr)
  refine wpAny_call (codeAny_mono (F.run X.A.in1.in1 X.stack s H ⟨[v], []⟩ ([v] ++ []) [x] Q (fun _ _ _ => False) hr2 I.env0.in1.in1 (hb s [v] I.kIn hl) (.cons r .nil) h) fun r s' hq => ?_)
  cases r with
  | error e => exact hq.elim
  | ok fl =>
    cases fl with
    | ret u => exact I.after hq
    | next => exact hq.elim
    | brk => exact hq.elim
    | cont => exact hq.elim
theorem srt_rest {H0 : Hp} {m : Nat} {Pn : PySem.Fin → Shared → Prop} {E : Value → Shared → Prop} (F : FnOk X.prog X.w X.K X.mg X.base CX0 k f fd ps sp) (hr : Room (k + 2) X.A) (hb : Binds X.K fd ps [])
    (I : Inv X ((a, seqObj "list" #[] m) :: pins) σ H s) (fp : FpOk X pins H0 a) (hk : H kS = some (.lst [])) (h0 : H0 kS = none) (hs : Same H0 H) (rv : Vals xs vs) (re : EachIs R xs bs) (hZ : xs.length ≤ 1000000) (ok : KOk (bs.map key))
    (turn : ∀ (i : Nat) (x : V) (c : β) (H' : Hp), xs[i]? = some x → bs[i]? = some c → Same H0 H' → ∀ Q : VK, (∀ y H'', Same H' H'' → Dp X.K H'' y (key c) → Q y H'') → sp [x] H' Q fun _ _ _ => False)
    (h : ∀ H' ys s', Inv X pins σ H' s' → Same H0 H' → H' a = some (.lst ys) → EachIs R ys (bs.mergeSort (dataLe b key)) → Pn (.done (.ret .none)) s') :
    wpAny (model X.prog X.w) X.A.in1.in1 (ksk_rest a (.ref f) b vs.toArray m (.ref kS)) Pn E s := by
  have hlen : xs.length = bs.length := re.length
  have hvl : xs.length = vs.length := rv.length
  have nl : ∀ c, c ∈ bs → noL (key c) = true := fun c hc => isK_noL _ (ok.isk _ (List.mem_map_of_mem hc)).1
  have hne : kS ≠ a := by
    intro e
    rw [e] at hk
    have z := (I.pin (a, seqObj "list" #[] m) (List.mem_append_right _ List.mem_cons_self)).2.1
    rw [show H a = none from z] at hk
    cases hk
  have sl : (1000000 : Nat) ≤ sizeLine := by rw [sizeLine_eq]; omega
  unfold ksk_rest
  refine wpAny_bind (wpAny_rule ?_)
  first
    | rw [List.forIn_toArray]
    | (rw [← Array.forIn_toList]; simp only [List.toList_toArray])
    | rw [← Array.forIn_toList]
  refine wpAny_bind (ksk_fold (fun i s' => ∃ H' ks, Inv X ((a, seqObj "list" #[] m) :: pins) σ H' s' ∧ H' kS = some (.lst ks) ∧ Same H0 H' ∧ EachIs (fun y c => Dp X.K H' y (key c)) ks (bs.take i)) vs 0 s
    ⟨H, [], I, hk, hs, by rw [List.take_zero]; exact .nil⟩ ?stp ?dn)
  case stp =>
    rintro j v s' hv ⟨H', ks, I', hk', hs', he⟩
    simp only [Nat.zero_add] at he ⊢
    obtain ⟨x, hx, hrel⟩ := vals_at rv hv
    have hj : j < xs.length := (List.getElem?_eq_some_iff.mp hx).1
    obtain ⟨c, hc⟩ : ∃ c, bs[j]? = some c := ⟨_, List.getElem?_eq_getElem (by omega)⟩
    have hkl : ks.length < 1000000 := by
      have z := he.length
      rw [List.length_take] at z
      omega
    refine wpAny_bind (wpAny_attempt (wpAny_mono (key_call F hr hb I' hrel (turn j x c H' hx hc hs' (fun y H'' => Same H' H'' ∧ Dp X.K H'' y (key c)) fun y H'' q1 q2 => ⟨q1, q2⟩)) (fun u s2 hu => ?_) fun _ _ z => z.elim))
    obtain ⟨y, H'', I2, ry, sm, dy⟩ := hu
    try dsimp only
    have hk2 : H'' kS = some (.lst ks) := sm _ _ hk'
    obtain ⟨_, its, n, rk, hg⟩ := (show ObjOk X.prog X.w H'' s2.heap kS (.lst ks) from I2.hok kS _ hk2)
    have hg' : s2.heap.get? kS = some (seqObj "list" its.toArray n) := hg
    have hil : its.length = ks.length := rk.length.symm
    have sb := Heap.SameBut.update s2.heap kS (Obj.mapSeq (·.push u))
    obtain ⟨n2, hg2⟩ : ∃ n2, (s2.heap.update kS (Obj.mapSeq (·.push u))).get? kS = some (seqObj "list" (its.toArray.push u) n2) := ⟨_, get?_update_seq hg' (·.push u)⟩
    refine wpAny_bind (listUpdate_at hg' rfl (hsz := by rw [List.size_toArray]; omega) (hsz2 := by rw [Array.size_push, List.size_toArray]; omega) (wpAny_pure ⟨rfl, ?_⟩))
    have kp : ∀ b o, b ≠ kS → H'' b = some o → upd H'' kS (.lst (ks ++ [y])) b = some o := fun b o hb e => by rw [upd_ne hb]; exact e
    have ts : TSame X.K H'' (upd H'' kS (.lst (ks ++ [y]))) := fun z zs q => by
      rcases q with (q | ⟨o, q⟩) | q
      · exact .inl (.inl (kp _ _ (by rintro rfl; rw [hk2] at q; cases q) q))
      · exact .inl (.inr ⟨o, kp _ _ (by rintro rfl; rw [hk2] at q; cases q) q⟩)
      · exact .inr q
    refine ⟨upd H'' kS (.lst (ks ++ [y])), ks ++ [y], I2.write (x := kS) (e := kS) (t' := s2.toks) (by rw [hk2]; trivial) (.inl rfl) (fun b u hb e => (sb.2 b hb).trans e) ⟨_, hg2⟩ ⟨?_, its ++ [u], n2, vals_snoc rk ry, ?_⟩, upd_same, fun b o e => ?_, ?_⟩
    · rw [List.length_append]
      have : [y].length = 1 := rfl
      omega
    · rw [hg2]
      simp [seqObj]
    · exact kp b o (by rintro rfl; rw [h0] at e; cases e) (sm _ _ (hs' _ _ e))
    · have e1 : bs.take (j + 1) = bs.take j ++ [c] := by rw [List.take_add_one, hc]; rfl
      rw [e1]
      refine each_take ?_ (dp_monoT ts _ _ (nl c (List.mem_of_getElem? hc)) dy)
      exact each_noL ts (fun c hc => nl c (List.mem_of_mem_take hc)) (he.mono fun _ _ q => dpUp sm q)
  case dn =>
    rintro s' ⟨H', ks, I', hk', hs', he⟩
    rw [Nat.zero_add, List.take_of_length_le (by omega)] at he
    obtain ⟨_, its, n, rk, hg⟩ := (show ObjOk X.prog X.w H' s'.heap kS (.lst ks) from I'.hok kS _ hk')
    have hg' : s'.heap.get? kS = some (seqObj "list" its.toArray n) := hg
    have hil : its.length = ks.length := rk.length.symm
    have pin := I'.pin (a, seqObj "list" #[] m) (List.mem_append_right _ List.mem_cons_self)
    have na : s'.heap.get? a = some (seqObj "list" #[] m) := pin.1
    have hkl : ks.length = bs.length := he.length
    try dsimp only
    refine wpAny_bind (listItems_at hg' rfl ?_)
    have hE : EachIs (fun v d => ∃ as, Reads s'.heap v d as) its (bs.map key) := by
      refine each_map (R := fun v d => ∃ as, Reads s'.heap v d as) key ((each_up (vals_each rk) he).mono ?_)
      rintro v c ⟨y, r1, r2⟩
      exact Dp.reads I' _ _ _ r2 r1
    have un := hr.un
    have hS : SortsAt X.prog X.w X.A.in1.in1 s' (dataKind s'.heap (bs.map key)) its.toArray.toList := by
      rw [List.toList_toArray]
      refine sortsK hE ok ?_
      show X.A.units + 1 + 1 + 64 < cLine
      omega
    refine srt_end hg' na hne hS (by rw [List.size_toArray]; omega) (by omega) fun g1 g2 tk c d q1 q2 q3 q4 => ?_
    have I2 : Inv X ((a, seqObj "list" #[] m) :: pins) σ (upd H' kS (.lst [])) { s' with heap := g1, toks := s'.toks } :=
      I'.write (x := kS) (e := kS) (t' := s'.toks) (by rw [hk']; trivial) (.inl rfl) q1 ⟨_, q2⟩ ⟨Nat.zero_le _, [], c, .nil, q2⟩
    have I3 : Inv X pins σ (upd H' kS (.lst [])) { s' with heap := g1, toks := s'.toks } := I2.pins_of fun p hp => I2.pin p (List.mem_append_right _ (List.mem_cons_of_mem _ hp))
    have pin2 := I2.pin (a, seqObj "list" #[] m) (List.mem_append_right _ List.mem_cons_self)
    have hR : EachIs (fun v c => ∃ x, RelV x v ∧ R x c) vs bs := each_up (vals_each rv) re
    have hO : EachIs (fun v c => ∃ x, RelV x v ∧ R x c) (sortVals (dataKind s'.heap (bs.map key)) b its.toArray.toList vs) (bs.mergeSort (dataLe b key)) := by
      refine sortVals_each (κ := dataKind s'.heap (bs.map key)) (fun c => keyToks (key c)) hR (each_of_map (R := fun v d => (dataKind s'.heap (bs.map key)).keyOf v = some (keyToks d)) key ?_)
      rw [List.toList_toArray]
      exact (each_mem hE).mono fun v d ⟨⟨as, r⟩, hd⟩ => kind_of hd r
    obtain ⟨ys, v1, v2⟩ := each_vals hO
    have yl : ys.length ≤ sizeLine := by
      have z := v2.length
      rw [List.length_mergeSort] at z
      omega
    have I4 := I3.take (it := a) (o := .lst ys) (h' := g2) (t' := tk) q3 ⟨pin2.2.1, fp.2⟩ ⟨yl, _, d, v1, q4⟩
    refine h _ ys _ I4 (fun b o e => ?_) upd_same v2
    have n1 : b ≠ a := by rintro rfl; rw [fp.1] at e; cases e
    have n2 : b ≠ kS := by rintro rfl; rw [h0] at e; cases e
    rw [upd_ne n1, upd_ne n2]
    exact hs' _ _ e
end

section
open PySem.W PySem.Calls
variable {X : Cx} {k : Nat} {f : Addr} {fd : FuncData} {ps : List Str} {sp : Sp}
/-- sorted(l, key=f): items that go together with bs, f's key of an item of c is key c -/
def rSortBy (K : Fg) (f : Addr) (sp : Sp) : List V → List V → Hp → VK → Prop := fun us zs H Q => ∃ (β : Type) (R : V → β → Prop) (key : β → PyData) (bs : List β) (a : Addr) (xs : List V), us = [.ref a] ∧ zs = [.ref f] ∧ SqL K H a xs ∧ EachIs R xs bs ∧ xs.length ≤ 1000000 ∧ KOk (bs.map key) ∧
  (∀ (x : V) (c : β) (H' : Hp), x ∈ xs → c ∈ bs → R x c → Same H H' → ∀ Q' : VK, (∀ y H'', Same H' H'' → Dp K H'' y (key c) → Q' y H'') → sp [x] H' Q' fun _ _ _ => False) ∧
  ∀ p H' ys, Same H H' → H p = none → H' p = some (.lst ys) → EachIs R ys (bs.mergeSort (dataLe false key)) → Q (.ref p) H'
theorem cr_sortBy (F : FnOk X.prog X.w X.K X.mg X.base CX0 k f fd ps sp) (hr : Room (k + 2) X.A) (hb : Binds X.K fd ps []) : CallRK X (.builtin "sorted") [Str.ofString "key"] (rSortBy X.K f sp) := by
  intro pins s σ H us zs ws zw Q I r rz h
  obtain ⟨β, R, key, bs, a, xs, rfl, rfl, hs, re, hz, ok, turn, q⟩ := h
  obtain rfl := Vals.ref1 r
  obtain ⟨w1, rfl, e1⟩ := vals1 rz
  obtain rfl : w1 = Value.ref f := e1
  obtain ⟨its, rv, hl, hz2⟩ := I.list hs
  have hlist : s.heap.IsList a its.toArray := hl.isList
  have nz : s.heap.objs.size ≤ s.heap.objs.size + 1 := Nat.le_succ _
  have ha0 : H (s.heap.objs.size + 1) = none := I.hok.fresh nz
  refine sorted_of_sort hlist (by rw [← rv.length]; exact hz2) (PyProof.Rows.ksk_s1 _ _) (fun _ => PyProof.Rows.ksk_l1 _ _) fun E' => ?_
  show wpAny _ _ (Builtin.«list.sort» ⟨[.ref (s.heap.objs.size + 1)], [(Str.ofString "key", .ref f)]⟩) _ _ _
  rw [PyProof.Rows.ksk_t1 f (s.heap.objs.size + 1)]
  have ho := copyHeap_at s.heap its
  obtain ⟨m, ho1⟩ : ∃ m, ((copyHeap s.heap its).update (s.heap.objs.size + 1) (Obj.mapSeq fun _ => (#[] : Array Value))).get? (s.heap.objs.size + 1) = some (seqObj "list" #[] m) := ⟨_, get?_update_seq ho fun _ => (#[] : Array Value)⟩
  have il : its.length ≤ sizeLine := by rw [← rv.length]; exact hz2
  have zi : its.toArray.size ≤ sizeLine := by rw [List.size_toArray]; exact il
  unfold ksk_tree
  refine wpAny_bind (listItems_at ho rfl (wpAny_bind (listUpdate_at ho rfl (hsz := zi) (hsz2 := Nat.zero_le _) (wpAny_bind (seqEpoch_at ho1 rfl (wpAny_bind (wpAny_newTuple (wpAny_bind (wpAny_newList (wpAny_holding ?_) (Nat.zero_le _))) (by exact il))))))))
  have old : ∀ c o, s.heap.get? c = some o → (sortingHeap (copyHeap s.heap its) (s.heap.objs.size + 1) its).get? c = some o := fun _ _ => sorting_copy_old
  have ha : (sortingHeap (copyHeap s.heap its) (s.heap.objs.size + 1) its).get? (s.heap.objs.size + 1) = some (seqObj "list" #[] m) := Heap.get?_push_of_some _ (Heap.get?_push_of_some _ ho1)
  obtain ⟨kS, ek⟩ : ∃ kS : Nat, (((copyHeap s.heap its).update (s.heap.objs.size + 1) (Obj.mapSeq fun _ => (#[] : Array Value))).push (seqObj "tuple" its.toArray 0)).objs.size = kS := ⟨_, rfl⟩
  have hk : (sortingHeap (copyHeap s.heap its) (s.heap.objs.size + 1) its).get? kS = some (seqObj "list" #[] 0) := by rw [← ek]; exact Heap.get?_push_size _ rfl
  have hlt : s.heap.objs.size + 1 < kS := by
    have z : s.heap.objs.size + 1 < (copyHeap s.heap its).objs.size := Heap.lt_size ho
    rw [← ek, size_push', Heap.size_update]
    omega
  have lk : s.heap.objs.size ≤ kS := by omega
  have hk0 : H kS = none := I.hok.fresh lk
  show wpAny _ _ (ksk_rest (s.heap.objs.size + 1) (.ref f) false its.toArray m (.ref (((copyHeap s.heap its).update (s.heap.objs.size + 1) (Obj.mapSeq fun _ => (#[] : Array Value))).push (seqObj "tuple" its.toArray 0)).objs.size)) _ _ { s with heap := sortingHeap (copyHeap s.heap its) (s.heap.objs.size + 1) its }
  rw [ek]
  have I1 : Inv X pins σ (upd H kS (.lst [])) { s with heap := sortingHeap (copyHeap s.heap its) (s.heap.objs.size + 1) its, toks := s.toks } := I.laid (t' := s.toks) old lk ⟨Nat.zero_le _, [], 0, .nil, hk⟩
  have fp : FpOk X pins H (s.heap.objs.size + 1) := I.fpOk nz ha0
  have I2 : Inv X ((s.heap.objs.size + 1, seqObj "list" #[] m) :: pins) σ (upd H kS (.lst [])) { s with heap := sortingHeap (copyHeap s.heap its) (s.heap.objs.size + 1) its, toks := s.toks } := I1.pins_of fun p hp => by
    rcases List.mem_cons.mp hp with rfl | hp
    · refine ⟨ha, ?_, fp.2.1, fp.2.2.1, fun v z => nomatch z⟩
      rw [upd_ne (Nat.ne_of_lt hlt)]
      exact ha0
    · exact I1.pin p (List.mem_append_right _ hp)
  refine srt_rest (H0 := H) (R := R) (key := key) (bs := bs) (xs := xs) F hr hb I2 fp upd_same hk0 (fun b o e => ?_) rv re hz ok (fun i x c H' hx hc hs => turn x c H' (List.mem_of_getElem? hx) (List.mem_of_getElem? hc) (each_at re hx hc) hs) fun H' ys s' I' hs' ha' hR => ⟨rfl, .ref _, H', I', rfl, q _ _ _ hs' ha0 ha' hR⟩
  rw [upd_ne (by rintro rfl; rw [hk0] at e; cases e)]
  exact e
/-- < of keys -/
def rLtK (K : Fg) : R2 := fun x y H Q => ∃ d e, Dp K H x d ∧ Dp K H y e ∧ isK d = true ∧ isK e = true ∧ cmpK d e = true ∧ d.depth ≤ 60 ∧ Q (.bl (dataLt d e)) H
theorem op_ltK (hu : X.A.units + 64 < cLine) : OpR X (compareOp .Lt) (rLtK X.K) := by
  intro pins s σ H x y v u Q I rx ry h
  obtain ⟨d, e, hd, he, kd, ke, hc, dp, q⟩ := h
  obtain ⟨as, r1⟩ := Dp.reads I d x v hd rx
  obtain ⟨bs, r2⟩ := Dp.reads I e y u he ry
  have h2 := Nat.min_le_left d.depth e.depth
  exact rcK d e X.A s v u as bs r1 r2 kd ke hc (by omega) X.prog X.w X.xe (EP X pins σ Q) ⟨.bl _, H, I, rfl, q⟩
def rLtU (K : Fg) : R2 := fun x y H Q => rI0 (fun i j => .bl (decide (i < j))) x y H Q ∨ rLtK K x y H Q
theorem op_ltU (hu : X.A.units + 64 < cLine) : OpR X (compareOp .Lt) (rLtU X.K) := op_lt.or (op_ltK hu)
theorem hu0 {A : Around} {k : Nat} (hr : Room k A) : A.units < cLine := by
  have := hr.un
  omega
theorem cr_sortByK {K : Fg} (F : FnOk X.prog X.w X.K X.mg X.base CX0 k f fd ps sp) (hr : Room (k + 2) X.A) (hb : Binds X.K fd ps []) (hK : X.K = K := by rfl) : CallRK X (.builtin "sorted") [Str.ofString "key"] (rSortBy K f sp) := hK ▸ cr_sortBy F hr hb
theorem op_ltUK {K : Fg} (hu : X.A.units + 64 < cLine) (hK : X.K = K := by rfl) : OpR X (compareOp .Lt) (rLtU K) := hK ▸ op_ltU hu
end

/-! ### {k: v for x in xs}, the keys tuples of ints and texts -/
section
variable {X : Cx}
theorem dT_put {pins : List (Addr × Obj)} {σ : L2.St} {H : Hp} {s : Shared} {E : Value → Shared → Prop} {D b : Addr} {kvs : List (List L2.Key × V)} {k : List L2.Key} {v : V} {r : Value} {Q : Unit → Shared → Prop} (hu : X.A.units < cLine) (I : Inv X pins σ H s)
    (hD : H D = some (.dT kvs)) (hb : H b = some (.tup (k.map kV))) (hz : kvs.length < sizeLine) (rv : RelV v r) (h : ∀ s', Inv X pins σ (upd H D (.dT (putK kvs k v))) s' → Q () s') : wpAny (model X.prog X.w) X.A (dictSet D (.ref b) r) Q E s := by
  obtain ⟨_, hd, xs, rel, dd⟩ := dt_of I.hok hD
  have zx : xs.length ≤ sizeLine := by rw [← Paired.length rel]; omega
  have zp : (putK kvs k v).length ≤ sizeLine := by
    have := length_putK kvs k v
    omega
  refine wpAny_dictSet_heap (hsz := zx) hu (key_of I.hok hb) dd fun g dg sb => h _ ?_
  obtain ⟨q, es, ep, g1, g2, g3, g4, _, g5⟩ := dg
  refine d_write I (by rw [hD]; trivial) sb ⟨q, g1⟩ ⟨zp, hd, _, (rel.put k hb rv).keeps fun c ys ec => ?_, q, es, ep, g1, g2, g3, g4, g5⟩
  rw [upd_ne (ne_of ec hD fun z => nomatch z)]
  exact ec
/-- the turns of such a comprehension -/
def DtTurns (J : It) (g : TG) (tt : TT) (tk tv : TE) (vs : List Nat) (σ : L2.St) (D : Addr) (Qd : Hp → Prop) (W : Nat → Nat → Hp → Prop) : Prop := ∀ i m H, W i m H → (J.stop i H ∧ Qd H) ∨ (J.go i H ∧ ∃ Nx : Hp → Prop, (∀ H', Nx H' → ∃ m', m' < m ∧ W (i + 1) m' H') ∧
  ∀ x H', J.yld i H x H' → g x (wipe σ vs) H' fun σ2 H2 => wipe σ2 vs = wipe σ vs ∧ tt σ2 H2 fun b H3 => if b = true then tk σ2 H3 fun y H4 => tv σ2 H4 fun z H5 => ∃ (kvs : List (List L2.Key × V)) (k : List L2.Key) (b : Addr), y = .ref b ∧ H5 b = some (.tup (k.map kV)) ∧ H5 D = some (.dT kvs) ∧ kvs.length < sizeLine ∧ Nx (upd H5 D (.dT (putK kvs k z))) else Nx H3)
def tDct (wi : TI) (g : TG) (tt : TT) (tk tv : TE) (vs : List Nat) : TE := fun σ H Q => wi σ H fun J H1 => ∀ D, H1 D = none → ∃ W : Nat → Nat → Hp → Prop, (∃ m, W 0 m (upd H1 D (.dT []))) ∧ DtTurns J g tt tk tv vs σ D (Q (.ref D)) W
theorem dct_core {pins : List (Addr × Obj)} {s : Shared} {σ : L2.St} {H : Hp} {Q : VK} {kx vx tg iter : Expr} {ifs : List Expr} {sc : Scope} {own : List (Str × Nat)} {pos pos2 : Pos} {wi : TI} {g : TG} {tt : TT} {tk tv : TE} {use : Option (Value → Sem Unit)} {Qf : Value → Shared → Prop}
    (hc : X.calm = true) (hu : X.A.units < cLine) (hN : X.N.Nodup) (I : Inv X pins σ H s) (hi : PI X tg iter wi) (ok : BlkOk X.N X.env.scope sc own)
    (hg : ∀ (s : Shared) (H : Hp) (C : Addr) (cl : List (Str × Addr)) (fl : List Addr), PG (X.blk s H sc (compEnvC sc cl C X.env) fl) tg g) (ht : ∀ (s : Shared) (H : Hp) (C : Addr) (cl : List (Str × Addr)) (fl : List Addr), PTs (X.blk s H sc (compEnvC sc cl C X.env) fl) ifs tt)
    (hk : ∀ (s : Shared) (H : Hp) (C : Addr) (cl : List (Str × Addr)) (fl : List Addr), PE (X.blk s H sc (compEnvC sc cl C X.env) fl) kx tk)
    (hv : ∀ (s : Shared) (H : Hp) (C : Addr) (cl : List (Str × Addr)) (fl : List Addr), PE (X.blk s H sc (compEnvC sc cl C X.env) fl) vx tv) (hs : ∀ x, foldedSetIterable iter X.env x = pure x)
    (h : tDct wi g tt tk tv (own.map (·.2)) σ H Q)
    (hend : ∀ D C s' m H', Inv X pins σ H' s' → Q (.ref D) H' → s'.heap.Ns C m → FpOk X pins H' C → compPost (model X.prog X.w) X.A X.xe use Qf (.ref D) C (.ok .next) s') :
    wpAny (model X.prog X.w) X.A (comprehension (.DictComp kx vx [⟨tg, iter, ifs, 0⟩] sc pos) sc X.env pos2 newDict false (eval iter X.env) use) Qf X.xe s := by
  have fr : ∀ y ∈ sc.names, y.2 = .free → ∃ c, X.env.cells.lookup y.1 = some c := fun y hy e => (ok.free y hy e).elim (fun z => I.ok.has _ (.inl z)) fun z => I.ok.has _ (.inr z)
  refine wpAny_comprehension_free (use := use) rfl hs (closure_ok fr) ok.kind (fun y hy e => by rw [ok.uniq y hy, e]) (thn (hi.run pins s σ H _ I h) fun _ s1 hx => thn hx fun _ s2 h2 => ?_)
  obtain ⟨it, fl, tn, J, G, e, I2, T, t0, ff, q⟩ := h2
  subst e
  refine wpAny_newObj_type (newEnv_comp ?_)
  generalize hD : s2.heap.objs.size = D
  have lD : s2.heap.objs.size ≤ D := Nat.le_of_eq hD
  obtain ⟨W, ⟨m0, w0⟩, turn⟩ := q D (I2.hok.fresh lD)
  generalize hs3 : ({ s2 with heap := s2.heap.push { cls := .type "dict", data := .dict #[] } } : Shared) = s3
  have p3 : s3.heap = s2.heap.push { cls := .type "dict", data := .dict #[] } := by rw [← hs3]
  have I3 : Inv X pins σ (upd G D (.dT [])) s3 := by
    rw [← hs3, ← hD]
    exact I2.laid (t' := s2.toks) (fun b o e => Heap.get?_push_of_some _ e) (Nat.le_refl _) (dt_empty s2.heap I2.big)
  have small : ∀ b ∈ fl, b < s2.heap.objs.size := fun b hb => by
    obtain ⟨o, e, _⟩ := T.obj _ _ t0 b hb
    exact Heap.lt_size e
  generalize hG3 : upd G D (.dT []) = G3 at I3 w0
  have ff3 : ∀ b ∈ fl, FpOk X pins G3 b ∧ b < s3.heap.objs.size := fun b hb => by
    have lt := small b hb
    refine ⟨⟨?_, (ff b hb).2⟩, by rw [p3, Heap.size_push]; exact Nat.lt_succ_of_lt lt⟩
    rw [← hG3, upd_ne (by rw [← hD]; exact Nat.ne_of_lt lt)]
    exact (ff b hb).1
  have t3 : tn 0 s3.heap := T.keep _ _ _ t0 fun b _ o e => by rw [p3]; exact Heap.get?_push_of_some _ e
  have I4 := block_start I3 ok hN ff3
  have pg := hg s3 G3 s3.heap.objs.size (cellsFrom (s3.heap.objs.size + 1) sc.names (cloFrom X.env.cells sc.names [])) fl
  have pt := ht s3 G3 s3.heap.objs.size (cellsFrom (s3.heap.objs.size + 1) sc.names (cloFrom X.env.cells sc.names [])) fl
  have pk := hk s3 G3 s3.heap.objs.size (cellsFrom (s3.heap.objs.size + 1) sc.names (cloFrom X.env.cells sc.names [])) fl
  have pv := hv s3 G3 s3.heap.objs.size (cellsFrom (s3.heap.objs.size + 1) sc.names (cloFrom X.env.cells sc.names [])) fl
  show codeAny _ _ (.compStart (.DictComp kx vx [⟨tg, iter, ifs, 0⟩] sc pos) 0 (.ref it) (.ref D) (compEnvC sc (cellsFrom (s3.heap.objs.size + 1) sc.names (cloFrom X.env.cells sc.names [])) s3.heap.objs.size X.env))
    (compPost (model X.prog X.w) X.A X.xe use Qf (.ref D) s3.heap.objs.size) { s3 with heap := pushCells (s3.heap.push { cls := .type "dict", data := .dict #[] }) sc.names }
  generalize hce : compEnvC sc (cellsFrom (s3.heap.objs.size + 1) sc.names (cloFrom X.env.cells sc.names [])) s3.heap.objs.size X.env = ce at I4 pg pt pk pv ⊢
  have cL : ce.locals = s3.heap.objs.size := by rw [← hce]; rfl
  generalize hs4 : ({ s3 with heap := pushCells (s3.heap.push { cls := .type "dict", data := .dict #[] }) sc.names } : Shared) = s4 at I4 ⊢
  have t4 : tn 0 s4.heap := T.keep _ _ _ t3 fun b _ o e => by rw [← hs4]; exact pushCells_keeps _ _ _ _ (Heap.get?_push_of_some _ e)
  have nf : ∀ b ∈ fl, G3 b = none := fun b hb => (ff3 b hb).1.1
  have fps : ∀ {σ' : L2.St} {H' : Hp} {s' : Shared}, Inv (X.blk s3 G3 sc ce fl) [] σ' H' s' → (∀ b ∈ fl, H' b = none) → ∀ b ∈ fl, FpOk (X.blk s3 G3 sc ce fl) [] H' b := fun {σ' H' s'} I' hn b hb =>
    ⟨hn b hb, (I'.ok.exf b hb).1, I'.ok.exfs b hb, .inl hb, fun x c e => (I'.ok.exf b hb).2 x c e, fun p hp => absurd (show p ∈ ([] : List (Addr × Obj)) ++ [] from hp) List.not_mem_nil⟩
  suffices loop : codeAny (model X.prog X.w) X.A (.compLoop (.DictComp kx vx [⟨tg, iter, ifs, 0⟩] sc pos) 0 (.ref it) (.ref D) ce) (compPost (model X.prog X.w) X.A X.xe use Qf (.ref D) s3.heap.objs.size) s4 from
    codeAny_compStart_dict loop (T.self X.A 0 _ _ _ t4 loop)
  refine compLoop_anyD (fun n s' => ∃ i H', Inv (X.blk s3 G3 sc ce fl) [] (wipe σ (own.map (·.2))) H' s' ∧ tn i s'.heap ∧ (∀ b ∈ fl, H' b = none) ∧ W i n H') ?_ m0 ⟨0, G3, I4, t4, nf, w0⟩
  rintro n s5 ⟨i, H5, I5, t5, n5, w5⟩
  rcases turn i n H5 w5 with ⟨stop, qq⟩ | ⟨go, Nx, hNx, step⟩
  · refine thnF (T.done (X.blk s3 G3 sc ce fl) rfl rfl rfl hc i [] s5 _ H5 (fun _ _ => False) I5 (fps I5 n5) t5 stop) fun r s6 ⟨hr, I6⟩ => ?_
    subst hr
    have I7 : Inv X pins σ H5 s6 := I3.call' (ch := fl) I6.os I6.base I6.hok I6.bare fun b hb => ⟨(ff3 b hb).1.2.2.2.1, (ff3 b hb).1.2.1, (ff3 b hb).1.2.2.2.2.1, (ff3 b hb).1.2.2.2.2.2⟩
    have nC : H5 s3.heap.objs.size = none := cL ▸ (show H5 ce.locals = none from I6.free)
    obtain ⟨m, hn, _⟩ := I6.loc
    have hn2 : s6.heap.Ns ce.locals m := hn
    exact hend D s3.heap.objs.size s6 m H5 I7 qq (cL ▸ hn2) (I3.fpOk (Nat.le_refl _) nC)
  · refine thnF (T.item (X.blk s3 G3 sc ce fl) rfl rfl rfl hc i [] s5 _ H5 (fun _ _ => False) I5 (fps I5 n5) t5 go) fun r s6 ⟨u, hr, h6⟩ => ?_
    subst hr
    refine thnF h6 fun _ s7 ⟨x, H7, I7, r7, y7, t7, n7⟩ => ?_
    refine thnF (pg.run _ s7 _ H7 x u _ (I7.pinned (fps I7 n7) (T.obj _ _ t7)) r7 (step x H7 y7)) fun _ s8 ⟨σ8, H8, I8, hw, q8⟩ => thnF (pt.run _ s8 σ8 H8 _ I8 q8) fun b s9 ⟨H9, I9, q9⟩ => ?_
    have fin : ∀ {s' : Shared} {H' : Hp}, Inv (X.blk s3 G3 sc ce fl) ([] ++ pinsAt fl s7.heap) σ8 H' s' → Nx H' → ∃ m, m < n ∧ ∃ i H', Inv (X.blk s3 G3 sc ce fl) [] (wipe σ (own.map (·.2))) H' s' ∧ tn i s'.heap ∧ (∀ b ∈ fl, H' b = none) ∧ W i m H' := fun {s' H'} I' nx => by
      obtain ⟨m', hm, w'⟩ := hNx H' nx
      have pn : ∀ b ∈ fl, ∀ o, s7.heap.get? b = some o → s'.heap.get? b = some o ∧ H' b = none := fun b hb o e => by
        have z := I'.pin (b, o) (List.mem_append_right _ (List.mem_append_right _ (mem_pinsAt hb e)))
        exact ⟨z.1, z.2.1⟩
      have hl : (wipe σ (own.map (·.2))).length = σ8.length := by rw [← hw, wipe_length]
      refine ⟨m', hm, i + 1, H', (I'.unpinned (pins := [])).weak hl (fun j v e => ?_), T.keep _ _ _ t7 fun b hb o e => (pn b hb o e).1, fun b hb => ?_, w'⟩
      · rw [← hw] at e
        exact (wipe_some e).1
      · obtain ⟨o, e, _⟩ := T.obj _ _ t7 b hb
        exact (pn b hb o e).2
    cases b with
    | false =>
      simp only [Bool.false_eq_true, ↓reduceIte] at q9 ⊢
      exact fin I9 q9
    | true =>
      simp only [↓reduceIte] at q9 ⊢
      refine thnF (pk.run _ s9 σ8 H9 _ I9 q9) fun z s10 ⟨yk, H10, I10, r10, q10⟩ => thnF (pv.run _ s10 σ8 H10 _ I10 q10) fun z2 s11 ⟨yv, H11, I11, r11, kvs, k, b, ek, hb, hD11, hz, nx⟩ => ?_
      subst ek
      obtain rfl : z = Value.ref b := r10
      exact dT_put (X := X.blk s3 G3 sc ce fl) hu I11 hD11 hb hz r11 fun s12 I12 => fin I12 nx
/-- as a value -/
theorem pe_dct {kx vx tg iter : Expr} {ifs : List Expr} {sc : Scope} {own : List (Str × Nat)} {pos : Pos} {wi : TI} {g : TG} {tt : TT} {tk tv : TE} (hc : X.calm = true) (hu : X.A.units < cLine) (hN : X.N.Nodup) (hi : PI X tg iter wi) (ok : BlkOk X.N X.env.scope sc own)
    (hg : ∀ (s : Shared) (H : Hp) (C : Addr) (cl : List (Str × Addr)) (fl : List Addr), PG (X.blk s H sc (compEnvC sc cl C X.env) fl) tg g) (ht : ∀ (s : Shared) (H : Hp) (C : Addr) (cl : List (Str × Addr)) (fl : List Addr), PTs (X.blk s H sc (compEnvC sc cl C X.env) fl) ifs tt)
    (hk : ∀ (s : Shared) (H : Hp) (C : Addr) (cl : List (Str × Addr)) (fl : List Addr), PE (X.blk s H sc (compEnvC sc cl C X.env) fl) kx tk)
    (hv : ∀ (s : Shared) (H : Hp) (C : Addr) (cl : List (Str × Addr)) (fl : List Addr), PE (X.blk s H sc (compEnvC sc cl C X.env) fl) vx tv) (hs : ∀ x, foldedSetIterable iter X.env x = pure x := by intro _; rfl) :
    PE X (.DictComp kx vx [⟨tg, iter, ifs, 0⟩] sc pos) (tDct wi g tt tk tv (own.map (·.2))) := by
  refine ⟨fun pins s σ H Q I h => ?_⟩
  rw [arm_eval_DictComp]
  refine dct_core hc hu hN I hi ok hg ht hk hv hs h fun D C s' m H' I' q hn f => ⟨m, hn, fun g sb => ?_⟩
  obtain ⟨f0, f1, f2, f3, f4, f5⟩ := f
  exact ⟨.ref D, H', I'.turned (t' := s'.toks) (fun b o hb e => (sb.2 b hb).trans e) f0 f1 f3 f4 f5, rfl, q⟩
/-- given to a name that is the def's own -/
theorem ps_setDct {i : Nat} {y : Str} {py : Pos} {kx vx tg iter : Expr} {ifs : List Expr} {sc : Scope} {own : List (Str × Nat)} {pos spos : Pos} {wi : TI} {g : TG} {tt : TT} {tk tv : TE} (hc : X.calm = true) (hu : X.A.units < cLine) (hN : X.N.Nodup) (hy : X.N[i]? = some y) (hyl : X.env.scope.names.lookup y = some .local)
    (hw : swapsWith (.DictComp kx vx [⟨tg, iter, ifs, 0⟩] sc pos) (some (.Name y py)) spos.line X.env = pure true) (hi : PI X tg iter wi) (ok : BlkOk X.N X.env.scope sc own)
    (hg : ∀ (s : Shared) (H : Hp) (C : Addr) (cl : List (Str × Addr)) (fl : List Addr), PG (X.blk s H sc (compEnvC sc cl C X.env) fl) tg g) (ht : ∀ (s : Shared) (H : Hp) (C : Addr) (cl : List (Str × Addr)) (fl : List Addr), PTs (X.blk s H sc (compEnvC sc cl C X.env) fl) ifs tt)
    (hk : ∀ (s : Shared) (H : Hp) (C : Addr) (cl : List (Str × Addr)) (fl : List Addr), PE (X.blk s H sc (compEnvC sc cl C X.env) fl) kx tk)
    (hv : ∀ (s : Shared) (H : Hp) (C : Addr) (cl : List (Str × Addr)) (fl : List Addr), PE (X.blk s H sc (compEnvC sc cl C X.env) fl) vx tv) (hs : ∀ x, foldedSetIterable iter X.env x = pure x := by intro _; rfl) :
    PS X (.Assign [.Name y py] (.DictComp kx vx [⟨tg, iter, ifs, 0⟩] sc pos) spos) (tAsg (tDct wi g tt tk tv (own.map (·.2))) (gName i)) := by
  refine ⟨fun pins s σ H D I h => ?_⟩
  rw [exec_Assign_Name_used _ _ _ _ hw]
  have h2 : tDct wi g tt tk tv (own.map (·.2)) σ H (fun x H1 => gName i x σ H1 D.nx) := h
  refine wpAny_bind (wpAny_standAt (wpAny_bind ?_))
  show wpAny _ X.A (do let _ ← comprehension (.DictComp kx vx [⟨tg, iter, ifs, 0⟩] sc pos) sc X.env (firstIterPos [⟨tg, iter, ifs, 0⟩] pos) newDict false (eval iter X.env) (some (assign (.Name y py) X.env))) _ _ s
  refine wpAny_bind (thn (dct_core (Qf := fun _ s' => SP X pins D .next s') hc hu hN I hi ok hg ht hk hv hs h2 fun L C s' m H' J q hn f => ?_) fun _ s' z => wpAny_pure (wpAny_pure z))
  show wpAny _ _ (assign (.Name y py) X.env (.ref L)) _ _ _
  obtain ⟨f0, f1, f2, f3, f4, f5⟩ := f
  refine wpAny_assign_Name (store_ok2 (v := V.ref L) J hN hy (.inl hyl) rfl (fun s2 I2 ⟨a, sb, ha⟩ => ?_) (.inr hyl))
  have ne : C ≠ a := ha.elim (fun z => z ▸ f1) fun z e => f4 y a z e.symm
  exact ⟨m, hn.sameBut sb ne, fun g sg => ⟨_, H', I2.turned (t' := s2.toks) (fun b o hb e => (sg.2 b hb).trans e) f0 f1 f3 f4 f5, q⟩⟩
/-- .. the keys ints or texts -/
theorem ps_setDc {i : Nat} {y : Str} {py : Pos} {kx vx tg iter : Expr} {ifs : List Expr} {sc : Scope} {own : List (Str × Nat)} {pos spos : Pos} {wi : TI} {g : TG} {tt : TT} {tk tv : TE} (hc : X.calm = true) (hN : X.N.Nodup) (hy : X.N[i]? = some y) (hyl : X.env.scope.names.lookup y = some .local)
    (hw : swapsWith (.DictComp kx vx [⟨tg, iter, ifs, 0⟩] sc pos) (some (.Name y py)) spos.line X.env = pure true) (hi : PI X tg iter wi) (ok : BlkOk X.N X.env.scope sc own)
    (hg : ∀ (s : Shared) (H : Hp) (C : Addr) (cl : List (Str × Addr)) (fl : List Addr), PG (X.blk s H sc (compEnvC sc cl C X.env) fl) tg g) (ht : ∀ (s : Shared) (H : Hp) (C : Addr) (cl : List (Str × Addr)) (fl : List Addr), PTs (X.blk s H sc (compEnvC sc cl C X.env) fl) ifs tt)
    (hk : ∀ (s : Shared) (H : Hp) (C : Addr) (cl : List (Str × Addr)) (fl : List Addr), PE (X.blk s H sc (compEnvC sc cl C X.env) fl) kx tk)
    (hv : ∀ (s : Shared) (H : Hp) (C : Addr) (cl : List (Str × Addr)) (fl : List Addr), PE (X.blk s H sc (compEnvC sc cl C X.env) fl) vx tv) (hs : ∀ x, foldedSetIterable iter X.env x = pure x := by intro _; rfl) :
    PS X (.Assign [.Name y py] (.DictComp kx vx [⟨tg, iter, ifs, 0⟩] sc pos) spos) (tAsg (tDc wi g tt tk tv (own.map (·.2))) (gName i)) := by
  refine ⟨fun pins s σ H D I h => ?_⟩
  rw [exec_Assign_Name_used _ _ _ _ hw]
  have h2 : tDc wi g tt tk tv (own.map (·.2)) σ H (fun x H1 => gName i x σ H1 D.nx) := h
  refine wpAny_bind (wpAny_standAt (wpAny_bind ?_))
  show wpAny _ X.A (do let _ ← comprehension (.DictComp kx vx [⟨tg, iter, ifs, 0⟩] sc pos) sc X.env (firstIterPos [⟨tg, iter, ifs, 0⟩] pos) newDict false (eval iter X.env) (some (assign (.Name y py) X.env))) _ _ s
  refine wpAny_bind (thn (dc_core (Qf := fun _ s' => SP X pins D .next s') hc hN I hi ok hg ht hk hv hs h2 fun L C s' m H' J q hn f => ?_) fun _ s' z => wpAny_pure (wpAny_pure z))
  show wpAny _ _ (assign (.Name y py) X.env (.ref L)) _ _ _
  obtain ⟨f0, f1, f2, f3, f4, f5⟩ := f
  refine wpAny_assign_Name (store_ok2 (v := V.ref L) J hN hy (.inl hyl) rfl (fun s2 I2 ⟨a, sb, ha⟩ => ?_) (.inr hyl))
  have ne : C ≠ a := ha.elim (fun z => z ▸ f1) fun z e => f4 y a z e.symm
  exact ⟨m, hn.sameBut sb ne, fun g sg => ⟨_, H', I2.turned (t' := s2.toks) (fun b o hb e => (sg.2 b hb).trans e) f0 f1 f3 f4 f5, q⟩⟩
theorem sw_dict {kx vx : Expr} {gs : List Comprehension} {sc : Scope} {pos py : Pos} {y : Str} {l : Nat} {env : Env} (hk : env.scope.kind = .function) (hy : env.scope.names.lookup y = some .local) (hl : (py.line == pos.line) = true)
    (ha : (sc.names.any fun (n, k) => n == y && (k == .local || k == .cell)) = false) : swapsWith (.DictComp kx vx gs sc pos) (some (.Name y py)) l env = pure true := by
  have k1 : env.kindOf y = some .local := hy
  have k2 : env.blockKind = .function := by
    unfold Env.blockKind
    rw [hk]
    rfl
  unfold swapsWith
  simp only [k2, k1, ha, Expr.pos, hl]
  rfl
end

/-! ### texts -/
section
/-- a text of at most n signs, each a sign -/
def okS (n : Nat) (x : Str) : Prop := x.length ≤ n ∧ ∀ c, c ∈ x.cps.toList → c < 0x110000
theorem okS.mono {n m : Nat} {x : Str} (h : okS n x) (l : n ≤ m) : okS m x := ⟨Nat.le_trans h.1 l, h.2⟩
theorem okS.strOk {n : Nat} {x : Str} (h : okS n x) : PyData.strOk x = true := by
  unfold PyData.strOk
  rw [← Array.all_toList, List.all_eq_true]
  exact fun c hc => decide_eq_true (h.2 c hc)
theorem okS.size {n : Nat} {x : Str} (h : okS n x) (l : n ≤ 1000000) : x.length ≤ sizeLine := by
  rw [sizeLine_eq]
  have := h.1
  omega
theorem okS_of {n : Nat} {x : Str} (h1 : Nat.ble x.cps.toList.length n = true) (h2 : x.cps.toList.all (fun c => Nat.blt c 0x110000) = true) : okS n x := by
  refine ⟨?_, fun c hc => Nat.le_of_ble_eq_true (List.all_eq_true.mp h2 c hc)⟩
  show x.cps.size ≤ n
  rw [← Array.length_toList]
  exact Nat.le_of_ble_eq_true h1
theorem okS_cut {n : Nat} {x : Str} (h : okS n x) (lo hi : Option Int) : okS n (cutS x lo hi) := by
  refine ⟨Nat.le_trans (cutS_length x lo hi) h.1, fun c hc => h.2 c ?_⟩
  unfold cutS at hc
  simp only [List.toList_toArray] at hc
  exact List.mem_of_mem_drop (List.mem_of_mem_take hc)
/-- at most k signs where the upper end is k -/
theorem okS_cutTo {n k : Nat} {x : Str} (h : okS n x) : okS k (cutS x none (some (k : Int))) := by
  refine ⟨?_, (okS_cut h _ _).2⟩
  unfold cutS
  show (List.toArray _).size ≤ k
  rw [List.size_toArray, List.length_take, HT.sIx_none, HT.sIx_nat]
  omega
theorem okS_app {n m : Nat} {x y : Str} (h : okS n x) (k : okS m y) : okS (n + m) (x ++ y) := by
  have e : (x ++ y).cps.toList = x.cps.toList ++ y.cps.toList := by
    show (x.cps ++ y.cps).toList = _
    simp
  refine ⟨?_, fun c hc => ?_⟩
  · show (x.cps ++ y.cps).size ≤ n + m
    rw [Array.size_append]
    exact Nat.add_le_add h.1 k.1
  · rw [e] at hc
    exact (List.mem_append.mp hc).elim (h.2 c) (k.2 c)
theorem okS_int (i : Int) (h : i.natAbs < 2 ^ 64) : okS 1921 (Str.ofString (toString i)) := by
  refine ⟨PyProof.Rows.int_text_len_1921 ?_, fun c hc => ?_⟩
  · exact Nat.lt_trans (PySem.Flt.log2_lt_of (by decide) h) (by decide)
  · refine Nat.lt_of_not_le fun hge => PyProof.Rows.int_text_free' c ⟨by omega, .inr (by omega)⟩ i hc
end
section
variable {X : Cx}
theorem pe_revS {e : Expr} {te : TE} {k : Nat} {p1 p2 p3 pos : Pos} (he : PE X e te) : PE X (.Subscript e (.Slice none none (some (.UnaryOp .USub (.Constant (.int 1) k p1) p2)) p3) pos) (tRevS te) := by
  refine ⟨fun pins s σ H Q I h => ?_⟩
  refine Subscript_ (thn (he.run pins s σ H _ I h) fun v s1 ⟨x, H1, I1, r1, z, ex, hz, q⟩ => ?_)
  subst ex
  obtain ⟨t, rfl⟩ := r1
  have hst : PO X (some (.UnaryOp .USub (.Constant (.int 1) k p1) p2)) (tPart (tUn (rU fun i => .int (-i)) (tC (.int 1)))) := po_some (pe_un un_neg pe_int)
  refine wpAny_Slice (thn (po_none.run pins s1 σ H1 (fun o G => o = none ∧ G = H1) I1 ⟨rfl, rfl⟩) fun vl s2 ⟨l, G2, I2, pl, el, e2⟩ => thn (po_none.run pins s2 σ G2 (fun o G => o = none ∧ G = G2) I2 ⟨rfl, rfl⟩) fun vu s3 ⟨u, G3, I3, pu, eu, e3⟩ => ?_)
  refine thn (hst.run pins s3 σ G3 (fun o G => o = some (-1) ∧ G = G3) I3 ⟨1, rfl, -1, rfl, rfl, rfl⟩) fun vs s4 ⟨o, G4, I4, pp, eo, e4⟩ => ?_
  subst e4 e3 e2 eo eu el
  obtain ⟨a, rfl, ea⟩ := IsPart.raw pl
  obtain ⟨b, rfl, eb⟩ := IsPart.raw pu
  obtain ⟨c, rfl, ec⟩ := IsPart.raw pp
  have I5 : Inv X pins σ G4 { s4 with heap := s4.heap.push { cls := .type "slice", data := .fields #[partValue a, partValue b, partValue c] } } := I4.kept (t' := s4.toks) fun _ _ q => Heap.get?_push_of_some _ q
  have nz : ((c.map (·.1)).getD 1 == 0) = false := by rw [ec]; rfl
  refine tail_any (ops := [.str z t, .ref s4.heap.objs.size]) (typeIs_str _ _ _) PySem.F.slot_str_getitem.lookup ?_ (by with_unfolding_all rfl)
  refine wpAny_getItem_str_slice (l := a) (u := b) (st := c) ⟨_, Heap.get?_push_size _ rfl, rfl, rfl⟩ nz ?_
  have hp : (slicePicked z a b c).length ≤ z.length := sliceIndicesBy_le _ _ _ (by rw [ec]; decide) _
  have e1 : ((c.map (·.1)).getD 1 == 1 && (slicePicked z a b c).length == z.length) = false := by rw [ec]; rfl
  unfold sliceMade
  rw [e1]
  have hl : (⟨((slicePicked z a b c).filterMap (z.cps[·]?)).toArray⟩ : Str).length ≤ z.length := by
    show (List.toArray _).size ≤ _
    rw [List.size_toArray]
    exact Nat.le_trans (List.length_filterMap_le _ _) hp
  refine ⟨Nat.le_trans hl hz, .str _, G4, I5.tok _, ⟨_, rfl⟩, q _ hl fun d hd => ?_⟩
  simp only [List.toList_toArray, List.mem_filterMap] at hd
  obtain ⟨i, _, hi⟩ := hd
  exact Array.mem_toList_iff.mpr (Array.mem_of_getElem? hi)
theorem pe_revU {e : Expr} {te : TE} {k : Nat} {p1 p2 p3 pos : Pos} {K : Fg} (he : PE X e te) (hK : X.K = K := by rfl) : PE X (.Subscript e (.Slice none none (some (.UnaryOp .USub (.Constant (.int 1) k p1) p2)) p3) pos) (fun σ H Q => tRevL K te σ H Q ∨ tRevS te σ H Q) := hK ▸ pe_orU (pe_revL he) (pe_revS he)
/-- sep.join(l) -/
def rJoinK (K : Fg) : V → List V → Hp → VK → Prop := fun x xs H Q => ∃ (a : Str) (p : Addr) (ys : List Str), x = .str a ∧ xs = [.ref p] ∧ (SqL K H p (ys.map V.str) ∨ SqT K H p (ys.map V.str)) ∧ (ys.map (·.length)).sum + ys.length * a.length ≤ 16777216 ∧ Q (.str (Txt.join a ys)) H
theorem pe_joinK {o e : Expr} {to te : TE} {apos pos : Pos} {K : Fg} (ho : PE X o to) (he : PE X e te) (hs : starEach [e] X.env = [(false, eval e X.env)] := by rfl) (hbase : attributeBase o "join" X.env (eval o X.env) = eval o X.env := by rfl) (hline : (apos.endLine == pos.line) = true := by rfl) (hK : X.K = K := by rfl) :
    PE X (.Call (.Attribute o "join" apos) [e] [] pos) (tM1 (rJoinK K) to te) := hK ▸ pe_join ho he hs hbase hline
end

/-! ### rows of values, two keys of them that order alike -/
section
open PySem.W
abbrev Row := List L2.Key
/-- a value's datum -/
def cd : L2.Key → PyData
  | .inl i => .int i
  | .inr s => .str s
def pcell : L2.Key → PyData
  | .inl i => .tuple [.int 0, .int i]
  | .inr s => .tuple [.int 1, .str s]
def lcell : L2.Key → PyData
  | .inl i => .tuple [.int 0, .int i, .str ""]
  | .inr s => .tuple [.int 1, .int 0, .str s]
def rowD (r : Row) : PyData := .tuple (r.map cd)
def pk (r : Row) : PyData := .tuple (r.map pcell)
def lk (r : Row) : PyData := .tuple (r.map lcell)
def cellOk : L2.Key → Prop
  | .inl i => -10000 < i ∧ i < 10000
  | .inr s => okS 2000 s
def rowOk (r : Row) : Prop := (∀ c, c ∈ r → cellOk c) ∧ r.length ≤ 100
theorem kt_pi (i : Int) : keyToks (pcell (.inl i)) = [.inl 1, .inl 0] ++ ([.inl 1] ++ .inl i :: [.inl 0]) := by
  simp [pcell, keyToks, keyToksAll]
theorem kt_ps (s : Str) : keyToks (pcell (.inr s)) = [.inl 1, .inl 1] ++ ([.inl 1] ++ .inr s.cps.toList :: [.inl 0]) := by
  simp [pcell, keyToks, keyToksAll]
theorem kt_li (i : Int) : keyToks (lcell (.inl i)) = [.inl 1, .inl 0] ++ ([.inl 1] ++ .inl i :: [.inl 1, .inr ("" : Str).cps.toList, .inl 0]) := by
  simp [lcell, keyToks, keyToksAll]
theorem kt_ls (s : Str) : keyToks (lcell (.inr s)) = [.inl 1, .inl 1] ++ ([.inl 1, .inl 0, .inl 1] ++ .inr s.cps.toList :: [.inl 0]) := by
  simp [lcell, keyToks, keyToksAll]
theorem dif_of {p : List Sg} {a b : Sg} {r t : List Sg} (n : a ≠ b) : Dif (p ++ a :: r) (p ++ b :: t) := ⟨p, a, b, r, t, rfl, rfl, n⟩
theorem lex_of {p : List Sg} {a b : Sg} {r t : List Sg} (n : a ≠ b) : lexS (p ++ a :: r) (p ++ b :: t) = itemLt a b := by
  rw [lex_lcp]
  exact lex_diff (O := itemOrd) n
theorem cell_dif {c d : L2.Key} (n : c ≠ d) : Dif (keyToks (pcell c)) (keyToks (pcell d)) ∧ Dif (keyToks (lcell c)) (keyToks (lcell d)) ∧ dataLt (pcell c) (pcell d) = dataLt (lcell c) (lcell d) := by
  unfold dataLt
  show _ ∧ _ ∧ lexS _ _ = lexS _ _
  cases c with
  | inl i =>
    cases d with
    | inl j =>
      have e : (Sum.inl i : Sg) ≠ .inl j := fun z => n (by rw [Sum.inl.inj z])
      rw [kt_pi, kt_pi, kt_li, kt_li]
      exact ⟨(dif_of e).pre _, (dif_of e).pre _, ((lex_lcp _ _ _).trans (lex_of e)).trans ((lex_lcp _ _ _).trans (lex_of e)).symm⟩
    | inr t =>
      have e : (Sum.inl 0 : Sg) ≠ .inl 1 := by decide
      rw [kt_pi, kt_ps, kt_li, kt_ls]
      refine ⟨dif_of (p := [.inl 1]) e, dif_of (p := [.inl 1]) e, ?_⟩
      exact (lex_of (p := [.inl 1]) e).trans (lex_of (p := [.inl 1]) e).symm
  | inr s =>
    cases d with
    | inl j =>
      have e : (Sum.inl 1 : Sg) ≠ .inl 0 := by decide
      rw [kt_pi, kt_ps, kt_li, kt_ls]
      refine ⟨dif_of (p := [.inl 1]) e, dif_of (p := [.inl 1]) e, ?_⟩
      exact (lex_of (p := [.inl 1]) e).trans (lex_of (p := [.inl 1]) e).symm
    | inr t =>
      have e : (Sum.inr s.cps.toList : Sg) ≠ .inr t.cps.toList := fun z => n (by rw [str_of_cps (Sum.inr.inj z)])
      rw [kt_ps, kt_ps, kt_ls, kt_ls]
      exact ⟨(dif_of e).pre _, (dif_of e).pre _, ((lex_lcp _ _ _).trans (lex_of e)).trans ((lex_lcp _ _ _).trans (lex_of e)).symm⟩
theorem ka_app {c : PyData} {xs : List PyData} : keyToksAll (c :: xs) = [Sum.inl 1] ++ (keyToks c ++ keyToksAll xs) := by rw [ka_cons]; rfl
theorem rows_dif : ∀ {r q : Row}, r ≠ q → Dif (keyToksAll (r.map pcell)) (keyToksAll (q.map pcell)) ∧ lexS (keyToksAll (r.map pcell)) (keyToksAll (q.map pcell)) = lexS (keyToksAll (r.map lcell)) (keyToksAll (q.map lcell))
  | [], [], n => absurd rfl n
  | [], d :: q, _ => by
    have e : (Sum.inl 0 : Sg) ≠ .inl 1 := by decide
    rw [List.map_cons, List.map_cons, ka_app, ka_app]
    refine ⟨?_, ?_⟩
    · show Dif (keyToksAll []) _
      rw [ka_nil]
      exact dif_of (p := []) e
    · show lexS (keyToksAll []) _ = lexS (keyToksAll []) _
      rw [ka_nil]
      exact (lex_of (p := []) e).trans (lex_of (p := []) e).symm
  | c :: r, [], _ => by
    have e : (Sum.inl 1 : Sg) ≠ .inl 0 := by decide
    rw [List.map_cons, List.map_cons, ka_app, ka_app]
    refine ⟨?_, ?_⟩
    · show Dif _ (keyToksAll [])
      rw [ka_nil]
      exact dif_of (p := []) e
    · show lexS _ (keyToksAll []) = lexS _ (keyToksAll [])
      rw [ka_nil]
      exact (lex_of (p := []) e).trans (lex_of (p := []) e).symm
  | c :: r, d :: q, n => by
    rw [List.map_cons, List.map_cons, List.map_cons, List.map_cons, ka_app, ka_app, ka_app, ka_app]
    by_cases h : c = d
    · subst h
      obtain ⟨h1, h2⟩ := rows_dif (r := r) (q := q) fun z => n (by rw [z])
      refine ⟨(h1.pre _).pre _, ?_⟩
      rw [lex_lcp, lex_lcp, lex_lcp, lex_lcp, h2]
    · obtain ⟨h1, h2, h3⟩ := cell_dif h
      refine ⟨(h1.app _ _).pre _, ?_⟩
      rw [lex_lcp, lex_lcp, h1.lex, h2.lex]
      exact h3
theorem key_same (r q : Row) : dataLt (pk r) (pk q) = dataLt (lk r) (lk q) := by
  unfold pk lk
  rw [dataLt_tuple, dataLt_tuple]
  by_cases h : r = q
  · subst h
    exact (show lexS _ _ = false from lex_irrefl _).trans (show lexS _ _ = false from lex_irrefl _).symm
  · exact (rows_dif h).2
theorem le_same : dataLe false pk = dataLe false lk := by
  rw [dataLe_eq, dataLe_eq]
  funext a b
  show (!dataLt (pk b) (pk a)) = !dataLt (lk b) (lk a)
  rw [key_same]
theorem le_anti {r q : Row} (h1 : dataLe false pk r q = true) (h2 : dataLe false pk q r = true) : r = q := by
  refine Decidable.byContradiction fun n => ?_
  have e1 : dataLt (pk q) (pk r) = false := by
    rw [dataLe_eq] at h1
    simpa using h1
  have e2 : dataLt (pk r) (pk q) = false := by
    rw [dataLe_eq] at h2
    simpa using h2
  unfold pk at e1 e2
  rw [dataLt_tuple] at e1 e2
  have e3 := lex_total (O := itemOrd) _ _ e2 e1
  obtain ⟨p, a, b, u, t, f1, f2, f3⟩ := (rows_dif n).1
  rw [f1, f2] at e3
  have e4 := List.append_cancel_left e3
  injection e4 with e5
  exact f3 e5
/-- the rows in order, each once -/
def sortR (ks : List Row) : List Row := ks.mergeSort (dataLe false pk)
theorem sortR_same {ks ls : List Row} (h1 : ks.Nodup) (h2 : ls.Nodup) (h : ∀ r, r ∈ ks ↔ r ∈ ls) : sortR ks = sortR ls := by
  have pm : ks.Perm ls := by
    letI b : BEq Row := instBEqOfDecidableEq
    have lb : LawfulBEq Row := inferInstance
    rw [List.perm_iff_count]
    intro r
    rw [h1.count, h2.count]
    simp only [h r]
  refine List.Perm.eq_of_pairwise (le := fun a b => dataLe false pk a b = true) (fun a b _ _ => le_anti) (sort_pairwise (sortLe_total _ _ _) _) (sort_pairwise (sortLe_total _ _ _) _) ?_
  exact (List.mergeSort_perm _ _).trans (pm.trans (List.mergeSort_perm _ _).symm)
theorem sortR_mem {ks : List Row} {r : Row} : r ∈ sortR ks ↔ r ∈ ks := (List.mergeSort_perm _ _).mem_iff
theorem sortR_nodup {ks : List Row} (h : ks.Nodup) : (sortR ks).Nodup := (List.mergeSort_perm _ _).nodup_iff.mpr h
/-! the keys' shape -/
theorem isK_p {c : L2.Key} (h : cellOk c) : isK (pcell c) = true ∧ isK (lcell c) = true := by
  cases c with
  | inl i => exact ⟨by simp [pcell, isK, isKs], by simp [lcell, isK, isKs]; decide +kernel⟩
  | inr s =>
    have e := okS.strOk h
    exact ⟨by simp [pcell, isK, isKs, e], by simp [lcell, isK, isKs, e]⟩
theorem isKs_r : ∀ {r : Row}, (∀ c, c ∈ r → cellOk c) → isKs (r.map pcell) = true ∧ isKs (r.map lcell) = true
  | [], _ => ⟨by simp [isKs], by simp [isKs]⟩
  | c :: r, h => by
    obtain ⟨h1, h2⟩ := isK_p (h c List.mem_cons_self)
    obtain ⟨h3, h4⟩ := isKs_r (r := r) fun d hd => h d (List.mem_cons_of_mem _ hd)
    exact ⟨by simp [isKs, h1, h3], by simp [isKs, h2, h4]⟩
theorem isK_r {r : Row} (h : rowOk r) : isK (pk r) = true ∧ isK (lk r) = true := by
  obtain ⟨h1, h2⟩ := isKs_r h.1
  unfold pk lk isK
  exact ⟨h1, h2⟩
theorem cmp_c (c d : L2.Key) : cmpK (pcell c) (pcell d) = true ∧ cmpK (lcell c) (lcell d) = true := by
  cases c <;> cases d <;> simp [pcell, lcell, cmpK, cmpKs, PyData.eqv]
theorem cmp_rs : ∀ r q : Row, cmpKs (r.map pcell) (q.map pcell) = true ∧ cmpKs (r.map lcell) (q.map lcell) = true
  | [], _ => by simp [cmpKs]
  | _ :: _, [] => by simp [cmpKs]
  | c :: r, d :: q => by
    obtain ⟨h1, h2⟩ := cmp_c c d
    obtain ⟨h3, h4⟩ := cmp_rs r q
    simp only [List.map_cons, cmpKs, h1, h2, h3, h4, ite_self, and_self]
theorem cmp_r (r q : Row) : cmpK (pk r) (pk q) = true ∧ cmpK (lk r) (lk q) = true := by
  unfold pk lk cmpK
  exact cmp_rs r q
theorem dep_rs : ∀ r : Row, PyData.depthAll (r.map pcell) ≤ 1 ∧ PyData.depthAll (r.map lcell) ≤ 1
  | [] => by simp [PyData.depthAll]
  | c :: r => by
    obtain ⟨h1, h2⟩ := dep_rs r
    have h3 : (pcell c).depth ≤ 1 ∧ (lcell c).depth ≤ 1 := by cases c <;> simp [pcell, lcell, PyData.depth, PyData.depthAll]
    simp only [List.map_cons, PyData.depthAll]
    omega
theorem dep_r (r : Row) : (pk r).depth ≤ 60 ∧ (lk r).depth ≤ 60 := by
  have h := dep_rs r
  unfold pk lk
  simp only [PyData.depth]
  omega
/-- rows of one width, each once, can be sorted by either key -/
theorem kok {ks : List Row} {w : Nat} (h : ∀ r, r ∈ ks → rowOk r ∧ r.length = w) (nd : ks.Nodup) : KOk (ks.map pk) ∧ KOk (ks.map lk) := by
  have kind : ks.length ≤ 1 ∨ ∀ r, r ∈ ks → r ≠ [] := by
    by_cases hw : w = 0
    · refine .inl ?_
      match ks, h, nd with
      | [], _, _ => exact Nat.zero_le _
      | [_], _, _ => exact Nat.le_refl _
      | a :: b :: r, h, nd =>
        have e1 := List.length_eq_zero_iff.mp ((h a List.mem_cons_self).2.trans hw)
        have e2 := List.length_eq_zero_iff.mp ((h b (List.mem_cons_of_mem _ List.mem_cons_self)).2.trans hw)
        rw [e1, e2] at nd
        simp at nd
    · refine .inr fun r hr e => hw ?_
      rw [← (h r hr).2, e]
      rfl
  have first : ∀ r : Row, r ≠ [] → (∃ x t, pk r = .tuple (x :: t) ∧ dataType x = .type "tuple") ∧ ∃ x t, lk r = .tuple (x :: t) ∧ dataType x = .type "tuple" := fun r hr => by
    cases r with
    | nil => exact absurd rfl hr
    | cons c r => exact ⟨⟨pcell c, _, rfl, by cases c <;> rfl⟩, lcell c, _, rfl, by cases c <;> rfl⟩
  refine ⟨⟨fun d hd => ?_, fun d hd e he => ?_, ?_⟩, ⟨fun d hd => ?_, fun d hd e he => ?_, ?_⟩⟩
  · obtain ⟨r, hr, rfl⟩ := List.mem_map.mp hd
    exact ⟨(isK_r (h r hr).1).1, (dep_r r).1⟩
  · obtain ⟨r, _, rfl⟩ := List.mem_map.mp hd
    obtain ⟨q, _, rfl⟩ := List.mem_map.mp he
    exact (cmp_r r q).1
  · refine kind.elim (fun z => .inl (by rw [List.length_map]; exact z)) fun z => .inr (.inl ⟨.type "tuple", fun d hd => ?_⟩)
    obtain ⟨r, hr, rfl⟩ := List.mem_map.mp hd
    exact (first r (z r hr)).1
  · obtain ⟨r, hr, rfl⟩ := List.mem_map.mp hd
    exact ⟨(isK_r (h r hr).1).2, (dep_r r).2⟩
  · obtain ⟨r, _, rfl⟩ := List.mem_map.mp hd
    obtain ⟨q, _, rfl⟩ := List.mem_map.mp he
    exact (cmp_r r q).2
  · refine kind.elim (fun z => .inl (by rw [List.length_map]; exact z)) fun z => .inr (.inl ⟨.type "tuple", fun d hd => ?_⟩)
    obtain ⟨r, hr, rfl⟩ := List.mem_map.mp hd
    exact (first r (z r hr)).2
/-! a dict's keys, put one by one -/
theorem keys_put {α : Type} [DecidableEq α] (kvs : List (α × V)) (k : α) (v : V) : (putK kvs k v).map (·.1) = if k ∈ kvs.map (·.1) then kvs.map (·.1) else kvs.map (·.1) ++ [k] := by
  unfold putK
  by_cases h : k ∈ kvs.map (·.1)
  · have h2 : (kvs.any fun kv => decide (kv.1 = k)) = true := by
      obtain ⟨p, hp, e⟩ := List.mem_map.mp h
      exact List.any_eq_true.mpr ⟨p, hp, decide_eq_true e⟩
    rw [if_pos h2, if_pos h, List.map_map]
    refine List.map_congr_left fun p _ => ?_
    show (if p.1 = k then (p.1, v) else p).1 = p.1
    split <;> rfl
  · have h2 : ¬ (kvs.any fun kv => decide (kv.1 = k)) = true := fun z => by
      obtain ⟨p, hp, e⟩ := List.any_eq_true.mp z
      exact h (List.mem_map.mpr ⟨p, hp, of_decide_eq_true e⟩)
    rw [if_neg h2, if_neg h, List.map_append]
    rfl
/-- the dict holds the rows rs, each once -/
def KeysAre {α : Type} (kvs : List (α × V)) (rs : List α) : Prop := (kvs.map (·.1)).Nodup ∧ ∀ r, r ∈ kvs.map (·.1) ↔ r ∈ rs
theorem keysAre_nil {α : Type} : KeysAre ([] : List (α × V)) [] := ⟨List.nodup_nil, fun _ => Iff.rfl⟩
theorem keysAre_put {α : Type} [DecidableEq α] {kvs : List (α × V)} {rs : List α} (h : KeysAre kvs rs) (k : α) (v : V) : KeysAre (putK kvs k v) (rs ++ [k]) := by
  unfold KeysAre
  rw [keys_put]
  by_cases c : k ∈ kvs.map (·.1)
  · rw [if_pos c]
    refine ⟨h.1, fun r => ?_⟩
    rw [List.mem_append, List.mem_singleton, ← h.2 r]
    exact ⟨.inl, fun z => z.elim id fun e => e ▸ c⟩
  · rw [if_neg c]
    refine ⟨?_, fun r => ?_⟩
    · rw [List.nodup_append]
      refine ⟨h.1, by simp, fun a ha b hb => ?_⟩
      rw [List.mem_singleton.mp hb]
      rintro rfl
      exact c ha
    · rw [List.mem_append, List.mem_append, h.2 r]
end

/-! ### data: in a tuple, sorted, slices, sums -/
section
open PySem.W PySem.Calls
variable {X : Cx} {K : Fg}
def rInT (K : Fg) : R2 := fun x y H Q => ∃ d ds, Dp K H x d ∧ Dp K H y (.tuple ds) ∧ SeqAt.shaped d = true ∧ SeqAt.shaped (.tuple ds) = true ∧ Q (.bl (ds.any fun z => PyData.eqv z d)) H
def rNinT (K : Fg) : R2 := fun x y H Q => ∃ d ds, Dp K H x d ∧ Dp K H y (.tuple ds) ∧ SeqAt.shaped d = true ∧ SeqAt.shaped (.tuple ds) = true ∧ Q (.bl (!ds.any fun z => PyData.eqv z d)) H
theorem op_inT (hu : X.A.units + 65 < cLine) : OpR X (compareOp .In) (rInT X.K) := by
  intro pins s σ H x y v u Q I rx ry h
  obtain ⟨d, ds, hd, he, sd, se, q⟩ := h
  obtain ⟨as, r1⟩ := Dp.reads I d x v hd rx
  obtain ⟨bs, r2⟩ := Dp.reads I (.tuple ds) y u he ry
  exact SeqAt.in_tuple_reads r2 r1 (SeqAt.canLay_of_shaped se) (SeqAt.canLay_of_shaped sd) (room_in_shaped sd hu) ⟨.bl _, H, I, rfl, q⟩
theorem op_ninT (hu : X.A.units + 65 < cLine) : OpR X (compareOp .NotIn) (rNinT X.K) := by
  intro pins s σ H x y v u Q I rx ry h
  obtain ⟨d, ds, hd, he, sd, se, q⟩ := h
  obtain ⟨as, r1⟩ := Dp.reads I d x v hd rx
  obtain ⟨bs, r2⟩ := Dp.reads I (.tuple ds) y u he ry
  exact SeqAt.notIn_tuple_reads r2 r1 (SeqAt.canLay_of_shaped se) (SeqAt.canLay_of_shaped sd) (room_in_shaped sd hu) ⟨.bl _, H, I, rfl, q⟩
def rInW (K : Fg) : R2 := fun x y H Q => rInU K x y H Q ∨ rInT K x y H Q
def rNinW (K : Fg) : R2 := fun x y H Q => rNinU K x y H Q ∨ rNinT K x y H Q
theorem op_inW (hu : X.A.units + 65 < cLine) (hK : X.K = K := by rfl) : OpR X (compareOp .In) (rInW K) := hK ▸ (op_inU hu).or (op_inT hu)
theorem op_ninW (hu : X.A.units + 65 < cLine) (hK : X.K = K := by rfl) : OpR X (compareOp .NotIn) (rNinW K) := hK ▸ (op_ninU hu).or (op_ninT hu)
/-- sorted(l) of keys -/
def rSortD (K : Fg) : List V → Hp → VK → Prop := fun us H Q => ∃ (a : Addr) (xs : List V) (ds : List PyData), us = [.ref a] ∧ SqL K H a xs ∧ DpAll K H xs ds ∧ KOk ds ∧
  ∀ p H' ys, Same H H' → H p = none → H' p = some (.lst ys) → DpAll K H' ys (ds.mergeSort (dataLe false id)) → Q (.ref p) H'
theorem dps_each {H : Hp} : ∀ {ds : List PyData} {xs : List V}, DpAll K H xs ds → EachIs (fun x d => Dp K H x d) xs ds
  | _, _, .nil => .nil
  | _, _, .cons h t => .cons h (dps_each t)
theorem each_dps {H : Hp} : ∀ {ds : List PyData} {xs : List V}, EachIs (fun x d => Dp K H x d) xs ds → DpAll K H xs ds
  | _, _, .nil => .nil
  | _, _, .cons h t => .cons h (each_dps t)
theorem cr_sortD (hu : X.A.units + 70 < cLine) : CallR X (.builtin "sorted") (rSortD X.K) := by
  intro pins s σ H us zs Q I r h
  obtain ⟨a, xs, ds, rfl, hs, hd, ok, q⟩ := h
  obtain rfl := Vals.ref1 r
  obtain ⟨its, rv, hl, hz⟩ := I.list hs
  have il : its.length ≤ sizeLine := by rw [← rv.length]; exact hz
  have re : EachIs (fun v d => ∃ as, Reads s.heap v d as) its ds := (each_up (vals_each rv) (dps_each hd)).mono fun v d ⟨x, r1, r2⟩ => Dp.reads I _ _ _ r2 r1
  have re2 : EachIs (fun v d => ∃ as, Reads (sortingHeap (copyHeap s.heap its) (s.heap.objs.size + 1) its) v d as) its ds := re.mono fun _ _ ⟨as, r⟩ => ⟨as, PyProof.Rows.Reads.keeps (fun _ _ => sorting_copy_old) r⟩
  have hS := sortsK (prog := X.prog) (w := X.w) (A := X.A.in1.in1) (s := { s with heap := sortingHeap (copyHeap s.heap its) (s.heap.objs.size + 1) its }) re2 ok (by show X.A.units + 1 + 1 + 64 < cLine; omega)
  refine sorted_vals hl.isList hS il ?_
  have hO : EachIs (fun v d => ∃ x, RelV x v ∧ Dp X.K H x d) (sortVals (dataKind (sortingHeap (copyHeap s.heap its) (s.heap.objs.size + 1) its) ds) false its its) (ds.mergeSort (dataLe false id)) := by
    refine sortVals_each (κ := dataKind (sortingHeap (copyHeap s.heap its) (s.heap.objs.size + 1) its) ds) (fun d => keyToks (id d)) (each_up (vals_each rv) (dps_each hd)) ?_
    exact (each_mem re2).mono fun v d ⟨⟨as, r⟩, hd⟩ => kind_of hd r
  obtain ⟨ys, v1, v2⟩ := each_vals hO
  have yl : ys.length ≤ sizeLine := by
    rw [v2.length, List.length_mergeSort, ← re.length]
    exact il
  generalize sortVals (dataKind (sortingHeap (copyHeap s.heap its) (s.heap.objs.size + 1) its) ds) false its its = out at v1 hO
  obtain ⟨ep, he⟩ := PyProof.Rows.sortedAll_at s.heap its out.toArray
  have hn : H (s.heap.objs.size + 1) = none := I.hok.fresh (Nat.le_succ _)
  refine ⟨.ref _, upd H (s.heap.objs.size + 1) (.lst ys), I.laid (t' := s.toks) (fun _ _ => PyProof.Rows.sortedAll_old) (Nat.le_succ _) ⟨yl, out, ep, v1, he⟩, rfl, q _ _ _ (same_new hn _) hn upd_same ?_⟩
  exact dpsUp (same_new hn _) (each_dps v2)
theorem cr_sortDK (hu : X.A.units + 70 < cLine) (hK : X.K = K := by rfl) : CallR X (.builtin "sorted") (rSortD K) := hK ▸ cr_sortD hu
end
section
variable {K : Fg} {H : Hp} {Q : VK} {x y : V} {ds es : List PyData}
theorem r_slD {lo hi : Option Int} (h : Dp K H x (.tuple ds)) (k : ∀ u H', Same H H' → Dp K H' u (.tuple ((ds.drop (HT.sIx ds.length 0 lo)).take (HT.sIx ds.length ds.length hi - HT.sIx ds.length 0 lo))) → Q u H') : rSlU K x lo hi H Q := by
  obtain ⟨a, xs, rfl, h1, h2⟩ := dp_tup h
  have hl := dps_len h2
  refine .inr (.inl ⟨a, xs, rfl, h1, fun e => ?_, fun _ p hp => k _ _ (same_new hp _) ?_⟩)
  · rw [hl] at e
    refine k _ H (Same.refl _) ?_
    rw [e.1, e.2, List.drop_zero, Nat.sub_zero, List.take_length]
    exact h
  · refine .tup (SqT.of upd_same) (dpsUp (same_new hp _) ?_)
    unfold cutV
    rw [hl]
    exact dps_take _ (dps_drop _ h2)
theorem r_catD (h : Dp K H x (.tuple ds)) (h2 : Dp K H y (.tuple es)) (hz : ds.length + es.length ≤ 100000) (k : ∀ u H', Same H H' → Dp K H' u (.tuple (ds ++ es)) → Q u H') : rAddU K x y H Q := by
  obtain ⟨a, xs, rfl, h1, hd⟩ := dp_tup h
  obtain ⟨b, ys, rfl, h3, he⟩ := dp_tup h2
  have l1 := dps_len hd
  have l2 := dps_len he
  refine .inr (.inr (.inl ⟨a, b, xs, ys, rfl, rfl, h1, h3, by rw [l1, l2]; exact small2 hz, fun e => ?_, fun _ e => ?_, fun _ _ p hp => ?_⟩))
  · subst e
    cases hd
    exact k _ H (Same.refl _) h2
  · subst e
    cases he
    refine k _ H (Same.refl _) ?_
    rw [List.append_nil]
    exact h
  · exact k _ _ (same_new hp _) (.tup (SqT.of upd_same) (dpsUp (same_new hp _) (dps_append hd he)))
end
theorem hu70 {A : Around} {k : Nat} (hr : Room k A) : A.units + 70 < cLine := by
  have := hr.un
  omega
/-- int of an int, a bool, a text -/
def rIntS : List V → Hp → VK → Prop := fun xs H Q => ∃ a n, xs = [.str a] ∧ PySem.intText? a = some n ∧ a.length ≤ 640 ∧ Q (.int n) H
def rIntW : List V → Hp → VK → Prop := fun xs H Q => rIntU xs H Q ∨ rIntS xs H Q
theorem call_intW {X : Cx} : CallR X (.type "int") rIntW := call_intU.or call_int_str

/-! ### len(set(l)), l a list of texts -/
/-- a text joins those met -/
def metS (σ : List Str) (x : Str) : List Str := if σ.any (· == x) = true then σ else σ ++ [x]
def ddS (xs : List Str) : List Str := xs.foldl metS []
theorem metS_len (σ : List Str) (x : Str) : (metS σ x).length = if σ.any (· == x) = true then σ.length else σ.length + 1 := by
  unfold metS
  split <;> simp
theorem metS_any (σ : List Str) (x k : Str) : (metS σ x).any (· == k) = (σ.any (· == k) || decide (k = x)) := by
  unfold metS
  by_cases h : σ.any (· == x) = true
  · rw [if_pos h]
    by_cases e : k = x
    · subst e
      rw [h]
      simp
    · simp [e]
  · rw [if_neg h, List.any_append]
    by_cases e : k = x
    · subst e
      simp
    · have hb : (x == k) = false := beq_eq_false_iff_ne.mpr fun z => e z.symm
      simp [hb, e]
theorem fold_le : ∀ (xs σ : List Str), (xs.foldl metS σ).length ≤ σ.length + xs.length
  | [], σ => Nat.le_refl _
  | x :: xs, σ => by
    have h := fold_le xs (metS σ x)
    have h2 : (metS σ x).length ≤ σ.length + 1 := by
      rw [metS_len]
      split <;> omega
    rw [List.foldl_cons, List.length_cons]
    omega
theorem ddS_le (xs : List Str) : (ddS xs).length ≤ xs.length := by
  have h := fold_le xs []
  rw [List.length_nil, Nat.zero_add] at h
  exact h
theorem ddS_snoc {xs : List Str} {i : Nat} (h : i < xs.length) : ddS (xs.take (i + 1)) = metS (ddS (xs.take i)) (xs.getD i Str.empty) := by
  have e : xs.getD i Str.empty = xs[i] := by simp [List.getD, h]
  unfold ddS
  rw [List.take_add_one, List.getElem?_eq_getElem h, e, Option.toList_some, List.foldl_append]
  rfl
section
open PyProof.Rows.F
variable {prog : Program} {w : World} {A : Around} {R : Result → Shared → Prop} {I : Addr} {fp wr : List Addr} {G : Array GenState → Array GenState → Prop} {n : Nat} {P : Nat → Value → Prop} {St : Nat → Shared → Prop}
theorem set_loop (W : WalksS prog w A.in1 I fp wr G n P St) (S : Addr) (hS : S ∉ fp) (xs : List Str) (hx : xs.length = n) (hb : n + 1 < scanBound) (hval : ∀ i v, P i v → ∃ t, v = .str (xs.getD i Str.empty) t) :
    ∀ (k i : Nat) (s : Shared), n - i = k → i ≤ n → St i s → s.heap.SetOf (PySem.strKind prog w) S (fun y => (ddS (xs.take i)).any (· == y)) (ddS (xs.take i)).length →
      (∀ s', Moved (S :: wr) G s s' → s'.heap.SetOf (PySem.strKind prog w) S (fun y => (ddS xs).any (· == y)) (ddS xs).length → R (.ok (.ret .none)) s') →
      codeAny (model prog w) A (.builtin "set.update.loop" ⟨[.ref S, .ref I], []⟩) R s := by
  have nw : S ∉ wr := fun h => hS (W.sub _ h)
  have sub : ∀ b ∈ wr, b ∈ S :: wr := fun b hb => List.mem_cons_of_mem _ hb
  have keep : ∀ {s s' : Shared} {T : Str → Bool} {m : Nat}, Moved wr G s s' → s.heap.SetOf (PySem.strKind prog w) S T m → s'.heap.SetOf (PySem.strKind prog w) S T m := fun {s s' T m} hm h => by
    obtain ⟨o, es, ep, tb, ho, rest⟩ := h
    exact ⟨o, es, ep, tb, hm.heap S _ nw ho, rest⟩
  intro k
  induction k with
  | zero =>
    intro i s hk hi hst hs hR
    obtain rfl : i = n := by omega
    refine codeAny_builtin entry_set_update_loop ?_
    rw [Around.under_plainId plain_set_update_loop _]
    show wpAny _ A.in1 (pyNext (.ref I) >>= _) _ _ s
    refine wpAny_bind (W.done s _ _ hst fun s' hm => wpAny_pure (hR s' (hm.mono sub) ?_))
    rw [List.take_of_length_le (Nat.le_of_eq hx)] at hs
    exact keep hm hs
  | succ k ih =>
    intro i s hk hi hst hs hR
    have lt : i < n := by omega
    refine codeAny_builtin entry_set_update_loop ?_
    rw [Around.under_plainId plain_set_update_loop _]
    show wpAny _ A.in1 (pyNext (.ref I) >>= _) _ _ s
    refine wpAny_bind (W.item i s _ _ lt hst fun v s' hP hst' hm => ?_)
    obtain ⟨t, rfl⟩ := hval i v hP
    have room : (ddS (xs.take i)).length + 1 < scanBound := by
      have z := ddS_le (xs.take i)
      rw [List.length_take] at z
      omega
    have h1 := keep (s' := s') hm hs
    show wpAny _ A.in1 (holding [Value.str (xs.getD i Str.empty) t] (setAdd S (.str (xs.getD i Str.empty) t)) >>= _) _ _ s'
    refine wpAny_bind (wpAny_holding ?_)
    unfold setAdd
    refine wpAny_holding (wpAny_bind ((PySem.strKind prog w).pyHash (k := xs.getD i Str.empty) (strKind_is _ _ _ _) ?_))
    refine wpAny_setAddHashed_of (knd := PySem.strKind prog w) (s := { s' with toks := s'.toks + 1 }) (strKind_is _ _ _ _) rfl h1 room fun g sb h2 => ?_
    have h3 : g.SetOf (PySem.strKind prog w) S (fun y => (ddS (xs.take (i + 1))).any (· == y)) (ddS (xs.take (i + 1))).length :=
      PyProof.Rows.SetOf_congr h2 (fun y => by rw [ddS_snoc (by omega), metS_any]) (by rw [ddS_snoc (by omega), metS_len])
    refine wpAny_pure ⟨plainId_quiet plain_set_update_loop _, ih (i + 1) _ (by omega) lt (W.frame _ s' _ _ hst' (Nat.le_succ _) fun b hb o e => ?_) h3 fun s'' m2 h4 => hR s'' (Moved.trans W.gtrans ((hm.mono sub).then_heap (Nat.le_succ _) fun b o hb e => ?_) m2) h4⟩
    · rw [sb.2 b fun z => hS (by rw [← z]; exact hb)]
      exact e
    · rw [sb.2 b fun z => hb (by rw [z]; exact List.mem_cons_self)]
      exact e
end
section
open PyProof.Rows.F
variable {prog : Program} {w : World} {A : Around} {E : Value → Shared → Prop} {s : Shared}
set_option maxHeartbeats 3200000 in
/-- set(l): the set is the first new object -/
theorem set_of {l : Addr} {its : Array Value} {xs : List Str} {Q : Value → Shared → Prop} (hh : A.handled = none) (hl : s.heap.IsList l its) (hi : PyProof.Rows.StrsAre its.toList xs) (hb : xs.length + 1 < scanBound)
    (h : ∀ (g : Heap) (tk : Nat), g.SetOf (PySem.strKind prog w) s.heap.objs.size (fun y => (ddS xs).any (· == y)) (ddS xs).length → (∀ b o, b < s.heap.objs.size → s.heap.get? b = some o → g.get? b = some o) →
      Q (.ref s.heap.objs.size) { s with heap := g, toks := tk }) : wpAny (model prog w) A (call (.type "set") [.ref l]) Q E s := by
  obtain ⟨c, tl, hmro⟩ := PySem.F.called_set.mro
  have m1 := PySem.F.called_set.made
  have m2 := PySem.F.called_set.sub
  have m3 := PySem.F.called_set.notType
  have m4 := PySem.F.called_set.canCreate
  have m5 := PySem.F.typeCall_set_1 (.ref l)
  refine wpAny_call (codeAny_of_tree ?_)
  show wpAny _ _ (callAny (.type "set") _) _ _ _
  refine wpAny_pure ⟨Code.quiet_builtin _ (by decide +kernel), codeAny_builtin PySem.F.entry_type_call ?_⟩
  rw [Around.under_plain (weight_type_call_type "set" [.ref l] []) rfl]
  repeat (any_goals (first | assumption | wp_step))
  refine codeAny_mono (code_set_new_1 (.ref l) (E := E) (Q₁ := fun ob s1 => ∃ b : Bool, ob = .ref s.heap.objs.size ∧ s1 = { s with heap := s.heap.push { cls := .type "set", dict := none, data := .set #[] 0 (.fresh 0 0 b) } }) fun b => ⟨b, rfl, rfl⟩) fun r s1 hr => ?_
  cases r with
  | error e => exact hr
  | ok fl =>
    cases fl with
    | ret ob =>
      obtain ⟨b, rfl, rfl⟩ := hr
      have g0 : (s.heap.push { cls := .type "set", dict := none, data := .set #[] 0 (.fresh 0 0 b) }).get? s.heap.objs.size = some { cls := .type "set", dict := none, data := .set #[] 0 (.fresh 0 0 b) } := Heap.get?_push_size _ rfl
      have hT : Shared.TypeIs { s with heap := s.heap.push { cls := .type "set", dict := none, data := .set #[] 0 (.fresh 0 0 b) } } (.ref s.heap.objs.size) "set" := ⟨_, g0, rfl⟩
      have n1 := PySem.F.called_set.init.lookup
      have n2 := PySem.F.called_set.init.bind (.ref s.heap.objs.size)
      repeat (any_goals (first | assumption | wp_step))
      refine codeAny_mono (codeAny_call_builtin (R := wants (fun r s2 => r = .none ∧ ∃ g tk, s2 = { s with heap := g, toks := tk } ∧ g.SetOf (PySem.strKind prog w) s.heap.objs.size (fun y => (ddS xs).any (· == y)) (ddS xs).length ∧
          (∀ b o, b < s.heap.objs.size → s.heap.get? b = some o → g.get? b = some o)) E) PySem.F.called_set.init.plain PySem.F.entry_set_init (check_set_init_1 hT ?_)) fun r2 s2 hr2 => ?_
      · obtain ⟨⟨c1, d1, a1, t1⟩, ho, hc, nl, hd⟩ := hl
        simp only at hc hd
        subst hc hd
        have ho1 : (s.heap.push { cls := .type "set", dict := none, data := .set #[] 0 (.fresh 0 0 b) }).get? l = some { cls := .type "list", dict := d1, data := .seq its nl, slots := t1 } := Heap.get?_push_of_some _ ho
        have u1 := PySem.F.sub_list_set
        have u2 := PySem.F.sub_list_frozenset
        have u3 : (Value.type "list" == Value.type "dict") = false := by decide
        have hl1 : (s.heap.push { cls := .type "set", dict := none, data := .set #[] 0 (.fresh 0 0 b) }).IsList l its := ⟨_, ho1, rfl, nl, rfl⟩
        unfold Builtin.«set.__init__» noKeywords Builtin.Frozenset.updateFrom
        generalize hPI : pyIter = PI
        wp_walk
        subst hPI
        refine wpAny_pyIter_list hl1 (wpAny_bind (wpAny_runValue ?_))
        have ls : l < s.heap.objs.size := Heap.lt_size ho
        have h3 : A.in1.in1.in1.handled = none := by simp [hh]
        have ne1 : l ≠ (s.heap.push { cls := .type "set", dict := none, data := .set #[] 0 (.fresh 0 0 b) }).objs.size := by
          rw [Heap.size_push]
          exact Nat.ne_of_lt (Nat.lt_succ_of_lt ls)
        have nf : s.heap.objs.size ∉ [(s.heap.push { cls := .type "set", dict := none, data := .set #[] 0 (.fresh 0 0 b) }).objs.size, l] := by
          rw [Heap.size_push]
          simp only [List.mem_cons, List.not_mem_nil, or_false, not_or]
          exact ⟨Nat.ne_of_lt (Nat.lt_succ_self _), Nat.ne_of_gt ls⟩
        have sz : xs.length = its.size := by rw [← StrsAre.len_eq hi, Array.length_toList]
        refine set_loop ((Walks.list h3 _ l ne1 its).toS) s.heap.objs.size nf xs sz (by rw [← sz]; exact hb) (fun i v hv => SS.strs_at hi i v (by rw [Array.getElem?_toList]; exact hv)) (its.size - 0) 0 _ (by omega) (Nat.zero_le _)
          ⟨⟨_, Heap.get?_push_size _ rfl, rfl, rfl⟩, (hl1.push _)⟩ ?_ fun s' hm hS => ?_
        · have g1 : ((s.heap.push { cls := .type "set", dict := none, data := .set #[] 0 (.fresh 0 0 b) }).push { cls := .type "list_iterator", data := .fields #[.ref l, .int 0 0] }).get? s.heap.objs.size = some { cls := .type "set", dict := none, data := .set #[] 0 (.fresh 0 0 b) } := Heap.get?_push_of_some _ g0
          exact PyProof.Rows.SetOf_congr ((PyProof.Rows.setObjOf_fresh (knd := PySem.strKind prog w) b).setOf g1 (by unfold scanBound; omega)) (fun _ => rfl) rfl
        · obtain ⟨g, gs, dr, tk, os⟩ := s'
          obtain rfl : gs = s.gens := hm.gens
          obtain rfl : dr = s.drawn := hm.drawn
          obtain rfl : os = s.os := hm.os
          show wpAny _ _ _ _ _ _
          refine wpAny_pure ?_
          show wpAny _ _ (ret Value.none) _ _ _
          refine wpAny_pure ⟨rfl, g, tk, rfl, hS, fun b2 o hb2 e => hm.heap b2 o ?_ (Heap.get?_push_of_some _ (Heap.get?_push_of_some _ e))⟩
          simp only [List.mem_cons, List.not_mem_nil, or_false, not_or]
          refine ⟨Nat.ne_of_lt hb2, ?_⟩
          rw [Heap.size_push]
          exact Nat.ne_of_lt (Nat.lt_succ_of_lt hb2)
      · cases r2 with
        | error e => exact hr2
        | ok f2 =>
          cases f2 with
          | ret r =>
            obtain ⟨rfl, g, tk, rfl, hS, hk⟩ := hr2
            repeat (any_goals (first | assumption | wp_step))
            exact h _ _ hS hk
          | _ => exact hr2.elim
    | _ => exact hr.elim
end
section
variable {X : Cx} {pos : Pos}
/-- len(set(l)) -/
def tLenSetL (K : Fg) (ta : TE) : TE := fun σ H Q => ta σ H fun x H1 => ∃ (l : Addr) (xs : List Str), x = .ref l ∧ SqL K H1 l (xs.map V.str) ∧ xs.length < 4000 ∧ Q (.int ((ddS xs).length : Int)) H1
theorem pe_lenSetL {a : Expr} {ta : TE} {p p2 q pos : Pos} {K : Fg} (hc : X.calm = true) (hg : Gl X "len") (hm : X.mg "len" = none) (hg2 : Gl X "set") (hm2 : X.mg "set" = none) (ha : PE X a ta)
    (na : starEach [a] X.env = (false, eval a X.env) :: starEach [] X.env := by rfl) (hK : X.K = K := by rfl) : PE X (.Call (.Name "len" p) [.Call (.Name "set" p2) [a] [] q] [] pos) (tLenSetL K ta) := by
  subst hK
  refine ⟨fun pins s σ H Q I h => ?_⟩
  refine Call_ (ld_blt I hg hm boot_len (PyProof.Rows.callWith_builtin1 (PyProof.Rows.args_cons ?_ rfl) rfl rfl))
  refine Call_ (ld_blt I hg2 hm2 boot_set (PyProof.Rows.callWith_type1 (PyProof.Rows.args_cons (thn (ha.run pins s σ H _ I h) fun v s1 ⟨x, H1, I1, r1, l, xs, ex, hq, hz, q1⟩ => PyProof.Rows.args_nil ?_) na) na rfl))
  subst ex
  cases r1
  obtain ⟨its, r, pl, _⟩ := I1.list hq
  refine set_of (I1.ok.hd hc) pl.isList (by simpa using strsAre_of r) (by unfold scanBound; omega) fun g tk hS hk => PyProof.Rows.args_nil ?_
  obtain ⟨o, es, ep, t, ho, hex, hd, _, _, _, hf, hn⟩ := hS
  have I2 : Inv X pins σ H1 { s1 with heap := g, toks := tk } := I1.kept fun b o e => hk b o (Heap.lt_size e) e
  have le := ddS_le xs
  exact call_len_set ho hex hd hf (by rw [hn] <;> omega) ⟨.int ((ddS xs).length : Int), H1, I2.tok _, ⟨_, by rw [hn]⟩, q1⟩
end

/-! ### texts cut and joined, over tuples on the way -/
section
variable {K : Fg} {H : Hp} {Q : VK}
theorem r_subS {lo hi : Option Int} {z : Str} {n : Nat} (h : okS n z) (hn : n ≤ 1000000) (q : okS n (cutS z lo hi) → Q (.str (cutS z lo hi)) H) : rSlU K (.str z) lo hi H Q := .inr (.inr ⟨z, rfl, h.size hn, q (okS_cut h lo hi)⟩)
theorem r_toS {k : Nat} {z : Str} {n : Nat} (h : okS n z) (hn : n ≤ 1000000) (q : okS k (cutS z none (some (k : Int))) → Q (.str (cutS z none (some (k : Int)))) H) : rSlU K (.str z) none (some (k : Int)) H Q := .inr (.inr ⟨z, rfl, h.size hn, q (okS_cutTo h)⟩)
theorem r_addS {x y : Str} {n m : Nat} (h : okS n x) (h2 : okS m y) (hn : n + m ≤ 1000000) (q : okS (n + m) (x ++ y) → Q (.str (x ++ y)) H) : rAddU K (.str x) (.str y) H Q := by
  refine .inr (.inl ⟨x, y, rfl, rfl, ?_, q (okS_app h h2)⟩)
  have h3 := h.1
  have h4 := h2.1
  rw [sizeLine_eq]
  omega
end
section
variable {K : Fg} {σ : L2.St} {H : Hp} {Q : VK} {g : TG} {tt : TT} {te : TE} {vs : List Nat}
/-- a comprehension over a tuple that is made on the way -/
theorem r_lcTe {tl : TE} (R : Addr → List V → Hp → Prop) (hev : ∀ Q : VK, (∀ a xs H1, R a xs H1 → SqT K H1 a xs → Q (.ref a) H1) → tl σ H Q)
    (hb : ∀ a xs H1, R a xs H1 → SqT K H1 a xs → ∃ Pv : Addr → Nat → List V → Hp → Prop, (∀ p H', Same H1 H' → H1 p = none → H' p = some (.lst []) → Pv p 0 [] H') ∧ (∀ p i acc H', i ≤ xs.length → H1 p = none → H' p = some (.lst acc) → Pv p i acc H' → TSame K H1 H') ∧
      (∀ p i x acc H', xs[i]? = some x → H1 p = none → H' p = some (.lst acc) → Pv p i acc H' → LcTurn g tt te vs σ p (LcNx Pv p xs.length i) x H') ∧
      (∀ p acc H', H1 p = none → H' p = some (.lst acc) → Pv p xs.length acc H' → Q (.ref p) H')) : tLc (iSeqU K tl) g tt te vs σ H Q := by
  refine .inr (hev _ fun a xs H1 r hsq => ⟨a, rfl, ⟨xs, hsq⟩, ?_⟩)
  obtain ⟨Pv, h0, hk, hs, hd⟩ := hb a xs H1 r hsq
  intro p hp
  refine lc_tup (xs := xs) (fun i H' => i ≤ xs.length ∧ ∃ acc, H' p = some (.lst acc) ∧ Pv p i acc H') ⟨Nat.zero_le _, [], upd_same, h0 p _ (same_new hp _) hp upd_same⟩ (fun i H' hi ⟨_, acc, e, hP⟩ => hk p i acc H' hi hp e hP _ _ hsq) (fun i x H' hi ⟨_, acc, e, hP⟩ => ?_) (fun H' ⟨_, acc, e, hP⟩ => hd p acc H' hp e hP)
  exact hs p i x acc H' hi hp e hP
theorem each_strs : ∀ xs : List Str, PySem.W.EachIs (fun x s => x = V.str s) (xs.map V.str) xs
  | [] => .nil
  | x :: xs => .cons rfl (each_strs xs)
theorem strs_each : ∀ {ys : List V} {xs : List Str}, PySem.W.EachIs (fun x s => x = V.str s) ys xs → ys = xs.map V.str
  | _, _, .nil => rfl
  | _, _, .cons h t => by rw [h, strs_each t]; rfl
theorem str_at {xs : List Str} {i : Nat} {x : V} (h : (xs.map V.str)[i]? = some x) : ∃ s, xs[i]? = some s ∧ x = V.str s := by
  rw [List.getElem?_map] at h
  cases e : xs[i]? with
  | none => rw [e] at h; cases h
  | some s => rw [e] at h; exact ⟨s, rfl, (Option.some.inj h).symm⟩
theorem dps_strs : ∀ xs : List Str, DpAll K H (xs.map V.str) (xs.map PyData.str)
  | [] => .nil
  | x :: xs => .cons (.str x) (dps_strs xs)
theorem map_at {α : Type} {f : α → PyData} {xs : List α} {i : Nat} {d : PyData} (h : (xs.map f)[i]? = some d) : ∃ x, xs[i]? = some x ∧ d = f x := by
  rw [List.getElem?_map] at h
  cases e : xs[i]? with
  | none => rw [e] at h; cases h
  | some x => rw [e] at h; exact ⟨x, rfl, (Option.some.inj h).symm⟩
theorem take_snoc {α : Type} {l : List α} {i : Nat} {x : α} (h : l[i]? = some x) : l.take (i + 1) = l.take i ++ [x] := by
  rw [List.take_add_one, h]
  rfl
end

/-! ### the tape -/
/-- [list(script), place, left, mixed] at t -/
def TapeL (H : Hp) (t l : Addr) : Prop := ∃ (ns : List Int) (place left mixed : Int), H t = some (.lst [.ref l, .int place, .int left, .int mixed]) ∧ H l = some (.lst (ns.map V.int)) ∧ l ≠ t ∧ 0 ≤ place ∧ 0 ≤ left ∧ 0 ≤ mixed ∧ ns.length ≤ 63
def Tape (H : Hp) (t : Addr) : Prop := ∃ l, TapeL H t l
/-- all but the tape stays, and the tape is one -/
structure Ext (K : Fg) (t : Addr) (H H' : Hp) : Prop where
  oth : ∀ b o, b ≠ t → H b = some o → H' b = some o
  tup : TSame K H H'
  tp : ∃ l, TapeL H t l ∧ TapeL H' t l
section
variable {K : Fg} {H H' H1 H2 : Hp} {t p a : Addr}
theorem TapeL.same {l : Addr} (e : Same H H') (h : TapeL H t l) : TapeL H' t l := by
  obtain ⟨ns, a, b, c, h1, h2, r⟩ := h
  exact ⟨ns, a, b, c, e _ _ h1, e _ _ h2, r⟩
theorem Tape.same (e : Same H H') (h : Tape H t) : Tape H' t := ⟨_, h.choose_spec.same e⟩
theorem TapeL.one {l m : Addr} (h : TapeL H t l) (h' : TapeL H t m) : l = m := by
  obtain ⟨_, _, _, _, h1, _⟩ := h
  obtain ⟨_, _, _, _, h2, _⟩ := h'
  rw [h1] at h2
  simp only [Option.some.injEq, HO.lst.injEq, List.cons.injEq, V.ref.injEq] at h2
  exact h2.1
theorem Ext.tape (e : Ext K t H H') : Tape H' t := by
  obtain ⟨l, _, h⟩ := e.tp
  exact ⟨l, h⟩
theorem Ext.tape0 (e : Ext K t H H') : Tape H t := by
  obtain ⟨l, h, _⟩ := e.tp
  exact ⟨l, h⟩
theorem Ext.same (e : Same H H') (h : Tape H t) : Ext K t H H' := by
  obtain ⟨l, h⟩ := h
  exact ⟨fun b o _ q => e b o q, tsame e, l, h, h.same e⟩
theorem Ext.refl (h : Tape H t) : Ext K t H H := .same (Same.refl _) h
theorem Ext.trans (a : Ext K t H H1) (b : Ext K t H1 H2) : Ext K t H H2 := by
  obtain ⟨l, l1, l2⟩ := a.tp
  obtain ⟨m, m1, m2⟩ := b.tp
  have e := l2.one m1
  subst e
  exact ⟨fun x o n q => b.oth x o n (a.oth x o n q), fun x o q => b.tup x o (a.tup x o q), l, l1, m2⟩
theorem Ext.then (a : Ext K t H H1) (b : Same H1 H2) : Ext K t H H2 := a.trans (.same b a.tape)
theorem Ext.lst {xs : List V} (e : Ext K t H H') (n : a ≠ t) (h : SqL K H a xs) : SqL K H' a xs := by
  rcases h with (h | ⟨o, h⟩) | h
  · exact .inl (.inl (e.oth _ _ n h))
  · exact .inl (.inr ⟨o, e.oth _ _ n h⟩)
  · exact .inr h
theorem Tape.get (h : Tape H t) : ∃ xs, H t = some (.lst xs) := by
  obtain ⟨l, ns, a, b, c, h1, _⟩ := h
  exact ⟨_, h1⟩
theorem Tape.ne (h : Tape H t) (hp : H p = none) : p ≠ t := by
  rintro rfl
  obtain ⟨xs, h1⟩ := h.get
  rw [h1] at hp
  cases hp
theorem Ext.free (e : Ext K t H H') (hp : H' p = none) : H p = none := by
  cases h : H p with
  | none => rfl
  | some o => rw [e.oth p o (e.tape.ne hp) h] at hp; cases hp
theorem dpX {d : PyData} {v : V} (e : Ext K t H H') (n : noL d = true) (h : Dp K H v d) : Dp K H' v d := dp_monoT e.tup _ _ n h
theorem dpsX {d : List PyData} {v : List V} (e : Ext K t H H') (n : noLs d = true) (h : DpAll K H v d) : DpAll K H' v d := dps_monoT e.tup _ _ n h
theorem tsameL {xs : List V} (h1 : H1 p = some (.lst xs)) (h : ∀ b o, b ≠ p → H1 b = some o → H2 b = some o) : TSame K H1 H2 := fun a zs q => by
  rcases q with (q | ⟨o, q⟩) | q
  · exact .inl (.inl (h _ _ (by rintro rfl; rw [h1] at q; cases q) q))
  · exact .inl (.inr ⟨o, h _ _ (by rintro rfl; rw [h1] at q; cases q) q⟩)
  · exact .inr q
/-- an owned list (fresh ahead of H) may change -/
theorem Ext.mut {xs : List V} (e : Ext K t H H1) (hp : H p = none) (h1 : H1 p = some (.lst xs)) (h : ∀ b o, b ≠ p → H1 b = some o → H2 b = some o) : Ext K t H H2 := by
  have tp := tsameL (K := K) h1 h
  refine ⟨fun b o n q => h _ _ (by rintro rfl; rw [hp] at q; cases q) (e.oth b o n q), fun a zs q => tp _ _ (e.tup a zs q), ?_⟩
  have np := e.tape0.ne hp
  obtain ⟨l, l1, l2⟩ := e.tp
  refine ⟨l, l1, ?_⟩
  obtain ⟨_, _, _, _, _, k2, _⟩ := l1
  obtain ⟨ns, a, b, c, q1, q2, q3⟩ := l2
  exact ⟨ns, a, b, c, h _ _ np.symm q1, h _ _ (by rintro rfl; rw [hp] at k2; cases k2) q2, q3⟩
theorem Same.mut (e : Same H H1) (hp : H p = none) (h : ∀ b o, b ≠ p → H1 b = some o → H2 b = some o) : Same H H2 := fun b o q => h _ _ (by rintro rfl; rw [hp] at q; cases q) (e b o q)
end
def sp__law_tape (K : Fg) : Sp := fun vs H Q _ => ∃ (a : Addr) (ns : List Int), vs = [.ref a] ∧ SqL K H a (ns.map V.int) ∧ ns.length ≤ 63 ∧ ∀ t H', Same H H' → Tape H' t → Q (.ref t) H'
def sp__law_draw (K : Fg) : Sp := fun vs H Q _ => ∃ (t : Addr) (many : Int), vs = [.ref t, .int many] ∧ Tape H t ∧ many.natAbs < 2 ^ 62 ∧ ∀ r H', Ext K t H H' → 0 ≤ r → r < max many 1 → Q (.int r) H'
/-- an item of a list of values -/
def sp__law_pick (K : Fg) : Sp := fun vs H Q _ => ∃ (t a : Addr) (xs : List V), vs = [.ref t, .ref a] ∧ Tape H t ∧ SqL K H a xs ∧ a ≠ t ∧ 0 < xs.length ∧ xs.length < 2 ^ 60 ∧ ∀ (i : Nat) (v : V) (H' : Hp), Ext K t H H' → xs[i]? = some v → Q v H'
--', Ext K t H H' → xs[i]? = some v → Q v H'
/-- some of 0 .. many - 1 -/
def sp__law_turns (K : Fg) : Sp := fun vs H Q _ => ∃ (t : Addr) (many : Nat), vs = [.ref t, .int many] ∧ Tape H t ∧ many < 1000 ∧ ∀ (a : Addr) (ns : List Int) (H' : Hp), Ext K t H H' → H a = none → H' a = some (.lst (ns.map V.int)) → (∀ n ∈ ns, 0 ≤ n ∧ n < (many : Int)) → ns.length ≤ many → Q (.ref a) H'
--', Ext K t H H' → H a = none → H' a = some (.lst (ns.map V.int)) → (∀ n ∈ ns, 0 ≤ n ∧ n < (many : Int)) → ns.length ≤ many → Q (.ref a) H'
def sp__law_shuffled (K : Fg) : Sp := fun vs H Q _ => ∃ (t a : Addr) (xs : List V), vs = [.ref t, .ref a] ∧ Tape H t ∧ SqL K H a xs ∧ a ≠ t ∧ xs.length < 100000 ∧ ∀ (p : Addr) (ys : List V) (H' : Hp), Ext K t H H' → H p = none → H' p = some (.lst ys) → ys.Perm xs → Q (.ref p) H'
--', Ext K t H H' → H p = none → H' p = some (.lst ys) → ys.Perm xs → Q (.ref p) H'

/-! ### the value layer: what the code computes, as plain functions of data -/
/-- what a slot holds, what an expression tells: data; a new list or dict that nobody else knows (n); the list or dict that slot i owns (o i; in the slot itself: w); the tape -/
inductive Av where
  | v (d : PyData) | n (d : PyData) | o (i : Nat) | w (d : PyData) | tp
abbrev En := List (Option Av)
abbrev EV := En → (Av → En → Prop) → Prop
abbrev TV := En → (Bool → En → Prop) → Prop
abbrev AV := En → (List Av → En → Prop) → Prop
structure EndsV where
  nx : En → Prop
  rt : Av → Prop
  bk : En → Prop
  ct : En → Prop
abbrev SV := EndsV → En → Prop
abbrev GV := Av → En → (En → Prop) → Prop
/-- a def: of its arguments -/
abbrev FV := List Av → (Av → Prop) → Prop
def Av.getK (x : Av) (ρ : En) (k : PyData → Prop) : Prop :=
  match x with
  | .v d => k d
  | .n d => k d
  | .o i => match ρ[i]? with
    | some (some (.w d)) => k d
    | _ => False
  | _ => False
/-! ### data in the heap, away from what is owned -/
def kD : L2.Key → PyData
  | .inl i => .int i
  | .inr s => .str s
mutual
inductive R (K : Fg) (O : Addr → Prop) (H : Hp) : V → PyData → Prop
  | non : R K O H .non .none
  | bl (b : Bool) : R K O H (.bl b) (.bool b)
  | int (i : Int) : R K O H (.int i) (.int i)
  | str (x : Str) : R K O H (.str x) (.str x)
  | tup {a : Addr} {vs : List V} {ds : List PyData} : SqT K H a vs → Rs K O H vs ds → R K O H (.ref a) (.tuple ds)
  | lst {a : Addr} {vs : List V} {ds : List PyData} : ¬ O a → H a = some (.lst vs) → Rs K O H vs ds → R K O H (.ref a) (.list ds)
  | dK {a : Addr} {kvs : List (L2.Key × V)} {ds : List (PyData × PyData)} : ¬ O a → Rd H a (.dK kvs) → Rk K O H kvs ds → R K O H (.ref a) (.dict ds)
inductive Rs (K : Fg) (O : Addr → Prop) (H : Hp) : List V → List PyData → Prop
  | nil : Rs K O H [] []
  | cons {v : V} {vs : List V} {d : PyData} {ds : List PyData} : R K O H v d → Rs K O H vs ds → Rs K O H (v :: vs) (d :: ds)
inductive Rk (K : Fg) (O : Addr → Prop) (H : Hp) : List (L2.Key × V) → List (PyData × PyData) → Prop
  | nil : Rk K O H [] []
  | cons {k : L2.Key} {v : V} {kvs : List (L2.Key × V)} {d : PyData} {ds : List (PyData × PyData)} : R K O H v d → Rk K O H kvs ds → Rk K O H ((k, v) :: kvs) ((kD k, d) :: ds)
end
/-- from one heap to another: tuples stand, and what is not owned -/
structure Mv (K : Fg) (O O' : Addr → Prop) (H H' : Hp) : Prop where
  tup : TSame K H H'
  oth : ∀ a o, ¬ O a → H a = some o → ¬ O' a ∧ H' a = some o
mutual
theorem R.mv {K : Fg} {O O' : Addr → Prop} {H H' : Hp} (m : Mv K O O' H H') : ∀ {d : PyData} {v : V}, R K O H v d → R K O' H' v d
  | _, _, .non => .non
  | _, _, .bl b => .bl b
  | _, _, .int i => .int i
  | _, _, .str x => .str x
  | _, _, .tup h1 h2 => .tup (m.tup _ _ h1) (Rs.mv m h2)
  | _, _, .lst n h1 h2 => .lst (m.oth _ _ n h1).1 (m.oth _ _ n h1).2 (Rs.mv m h2)
  | _, _, .dK n (.inl h1) h2 => .dK (m.oth _ _ n h1).1 (.inl (m.oth _ _ n h1).2) (Rk.mv m h2)
  | _, _, .dK n (.inr ⟨o, h1⟩) h2 => .dK (m.oth _ _ n h1).1 (.inr ⟨o, (m.oth _ _ n h1).2⟩) (Rk.mv m h2)
theorem Rs.mv {K : Fg} {O O' : Addr → Prop} {H H' : Hp} (m : Mv K O O' H H') : ∀ {ds : List PyData} {vs : List V}, Rs K O H vs ds → Rs K O' H' vs ds
  | _, _, .nil => .nil
  | _, _, .cons h1 h2 => .cons (R.mv m h1) (Rs.mv m h2)
theorem Rk.mv {K : Fg} {O O' : Addr → Prop} {H H' : Hp} (m : Mv K O O' H H') : ∀ {ds : List (PyData × PyData)} {vs : List (L2.Key × V)}, Rk K O H vs ds → Rk K O' H' vs ds
  | _, _, .nil => .nil
  | _, _, .cons h1 h2 => .cons (R.mv m h1) (Rk.mv m h2)
end
theorem Mv.same {K : Fg} {O : Addr → Prop} {H H' : Hp} (e : Same H H') : Mv K O O H H' := ⟨tsame e, fun a o n h => ⟨n, e a o h⟩⟩
/-- fewer are owned -/
theorem Mv.less {K : Fg} {O O' : Addr → Prop} {H : Hp} (e : ∀ a, O' a → O a) : Mv K O O' H H := ⟨fun _ _ h => h, fun a o n h => ⟨fun z => n (e a z), h⟩⟩
theorem Mv.trans {K : Fg} {O O1 O2 : Addr → Prop} {H H1 H2 : Hp} (a : Mv K O O1 H H1) (b : Mv K O1 O2 H1 H2) : Mv K O O2 H H2 := ⟨a.tup.trans b.tup, fun x o n h => b.oth x o (a.oth x o n h).1 (a.oth x o n h).2⟩
mutual
theorem R.noL {K : Fg} {O O' : Addr → Prop} {H : Hp} : ∀ {d : PyData} {v : V}, noL d = true → R K O H v d → R K O' H v d
  | .none, _, _, h => by cases h; exact .non
  | .bool b, _, _, h => by cases h; exact .bl b
  | .int i, _, _, h => by cases h; exact .int i
  | .str x, _, _, h => by cases h; exact .str x
  | .list _, _, n, _ => by unfold WB.noL at n; cases n
  | .dict _, _, n, _ => by unfold WB.noL at n; cases n
  | .tuple ds, _, n, h => by
    unfold WB.noL at n
    cases h with
    | tup h1 h2 => exact .tup h1 (Rs.noL n h2)
theorem Rs.noL {K : Fg} {O O' : Addr → Prop} {H : Hp} : ∀ {ds : List PyData} {vs : List V}, noLs ds = true → Rs K O H vs ds → Rs K O' H vs ds
  | [], _, _, h => by cases h; exact .nil
  | d :: ds, _, n, h => by
    unfold WB.noLs at n
    rw [Bool.and_eq_true] at n
    cases h with
    | cons h1 h2 => exact .cons (R.noL n.1 h1) (Rs.noL n.2 h2)
end
mutual
def noK : PyData → Bool
  | .none => true
  | .bool _ => true
  | .int _ => true
  | .str _ => true
  | .tuple xs => noKs xs
  | .list xs => noKs xs
  | .dict _ => false
def noKs : List PyData → Bool
  | [] => true
  | x :: xs => noK x && noKs xs
end
mutual
theorem R.dp {K : Fg} {O : Addr → Prop} {H : Hp} : ∀ {d : PyData} {v : V}, noK d = true → R K O H v d → Dp K H v d
  | .none, _, _, h => by cases h; exact .non
  | .bool b, _, _, h => by cases h; exact .bl b
  | .int i, _, _, h => by cases h; exact .int i
  | .str x, _, _, h => by cases h; exact .str x
  | .list ds, _, n, h => by
    unfold noK at n
    cases h with
    | lst _ h1 h2 => exact .lst (SqL.of h1) (Rs.dp n h2)
  | .dict _, _, n, _ => by unfold noK at n; cases n
  | .tuple ds, _, n, h => by
    unfold noK at n
    cases h with
    | tup h1 h2 => exact .tup h1 (Rs.dp n h2)
theorem Rs.dp {K : Fg} {O : Addr → Prop} {H : Hp} : ∀ {ds : List PyData} {vs : List V}, noKs ds = true → Rs K O H vs ds → DpAll K H vs ds
  | [], _, _, h => by cases h; exact .nil
  | d :: ds, _, n, h => by
    unfold noKs at n
    rw [Bool.and_eq_true] at n
    cases h with
    | cons h1 h2 => exact .cons (R.dp n.1 h1) (Rs.dp n.2 h2)
end
mutual
theorem noK_lay : ∀ {d : PyData}, d.canLay0 = true → noK d = true
  | .none, _ => by unfold noK; rfl
  | .bool b, _ => by unfold noK; rfl
  | .int i, _ => by unfold noK; rfl
  | .str x, _ => by unfold noK; rfl
  | .list ds, h => by unfold noK; exact noKs_lay (by simpa [PyData.canLay0] using h)
  | .tuple ds, h => by unfold noK; exact noKs_lay (by simpa [PyData.canLay0] using h)
  | .dict _, h => by simp [PyData.canLay0] at h
theorem noKs_lay : ∀ {ds : List PyData}, PyData.canLayAll0 ds = true → noKs ds = true
  | [], _ => by unfold noKs; rfl
  | d :: ds, h => by
    unfold noKs
    simp only [PyData.canLayAll0, Bool.and_eq_true] at h
    rw [noK_lay h.1, noKs_lay h.2]
    rfl
end
theorem noK_shaped {d : PyData} (h : SeqAt.shaped d = true) : noK d = true := noK_lay (SeqAt.canLay_of_shaped h)
theorem Rs.len {K : Fg} {O : Addr → Prop} {H : Hp} : ∀ {ds : List PyData} {vs : List V}, Rs K O H vs ds → vs.length = ds.length
  | _, _, .nil => rfl
  | _, _, .cons _ h => congrArg (· + 1) (Rs.len h)
theorem Rs.get {K : Fg} {O : Addr → Prop} {H : Hp} : ∀ {ds : List PyData} {vs : List V} {i : Nat} {d : PyData}, Rs K O H vs ds → ds[i]? = some d → ∃ v, vs[i]? = some v ∧ R K O H v d
  | _, _, i, d, .nil, h => by simp at h
  | _, _, 0, d, .cons (v := v) h1 h2, h => by
    have e := Option.some.inj h
    subst e
    exact ⟨v, rfl, h1⟩
  | _, _, i + 1, d, .cons h1 h2, h => by
    obtain ⟨v, e, q⟩ := Rs.get h2 (i := i) (d := d) (by simpa using h)
    exact ⟨v, by simpa using e, q⟩
theorem Rs.getV {K : Fg} {O : Addr → Prop} {H : Hp} : ∀ {ds : List PyData} {vs : List V} {i : Nat} {v : V}, Rs K O H vs ds → vs[i]? = some v → ∃ d, ds[i]? = some d ∧ R K O H v d
  | _, _, i, d, .nil, h => by simp at h
  | _, _, 0, d, .cons (d := v) h1 h2, h => by
    have e := Option.some.inj h
    subst e
    exact ⟨v, rfl, h1⟩
  | _, _, i + 1, d, .cons h1 h2, h => by
    obtain ⟨v, e, q⟩ := Rs.getV h2 (i := i) (v := d) (by simpa using h)
    exact ⟨v, by simpa using e, q⟩
theorem Rs.append {K : Fg} {O : Addr → Prop} {H : Hp} : ∀ {ds es : List PyData} {vs us : List V}, Rs K O H vs ds → Rs K O H us es → Rs K O H (vs ++ us) (ds ++ es)
  | _, _, _, _, .nil, h => h
  | _, _, _, _, .cons h1 h2, h => .cons h1 (Rs.append h2 h)
theorem Rs.set {K : Fg} {O : Addr → Prop} {H : Hp} : ∀ {ds : List PyData} {vs : List V} {i : Nat} {v : V} {d : PyData}, Rs K O H vs ds → R K O H v d → Rs K O H (vs.set i v) (ds.set i d)
  | _, _, _, _, _, .nil, _ => .nil
  | _, _, 0, _, _, .cons h1 h2, h => .cons h h2
  | _, _, i + 1, _, _, .cons h1 h2, h => .cons h1 (Rs.set h2 h)
theorem Rs.erase {K : Fg} {O : Addr → Prop} {H : Hp} : ∀ {ds : List PyData} {vs : List V} {i : Nat}, Rs K O H vs ds → Rs K O H (vs.eraseIdx i) (ds.eraseIdx i)
  | _, _, _, .nil => .nil
  | _, _, 0, .cons h1 h2 => h2
  | _, _, i + 1, .cons h1 h2 => .cons h1 (Rs.erase h2)
theorem Rs.take {K : Fg} {O : Addr → Prop} {H : Hp} : ∀ {ds : List PyData} {vs : List V} (i : Nat), Rs K O H vs ds → Rs K O H (vs.take i) (ds.take i)
  | _, _, 0, _ => by simp; exact .nil
  | _, _, _ + 1, .nil => .nil
  | _, _, i + 1, .cons h1 h2 => .cons h1 (Rs.take i h2)
theorem Rs.drop {K : Fg} {O : Addr → Prop} {H : Hp} : ∀ {ds : List PyData} {vs : List V} (i : Nat), Rs K O H vs ds → Rs K O H (vs.drop i) (ds.drop i)
  | _, _, 0, h => h
  | _, _, _ + 1, .nil => .nil
  | _, _, i + 1, .cons h1 h2 => Rs.drop i h2
/-- the thing at a itself, its items away from what is owned -/
inductive Top (K : Fg) (O : Addr → Prop) (H : Hp) (a : Addr) : PyData → Prop
  | lst {vs : List V} {ds : List PyData} : H a = some (.lst vs) → Rs K O H vs ds → Top K O H a (.list ds)
  | dK {kvs : List (L2.Key × V)} {ds : List (PyData × PyData)} : H a = some (.dK kvs) → Rk K O H kvs ds → Top K O H a (.dict ds)
theorem Top.mv {K : Fg} {O O' : Addr → Prop} {H H' : Hp} {a : Addr} {d : PyData} (m : Mv K O O' H H') (h : ∀ o, H a = some o → H' a = some o) (t : Top K O H a d) : Top K O' H' a d := by
  cases t with
  | lst h1 h2 => exact .lst (h _ h1) (h2.mv m)
  | dK h1 h2 => exact .dK (h _ h1) (h2.mv m)
/-- data, or an owned thing seen as data -/
def Sh (K : Fg) (O : Addr → Prop) (H : Hp) (v : V) (d : PyData) : Prop := R K O H v d ∨ ∃ a, v = .ref a ∧ Top K O H a d
/-- what can be owned -/
def Mtb : HO → Prop
  | .lst _ => True
  | .dK _ => True
  | .dT _ => True
  | _ => False
def OkO (O : Addr → Prop) (H : Hp) : Prop := ∀ a, O a → ∃ o, H a = some o ∧ Mtb o
/-- nothing but the tape is changed -/
def Fm (K : Fg) (t : Option Addr) (H H' : Hp) : Prop :=
  match t with
  | none => Same H H'
  | some a => Ext K a H H'
theorem Fm.same {K : Fg} {t : Option Addr} {H H1 H2 : Hp} (f : Fm K t H H1) (e : Same H1 H2) : Fm K t H H2 := by
  cases t with
  | none => exact Same.trans f e
  | some a => exact Ext.then f e
theorem Fm.oth {K : Fg} {t : Option Addr} {H H' : Hp} (f : Fm K t H H') {b : Addr} {o : HO} (n : some b ≠ t) (h : H b = some o) : H' b = some o := by
  cases t with
  | none => exact f b o h
  | some a => exact Ext.oth f b o (fun e => n (by rw [e])) h
theorem Fm.tup {K : Fg} {t : Option Addr} {H H' : Hp} (f : Fm K t H H') : TSame K H H' := by
  cases t with
  | none => exact tsame f
  | some a => exact Ext.tup f
theorem Fm.trans {K : Fg} {t : Option Addr} {H H1 H2 : Hp} (f : Fm K t H H1) (g : Fm K t H1 H2) : Fm K t H H2 := by
  cases t with
  | none => exact Same.trans f g
  | some a => exact Ext.trans f g
theorem Fm.free {K : Fg} {t : Option Addr} {H H' : Hp} (f : Fm K t H H') {b : Addr} (h : H' b = none) : H b = none := by
  cases e : H b with
  | none => rfl
  | some o =>
    cases t with
    | none => rw [f b o e] at h; cases h
    | some a => rw [Ext.free f h] at e; cases e
/-- .. and something that came later -/
theorem Fm.mut {K : Fg} {t : Option Addr} {H H1 H2 : Hp} (f : Fm K t H H1) {p : Addr} {o : HO} (hp : H p = none) (h1 : H1 p = some o) (hm : Mtb o) (h : ∀ b o, b ≠ p → H1 b = some o → H2 b = some o) : Fm K t H H2 := by
  have tp : TSame K H1 H2 := fun a zs q => by
    rcases q with (q | ⟨o', q⟩) | q
    · exact .inl (.inl (h _ _ (by rintro rfl; rw [h1] at q; cases q; exact hm) q))
    · exact .inl (.inr ⟨o', h _ _ (by rintro rfl; rw [h1] at q; cases q; exact hm) q⟩)
    · exact .inr q
  cases t with
  | none => exact Same.mut f hp h
  | some a =>
    have e : Ext K a H H1 := f
    refine ⟨fun b o n q => h _ _ (by rintro rfl; rw [hp] at q; cases q) (e.oth b o n q), fun a zs q => tp _ _ (e.tup a zs q), ?_⟩
    have np := e.tape0.ne hp
    obtain ⟨l, l1, l2⟩ := e.tp
    refine ⟨l, l1, ?_⟩
    obtain ⟨_, _, _, _, _, k2, _⟩ := l1
    obtain ⟨ns, a, b, c, q1, q2, q3⟩ := l2
    exact ⟨ns, a, b, c, h _ _ np.symm q1, h _ _ (by rintro rfl; rw [hp] at k2; cases k2) q2, q3⟩
/-! ### slots -/
structure Cd where
  K : Fg
  t : Option Addr
structure Bs where
  H0 : Hp
  B : Addr → Prop
  G : Hp
/-- slot's content -/
def Sl (C : Cd) (W O : Addr → Prop) (H : Hp) (v : V) : Av → Prop
  | .v d => R C.K O H v d
  | .w d => ∃ a, v = .ref a ∧ W a ∧ some a ≠ C.t ∧ Top C.K O H a d
  | .tp => ∃ a, v = .ref a ∧ C.t = some a
  | _ => False
def isW : Option (Option Av) → Prop
  | some (some (.w _)) => True
  | _ => False
structure Rep (C : Cd) (bs : Bs) (W O : Addr → Prop) (ρ : En) (σ : L2.St) (H : Hp) : Prop where
  fr : Fm C.K C.t bs.H0 H
  tp : ∀ a, C.t = some a → W a ∧ ¬ bs.B a
  wo : ∀ a, W a → O a
  wn : ∀ a, W a → C.t = some a ∨ bs.H0 a = none
  wg : ∀ a, W a → bs.G a = none
  wb : ∀ a, W a → ¬ bs.B a
  bo : ∀ a, bs.B a → O a
  og : ∀ a, O a → bs.B a ∨ bs.G a = none
  gk : ∀ b o, bs.G b = some o → H b = some o
  ok : OkO O H
  len : ρ.length = σ.length
  sl : ∀ (i : Nat) (x : Av), ρ[i]? = some (some x) → ∃ v, σ[i]? = some (some v) ∧ Sl C W O H v x
  ds : ∀ i j : Nat, i ≠ j → isW ρ[i]? → isW ρ[j]? → σ[i]? ≠ σ[j]?

section
variable {C : Cd} {bs : Bs} {W O O' : Addr → Prop} {ρ ρ' : En} {σ : L2.St} {H H' : Hp} {v : V} {x : Av} {d : PyData}
def Ow (O : Addr → Prop) (a : Addr) : Addr → Prop := fun b => O b ∨ b = a
theorem Sl.mv {x : Av} (m : Mv C.K O O' H H') (h : ∀ a o, W a → H a = some o → H' a = some o) (s : Sl C W O H v x) : Sl C W O' H' v x := by
  cases x with
  | v d => exact R.mv m s
  | n d => exact s
  | o i => exact s
  | tp => exact s
  | w d =>
    obtain ⟨a, e, wa, nt, t⟩ := s
    exact ⟨a, e, wa, nt, t.mv m fun o q => h a o wa q⟩
theorem Rep.step (r : Rep C bs W O ρ σ H) (m : Mv C.K O O' H H') (f : Fm C.K C.t H H') (ok : OkO O' H') (hw : ∀ a, W a → O' a) (hb : ∀ a, bs.B a → O' a) (og : ∀ a, O' a → bs.B a ∨ bs.G a = none) : Rep C bs W O' ρ σ H' :=
  { r with
    fr := r.fr.trans f
    wo := hw
    bo := hb
    og := og
    gk := fun b o h => f.oth (fun e => by
      have w := (r.tp b e.symm).1
      rw [r.wg b w] at h; cases h) (r.gk b o h)
    ok := ok
    sl := fun i x h => by
      obtain ⟨v, h1, h2⟩ := r.sl i x h
      refine ⟨v, h1, ?_⟩
      cases x with
      | v d => exact R.mv m h2
      | n d => exact h2
      | o i => exact h2
      | tp => exact h2
      | w d =>
        obtain ⟨a, e, wa, nt, t⟩ := h2
        exact ⟨a, e, wa, nt, t.mv m fun o q => f.oth nt q⟩ }
theorem Fm.refl {K : Fg} {t : Option Addr} {H0 : Hp} (f : Fm K t H0 H) : Fm K t H H := by
  cases t with
  | none => exact Same.refl _
  | some a => exact Ext.refl (Ext.tape f)
theorem Rep.same (r : Rep C bs W O ρ σ H) (e : Same H H') : Rep C bs W O ρ σ H' :=
  r.step (.same e) (r.fr.refl.same e) (fun a h => let ⟨o, q, m⟩ := r.ok a h; ⟨o, e a o q, m⟩) r.wo r.bo r.og
theorem Rep.less (r : Rep C bs W O ρ σ H) (h : ∀ a, O' a → O a) (hw : ∀ a, W a → O' a) (hb : ∀ a, bs.B a → O' a) : Rep C bs W O' ρ σ H :=
  r.step (.less h) r.fr.refl (fun a q => r.ok a (h a q)) hw hb fun a q => r.og a (h a q)
theorem Mv.fm {K : Fg} {t : Option Addr} (f : Fm K t H H') (ht : ∀ a, t = some a → O a) : Mv K O O H H' := ⟨f.tup, fun b o nb h => ⟨nb, f.oth (fun e => nb (ht b e.symm)) h⟩⟩
theorem Mv.add {K : Fg} {a : Addr} (m : Mv K O O H H') (n : H a = none) : Mv K O (Ow O a) H H' := by
  refine ⟨m.tup, fun b o nb h => ⟨fun z => ?_, (m.oth b o nb h).2⟩⟩
  rcases z with z | rfl
  · exact nb z
  · rw [n] at h; cases h
theorem Rep.free (r : Rep C bs W O ρ σ H) {a : Addr} (n : H a = none) : ¬ O a ∧ bs.H0 a = none ∧ bs.G a = none := by
  refine ⟨fun z => ?_, r.fr.free n, ?_⟩
  · obtain ⟨o, e, _⟩ := r.ok a z
    rw [n] at e; cases e
  · cases g : bs.G a with
    | none => rfl
    | some o => rw [r.gk a o g] at n; cases n
theorem Rep.add (r : Rep C bs W O ρ σ H) (f : Fm C.K C.t H H') {a : Addr} {o : HO} (n : H a = none) (h : H' a = some o) (m : Mtb o) : Rep C bs W (Ow O a) ρ σ H' := by
  have mv : Mv C.K O O H H' := .fm f fun a e => r.wo a (r.tp a e).1
  refine r.step (mv.add n) f (fun b q => ?_) (fun b q => .inl (r.wo b q)) (fun b q => .inl (r.bo b q)) fun b q => ?_
  · rcases q with q | rfl
    · by_cases e : C.t = some b
      · have f' := f
        rw [e] at f'
        obtain ⟨xs, hx⟩ := (Ext.tape f').get
        exact ⟨_, hx, trivial⟩
      · obtain ⟨o, q, m⟩ := r.ok b q
        exact ⟨o, f.oth (fun z => e z.symm) q, m⟩
    · exact ⟨_, h, m⟩
  · rcases q with q | rfl
    · exact r.og b q
    · exact .inr (r.free n).2.2
theorem Rep.fm (r : Rep C bs W O ρ σ H) (f : Fm C.K C.t H H') : Rep C bs W O ρ σ H' := by
  have mv : Mv C.K O O H H' := .fm f fun a e => r.wo a (r.tp a e).1
  refine r.step mv f (fun b q => ?_) r.wo r.bo r.og
  by_cases e : C.t = some b
  · have f' := f
    rw [e] at f'
    obtain ⟨xs, hx⟩ := (Ext.tape f').get
    exact ⟨_, hx, trivial⟩
  · obtain ⟨o, q, m⟩ := r.ok b q
    exact ⟨o, f.oth (fun z => e z.symm) q, m⟩
/-- what an expression has told, in the heap of now -/
def Cu (C : Cd) (W O : Addr → Prop) (σ : L2.St) (H : Hp) (v : V) : Av → Prop
  | .v d => R C.K O H v d
  | .n d => ∃ a, v = .ref a ∧ O a ∧ ¬ W a ∧ Top C.K O H a d
  | .o i => σ[i]? = some (some v)
  | .w _ => False
  | .tp => ∃ a, v = .ref a ∧ C.t = some a
def Ox (O : Addr → Prop) (x : Av) (v : V) : Addr → Prop :=
  match x, v with
  | .n _, .ref a => Ow O a
  | _, _ => O
def Fr1 (bs : Bs) (O : Addr → Prop) (v : V) (x : Av) : Prop := ∀ d a, x = .n d → v = .ref a → ¬ O a ∧ bs.H0 a = none ∧ bs.G a = none
def Out (C : Cd) (bs : Bs) (W O : Addr → Prop) (ρ : En) (σ : L2.St) (H : Hp) (v : V) (x : Av) : Prop :=
  Rep C bs W (Ox O x v) ρ σ H ∧ Cu C W (Ox O x v) σ H v x ∧ Fr1 bs O v x
/-- the reading of an expression by data -/
def tV (C : Cd) (f : EV) : TE := fun σ H Q => ∃ bs W O ρ P, Rep C bs W O ρ σ H ∧ f ρ P ∧ ∀ x ρ' v H', P x ρ' → Out C bs W O ρ' σ H' v x → Q v H'
def tTV (C : Cd) (f : TV) : TT := fun σ H Q => ∃ bs W O ρ P, Rep C bs W O ρ σ H ∧ f ρ P ∧ ∀ b ρ' H', P b ρ' → Rep C bs W O ρ' σ H' → Q b H'
def Oxs (O : Addr → Prop) : List Av → List V → Addr → Prop
  | x :: xs, v :: vs => Oxs (Ox O x v) xs vs
  | _, _ => O
def Cus (C : Cd) (W O : Addr → Prop) (σ : L2.St) (H : Hp) : List V → List Av → Prop
  | [], [] => True
  | v :: vs, x :: xs => Cu C W O σ H v x ∧ Cus C W O σ H vs xs
  | _, _ => False
def Frs (bs : Bs) (O : Addr → Prop) : List V → List Av → Prop
  | v :: vs, x :: xs => Fr1 bs O v x ∧ Frs bs O vs xs
  | _, _ => True
def tAV (C : Cd) (f : AV) : TA := fun σ H Q => ∃ bs W O ρ P, Rep C bs W O ρ σ H ∧ f ρ P ∧ ∀ xs ρ' vs H', P xs ρ' → Rep C bs W (Oxs O xs vs) ρ' σ H' → Cus C W (Oxs O xs vs) σ H' vs xs → Frs bs O vs xs → Q vs H'
theorem ox_sub {a : Addr} (h : O a) : Ox O x v a := by
  unfold Ox
  split
  · exact .inl h
  · exact h
theorem oxs_sub {a : Addr} : ∀ {xs : List Av} {vs : List V} {O : Addr → Prop}, O a → Oxs O xs vs a
  | [], _, _, h => by unfold Oxs; exact h
  | _ :: _, [], _, h => by unfold Oxs; exact h
  | x :: xs, v :: vs, _, h => by unfold Oxs; exact oxs_sub (ox_sub h)
open Classical in
/-- all that stands now and is not to be written stays -/
noncomputable def Bs.keep (bs : Bs) (W O : Addr → Prop) (H : Hp) : Bs := ⟨bs.H0, fun a => O a ∧ ¬ W a, fun b => if W b then none else H b⟩
theorem keep_G {b : Addr} (n : ¬ W b) : (bs.keep W O H).G b = H b := if_neg n
theorem keep_W {b : Addr} (n : W b) : (bs.keep W O H).G b = none := if_pos n
structure Bs.Le (bs bs' : Bs) : Prop where
  h0 : bs'.H0 = bs.H0
  b : ∀ a, bs.B a → bs'.B a
  g : ∀ a o, bs.G a = some o → bs'.G a = some o
  bg : ∀ a, bs'.B a → bs.B a ∨ bs.G a = none
theorem Bs.Le.refl : Bs.Le bs bs := ⟨rfl, fun _ h => h, fun _ _ h => h, fun _ h => .inl h⟩
theorem Bs.Le.gn {bs' : Bs} (l : Bs.Le bs bs') {a : Addr} (h : bs'.G a = none) : bs.G a = none := by
  cases e : bs.G a with
  | none => rfl
  | some o => rw [l.g a o e] at h; cases h
theorem Bs.Le.trans {bs1 bs2 : Bs} (l : Bs.Le bs bs1) (k : Bs.Le bs1 bs2) : Bs.Le bs bs2 :=
  ⟨k.h0.trans l.h0, fun a h => k.b a (l.b a h), fun a o h => k.g a o (l.g a o h), fun a h => (k.bg a h).elim (fun z => l.bg a z) fun z => .inr (l.gn z)⟩
theorem Rep.weak {bs' : Bs} (r : Rep C bs' W O ρ σ H) (l : Bs.Le bs bs') : Rep C bs W O ρ σ H :=
  { r with
    fr := l.h0 ▸ r.fr
    tp := fun a e => ⟨(r.tp a e).1, fun z => (r.tp a e).2 (l.b a z)⟩
    wn := fun a h => (r.wn a h).imp id fun z => l.h0 ▸ z
    wg := fun a h => l.gn (r.wg a h)
    wb := fun a h z => r.wb a h (l.b a z)
    bo := fun a h => r.bo a (l.b a h)
    og := fun a h => (r.og a h).elim (fun z => l.bg a z) fun z => .inr (l.gn z)
    gk := fun b o h => r.gk b o (l.g b o h) }
theorem Rep.le (r : Rep C bs W O ρ σ H) : Bs.Le bs (bs.keep W O H) := by
  refine ⟨rfl, fun a h => ⟨r.bo a h, fun z => r.wb a z h⟩, fun a o h => ?_, fun a h => r.og a h.1⟩
  rw [keep_G fun z => by rw [r.wg a z] at h; cases h]
  exact r.gk a o h
theorem Rep.keep (r : Rep C bs W O ρ σ H) : Rep C (bs.keep W O H) W O ρ σ H :=
  { r with
    tp := fun a e => ⟨(r.tp a e).1, fun z => z.2 (r.tp a e).1⟩
    wg := fun a h => keep_W h
    wb := fun a h z => z.2 h
    bo := fun a h => h.1
    og := fun a h => by
      by_cases w : W a
      · exact .inr (keep_W w)
      · exact .inl ⟨h, w⟩
    gk := fun b o h => by
      by_cases hw : W b
      · rw [keep_W hw] at h; cases h
      · rw [keep_G hw] at h; exact h }
theorem Rep.unkeep {W2 O2 : Addr → Prop} {ρ2 : En} {σ2 : L2.St} {H2 : Hp} (r : Rep C bs W O ρ σ H) (q : Rep C (bs.keep W O H) W2 O2 ρ2 σ2 H2) : Rep C bs W2 O2 ρ2 σ2 H2 := q.weak r.le
section
variable {W2 O2 : Addr → Prop} {ρ2 : En} {σ2 : L2.St} {H2 : Hp}
theorem Rep.kept (q : Rep C (bs.keep W O H) W2 O2 ρ2 σ2 H2) {b : Addr} {o : HO} (n : ¬ W b) (h : H b = some o) : H2 b = some o := q.gk b o (by rw [keep_G n]; exact h)
theorem Rep.mvK (r : Rep C bs W O ρ σ H) (q : Rep C (bs.keep W O H) W2 O2 ρ2 σ2 H2) : Mv C.K O O2 H H2 := by
  refine ⟨fun a zs h => ?_, fun a o n h => ⟨fun z => ?_, q.kept (fun z => n (r.wo a z)) h⟩⟩
  · rcases h with (h | ⟨o, h⟩) | h
    · exact .inl (.inl (q.kept (fun z => by obtain ⟨o, e, m⟩ := r.ok a (r.wo a z); rw [h] at e; cases e; exact m) h))
    · exact .inl (.inr ⟨o, q.kept (fun z => by obtain ⟨o', e, m⟩ := r.ok a (r.wo a z); rw [h] at e; cases e; exact m) h⟩)
    · exact .inr h
  · rcases q.og a z with z | z
    · exact n z.1
    · rw [keep_G fun w => n (r.wo a w), h] at z
      cases z
theorem Cu.up (r : Rep C bs W O ρ σ H) (q : Rep C (bs.keep W O H) W O2 ρ2 σ H2) (c : Cu C W O σ H v x) : Cu C W O2 σ H2 v x := by
  have m := r.mvK q
  cases x with
  | v d => exact R.mv m c
  | n d =>
    obtain ⟨a, e, oa, wa, t⟩ := c
    exact ⟨a, e, q.bo a ⟨oa, wa⟩, wa, t.mv m fun o h => q.kept wa h⟩
  | o i => exact c
  | w d => exact c
  | tp => exact c
theorem Cus.up (r : Rep C bs W O ρ σ H) (q : Rep C (bs.keep W O H) W O2 ρ2 σ H2) : ∀ {vs : List V} {xs : List Av}, Cus C W O σ H vs xs → Cus C W O2 σ H2 vs xs
  | [], [], _ => trivial
  | v :: vs, x :: xs, h => ⟨h.1.up r q, Cus.up r q h.2⟩
  | [], _ :: _, h => h.elim
  | _ :: _, [], h => h.elim
end
/-- seen as data -/
theorem view {k : PyData → Prop} (r : Rep C bs W O ρ σ H) (c : Cu C W O σ H v x) (h : x.getK ρ k) : ∃ d, k d ∧ Sh C.K O H v d := by
  cases x with
  | v d => exact ⟨d, h, .inl c⟩
  | n d =>
    obtain ⟨a, e, _, _, t⟩ := c
    exact ⟨d, h, .inr ⟨a, e, t⟩⟩
  | o i =>
    have h : (match ρ[i]? with | some (some (.w d)) => k d | _ => False) := h
    split at h
    · rename_i d e
      obtain ⟨v', e1, a, e2, _, _, t⟩ := r.sl i _ e
      have c' : σ[i]? = some (some v) := c
      rw [c'] at e1
      cases e1
      exact ⟨d, h, .inr ⟨a, e2, t⟩⟩
    · exact h.elim
  | w d => exact h.elim
  | tp => exact h.elim
/-- what an operation gives -/
def Nw (K : Fg) (O : Addr → Prop) (H H' : Hp) (v : V) (z : Av) : Prop := Same H H' ∧ match z with
  | .v d => R K O H' v d
  | .n d => ∃ a, v = .ref a ∧ H a = none ∧ Top K (Ow O a) H' a d
  | _ => False
theorem ow_less {a b : Addr} (h : ∀ a, O' a → O a) (z : Ow O' a b) : Ow O a b := z.imp (h b) id
theorem Top.obj {K : Fg} {a : Addr} (t : Top K O H a d) : ∃ o, H a = some o ∧ Mtb o := by
  cases t with
  | lst h _ => exact ⟨_, h, trivial⟩
  | dK h _ => exact ⟨_, h, trivial⟩
theorem OkO.no {a : Addr} (k : OkO O H) (n : H a = none) : ¬ O a := fun z => by
  obtain ⟨o, e, _⟩ := k a z
  rw [n] at e; cases e
theorem Nw.out {O2 : Addr → Prop} (r : Rep C bs W O2 ρ σ H) (h : ∀ a, O a → O2 a) (hw : ∀ a, W a → O a) (hb : ∀ a, bs.B a → O a) {z : Av} (q : Nw C.K O2 H H' v z) : Out C bs W O ρ σ H' v z := by
  obtain ⟨e, q⟩ := q
  cases z with
  | v d => exact ⟨(r.less h hw hb).same e, q.mv (.less h), fun _ _ z => by cases z⟩
  | n d =>
    obtain ⟨a, rfl, na, t⟩ := q
    obtain ⟨o, ho, mo⟩ := t.obj
    have nO : ¬ O a := fun z => r.ok.no na (h a z)
    refine ⟨(r.less h hw hb).add (r.fr.refl.same e) na ho mo, ⟨a, rfl, .inr rfl, fun z => nO (hw a z), t.mv (.less fun b z => ow_less h z) fun _ q => q⟩, fun d' b _ eb => ?_⟩
    cases eb
    exact ⟨nO, (r.free na).2⟩
  | o i => exact q.elim
  | w d => exact q.elim
  | tp => exact q.elim
/-- an operation on data and its rule -/
def OpS (K : Fg) (op : PyData → PyData → (Av → Prop) → Prop) (r : R2) : Prop :=
  ∀ (O : Addr → Prop) (H : Hp) (v u : V) (d e : PyData) (P : Av → Prop) (Q : VK), OkO O H → Sh K O H v d → Sh K O H u e → op d e P → (∀ z v' H', P z → Nw K O H H' v' z → Q v' H') → r v u H Q
def UnS (K : Fg) (op : PyData → (Av → Prop) → Prop) (r : V → Hp → VK → Prop) : Prop :=
  ∀ (O : Addr → Prop) (H : Hp) (v : V) (d : PyData) (P : Av → Prop) (Q : VK), OkO O H → Sh K O H v d → op d P → (∀ z v' H', P z → Nw K O H H' v' z → Q v' H') → r v H Q
def e2 (op : PyData → PyData → (Av → Prop) → Prop) (a b : EV) : EV := fun ρ P => a ρ fun x ρ1 => b ρ1 fun y ρ2 => x.getK ρ2 fun d => y.getK ρ2 fun e => op d e fun z => P z ρ2
def e1 (op : PyData → (Av → Prop) → Prop) (a : EV) : EV := fun ρ P => a ρ fun x ρ1 => x.getK ρ1 fun d => op d fun z => P z ρ1
theorem tOp_of {a b : EV} {op : PyData → PyData → (Av → Prop) → Prop} {r : R2} {Q : VK} (h : OpS C.K op r) : tV C (e2 op a b) σ H Q → tOp r (tV C a) (tV C b) σ H Q := by
  rintro ⟨bs, W, O, ρ, P, rp, hf, k⟩
  refine ⟨bs, W, O, ρ, _, rp, hf, fun x ρ1 v1 H1 hp ⟨rp1, c1, f1⟩ => ?_⟩
  refine ⟨bs.keep W (Ox O x v1) H1, W, Ox O x v1, ρ1, _, rp1.keep, hp, fun y ρ2 v2 H2 hq ⟨rp2, c2, f2⟩ => ?_⟩
  have c1' : Cu C W (Ox (Ox O x v1) y v2) σ H2 v1 x := c1.up rp1 rp2
  have rp2' := rp1.unkeep rp2
  obtain ⟨d, hd, sd⟩ := view rp2' c1' hq
  obtain ⟨e, he, se⟩ := view rp2' c2 hd
  exact h _ H2 v1 v2 d e _ Q rp2'.ok sd se he fun z v' H' hz nw => k z ρ2 v' H' hz (nw.out rp2' (fun a z => ox_sub (ox_sub z)) rp.wo rp.bo)
theorem tUn_of {a : EV} {op : PyData → (Av → Prop) → Prop} {r : V → Hp → VK → Prop} {Q : VK} (h : UnS C.K op r) : tV C (e1 op a) σ H Q → tUn r (tV C a) σ H Q := by
  rintro ⟨bs, W, O, ρ, P, rp, hf, k⟩
  refine ⟨bs, W, O, ρ, _, rp, hf, fun x ρ1 v1 H1 hp ⟨rp1, c1, f1⟩ => ?_⟩
  obtain ⟨d, hd, sd⟩ := view rp1 c1 hp
  exact h _ H1 v1 d _ Q rp1.ok sd hd fun z v' H' hz nw => k z ρ1 v' H' hz (nw.out rp1 (fun a z => ox_sub z) rp.wo rp.bo)
end

/-! ### operations on data -/
section
variable {K : Fg} {O : Addr → Prop} {H H' : Hp} {v u : V} {d e : PyData} {ds : List PyData} {P : Av → Prop} {Q : VK}
theorem Sh.dp (n : noK d = true) (h : Sh K O H v d) : Dp K H v d := by
  rcases h with h | ⟨a, rfl, t⟩
  · exact h.dp n
  · cases t with
    | lst h1 h2 => unfold noK at n; exact .lst (SqL.of h1) (h2.dp n)
    | dK h1 h2 => unfold noK at n; cases n
theorem Sh.int {i : Int} (h : Sh K O H v (.int i)) : v = .int i := by
  rcases h with h | ⟨a, rfl, t⟩
  · cases h; rfl
  · cases t
theorem Sh.bl {i : Bool} (h : Sh K O H v (.bool i)) : v = .bl i := by
  rcases h with h | ⟨a, rfl, t⟩
  · cases h; rfl
  · cases t
theorem Sh.str {i : Str} (h : Sh K O H v (.str i)) : v = .str i := by
  rcases h with h | ⟨a, rfl, t⟩
  · cases h; rfl
  · cases t
theorem Sh.non (h : Sh K O H v .none) : v = .non := by
  rcases h with h | ⟨a, rfl, t⟩
  · cases h; rfl
  · cases t
theorem Sh.tup (h : Sh K O H v (.tuple ds)) : ∃ a vs, v = .ref a ∧ SqT K H a vs ∧ Rs K O H vs ds := by
  rcases h with h | ⟨a, rfl, t⟩
  · cases h with
    | tup h1 h2 => exact ⟨_, _, rfl, h1, h2⟩
  · cases t
theorem Sh.lst (h : Sh K O H v (.list ds)) : ∃ a vs, v = .ref a ∧ H a = some (.lst vs) ∧ Rs K O H vs ds := by
  rcases h with h | ⟨a, rfl, t⟩
  · cases h with
    | lst _ h1 h2 => exact ⟨_, _, rfl, h1, h2⟩
  · cases t with
    | lst h1 h2 => exact ⟨_, _, rfl, h1, h2⟩
/-- a list or a tuple -/
def seqK (d : PyData) (k : List PyData → Prop) : Prop :=
  match d with
  | .tuple ds => k ds
  | .list ds => k ds
  | _ => False
theorem Sh.seq {k : List PyData → Prop} (h : Sh K O H v d) (hk : seqK d k) : ∃ ds a vs, k ds ∧ v = .ref a ∧ (SqL K H a vs ∨ SqT K H a vs) ∧ Rs K O H vs ds := by
  cases d with
  | tuple ds =>
    obtain ⟨a, vs, e, h1, h2⟩ := h.tup
    exact ⟨ds, a, vs, hk, e, .inr h1, h2⟩
  | list ds =>
    obtain ⟨a, vs, e, h1, h2⟩ := h.lst
    exact ⟨ds, a, vs, hk, e, .inl (SqL.of h1), h2⟩
  | none => exact hk.elim
  | bool _ => exact hk.elim
  | int _ => exact hk.elim
  | str _ => exact hk.elim
  | dict _ => exact hk.elim
theorem nw_v {z : PyData} (h : R K O H v z) : Nw K O H H v (.v z) := ⟨Same.refl _, h⟩
/-- a new tuple -/
theorem nw_tup {a : Addr} {vs : List V} (n : H a = none) (h : Rs K O H vs ds) : Nw K O H (upd H a (.tup vs)) (.ref a) (.v (.tuple ds)) :=
  ⟨same_new n _, .tup (SqT.of upd_same) (h.mv (.same (same_new n _)))⟩
theorem nw_lst {a : Addr} {vs : List V} (n : H a = none) (h : Rs K O H vs ds) : Nw K O H (upd H a (.lst vs)) (.ref a) (.n (.list ds)) :=
  ⟨same_new n _, a, rfl, n, .lst upd_same (h.mv (.add (.same (same_new n _)) n))⟩
def mulOk (i j : Int) : Prop := (-(2 ^ 64) < i ∧ i < 2 ^ 64) ∨ (-(2 ^ 64) < j ∧ j < 2 ^ 64) ∨ ∃ a b : Nat, i.natAbs < 2 ^ a ∧ j.natAbs < 2 ^ b ∧ a + b ≤ 900000
def opAdd (d e : PyData) (P : Av → Prop) : Prop :=
  match d, e with
  | .int i, .int j => P (.v (.int (i + j)))
  | .str a, .str b => a.length + b.length ≤ sizeLine ∧ P (.v (.str (a ++ b)))
  | .tuple a, .tuple b => a.length + b.length ≤ sizeLine ∧ P (.v (.tuple (a ++ b)))
  | .list a, .list b => a.length + b.length ≤ sizeLine ∧ P (.n (.list (a ++ b)))
  | _, _ => False
theorem os_add : OpS K opAdd (rAddU K) := by
  intro O H v u d e P Q ok hv hu h k
  unfold opAdd at h
  split at h
  · cases hv.int; cases hu.int
    exact .inl ⟨_, _, rfl, rfl, k _ _ _ h (nw_v (.int _))⟩
  · cases hv.str; cases hu.str
    exact .inr (.inl ⟨_, _, rfl, rfl, h.1, k _ _ _ h.2 (nw_v (.str _))⟩)
  · obtain ⟨a, vs, rfl, h1, h2⟩ := hv.tup
    obtain ⟨b, us, rfl, h3, h4⟩ := hu.tup
    have l1 := h2.len
    have l2 := h4.len
    refine .inr (.inr (.inl ⟨a, b, vs, us, rfl, rfl, h1, h3, by rw [l1, l2]; exact h.1, fun e => ?_, fun _ e => ?_, fun _ _ p hp => k _ _ _ h.2 (nw_tup hp (h2.append h4))⟩))
    · subst e; cases h2
      exact k _ _ _ h.2 (nw_v (.tup h3 h4))
    · subst e; cases h4
      have h' := h.2
      rw [List.append_nil] at h'
      exact k _ _ _ h' (nw_v (.tup h1 h2))
  · obtain ⟨a, vs, rfl, h1, h2⟩ := hv.lst
    obtain ⟨b, us, rfl, h3, h4⟩ := hu.lst
    exact .inr (.inr (.inr ⟨a, b, vs, us, rfl, rfl, h1, h3, by rw [h2.len, h4.len]; exact h.1, fun p hp => k _ _ _ h.2 (nw_lst hp (h2.append h4))⟩))
  · exact h.elim
def opI (g : Int → Int → PyData) (C : Int → Int → Prop) (d e : PyData) (P : Av → Prop) : Prop :=
  match d, e with
  | .int i, .int j => C i j ∧ P (.v (g i j))
  | _, _ => False
theorem op_i {g : Int → Int → PyData} {C : Int → Int → Prop} (h : opI g C d e P) (hv : Sh K O H v d) (hu : Sh K O H u e) : ∃ i j, v = .int i ∧ u = .int j ∧ C i j ∧ P (.v (g i j)) := by
  unfold opI at h
  split at h
  · exact ⟨_, _, hv.int, hu.int, h.1, h.2⟩
  · exact h.elim
abbrev opSub := opI (fun i j => .int (i - j)) fun _ _ => True
abbrev opFd := opI (fun i j => .int (i.fdiv j)) fun _ j => j ≠ 0 ∧ j.natAbs < 2 ^ 8999
abbrev opMod := opI (fun i j => .int (i.fmod j)) fun _ j => j ≠ 0
abbrev opPow := opI (fun i j => .int (i ^ j.toNat)) fun i j => 0 ≤ j ∧ j ≤ 1000000 ∧ i.natAbs < 2 ^ 64
abbrev opLtI := opI (fun i j => .bool (decide (i < j))) fun _ _ => True
abbrev opLeI := opI (fun i j => .bool (decide (i ≤ j))) fun _ _ => True
abbrev opGtI := opI (fun i j => .bool (decide (j < i))) fun _ _ => True
abbrev opGeI := opI (fun i j => .bool (decide (j ≤ i))) fun _ _ => True
def rSubI : R2 := rI0 fun i j => .int (i - j)
theorem os_sub : OpS K opSub rSubI := by
  intro O H v u d e P Q ok hv hu h k
  obtain ⟨i, j, rfl, rfl, _, hp⟩ := op_i h hv hu
  exact ⟨i, j, rfl, rfl, k _ _ _ hp (nw_v (.int _))⟩
theorem os_fd : OpS K opFd rFdU := by
  intro O H v u d e P Q ok hv hu h k
  obtain ⟨i, j, rfl, rfl, c, hp⟩ := op_i h hv hu
  exact r_fdN c.1 c.2 (k _ _ _ hp (nw_v (.int _)))
theorem os_mod : OpS K opMod rModU := by
  intro O H v u d e P Q ok hv hu h k
  obtain ⟨i, j, rfl, rfl, c, hp⟩ := op_i h hv hu
  exact r_modN c (k _ _ _ hp (nw_v (.int _)))
def rPowI : R2 := rI CPow fun i j => .int (i ^ j.toNat)
theorem os_pow : OpS K opPow rPowI := by
  intro O H v u d e P Q ok hv hu h k
  obtain ⟨i, j, rfl, rfl, c, hp⟩ := op_i h hv hu
  exact ⟨i, j, rfl, rfl, c, k _ _ _ hp (nw_v (.int _))⟩
theorem os_cmp {q : Int → Int → Bool} : OpS K (opI (fun i j => .bool (q i j)) fun _ _ => True) (rI0 fun i j => .bl (q i j)) := by
  intro O H v u d e P Q ok hv hu h k
  obtain ⟨i, j, rfl, rfl, _, hp⟩ := op_i h hv hu
  exact ⟨i, j, rfl, rfl, k _ _ _ hp (nw_v (.bl _))⟩
def opMul (d e : PyData) (P : Av → Prop) : Prop :=
  match d, e with
  | .int i, .int j => mulOk i j ∧ P (.v (.int (i * j)))
  | .list a, .int j => -(2 ^ 63) ≤ j ∧ j < 2 ^ 63 ∧ a.length * j.toNat ≤ sizeLine ∧ P (.n (.list (List.replicate j.toNat a).flatten))
  | .tuple a, .int j => a ≠ [] ∧ 2 ≤ j ∧ j ≤ 1000 ∧ a.length ≤ 1000 ∧ P (.v (.tuple (List.replicate j.toNat a).flatten))
  | _, _ => False
theorem Rs.rep {vs : List V} (h : Rs K O H vs ds) : ∀ n : Nat, Rs K O H (List.replicate n vs).flatten (List.replicate n ds).flatten
  | 0 => .nil
  | n + 1 => by
    rw [List.replicate_succ, List.replicate_succ, List.flatten_cons, List.flatten_cons]
    exact h.append (Rs.rep h n)
theorem os_mul : OpS K opMul (rMulU K) := by
  intro O H v u d e P Q ok hv hu h k
  unfold opMul at h
  split at h
  · cases hv.int; cases hu.int
    obtain ⟨c, hp⟩ := h
    have q := k _ _ _ hp (nw_v (H := H) (.int _))
    rcases c with c | c | ⟨a, b, c1, c2, c3⟩
    · exact r_mulL c q
    · exact r_mulR c q
    · exact r_mulI c1 c2 c3 q
  · obtain ⟨a, vs, rfl, h1, h2⟩ := hv.lst
    cases hu.int
    obtain ⟨c1, c2, c3, hp⟩ := h
    exact .inr (.inr (.inl ⟨a, _, vs, rfl, rfl, h1, c1, c2, by rw [h2.len]; exact c3, fun p np => k _ _ _ hp (nw_lst np (h2.rep _))⟩))
  · obtain ⟨a, vs, rfl, h1, h2⟩ := hv.tup
    cases hu.int
    obtain ⟨c0, c1, c2, c3, hp⟩ := h
    refine .inr (.inr (.inr ⟨a, _, vs, rfl, rfl, h1, fun z => c0 ?_, c1, c2, by rw [h2.len]; exact c3, fun p np => k _ _ _ hp (nw_tup np (h2.rep _))⟩))
    subst z; cases h2; rfl
  · exact h.elim
/-! equal, in -/
def eqOk (d e : PyData) : Prop := SeqAt.shaped d = true ∧ SeqAt.shaped e = true
def eqK (d e : PyData) (k : Bool → Prop) : Prop :=
  match d, e with
  | .int i, .int j => k (decide (i = j))
  | .str i, .str j => k (decide (i = j))
  | .bool i, .bool j => k (decide (i = j))
  | .str _, .int _ => k false
  | .int _, .str _ => k false
  | d, e => eqOk d e ∧ k (PyData.eqv d e)
def opEq (d e : PyData) (P : Av → Prop) : Prop := eqK d e fun b => P (.v (.bool b))
def opNe (d e : PyData) (P : Av → Prop) : Prop := eqK d e fun b => P (.v (.bool (!b)))
theorem eq_k {k : Bool → Prop} {r : Bool → Prop} (h : eqK d e k) (hv : Sh K O H v d) (hu : Sh K O H u e) (h1 : scal v u = true → k (decide (v = u)) → r (decide (v = u))) (h2 : ∀ d e, Dp K H v d → Dp K H u e → SeqAt.shaped d = true → SeqAt.shaped e = true → k (PyData.eqv d e) → r (PyData.eqv d e)) :
    (scal v u = true ∧ r (decide (v = u))) ∨ ∃ d e, Dp K H v d ∧ Dp K H u e ∧ SeqAt.shaped d = true ∧ SeqAt.shaped e = true ∧ r (PyData.eqv d e) := by
  unfold eqK at h
  split at h
  · cases hv.int; cases hu.int
    refine .inl ⟨rfl, h1 rfl ?_⟩
    simpa using h
  · cases hv.str; cases hu.str
    refine .inl ⟨rfl, h1 rfl ?_⟩
    simpa using h
  · cases hv.bl; cases hu.bl
    refine .inl ⟨rfl, h1 rfl ?_⟩
    simpa using h
  · cases hv.str; cases hu.int
    exact .inl ⟨rfl, h1 rfl (by simpa using h)⟩
  · cases hv.int; cases hu.str
    exact .inl ⟨rfl, h1 rfl (by simpa using h)⟩
  · obtain ⟨⟨s1, s2⟩, q⟩ := h
    have d1 := hv.dp (noK_shaped s1)
    have d2 := hu.dp (noK_shaped s2)
    exact .inr ⟨_, _, d1, d2, s1, s2, h2 _ _ d1 d2 s1 s2 q⟩
theorem os_eq : OpS K opEq (rEqU K) := by
  intro O H v u d e P Q ok hv hu h k
  exact eq_k (r := fun b => Q (.bl b) H) h hv hu (fun _ q => k _ _ _ q (nw_v (.bl _))) fun d e _ _ _ _ q => k _ _ _ q (nw_v (.bl _))
theorem os_ne : OpS K opNe (rNeU K) := by
  intro O H v u d e P Q ok hv hu h k
  exact eq_k (r := fun b => Q (.bl (!b)) H) h hv hu (fun _ q => k _ _ _ q (nw_v (.bl _))) fun d e _ _ _ _ q => k _ _ _ q (nw_v (.bl _))
def flatD : PyData → Bool
  | .none => true
  | .bool _ => true
  | .int _ => true
  | .str _ => true
  | _ => false
def inK (d e : PyData) (k : Bool → Prop) : Prop := seqK e fun ds => (flatD d = true ∧ ds.all flatD = true ∨ SeqAt.shaped d = true ∧ SeqAt.shaped e = true) ∧ k (ds.any fun z => PyData.eqv z d)
theorem flat_v {d : PyData} {v : V} (h : R K O H v d) (f : flatD d = true) : flatV v = true := by
  cases h <;> first | rfl | (exact nomatch (show false = true from f))
theorem flat_eq {d e : PyData} {v u : V} (h : R K O H v d) (h2 : R K O H u e) (f : flatD d = true) (g : flatD e = true) : eqV v u = PyData.eqv d e := by
  cases d <;> first | (exact nomatch (show false = true from f)) | (cases h; cases e <;> first | (exact nomatch (show false = true from g)) | (cases h2; first | rfl | simp [eqV, PyData.eqv]))
theorem flat_all : ∀ {ds : List PyData} {vs : List V}, Rs K O H vs ds → ds.all flatD = true → vs.all flatV = true
  | _, _, .nil, _ => rfl
  | _, _, .cons h t, f => by
    simp only [List.all_cons, Bool.and_eq_true] at f ⊢
    exact ⟨flat_v h f.1, flat_all t f.2⟩
theorem flat_any {d : PyData} {v : V} (h : R K O H v d) (f : flatD d = true) : ∀ {ds : List PyData} {vs : List V}, Rs K O H vs ds → ds.all flatD = true → inV v vs = ds.any fun z => PyData.eqv z d
  | _, _, .nil, _ => rfl
  | _, _, .cons h1 t, g => by
    simp only [List.all_cons, Bool.and_eq_true] at g
    unfold inV
    simp only [List.any_cons]
    rw [flat_eq h1 h g.1 f]
    congr 1
    exact flat_any h f t g.2
theorem Sh.flat {d : PyData} (h : Sh K O H v d) (f : flatD d = true) : R K O H v d := by
  rcases h with h | ⟨a, rfl, t⟩
  · exact h
  · cases t <;> exact nomatch (show false = true from f)
theorem os_in : OpS K (fun d e P => inK d e fun b => P (.v (.bool b))) (rInW K) := by
  intro O H v u d e P Q ok hv hu h k
  cases e with
  | tuple ds =>
    obtain ⟨c, hk⟩ := h
    rcases c with ⟨f, g⟩ | ⟨s1, s2⟩
    · obtain ⟨a, vs, rfl, h1, h2⟩ := hu.tup
      refine .inl (.inl ⟨a, vs, rfl, .inr h1, flat_v (hv.flat f) f, flat_all h2 g, ?_⟩)
      rw [flat_any (hv.flat f) f h2 g]
      exact k _ _ _ hk (nw_v (.bl _))
    · exact .inr ⟨d, ds, hv.dp (noK_shaped s1), hu.dp (noK_shaped s2), s1, s2, k _ _ _ hk (nw_v (.bl _))⟩
  | list ds =>
    obtain ⟨c, hk⟩ := h
    rcases c with ⟨f, g⟩ | ⟨s1, s2⟩
    · obtain ⟨a, vs, rfl, h1, h2⟩ := hu.lst
      refine .inl (.inl ⟨a, vs, rfl, .inl (SqL.of h1), flat_v (hv.flat f) f, flat_all h2 g, ?_⟩)
      rw [flat_any (hv.flat f) f h2 g]
      exact k _ _ _ hk (nw_v (.bl _))
    · exact .inl (.inr ⟨d, ds, hv.dp (noK_shaped s1), hu.dp (noK_shaped s2), s1, s2, k _ _ _ hk (nw_v (.bl _))⟩)
  | none => exact h.elim
  | bool _ => exact h.elim
  | int _ => exact h.elim
  | str _ => exact h.elim
  | dict _ => exact h.elim
theorem os_nin : OpS K (fun d e P => inK d e fun b => P (.v (.bool (!b)))) (rNinW K) := by
  intro O H v u d e P Q ok hv hu h k
  cases e with
  | tuple ds =>
    obtain ⟨c, hk⟩ := h
    rcases c with ⟨f, g⟩ | ⟨s1, s2⟩
    · obtain ⟨a, vs, rfl, h1, h2⟩ := hu.tup
      refine .inl (.inl ⟨a, vs, rfl, .inr h1, flat_v (hv.flat f) f, flat_all h2 g, ?_⟩)
      rw [flat_any (hv.flat f) f h2 g]
      exact k _ _ _ hk (nw_v (.bl _))
    · exact .inr ⟨d, ds, hv.dp (noK_shaped s1), hu.dp (noK_shaped s2), s1, s2, k _ _ _ hk (nw_v (.bl _))⟩
  | list ds =>
    obtain ⟨c, hk⟩ := h
    rcases c with ⟨f, g⟩ | ⟨s1, s2⟩
    · obtain ⟨a, vs, rfl, h1, h2⟩ := hu.lst
      refine .inl (.inl ⟨a, vs, rfl, .inl (SqL.of h1), flat_v (hv.flat f) f, flat_all h2 g, ?_⟩)
      rw [flat_any (hv.flat f) f h2 g]
      exact k _ _ _ hk (nw_v (.bl _))
    · exact .inl (.inr ⟨d, ds, hv.dp (noK_shaped s1), hu.dp (noK_shaped s2), s1, s2, k _ _ _ hk (nw_v (.bl _))⟩)
  | none => exact h.elim
  | bool _ => exact h.elim
  | int _ => exact h.elim
  | str _ => exact h.elim
  | dict _ => exact h.elim
/-! is None; items; lengths -/
def isNone : PyData → Bool
  | .none => true
  | _ => false
theorem none_v (h : Sh K O H v d) : decide (v = .non) = isNone d := by
  rcases h with h | ⟨a, rfl, t⟩
  · cases h <;> simp [isNone]
  · cases t <;> simp [isNone]
theorem os_is : OpS K (fun d e P => isNone e = true ∧ P (.v (.bool (isNone d)))) (fun x y H Q => y = .non ∧ Q (.bl (decide (x = .non))) H) := by
  intro O H v u d e P Q ok hv hu h k
  have e1 := none_v hu
  rw [h.1] at e1
  refine ⟨of_decide_eq_true e1, ?_⟩
  rw [none_v hv]
  exact k _ _ _ h.2 (nw_v (.bl _))
theorem os_isn : OpS K (fun d e P => isNone e = true ∧ P (.v (.bool (!isNone d)))) (fun x y H Q => y = .non ∧ Q (.bl (!decide (x = .non))) H) := by
  intro O H v u d e P Q ok hv hu h k
  have e1 := none_v hu
  rw [h.1] at e1
  refine ⟨of_decide_eq_true e1, ?_⟩
  rw [none_v hv]
  exact k _ _ _ h.2 (nw_v (.bl _))
def chS (c : Nat) : Str := ⟨#[c]⟩
def opIx (d e : PyData) (P : Av → Prop) : Prop :=
  match d, e with
  | .tuple ds, .int i => ∃ z, dix ds i = some z ∧ P (.v z)
  | .list ds, .int i => ∃ z, dix ds i = some z ∧ P (.v z)
  | .str s, .int i => s.length ≤ sizeLine ∧ ∃ c, atI s.cps.toList i = some c ∧ P (.v (.str (chS c)))
  | _, _ => False
theorem Rs.dix {vs : List V} {i : Int} (h : Rs K O H vs ds) (e : dix ds i = some d) : ∃ v, atI vs i = some v ∧ R K O H v d := by
  unfold WB.dix at e
  unfold atI
  rw [h.len]
  cases hj : ixN ds.length i with
  | none => rw [hj] at e; cases e
  | some j =>
    rw [hj] at e
    exact h.get e
theorem os_ix : OpS K opIx (rIx K) := by
  intro O H v u d e P Q ok hv hu h k
  unfold opIx at h
  split at h
  · obtain ⟨z, hz, hp⟩ := h
    obtain ⟨a, vs, rfl, h1, h2⟩ := hv.tup
    cases hu.int
    obtain ⟨v, e1, e2⟩ := h2.dix hz
    exact .inr (.inl ⟨a, vs, _, v, rfl, rfl, h1, e1, k _ _ _ hp (nw_v e2)⟩)
  · obtain ⟨z, hz, hp⟩ := h
    obtain ⟨a, vs, rfl, h1, h2⟩ := hv.lst
    cases hu.int
    obtain ⟨v, e1, e2⟩ := h2.dix hz
    exact .inl ⟨a, vs, _, v, rfl, rfl, SqL.of h1, e1, k _ _ _ hp (nw_v e2)⟩
  · obtain ⟨c1, c, c2, hp⟩ := h
    cases hv.str
    cases hu.int
    exact .inr (.inr ⟨_, _, c, rfl, rfl, c1, c2, k _ _ _ hp (nw_v (.str _))⟩)
  · exact h.elim
/-- a slice -/
def cutD (ds : List PyData) (lo hi : Option Int) : List PyData := (ds.drop (HT.sIx ds.length 0 lo)).take (HT.sIx ds.length ds.length hi - HT.sIx ds.length 0 lo)
theorem Rs.cut {vs : List V} (h : Rs K O H vs ds) (lo hi : Option Int) : Rs K O H (cutV vs lo hi) (cutD ds lo hi) := by
  unfold cutV cutD
  rw [h.len]
  exact (h.drop _).take _
def opSl (d : PyData) (lo hi : Option Int) (P : Av → Prop) : Prop :=
  match d with
  | .tuple ds => P (.v (.tuple (cutD ds lo hi)))
  | .list ds => P (.n (.list (cutD ds lo hi)))
  | .str s => s.length ≤ sizeLine ∧ P (.v (.str (cutS s lo hi)))
  | _ => False
theorem os_sl {lo hi : Option Int} (hv : Sh K O H v d) (h : opSl d lo hi P) (k : ∀ z v' H', P z → Nw K O H H' v' z → Q v' H') : rSlU K v lo hi H Q := by
  unfold opSl at h
  split at h
  · obtain ⟨a, vs, rfl, h1, h2⟩ := hv.tup
    refine .inr (.inl ⟨a, vs, rfl, h1, fun e => ?_, fun _ p hp => k _ _ _ h (nw_tup hp (h2.cut lo hi))⟩)
    refine k _ _ _ h (nw_v ?_)
    rename_i ds
    have e2 : cutD ds lo hi = ds := by
      unfold cutD
      rw [← h2.len, e.1, e.2, List.drop_zero, Nat.sub_zero, h2.len, List.take_length]
    rw [e2]
    exact .tup h1 h2
  · obtain ⟨a, vs, rfl, h1, h2⟩ := hv.lst
    exact .inl ⟨a, vs, rfl, SqL.of h1, fun p hp => k _ _ _ h (nw_lst hp (h2.cut lo hi))⟩
  · cases hv.str
    exact .inr (.inr ⟨_, rfl, h.1, k _ _ _ h.2 (nw_v (.str _))⟩)
  · exact h.elim
/-! truth -/
def truK (d : PyData) (k : Bool → Prop) : Prop :=
  match d with
  | .none => k false
  | .bool b => k b
  | .int i => k (i != 0)
  | .str s => s.length ≤ sizeLine ∧ k ((s.length : Int) != 0)
  | .list ds => k (!ds.isEmpty)
  | .tuple ds => k (!ds.isEmpty)
  | .dict _ => False
theorem Rs.empty {vs : List V} (h : Rs K O H vs ds) : vs.isEmpty = ds.isEmpty := by cases h <;> rfl
theorem tru_k {k : Bool → Prop} (hv : Sh K O H v d) (h : truK d k) : ∃ b, TruV K v H b ∧ k b := by
  unfold truK at h
  split at h
  · cases hv.non; exact ⟨_, rfl, h⟩
  · cases hv.bl; exact ⟨_, rfl, h⟩
  · cases hv.int; exact ⟨_, rfl, h⟩
  · cases hv.str; exact ⟨_, ⟨h.1, rfl⟩, h.2⟩
  · obtain ⟨a, vs, rfl, h1, h2⟩ := hv.lst
    exact ⟨_, .inl ⟨vs, SqL.of h1, by rw [h2.empty]⟩, h⟩
  · obtain ⟨a, vs, rfl, h1, h2⟩ := hv.tup
    exact ⟨_, .inr (.inl ⟨vs, h1, by rw [h2.empty]⟩), h⟩
  · exact h.elim
/-! one-place operations -/
def opNeg (d : PyData) (P : Av → Prop) : Prop :=
  match d with
  | .int i => P (.v (.int (-i)))
  | _ => False
theorem us_neg : UnS K opNeg (rU fun i => .int (-i)) := by
  intro O H v d P Q ok hv h k
  unfold opNeg at h
  split at h
  · cases hv.int
    exact ⟨_, rfl, k _ _ _ h (nw_v (.int _))⟩
  · exact h.elim
end

/-! ### expressions, tests, arguments -/
theorem PE.up {X : Cx} {e : Expr} {t t' : TE} (h : PE X e t) (k : ∀ σ H Q, t' σ H Q → t σ H Q) : PE X e t' := ⟨fun pins s σ H Q I q => h.run pins s σ H Q I (k _ _ _ q)⟩
theorem PT.up {X : Cx} {e : Expr} {t t' : TT} (h : PT X e t) (k : ∀ σ H Q, t' σ H Q → t σ H Q) : PT X e t' := ⟨fun pins s σ H Q I q => h.run pins s σ H Q I (k _ _ _ q)⟩
theorem PW.up {X : Cx} {e : Expr} {t t' : TT} (h : PW X e t) (k : ∀ σ H Q, t' σ H Q → t σ H Q) : PW X e t' := ⟨fun wh pins s σ H Q I q => h.run wh pins s σ H Q I (k _ _ _ q)⟩
theorem PTs.up {X : Cx} {e : List Expr} {t t' : TT} (h : PTs X e t) (k : ∀ σ H Q, t' σ H Q → t σ H Q) : PTs X e t' := ⟨fun pins s σ H Q I q => h.run pins s σ H Q I (k _ _ _ q)⟩
theorem PA.up {X : Cx} {e : List Expr} {t t' : TA} (h : PA X e t) (k : ∀ σ H Q, t' σ H Q → t σ H Q) : PA X e t' := ⟨fun pos pins s σ H Q I q => h.run pos pins s σ H Q I (k _ _ _ q)⟩
theorem PS.up {X : Cx} {e : Stmt} {t t' : TS} (h : PS X e t) (k : ∀ D σ H, t' D σ H → t D σ H) : PS X e t' := ⟨fun pins s σ H D I q => h.run pins s σ H D I (k _ _ _ q)⟩
theorem PSs.up {X : Cx} {e : List Stmt} {t t' : TS} (h : PSs X e t) (k : ∀ D σ H, t' D σ H → t D σ H) : PSs X e t' := ⟨fun pins s σ H D I q => h.run pins s σ H D I (k _ _ _ q)⟩
theorem PI.up {X : Cx} {tg e : Expr} {t t' : TI} (h : PI X tg e t) (k : ∀ σ H R, t' σ H R → t σ H R) : PI X tg e t' := ⟨fun pins s σ H R I q => h.run pins s σ H R I (k _ _ _ q)⟩
theorem PG.up {X : Cx} {e : Expr} {t t' : TG} (h : PG X e t) (k : ∀ v σ H Q, t' v σ H Q → t v σ H Q) : PG X e t' := ⟨fun pins s σ H v u Q I r q => h.run pins s σ H v u Q I r (k _ _ _ _ q)⟩
theorem PGs.up {X : Cx} {e : List Expr} {t t' : TGs} (h : PGs X e t) (k : ∀ v σ H Q, t' v σ H Q → t v σ H Q) : PGs X e t' := ⟨fun pins s σ H v u Q I r q => h.run pins s σ H v u Q I r (k _ _ _ _ q)⟩
section
variable {C : Cd} {bs : Bs} {W O O' : Addr → Prop} {ρ ρ' : En} {σ : L2.St} {H H' : Hp} {v : V} {x : Av} {d : PyData} {Q : VK}
def eV (i : Nat) : EV := fun ρ P => match ρ[i]? with
  | some (some (.v d)) => P (.v d) ρ
  | some (some (.w _)) => P (.o i) ρ
  | some (some .tp) => P .tp ρ
  | _ => False
theorem out_v (r : Rep C bs W O ρ σ H) (h : R C.K O H v d) : Out C bs W O ρ σ H v (.v d) := ⟨r, h, fun _ _ z => by cases z⟩
theorem tVar_of {i : Nat} : tV C (eV i) σ H Q → tVar i σ H Q := by
  rintro ⟨bs, W, O, ρ, P, rp, hf, k⟩
  unfold eV at hf
  split at hf
  · rename_i d e
    obtain ⟨v, h1, h2⟩ := rp.sl i _ e
    exact ⟨v, h1, k _ _ v H hf (out_v rp h2)⟩
  · rename_i d e
    obtain ⟨v, h1, h2⟩ := rp.sl i _ e
    exact ⟨v, h1, k _ _ v H hf ⟨rp, h1, fun _ _ z => by cases z⟩⟩
  · rename_i e
    obtain ⟨v, h1, h2⟩ := rp.sl i _ e
    exact ⟨v, h1, k _ _ v H hf ⟨rp, h2, fun _ _ z => by cases z⟩⟩
  · exact hf.elim
def eC (d : PyData) : EV := fun ρ P => P (.v d) ρ
theorem tC_of {w : V} (hw : ∀ K O H, R K O H w d) : tV C (eC d) σ H Q → tC w σ H Q := by
  rintro ⟨bs, W, O, ρ, P, rp, hf, k⟩
  exact k _ _ w H hf (out_v rp (hw _ _ _))
theorem rep_out (h : Out C bs W O ρ σ H v x) (hw : ∀ a, W a → O a) (hb : ∀ a, bs.B a → O a) : Rep C bs W O ρ σ H := h.1.less (fun a z => ox_sub z) hw hb
/-! tests -/
def asB (x : Av) (k : Bool → Prop) : Prop :=
  match x with
  | .v (.bool b) => k b
  | _ => False
def asT (e : EV) : TV := fun ρ P => e ρ fun x ρ' => asB x fun b => P b ρ'
theorem as_b {k : Bool → Prop} (h : asB x k) : ∃ b, x = .v (.bool b) ∧ k b := by
  unfold asB at h
  split at h
  · exact ⟨_, rfl, h⟩
  · exact h.elim
theorem tTest_of {f : EV} {t : TE} {Q : Bool → Hp → Prop} (h : ∀ Q, tV C f σ H Q → t σ H Q) : tTV C (asT f) σ H Q → tTest t σ H Q := by
  rintro ⟨bs, W, O, ρ, P, rp, hf, k⟩
  refine h _ ⟨bs, W, O, ρ, _, rp, hf, fun x ρ' v H' hp o => ?_⟩
  obtain ⟨b, rfl, q⟩ := as_b hp
  cases o.2.1
  exact ⟨b, rfl, k b ρ' H' q (rep_out o rp.wo rp.bo)⟩
def truT (e : EV) : TV := fun ρ P => e ρ fun x ρ' => x.getK ρ' fun d => truK d fun b => P b ρ'
theorem tTr_of {f : EV} {Q : Bool → Hp → Prop} : tTV C (truT f) σ H Q → tTr C.K (tV C f) σ H Q := by
  rintro ⟨bs, W, O, ρ, P, rp, hf, k⟩
  refine ⟨bs, W, O, ρ, _, rp, hf, fun x ρ' v H' hp o => ?_⟩
  obtain ⟨d, hd, sd⟩ := view o.1 o.2.1 hp
  obtain ⟨b, h1, h2⟩ := tru_k sd hd
  exact ⟨b, h1, k b ρ' H' h2 (rep_out o rp.wo rp.bo)⟩
def andT (a b : TV) : TV := fun ρ P => a ρ fun c ρ1 => if c = true then b ρ1 P else P false ρ1
def orT (a b : TV) : TV := fun ρ P => a ρ fun c ρ1 => if c = true then P true ρ1 else b ρ1 P
def notT (a : TV) : TV := fun ρ P => a ρ fun c ρ1 => P (!c) ρ1
theorem tAnd_of {a b : TV} {Q : Bool → Hp → Prop} : tTV C (andT a b) σ H Q → tAnd (tTV C a) (tTV C b) σ H Q := by
  rintro ⟨bs, W, O, ρ, P, rp, hf, k⟩
  refine ⟨bs, W, O, ρ, _, rp, hf, fun c ρ' H' hp rp' => ?_⟩
  cases c with
  | true => exact ⟨bs, W, O, ρ', P, rp', hp, k⟩
  | false => exact k false ρ' H' hp rp'
theorem tOr_of {a b : TV} {Q : Bool → Hp → Prop} : tTV C (orT a b) σ H Q → tOr (tTV C a) (tTV C b) σ H Q := by
  rintro ⟨bs, W, O, ρ, P, rp, hf, k⟩
  refine ⟨bs, W, O, ρ, _, rp, hf, fun c ρ' H' hp rp' => ?_⟩
  cases c with
  | false => exact ⟨bs, W, O, ρ', P, rp', hp, k⟩
  | true => exact k true ρ' H' hp rp'
theorem tNot_of {a : TV} {Q : Bool → Hp → Prop} : tTV C (notT a) σ H Q → tNot (tTV C a) σ H Q := by
  rintro ⟨bs, W, O, ρ, P, rp, hf, k⟩
  exact ⟨bs, W, O, ρ, _, rp, hf, fun c ρ' H' hp rp' => k _ ρ' H' hp rp'⟩
def yesT : TV := fun ρ P => P true ρ
theorem tYes_of {Q : Bool → Hp → Prop} : tTV C yesT σ H Q → tYes σ H Q := by
  rintro ⟨bs, W, O, ρ, P, rp, hf, k⟩
  exact k true ρ H hf rp
/-- x if c else y -/
def ifE (c : TV) (a b : EV) : EV := fun ρ P => c ρ fun t ρ1 => if t = true then a ρ1 P else b ρ1 P
theorem tIf_of {c : TV} {a b : EV} : tV C (ifE c a b) σ H Q → tIf (tTV C c) (tV C a) (tV C b) σ H Q := by
  rintro ⟨bs, W, O, ρ, P, rp, hf, k⟩
  refine ⟨bs, W, O, ρ, _, rp, hf, fun t ρ' H' hp rp' => ?_⟩
  cases t with
  | true => exact ⟨bs, W, O, ρ', P, rp', hp, k⟩
  | false => exact ⟨bs, W, O, ρ', P, rp', hp, k⟩
/-- a and b, a or b, not a, as values -/
def andE (a b : EV) : EV := fun ρ P => a ρ fun x ρ1 => asB x fun c => if c = true then b ρ1 P else P (.v (.bool false)) ρ1
def orE (a b : EV) : EV := fun ρ P => a ρ fun x ρ1 => asB x fun c => if c = true then P (.v (.bool true)) ρ1 else b ρ1 P
theorem tAndV_of {a b : EV} : tV C (andE a b) σ H Q → tAndV (tV C a) (tV C b) σ H Q := by
  rintro ⟨bs, W, O, ρ, P, rp, hf, k⟩
  refine ⟨bs, W, O, ρ, _, rp, hf, fun x ρ' v H' hp o => ?_⟩
  obtain ⟨c, rfl, q⟩ := as_b hp
  have rp' := rep_out o rp.wo rp.bo
  cases o.2.1
  refine ⟨c, rfl, ?_⟩
  cases c with
  | true => exact ⟨bs, W, O, ρ', P, rp', q, k⟩
  | false => exact k _ ρ' _ H' q (out_v rp' (.bl _))
theorem tOrV_of {a b : EV} : tV C (orE a b) σ H Q → tOrV (tV C a) (tV C b) σ H Q := by
  rintro ⟨bs, W, O, ρ, P, rp, hf, k⟩
  refine ⟨bs, W, O, ρ, _, rp, hf, fun x ρ' v H' hp o => ?_⟩
  obtain ⟨c, rfl, q⟩ := as_b hp
  have rp' := rep_out o rp.wo rp.bo
  cases o.2.1
  refine ⟨c, rfl, ?_⟩
  cases c with
  | false => exact ⟨bs, W, O, ρ', P, rp', q, k⟩
  | true => exact k _ ρ' _ H' q (out_v rp' (.bl _))
/-! arguments -/
def aN : AV := fun ρ P => P [] ρ
def aC (a : EV) (as : AV) : AV := fun ρ P => a ρ fun x ρ1 => as ρ1 fun xs ρ2 => P (x :: xs) ρ2
theorem tNil_of {Q : List V → Hp → Prop} : tAV C aN σ H Q → tNil σ H Q := by
  rintro ⟨bs, W, O, ρ, P, rp, hf, k⟩
  exact k [] ρ [] H hf rp trivial trivial
theorem frs_back {bs' : Bs} (l : Bs.Le bs bs') : ∀ {vs : List V} {xs : List Av} {O O' : Addr → Prop}, (∀ a, O a → O' a) → Frs bs' O' vs xs → Frs bs O vs xs
  | [], _, _, _, _, _ => by unfold Frs; trivial
  | _ :: _, [], _, _, _, _ => by unfold Frs; trivial
  | v :: vs, x :: xs, _, _, hs, h => by
    unfold Frs at h ⊢
    refine ⟨fun d a e1 e2 => ?_, frs_back l hs h.2⟩
    obtain ⟨q1, q2, q3⟩ := h.1 d a e1 e2
    exact ⟨fun z => q1 (hs a z), l.h0 ▸ q2, l.gn q3⟩
theorem tCons_of {a : EV} {as : AV} {Q : List V → Hp → Prop} : tAV C (aC a as) σ H Q → tCons (tV C a) (tAV C as) σ H Q := by
  rintro ⟨bs, W, O, ρ, P, rp, hf, k⟩
  refine ⟨bs, W, O, ρ, _, rp, hf, fun x ρ1 v1 H1 hp ⟨rp1, c1, f1⟩ => ?_⟩
  refine ⟨bs.keep W (Ox O x v1) H1, W, Ox O x v1, ρ1, _, rp1.keep, hp, fun xs ρ2 vs H2 hq rp2 cs fs => ?_⟩
  refine k (x :: xs) ρ2 (v1 :: vs) H2 hq (rp1.unkeep rp2) ⟨c1.up rp1 rp2, cs⟩ ⟨f1, frs_back rp1.le (fun a z => ox_sub z) fs⟩
/-- the arguments as data -/
def getsK : List Av → En → (List PyData → Prop) → Prop
  | [], _, k => k []
  | x :: xs, ρ, k => x.getK ρ fun d => getsK xs ρ fun ds => k (d :: ds)
def Shs (K : Fg) (O : Addr → Prop) (H : Hp) : List V → List PyData → Prop
  | [], [] => True
  | v :: vs, d :: ds => Sh K O H v d ∧ Shs K O H vs ds
  | _, _ => False
theorem views (r : Rep C bs W O ρ σ H) : ∀ {xs : List Av} {vs : List V} {k : List PyData → Prop}, Cus C W O σ H vs xs → getsK xs ρ k → ∃ ds, k ds ∧ Shs C.K O H vs ds
  | [], [], k, _, h => ⟨[], h, trivial⟩
  | x :: xs, v :: vs, k, c, h => by
    obtain ⟨d, hd, sd⟩ := view r c.1 h
    obtain ⟨ds, hds, sds⟩ := views r c.2 hd
    exact ⟨d :: ds, hds, sd, sds⟩
  | [], _ :: _, _, c, _ => c.elim
  | _ :: _, [], _, c, _ => c.elim
/-- what may be put into another thing: data, or a new thing -/
def Av.stoK (x : Av) (k : PyData → Prop) : Prop :=
  match x with
  | .v d => k d
  | .n d => k d
  | _ => False
def stosK : List Av → (List PyData → Prop) → Prop
  | [], k => k []
  | x :: xs, k => x.stoK fun d => stosK xs fun ds => k (d :: ds)
theorem sto {k : PyData → Prop} {O2 : Addr → Prop} (c : Cu C W O2 σ H v x) (f : Fr1 bs O v x) (hs : ∀ a, O a → O2 a) (h : x.stoK k) : ∃ d, k d ∧ R C.K O H v d := by
  cases x with
  | v d => exact ⟨d, h, R.mv (.less hs) c⟩
  | n d =>
    obtain ⟨a, e, _, _, t⟩ := c
    refine ⟨d, h, ?_⟩
    subst e
    have nO := (f d a rfl rfl).1
    cases t with
    | lst h1 h2 => exact .lst nO h1 (h2.mv (.less hs))
    | dK h1 h2 => exact .dK nO (.inl h1) (h2.mv (.less hs))
  | o i => exact h.elim
  | w d => exact h.elim
  | tp => exact h.elim
theorem stos {O2 : Addr → Prop} (hs : ∀ a, O a → O2 a) : ∀ {xs : List Av} {vs : List V} {k : List PyData → Prop}, Cus C W O2 σ H vs xs → Frs bs O vs xs → stosK xs k → ∃ ds, k ds ∧ Rs C.K O H vs ds
  | [], [], k, _, _, h => ⟨[], h, .nil⟩
  | x :: xs, v :: vs, k, c, f, h => by
    obtain ⟨d, hd, sd⟩ := sto c.1 f.1 hs h
    obtain ⟨ds, hds, sds⟩ := stos hs c.2 f.2 hd
    exact ⟨d :: ds, hds, .cons sd sds⟩
  | [], _ :: _, _, c, _, _ => c.elim
  | _ :: _, [], _, c, _, _ => c.elim
def eTup (as : AV) : EV := fun ρ P => as ρ fun xs ρ1 => xs.length ≤ sizeLine ∧ stosK xs fun ds => P (.v (.tuple ds)) ρ1
def eLst (as : AV) : EV := fun ρ P => as ρ fun xs ρ1 => xs.length ≤ sizeLine ∧ stosK xs fun ds => P (.n (.list ds)) ρ1
theorem cus_len : ∀ {vs : List V} {xs : List Av}, Cus C W O σ H vs xs → vs.length = xs.length
  | [], [], _ => rfl
  | _ :: _, _ :: _, h => congrArg (· + 1) (cus_len h.2)
  | [], _ :: _, h => h.elim
  | _ :: _, [], h => h.elim
theorem tTup_of {as : AV} : tV C (eTup as) σ H Q → tTup (tAV C as) σ H Q := by
  rintro ⟨bs, W, O, ρ, P, rp, hf, k⟩
  refine ⟨bs, W, O, ρ, _, rp, hf, fun xs ρ1 vs H1 hp rp1 cs fs => ?_⟩
  obtain ⟨ds, hds, sds⟩ := stos (fun a z => oxs_sub z) cs fs hp.2
  refine ⟨by rw [cus_len cs]; exact hp.1, fun p hp => ?_⟩
  exact k _ ρ1 _ _ hds ((nw_tup hp sds).out (rp1.less (fun a z => oxs_sub z) rp.wo rp.bo) (fun _ z => z) rp.wo rp.bo)
theorem tLst_of {as : AV} : tV C (eLst as) σ H Q → tLst (tAV C as) σ H Q := by
  rintro ⟨bs, W, O, ρ, P, rp, hf, k⟩
  refine ⟨bs, W, O, ρ, _, rp, hf, fun xs ρ1 vs H1 hp rp1 cs fs => ?_⟩
  obtain ⟨ds, hds, sds⟩ := stos (fun a z => oxs_sub z) cs fs hp.2
  refine ⟨by rw [cus_len cs]; exact hp.1, fun p hp => ?_⟩
  exact k _ ρ1 _ _ hds ((nw_lst hp sds).out (rp1.less (fun a z => oxs_sub z) rp.wo rp.bo) (fun _ z => z) rp.wo rp.bo)
/-- a built-in on data -/
def CbS (K : Fg) (op : List PyData → (Av → Prop) → Prop) (r : List V → Hp → VK → Prop) : Prop :=
  ∀ (O : Addr → Prop) (H : Hp) (vs : List V) (ds : List PyData) (P : Av → Prop) (Q : VK), OkO O H → Shs K O H vs ds → op ds P → (∀ z v' H', P z → Nw K O H H' v' z → Q v' H') → r vs H Q
def eB (op : List PyData → (Av → Prop) → Prop) (as : AV) : EV := fun ρ P => as ρ fun xs ρ1 => getsK xs ρ1 fun ds => op ds fun z => P z ρ1
theorem tCB_of {as : AV} {op : List PyData → (Av → Prop) → Prop} {r : List V → Hp → VK → Prop} (h : CbS C.K op r) : tV C (eB op as) σ H Q → tCB r (tAV C as) σ H Q := by
  rintro ⟨bs, W, O, ρ, P, rp, hf, k⟩
  refine ⟨bs, W, O, ρ, _, rp, hf, fun xs ρ1 vs H1 hp rp1 cs fs => ?_⟩
  obtain ⟨ds, hds, sds⟩ := views rp1 cs hp
  exact h _ H1 vs ds _ Q rp1.ok sds hds fun z v' H' hz nw => k z ρ1 v' H' hz (nw.out rp1 (fun a z => oxs_sub z) rp.wo rp.bo)
/-- an index's ends -/
abbrev OV := En → (Option Int → En → Prop) → Prop
def oNo : OV := fun ρ P => P none ρ
def oE (a : EV) : OV := fun ρ P => a ρ fun x ρ1 => x.getK ρ1 fun d => match d with
  | .int i => P (some i) ρ1
  | _ => False
def tOV (C : Cd) (f : OV) : TO := fun σ H Q => ∃ bs W O ρ P, Rep C bs W O ρ σ H ∧ f ρ P ∧ ∀ i ρ' H', P i ρ' → Rep C bs W O ρ' σ H' → Q i H'
theorem tNo_of {Q : Option Int → Hp → Prop} : tOV C oNo σ H Q → tNoPart σ H Q := by
  rintro ⟨bs, W, O, ρ, P, rp, hf, k⟩
  exact k none ρ H hf rp
theorem tPart_of {a : EV} {Q : Option Int → Hp → Prop} : tOV C (oE a) σ H Q → tPart (tV C a) σ H Q := by
  rintro ⟨bs, W, O, ρ, P, rp, hf, k⟩
  refine ⟨bs, W, O, ρ, _, rp, hf, fun x ρ1 v1 H1 hp o => ?_⟩
  obtain ⟨d, hd, sd⟩ := view o.1 o.2.1 hp
  split at hd
  · exact ⟨_, sd.int, k _ ρ1 H1 hd (rep_out o rp.wo rp.bo)⟩
  · exact hd.elim
def eSl (a : EV) (lo hi : OV) : EV := fun ρ P => a ρ fun x ρ1 => lo ρ1 fun l ρ2 => hi ρ2 fun h ρ3 => x.getK ρ3 fun d => opSl d l h fun z => P z ρ3
theorem tSl_of {a : EV} {lo hi : OV} : tV C (eSl a lo hi) σ H Q → tSl (rSlU C.K) (tV C a) (tOV C lo) (tOV C hi) σ H Q := by
  rintro ⟨bs, W, O, ρ, P, rp, hf, k⟩
  refine ⟨bs, W, O, ρ, _, rp, hf, fun x ρ1 v1 H1 hp ⟨rp1, c1, f1⟩ => ?_⟩
  refine ⟨bs.keep W (Ox O x v1) H1, W, Ox O x v1, ρ1, _, rp1.keep, hp, fun l ρ2 H2 hq rp2 => ?_⟩
  refine ⟨bs.keep W (Ox O x v1) H1, W, Ox O x v1, ρ2, _, rp2, hq, fun h ρ3 H3 hr rp3 => ?_⟩
  have c3 := c1.up rp1 rp3
  have rp3' := rp1.unkeep rp3
  obtain ⟨d, hd, sd⟩ := view rp3' c3 hr
  exact os_sl sd hd fun z v' H' hz nw => k z ρ3 v' H' hz (nw.out rp3' (fun a z => ox_sub z) rp.wo rp.bo)
end

/-! ### statements, slots that change -/
section
variable {C : Cd} {bs : Bs} {W O O' : Addr → Prop} {ρ ρ' : En} {σ : L2.St} {H H' : Hp} {v : V} {x : Av} {d : PyData}
/-- an owned thing's address -/
def Ot (C : Cd) (B : Addr → Prop) : Addr → Prop := fun a => B a ∨ C.t = some a
/-- what a def tells at its end -/
def Rt (C : Cd) (H0 : Hp) (B : Addr → Prop) (H : Hp) (v : V) (z : Av) : Prop := Fm C.K C.t H0 H ∧ match z with
  | .v d => R C.K (Ot C B) H v d
  | .n d => ∃ a, v = .ref a ∧ H0 a = none ∧ Top C.K (Ow (Ot C B) a) H a d
  | _ => False
structure Lk (C : Cd) (bs : Bs) (D' : EndsV) (D : Ends) : Prop where
  nx : ∀ W O ρ σ H, Rep C bs W O ρ σ H → D'.nx ρ → D.nx σ H
  bk : ∀ W O ρ σ H, Rep C bs W O ρ σ H → D'.bk ρ → D.bk σ H
  ct : ∀ W O ρ σ H, Rep C bs W O ρ σ H → D'.ct ρ → D.ct σ H
  rt : ∀ z v H, Rt C bs.H0 bs.B H v z → D'.rt z → D.rt v H
def tSV (C : Cd) (f : SV) : TS := fun D σ H => ∃ bs W O ρ D', Rep C bs W O ρ σ H ∧ f D' ρ ∧ Lk C bs D' D
theorem rt_ot {H0 : Hp} {B B' : Addr → Prop} (hs : ∀ a, Ot C B a → Ot C B' a) {z : Av} (h : Rt C H0 B' H v z) : Rt C H0 B H v z := by
  refine ⟨h.1, ?_⟩
  have h2 := h.2
  cases z with
  | v d => exact R.mv (.less hs) h2
  | n d =>
    obtain ⟨a, e, n, t⟩ := h2
    exact ⟨a, e, n, t.mv (.less fun b z => ow_less hs z) fun _ q => q⟩
  | o i => exact h2
  | w d => exact h2
  | tp => exact h2
theorem rt_less {H0 : Hp} {B B' : Addr → Prop} (hb : ∀ a, B a → B' a) {z : Av} (h : Rt C H0 B' H v z) : Rt C H0 B H v z := rt_ot (fun a => Or.imp (hb a) id) h
theorem Lk.weak {bs' : Bs} {D' : EndsV} {D : Ends} (l : Bs.Le bs bs') (k : Lk C bs D' D) : Lk C bs' D' D :=
  ⟨fun W O ρ σ H r => k.nx W O ρ σ H (r.weak l), fun W O ρ σ H r => k.bk W O ρ σ H (r.weak l), fun W O ρ σ H r => k.ct W O ρ σ H (r.weak l), fun z v H h => k.rt z v H (rt_less l.b (l.h0 ▸ h))⟩
def sNext : SV := fun D ρ => D.nx ρ
def sBreak : SV := fun D ρ => D.bk ρ
def sCont : SV := fun D ρ => D.ct ρ
def sSeq (a b : SV) : SV := fun D ρ => a { D with nx := fun ρ' => b D ρ' } ρ
def sExpr (e : EV) : SV := fun D ρ => e ρ fun _ ρ' => D.nx ρ'
def Av.retK (x : Av) (ρ : En) (k : Av → Prop) : Prop :=
  match x with
  | .v d => k (.v d)
  | .n d => k (.n d)
  | .o i => match ρ[i]? with
    | some (some (.w d)) => k (.n d)
    | _ => False
  | _ => False
def sRet (e : EV) : SV := fun D ρ => e ρ fun x ρ' => x.retK ρ' D.rt
def sRetN : SV := fun D _ => D.rt (.v .none)
def sIf (c : TV) (a b : SV) : SV := fun D ρ => c ρ fun t ρ' => if t = true then a D ρ' else b D ρ'
variable {D : Ends}
theorem tNext_of : tSV C sNext D σ H → tNext D σ H := by
  rintro ⟨bs, W, O, ρ, D', rp, hf, k⟩
  exact k.nx _ _ _ _ _ rp hf
theorem tBreak_of : tSV C sBreak D σ H → tBreak D σ H := by
  rintro ⟨bs, W, O, ρ, D', rp, hf, k⟩
  exact k.bk _ _ _ _ _ rp hf
theorem tCont_of : tSV C sCont D σ H → tCont D σ H := by
  rintro ⟨bs, W, O, ρ, D', rp, hf, k⟩
  exact k.ct _ _ _ _ _ rp hf
theorem tSeq_of {a b : SV} : tSV C (sSeq a b) D σ H → tSeq (tSV C a) (tSV C b) D σ H := by
  rintro ⟨bs, W, O, ρ, D', rp, hf, k⟩
  exact ⟨bs, W, O, ρ, _, rp, hf, ⟨fun W O ρ σ H r q => ⟨bs, W, O, ρ, D', r, q, k⟩, k.bk, k.ct, k.rt⟩⟩
theorem tDrop_of {e : EV} : tSV C (sExpr e) D σ H → tDrop (tV C e) D σ H := by
  rintro ⟨bs, W, O, ρ, D', rp, hf, k⟩
  exact ⟨bs, W, O, ρ, _, rp, hf, fun x ρ' v H' hp o => k.nx _ _ _ _ _ (rep_out o rp.wo rp.bo) hp⟩
theorem ot_sub (rp : Rep C bs W O ρ σ H) {a : Addr} (h : Ot C bs.B a) : O a := by
  rcases h with h | h
  · exact rp.bo a h
  · exact rp.wo a (rp.tp a h).1
theorem ret_of {k : Av → Prop} (hO : ∀ a, bs.B a → O a) (hW : ∀ a, W a → O a) (o : Out C bs W O ρ σ H v x) (h : x.retK ρ k) : ∃ z, Rt C bs.H0 bs.B H v z ∧ k z := by
  have rp := rep_out o hW hO
  cases x with
  | v d => exact ⟨.v d, ⟨rp.fr, R.mv (.less fun a z => ot_sub rp z) o.2.1⟩, h⟩
  | n d =>
    obtain ⟨a, rfl, _, _, t⟩ := o.2.1
    exact ⟨.n d, ⟨rp.fr, a, rfl, (o.2.2 d a rfl rfl).2.1, t.mv (.less fun b z => ow_less (fun _ z => ot_sub rp z) z) fun _ q => q⟩, h⟩
  | o i =>
    have h : (match ρ[i]? with | some (some (.w d)) => k (.n d) | _ => False) := h
    split at h
    · rename_i d e
      obtain ⟨v', e1, a, e2, wa, nt, t⟩ := o.1.sl i _ e
      have c' : σ[i]? = some (some v) := o.2.1
      rw [c'] at e1
      cases e1
      refine ⟨.n d, ⟨rp.fr, a, e2, (rp.wn a wa).resolve_left fun e => nt e.symm, t.mv (.less fun b z => ?_) fun _ q => q⟩, h⟩
      rcases z with z | rfl
      · exact ot_sub o.1 z
      · exact o.1.wo _ wa
    · exact h.elim
  | w d => exact h.elim
  | tp => exact h.elim
theorem tRet_of {e : EV} : tSV C (sRet e) D σ H → tRet (tV C e) D σ H := by
  rintro ⟨bs, W, O, ρ, D', rp, hf, k⟩
  refine ⟨bs, W, O, ρ, _, rp, hf, fun x ρ' v H' hp o => ?_⟩
  obtain ⟨z, hz, q⟩ := ret_of rp.bo rp.wo o hp
  exact k.rt z v H' hz q
theorem tRetN_of : tSV C sRetN D σ H → tRetN D σ H := by
  rintro ⟨bs, W, O, ρ, D', rp, hf, k⟩
  exact k.rt (.v .none) _ _ ⟨rp.fr, R.non⟩ hf
theorem tIfS_of {c : TV} {a b : SV} : tSV C (sIf c a b) D σ H → tIfS (tTV C c) (tSV C a) (tSV C b) D σ H := by
  rintro ⟨bs, W, O, ρ, D', rp, hf, k⟩
  refine ⟨bs, W, O, ρ, _, rp, hf, fun t ρ' H' hp rp' => ?_⟩
  cases t with
  | true => exact ⟨bs, W, O, ρ', D', rp', hp, k⟩
  | false => exact ⟨bs, W, O, ρ', D', rp', hp, k⟩
/-! targets -/
theorem set_get {α : Type} {xs : List α} {i j : Nat} {y : α} : (xs.set i y)[j]? = if i = j ∧ j < xs.length then some y else xs[j]? := by
  rw [List.getElem?_set]
  by_cases e : i = j
  · subst e
    by_cases l : i < xs.length
    · rw [if_pos rfl, if_pos l, if_pos ⟨rfl, l⟩]
    · rw [if_pos rfl, if_neg l, if_neg (fun z => l z.2), List.getElem?_eq_none (by omega)]
  · rw [if_neg e, if_neg (fun z => e z.1)]
/-- slot i is told data -/
theorem Rep.put (r : Rep C bs W O ρ σ H) (i : Nat) (h : R C.K O H v d) : Rep C bs W O (ρ.set i (some (.v d))) (σ.set i (some v)) H :=
  { r with
    len := by rw [List.length_set, List.length_set]; exact r.len
    sl := fun j x h' => by
      rw [set_get] at h' ⊢
      by_cases c : i = j ∧ j < ρ.length
      · rw [if_pos c] at h'
        rw [if_pos (by rw [← r.len]; exact c)]
        cases h'
        exact ⟨v, rfl, h⟩
      · rw [if_neg c] at h'
        rw [if_neg (by rw [← r.len]; exact c)]
        exact r.sl j x h'
    ds := fun j l n h1 h2 => by
      rw [set_get] at h1 h2
      by_cases c1 : i = j ∧ j < ρ.length
      · rw [if_pos c1] at h1; exact h1.elim
      · by_cases c2 : i = l ∧ l < ρ.length
        · rw [if_pos c2] at h2; exact h2.elim
        · rw [if_neg c1] at h1
          rw [if_neg c2] at h2
          rw [set_get, set_get, if_neg (by rw [← r.len]; exact c1), if_neg (by rw [← r.len]; exact c2)]
          exact r.ds j l n h1 h2 }
/-- slot i is forgotten -/
theorem Rep.drop (r : Rep C bs W O ρ σ H) (i : Nat) : Rep C bs W O (ρ.set i none) σ H :=
  { r with
    len := by rw [List.length_set]; exact r.len
    sl := fun j x h' => by
      rw [set_get] at h'
      by_cases c : i = j ∧ j < ρ.length
      · rw [if_pos c] at h'; cases h'
      · rw [if_neg c] at h'
        exact r.sl j x h'
    ds := fun j l n h1 h2 => by
      rw [set_get] at h1 h2
      by_cases c1 : i = j ∧ j < ρ.length
      · rw [if_pos c1] at h1; exact h1.elim
      · by_cases c2 : i = l ∧ l < ρ.length
        · rw [if_pos c2] at h2; exact h2.elim
        · rw [if_neg c1] at h1
          rw [if_neg c2] at h2
          exact r.ds j l n h1 h2 }
def kill : List Nat → En → En
  | [], ρ => ρ
  | i :: is, ρ => kill is (ρ.set i none)
theorem Rep.kill : ∀ (is : List Nat) {ρ : En}, Rep C bs W O ρ σ H → Rep C bs W O (kill is ρ) σ H
  | [], _, r => r
  | i :: is, _, r => Rep.kill is (r.drop i)
/-- slot i owns a new thing -/
theorem Rep.own (r : Rep C bs W (Ow O a) ρ σ H) (hw : ∀ a, W a → O a) (hb : ∀ a, bs.B a → O a) (i : Nat) (nO : ¬ O a) (n0 : bs.H0 a = none) (ng : bs.G a = none) (t : Top C.K (Ow O a) H a d) :
    Rep C bs (Ow W a) (Ow O a) (ρ.set i (some (.w d))) (σ.set i (some (.ref a))) H := by
  have nt : some a ≠ C.t := fun e => nO (hw a (r.tp a e.symm).1)
  exact { r with
    tp := fun b e => ⟨.inl (r.tp b e).1, (r.tp b e).2⟩
    wo := fun b h => h.imp (hw b) id
    wn := fun b h => by
      rcases h with h | rfl
      · exact r.wn b h
      · exact .inr n0
    wg := fun b h => by
      rcases h with h | rfl
      · exact r.wg b h
      · exact ng
    wb := fun b h z => by
      rcases h with h | rfl
      · exact r.wb b h z
      · exact nO (hb b z)
    len := by rw [List.length_set, List.length_set]; exact r.len
    sl := fun j x h' => by
      rw [set_get] at h' ⊢
      by_cases c : i = j ∧ j < ρ.length
      · rw [if_pos c] at h'
        rw [if_pos (by rw [← r.len]; exact c)]
        cases h'
        exact ⟨.ref a, rfl, a, rfl, .inr rfl, nt, t⟩
      · rw [if_neg c] at h'
        rw [if_neg (by rw [← r.len]; exact c)]
        obtain ⟨v, h1, h2⟩ := r.sl j x h'
        refine ⟨v, h1, ?_⟩
        cases x with
        | v d => exact h2
        | n d => exact h2
        | o i => exact h2
        | tp => exact h2
        | w d =>
          obtain ⟨b, e, wb, z⟩ := h2
          exact ⟨b, e, .inl wb, z⟩
    ds := fun j l n h1 h2 => by
      have key : ∀ l : Nat, isW ρ[l]? → ¬ (σ[l]? = some (some (V.ref a))) := fun l hl e => by
        cases q : ρ[l]? with
        | none => rw [q] at hl; exact hl
        | some y =>
          rw [q] at hl
          cases y with
          | none => exact hl
          | some y =>
            cases y with
            | w d =>
              obtain ⟨v, e1, b, e2, wb, _⟩ := r.sl l _ q
              rw [e1] at e
              cases e
              cases e2
              exact nO (hw _ wb)
            | v d => exact hl
            | n d => exact hl
            | o i => exact hl
            | tp => exact hl
      rw [set_get] at h1 h2
      rw [set_get, set_get]
      by_cases c1 : i = j ∧ j < ρ.length
      · by_cases c2 : i = l ∧ l < ρ.length
        · exact absurd (c1.1.symm.trans c2.1) n
        · rw [if_neg c2] at h2
          rw [if_pos (by rw [← r.len]; exact c1), if_neg (by rw [← r.len]; exact c2)]
          exact fun e => key l h2 e.symm
      · rw [if_neg c1] at h1
        rw [if_neg (by rw [← r.len]; exact c1)]
        by_cases c2 : i = l ∧ l < ρ.length
        · rw [if_pos (by rw [← r.len]; exact c2)]
          exact fun e => key j h1 e
        · rw [if_neg c2] at h2
          rw [if_neg (by rw [← r.len]; exact c2)]
          exact r.ds j l n h1 h2 }
/-- a target of a loop: data to slots -/
abbrev GF := PyData → En → (En → Prop) → Prop
abbrev GFs := List PyData → En → (En → Prop) → Prop
def SameBut (is : List Nat) (σ σ' : L2.St) : Prop := (∀ j, j ∉ is → σ'[j]? = σ[j]?) ∧ σ'.length = σ.length
def tGF (C : Cd) (is : List Nat) (g : GF) : TG := fun v σ H Q => ∃ bs W O ρ d P, Rep C bs W O ρ σ H ∧ R C.K O H v d ∧ g d ρ P ∧ ∀ ρ' σ', P ρ' → Rep C bs W O ρ' σ' H → SameBut is σ σ' → Q σ' H
def tGFs (C : Cd) (is : List Nat) (g : GFs) : TGs := fun vs σ H Q => ∃ bs W O ρ ds P, Rep C bs W O ρ σ H ∧ Rs C.K O H vs ds ∧ g ds ρ P ∧ ∀ ρ' σ', P ρ' → Rep C bs W O ρ' σ' H → SameBut is σ σ' → Q σ' H
def fN (i : Nat) : GF := fun d ρ k => k (ρ.set i (some (.v d)))
def fT (gs : GFs) : GF := fun d ρ k => match d with
  | .tuple ds => gs ds ρ k
  | _ => False
def fsN : GFs := fun ds ρ k => match ds with
  | [] => k ρ
  | _ => False
def fsC (g : GF) (gs : GFs) : GFs := fun ds ρ k => match ds with
  | d :: ds => g d ρ fun ρ1 => gs ds ρ1 k
  | _ => False
variable {is js : List Nat} {Q : L2.St → Hp → Prop}
theorem gName_of {i : Nat} : tGF C [i] (fN i) v σ H Q → gName i v σ H Q := by
  rintro ⟨bs, W, O, ρ, d, P, rp, hr, hg, k⟩
  refine k _ _ hg (rp.put i hr) ⟨fun j hj => ?_, List.length_set⟩
  rw [List.getElem?_set_ne (fun e => hj (by rw [e]; exact List.mem_singleton.mpr rfl))]
theorem gNil_of {vs : List V} : tGFs C [] fsN vs σ H Q → gNil vs σ H Q := by
  rintro ⟨bs, W, O, ρ, ds, P, rp, hr, hg, k⟩
  cases hr with
  | nil => exact ⟨rfl, k _ _ hg rp ⟨fun _ _ => rfl, rfl⟩⟩
  | cons _ _ => exact hg.elim
theorem gCons_of {vs : List V} {g : GF} {gs : GFs} : tGFs C (is ++ js) (fsC g gs) vs σ H Q → gCons (tGF C is g) (tGFs C js gs) vs σ H Q := by
  rintro ⟨bs, W, O, ρ, ds, P, rp, hr, hg, k⟩
  cases hr with
  | nil => exact hg.elim
  | cons h1 h2 =>
    refine ⟨_, _, rfl, bs, W, O, ρ, _, _, rp, h1, hg, fun ρ1 σ1 hp rp1 s1 => ⟨bs, W, O, ρ1, _, _, rp1, h2, hp, fun ρ2 σ2 hq rp2 s2 => k ρ2 σ2 hq rp2 ⟨fun j hj => ?_, s2.2.trans s1.2⟩⟩⟩
    rw [s2.1 j (fun z => hj (List.mem_append_right _ z)), s1.1 j fun z => hj (List.mem_append_left _ z)]
theorem gTup_of {n : Nat} {gs : GFs} (hn : ∀ (ds : List PyData) ρ k, gs ds ρ k → ds.length = n) : tGF C is (fT gs) v σ H Q → gTup C.K n (tGFs C is gs) v σ H Q := by
  rintro ⟨bs, W, O, ρ, d, P, rp, hr, hg, k⟩
  cases hr with
  | tup h1 h2 => exact ⟨_, _, rfl, h1, h2.len.trans (hn _ _ _ hg), bs, W, O, ρ, _, P, rp, h2, hg, k⟩
  | non => exact hg.elim
  | bl _ => exact hg.elim
  | int _ => exact hg.elim
  | str _ => exact hg.elim
  | lst _ _ _ => exact hg.elim
  | dK _ _ _ => exact hg.elim
theorem fsN_len : ∀ (ds : List PyData) ρ k, fsN ds ρ k → ds.length = 0
  | [], _, _, _ => rfl
  | _ :: _, _, _, h => h.elim
theorem fsC_len {g : GF} {gs : GFs} {n : Nat} (hg : ∀ d ρ (k k' : En → Prop), (∀ ρ, k ρ → k' ρ) → g d ρ k → g d ρ k' ) (ex : ∀ d ρ k, g d ρ k → ∃ ρ', k ρ') (h : ∀ (ds : List PyData) ρ k, gs ds ρ k → ds.length = n) : ∀ (ds : List PyData) ρ k, fsC g gs ds ρ k → ds.length = n + 1
  | [], _, _, q => q.elim
  | d :: ds, ρ, k, q => by
    obtain ⟨ρ', q'⟩ := ex d ρ _ q
    exact congrArg (· + 1) (h ds ρ' k q')
/-! assignments -/
/-- name = value: frozen, or owned -/
def sSetF (i : Nat) (e : EV) : SV := fun D ρ => e ρ fun x ρ1 => x.stoK fun d => D.nx (ρ1.set i (some (.v d)))
def sSetO (i : Nat) (e : EV) : SV := fun D ρ => e ρ fun x ρ1 => match x with
  | .v d => D.nx (ρ1.set i (some (.v d)))
  | .n d => D.nx (ρ1.set i (some (.w d)))
  | _ => False
/-- targets = a tuple -/
def sSetG (g : GF) (e : EV) : SV := fun D ρ => e ρ fun x ρ1 => x.stoK fun d => g d ρ1 D.nx
theorem tSetF_of {i : Nat} {e : EV} : tSV C (sSetF i e) D σ H → tAsg (tV C e) (gName i) D σ H := by
  rintro ⟨bs, W, O, ρ, D', rp, hf, k⟩
  refine ⟨bs, W, O, ρ, _, rp, hf, fun x ρ' v H' hp o => ?_⟩
  obtain ⟨d, hd, r⟩ := sto o.2.1 o.2.2 (fun a z => ox_sub z) hp
  exact k.nx _ _ _ _ _ ((rep_out o rp.wo rp.bo).put i r) hd
theorem tSetG_of {g : GF} {e : EV} : tSV C (sSetG g e) D σ H → tAsg (tV C e) (tGF C is g) D σ H := by
  rintro ⟨bs, W, O, ρ, D', rp, hf, k⟩
  refine ⟨bs, W, O, ρ, _, rp, hf, fun x ρ' v H' hp o => ?_⟩
  obtain ⟨d, hd, r⟩ := sto o.2.1 o.2.2 (fun a z => ox_sub z) hp
  exact ⟨bs, W, O, ρ', d, _, rep_out o rp.wo rp.bo, r, hd, fun ρ2 σ2 hq rp2 _ => k.nx _ _ _ _ _ rp2 hq⟩
theorem tSetO_of {i : Nat} {e : EV} : tSV C (sSetO i e) D σ H → tAsg (tV C e) (gName i) D σ H := by
  rintro ⟨bs, W, O, ρ, D', rp, hf, k⟩
  refine ⟨bs, W, O, ρ, _, rp, hf, fun x ρ' v H' hp o => ?_⟩
  split at hp
  · exact k.nx _ _ _ _ _ ((rep_out o rp.wo rp.bo).put i o.2.1) hp
  · obtain ⟨a, rfl, oa, wa, t⟩ := o.2.1
    obtain ⟨nO, n0, ng⟩ := o.2.2 _ a rfl rfl
    exact k.nx _ _ _ _ _ (Rep.own o.1 rp.wo rp.bo i nO n0 ng t) hp
  · exact hp.elim
end

/-! ### owned things that change; calls; loops -/
section
variable {C : Cd} {bs : Bs} {W O O' : Addr → Prop} {ρ ρ' : En} {σ : L2.St} {H H' : Hp} {v : V} {x : Av} {d : PyData} {Q : VK}
def ownK (i : Nat) (ρ : En) (k : PyData → Prop) : Prop := match ρ[i]? with
  | some (some (.w d)) => k d
  | _ => False
theorem own_k {i : Nat} {k : PyData → Prop} (h : ownK i ρ k) : ∃ d, ρ[i]? = some (some (.w d)) ∧ k d := by
  unfold ownK at h
  split at h
  · rename_i d e
    exact ⟨d, e, h⟩
  · exact h.elim
def ownL (i : Nat) (ρ : En) (k : List PyData → Prop) : Prop := ownK i ρ fun d => match d with
  | .list ds => k ds
  | _ => False
theorem own_l {i : Nat} {k : List PyData → Prop} (h : ownL i ρ k) : ∃ ds, ρ[i]? = some (some (.w (.list ds))) ∧ k ds := by
  obtain ⟨d, e, q⟩ := own_k h
  cases d with
  | list ds => exact ⟨ds, e, q⟩
  | _ => exact q.elim
theorem Rep.ownAt (r : Rep C bs W O ρ σ H) {i : Nat} {ds : List PyData} (e : ρ[i]? = some (some (.w (.list ds)))) : ∃ a vs, σ[i]? = some (some (.ref a)) ∧ W a ∧ some a ≠ C.t ∧ H a = some (.lst vs) ∧ Rs C.K O H vs ds := by
  obtain ⟨v, h1, a, rfl, wa, nt, t⟩ := r.sl i _ e
  cases t with
  | lst h2 h3 => exact ⟨a, _, h1, wa, nt, h2, h3⟩
/-- slot i's list is changed -/
theorem Rep.mut (r : Rep C bs W O ρ σ H) {i : Nat} {ds ds' : List PyData} {a : Addr} {vs vs' : List V} (e : ρ[i]? = some (some (.w (.list ds)))) (hs : σ[i]? = some (some (.ref a))) (wa : W a) (nt : some a ≠ C.t) (ha : H a = some (.lst vs)) (hr : Rs C.K O H vs' ds') :
    Mv C.K O O H (upd H a (.lst vs')) ∧ Rep C bs W O (ρ.set i (some (.w (.list ds')))) σ (upd H a (.lst vs')) := by
  have un : ∀ b o, b ≠ a → H b = some o → upd H a (.lst vs') b = some o := fun b o n h => by rw [upd_ne n]; exact h
  have mv : Mv C.K O O H (upd H a (.lst vs')) := by
    refine ⟨tsameL (xs := vs) ha un, fun b o n h => ⟨n, un b o (fun z => n (z ▸ r.wo a wa)) h⟩⟩
  refine ⟨mv, ?_⟩
  have n0 : bs.H0 a = none := (r.wn a wa).resolve_left fun e => nt e.symm
  exact { r with
    fr := r.fr.mut n0 ha trivial un
    gk := fun b o h => un b o (fun z => by rw [z, r.wg a wa] at h; cases h) (r.gk b o h)
    ok := fun b h => by
      by_cases z : b = a
      · exact ⟨.lst vs', by rw [z]; exact upd_same, trivial⟩
      · obtain ⟨o, q, m⟩ := r.ok b h
        exact ⟨o, un b o z q, m⟩
    len := by rw [List.length_set]; exact r.len
    sl := fun j x h' => by
      rw [set_get] at h'
      by_cases c : i = j ∧ j < ρ.length
      · rw [if_pos c] at h'
        cases h'
        rw [← c.1]
        exact ⟨_, hs, a, rfl, wa, nt, .lst upd_same (hr.mv mv)⟩
      · rw [if_neg c] at h'
        obtain ⟨v, h1, h2⟩ := r.sl j x h'
        refine ⟨v, h1, ?_⟩
        cases x with
        | v d => exact R.mv mv h2
        | n d => exact h2
        | o i => exact h2
        | tp => exact h2
        | w d =>
          obtain ⟨b, eb, wb, nb, t⟩ := h2
          refine ⟨b, eb, wb, nb, t.mv mv fun o q => un b o (fun z => ?_) q⟩
          have nij : i ≠ j := fun z2 => c ⟨z2, (List.getElem?_eq_some_iff.mp h').1⟩
          refine r.ds i j nij (by rw [e]; trivial) (by rw [h']; trivial) ?_
          rw [hs, h1, eb, z]
    ds := fun j l n h1 h2 => by
      have key : ∀ l : Nat, isW (ρ.set i (some (.w (.list ds'))))[l]? → isW ρ[l]? := fun l hl => by
        rw [set_get] at hl
        by_cases c : i = l ∧ l < ρ.length
        · rw [← c.1, e]; trivial
        · rw [if_neg c] at hl; exact hl
      exact r.ds j l n (key j h1) (key l h2) }
/-- list.append, list.extend, list.pop of slot i's list -/
def eApp (i : Nat) (a : EV) : EV := fun ρ P => ownL i ρ fun _ => a ρ fun x ρ1 => x.stoK fun d => ownL i ρ1 fun ds => ds.length < sizeLine ∧ P (.v .none) (ρ1.set i (some (.w (.list (ds ++ [d])))))
theorem tApp_of {i : Nat} {a : EV} : tV C (eApp i a) σ H Q → tBM C.K "list" rAppend (tVar i) (tAV C (aC a aN)) σ H Q := by
  rintro ⟨bs, W, O, ρ, P, rp, hf, k⟩
  obtain ⟨ds0, e0, hf⟩ := own_l hf
  obtain ⟨b, vs0, s0, w0, n0, h0, r0⟩ := rp.ownAt e0
  refine ⟨_, s0, .inl ⟨rfl, vs0, SqL.of h0⟩, ?_⟩
  refine ⟨bs, W, O, ρ, fun xs ρ1 => ∃ x, xs = [x] ∧ x.stoK fun d => ownL i ρ1 fun ds => ds.length < sizeLine ∧ P (.v .none) (ρ1.set i (some (.w (.list (ds ++ [d]))))), rp, ?_, fun xs ρ1 vs H1 hp rp1 cs fs => ?_⟩
  · unfold aC aN
    have key : ∀ P P' : Av → En → Prop, P = P' → a ρ P → a ρ P' := fun P P' e h => e ▸ h
    refine key _ _ ?_ hf
    funext x ρ1
    refine propext ⟨fun h => ⟨x, rfl, h⟩, ?_⟩
    rintro ⟨y, e, h⟩
    cases e
    exact h
  obtain ⟨x, rfl, hp⟩ := hp
  cases vs with
  | nil => exact cs.elim
  | cons v vs =>
    cases vs with
    | cons _ _ => exact cs.2.elim
    | nil =>
      have rp1' : Rep C bs W O ρ1 σ H1 := rp1.less (fun a z => oxs_sub z) rp.wo rp.bo
      obtain ⟨d, hd, r⟩ := sto cs.1 fs.1 (fun a z => ox_sub z) hp
      obtain ⟨ds, e1, hl, hq⟩ := own_l hd
      obtain ⟨a1, vs1, s1, w1, n1, h1, r1⟩ := rp1'.ownAt e1
      rw [s0] at s1
      cases s1
      refine ⟨_, vs1, v, rfl, rfl, h1, by rw [r1.len]; exact hl, ?_⟩
      obtain ⟨mv, rp2⟩ := rp1'.mut (ds' := ds ++ [d]) (vs' := vs1 ++ [v]) e1 s0 w1 n1 h1 (r1.append (.cons r .nil))
      exact k _ _ _ _ hq (out_v rp2 .non)
def eExt (i : Nat) (a : EV) : EV := fun ρ P => ownL i ρ fun _ => a ρ fun x ρ1 => x.getK ρ1 fun d => ownL i ρ1 fun ds => match d with
  | .list es => ds.length + es.length ≤ sizeLine ∧ P (.v .none) (ρ1.set i (some (.w (.list (ds ++ es)))))
  | _ => False
theorem tExt_of {i : Nat} {a : EV} : tV C (eExt i a) σ H Q → tBM C.K "list" rExtend (tVar i) (tAV C (aC a aN)) σ H Q := by
  rintro ⟨bs, W, O, ρ, P, rp, hf, k⟩
  obtain ⟨ds0, e0, hf⟩ := own_l hf
  obtain ⟨b, vs0, s0, w0, n0, h0, r0⟩ := rp.ownAt e0
  refine ⟨_, s0, .inl ⟨rfl, vs0, SqL.of h0⟩, ?_⟩
  refine ⟨bs, W, O, ρ, fun xs ρ1 => ∃ x, xs = [x] ∧ x.getK ρ1 fun d => ownL i ρ1 fun ds => match d with
    | .list es => ds.length + es.length ≤ sizeLine ∧ P (.v .none) (ρ1.set i (some (.w (.list (ds ++ es)))))
    | _ => False, rp, ?_, fun xs ρ1 vs H1 hp rp1 cs fs => ?_⟩
  · unfold aC aN
    have key : ∀ P P' : Av → En → Prop, P = P' → a ρ P → a ρ P' := fun P P' e h => e ▸ h
    refine key _ _ ?_ hf
    funext x ρ1
    refine propext ⟨fun h => ⟨x, rfl, h⟩, ?_⟩
    rintro ⟨y, e, h⟩
    cases e
    exact h
  obtain ⟨x, rfl, hp⟩ := hp
  cases vs with
  | nil => exact cs.elim
  | cons v vs =>
    cases vs with
    | cons _ _ => exact cs.2.elim
    | nil =>
      have rp1' : Rep C bs W O ρ1 σ H1 := rp1.less (fun a z => oxs_sub z) rp.wo rp.bo
      obtain ⟨d, hd, sh⟩ := view rp1 cs.1 hp
      obtain ⟨ds, e1, hd⟩ := own_l hd
      cases d with
      | list es =>
        obtain ⟨hl, hq⟩ := hd
        obtain ⟨a1, vs1, s1, w1, n1, h1, r1⟩ := rp1'.ownAt e1
        rw [s0] at s1
        cases s1
        obtain ⟨b2, us, rfl, h2, r2⟩ := sh.lst
        refine ⟨_, b2, vs1, us, rfl, rfl, h1, h2, by rw [r1.len, r2.len]; exact hl, ?_⟩
        obtain ⟨mv, rp2⟩ := rp1'.mut (ds' := ds ++ es) (vs' := vs1 ++ us) e1 s0 w1 n1 h1 (r1.append (r2.mv (.less fun a z => oxs_sub z)))
        exact k _ _ _ _ hq (out_v rp2 .non)
      | _ => exact hd.elim
/-- l.pop(k), 0 <= k; l.pop() -/
def ePop (i : Nat) (a : EV) : EV := fun ρ P => ownL i ρ fun _ => a ρ fun x ρ1 => x.getK ρ1 fun d => ownL i ρ1 fun ds => match d with
  | .int j => 0 ≤ j ∧ j < (ds.length : Int) ∧ ds.length < 2 ^ 60 ∧ ∃ y, ds[j.toNat]? = some y ∧ P (.v y) (ρ1.set i (some (.w (.list (ds.eraseIdx j.toNat)))))
  | _ => False
theorem tPop_of {i : Nat} {a : EV} : tV C (ePop i a) σ H Q → tBM C.K "list" rPopAt (tVar i) (tAV C (aC a aN)) σ H Q := by
  rintro ⟨bs, W, O, ρ, P, rp, hf, k⟩
  obtain ⟨ds0, e0, hf⟩ := own_l hf
  obtain ⟨b0, vs0, s0, w0, n0, h0, r0⟩ := rp.ownAt e0
  refine ⟨_, s0, .inl ⟨rfl, vs0, SqL.of h0⟩, ?_⟩
  refine ⟨bs, W, O, ρ, fun xs ρ1 => ∃ x, xs = [x] ∧ x.getK ρ1 fun d => ownL i ρ1 fun ds => match d with
    | .int j => 0 ≤ j ∧ j < (ds.length : Int) ∧ ds.length < 2 ^ 60 ∧ ∃ y, ds[j.toNat]? = some y ∧ P (.v y) (ρ1.set i (some (.w (.list (ds.eraseIdx j.toNat)))))
    | _ => False, rp, ?_, fun xs ρ1 vs H1 hp rp1 cs fs => ?_⟩
  · unfold aC aN
    have key : ∀ P P' : Av → En → Prop, P = P' → a ρ P → a ρ P' := fun P P' e h => e ▸ h
    refine key _ _ ?_ hf
    funext x ρ1
    refine propext ⟨fun h => ⟨x, rfl, h⟩, ?_⟩
    rintro ⟨y, e, h⟩
    cases e
    exact h
  obtain ⟨x, rfl, hp⟩ := hp
  cases vs with
  | nil => exact cs.elim
  | cons v vs =>
    cases vs with
    | cons _ _ => exact cs.2.elim
    | nil =>
      have rp1' : Rep C bs W O ρ1 σ H1 := rp1.less (fun a z => oxs_sub z) rp.wo rp.bo
      obtain ⟨d, hd, sh⟩ := view rp1 cs.1 hp
      obtain ⟨ds, e1, hd⟩ := own_l hd
      cases d with
      | int j =>
        obtain ⟨j0, j1, j2, y, hy, hq⟩ := hd
        obtain ⟨a1, vs1, s1, w1, n1, h1, r1⟩ := rp1'.ownAt e1
        rw [s0] at s1
        cases s1
        cases sh.int
        obtain ⟨u, hu, ru⟩ := r1.get hy
        have hl := r1.len
        refine r_popAt h1 j0 (by rw [hl]; exact j1) (by rw [hl]; exact j2) fun y' H2 hy' f2 e2 => ?_
        rw [hu] at hy'
        cases hy'
        obtain ⟨mv, rp2⟩ := rp1'.mut (ds' := ds.eraseIdx j.toNat) (vs' := vs1.eraseIdx j.toNat) e1 s0 w1 n1 h1 r1.erase
        have eH : ∀ b o, upd H1 b0 (.lst (vs1.eraseIdx j.toNat)) b = some o → H2 b = some o := fun b o q => by
          by_cases z : b = b0
          · rw [z, upd_same] at q; rw [z, e2]; exact q
          · rw [upd_ne z] at q; exact f2 b o z q
        exact k _ _ _ _ hq (out_v (rp2.same eH) ((ru.mv mv).mv (.same eH)))
      | _ => exact hd.elim
/-- l[k] = value -/
def sPut (i : Nat) (ek e : EV) : SV := fun D ρ => e ρ fun x ρ1 => ownL i ρ1 fun _ => ek ρ1 fun y ρ2 => y.getK ρ2 fun kd => x.stoK fun d => ownL i ρ2 fun ds => match kd with
  | .int j => ∃ n, ixN ds.length j = some n ∧ D.nx (ρ2.set i (some (.w (.list (ds.set n d)))))
  | _ => False
theorem tPut_of {i : Nat} {ek e : EV} {D : Ends} : tSV C (sPut i ek e) D σ H → tAsg (tV C e) (gSub (tVar i) (tV C ek) rSetL) D σ H := by
  rintro ⟨bs, W, O, ρ, D', rp, hf, k⟩
  refine ⟨bs, W, O, ρ, _, rp, hf, fun x ρ1 v1 H1 hp ⟨rp1, c1, f1⟩ => ?_⟩
  obtain ⟨ds0, e0, hd1⟩ := own_l hp
  obtain ⟨b0, vs0, s0, w0, n0, h0, r0⟩ := rp1.ownAt e0
  refine ⟨_, s0, bs.keep W (Ox O x v1) H1, W, Ox O x v1, ρ1, _, rp1.keep, hd1, fun y ρ2 v2 H2 hq ⟨rp2, c2, f2⟩ => ?_⟩
  have rp2' := rp1.unkeep rp2
  obtain ⟨kd, hkd, sk⟩ := view rp2' c2 hq
  obtain ⟨d, hd, rd⟩ := sto (c1.up rp1 rp2) f1 (fun a z => ox_sub (ox_sub z)) hkd
  obtain ⟨ds, e1, hkd⟩ := own_l hd
  cases kd with
  | int j =>
    obtain ⟨n, hn, hx⟩ := hkd
    cases sk.int
    have rp2O : Rep C bs W O ρ2 σ H2 := rp2'.less (fun a z => ox_sub (ox_sub z)) rp.wo rp.bo
    obtain ⟨a1, vs1, s1, w1, n1, h1, r1⟩ := rp2O.ownAt e1
    rw [s0] at s1
    cases s1
    refine ⟨b0, vs1, j, n, rfl, rfl, h1, by rw [r1.len]; exact hn, ?_⟩
    obtain ⟨mv, rp3⟩ := rp2O.mut (ds' := ds.set n d) (vs' := vs1.set n v1) e1 s0 w1 n1 h1 (r1.set rd)
    exact k.nx _ _ _ _ _ rp3 hx
  | _ => exact hkd.elim
/-! calls of defs -/
def Ags (C : Cd) (O : Addr → Prop) (H : Hp) : List V → List Av → Prop
  | [], [] => True
  | v :: vs, y :: ys => (match y with
    | .v d => R C.K O H v d
    | .tp => ∃ a, v = .ref a ∧ C.t = some a
    | _ => False) ∧ Ags C O H vs ys
  | _, _ => False
def spV (K : Fg) (F : FV) : Sp := fun vs H Q _ => ∃ (t : Option Addr) (O : Addr → Prop) (ys : List Av) (P : Av → Prop), OkO O H ∧ (∀ a, t = some a → Tape H a ∧ O a) ∧ Ags ⟨K, t⟩ O H vs ys ∧ F ys P ∧
  ∀ z v H', P z → Rt ⟨K, t⟩ H O H' v z → Q v H'
/-- an argument as the callee sees it; whether it is an owned thing -/
def Av.argK (x : Av) (ρ : En) (k : Av → Bool → Prop) : Prop :=
  match x with
  | .v d => k (.v d) false
  | .n d => k (.v d) false
  | .tp => k .tp false
  | .o i => ownK i ρ fun d => k (.v d) true
  | .w _ => False
def argsK : List Av → En → (List Av → Bool → Prop) → Prop
  | [], _, k => k [] false
  | x :: xs, ρ, k => x.argK ρ fun y b => argsK xs ρ fun ys c => k (y :: ys) (b || c)
def noLT : PyData → Bool
  | .list ds => noLs ds
  | _ => false
def safeR (own : Bool) (z : Av) : Prop := own = true → match z with
  | .v d => noL d = true
  | .n d => noLT d = true
  | _ => False
def eCall (F : FV) (as : AV) : EV := fun ρ P => as ρ fun xs ρ1 => argsK xs ρ1 fun ys own => F ys fun z => safeR own z ∧ P z ρ1
/-- none is owned: the callee's view of the arguments -/
theorem args_of (r : Rep C bs W O' ρ σ H) (hs : ∀ a, O a → O' a) (ht : ∀ a, C.t = some a → O a) : ∀ {xs : List Av} {vs : List V} {k : List Av → Bool → Prop}, Cus C W O' σ H vs xs → Frs bs O vs xs → argsK xs ρ k →
    ∃ ys own, k ys own ∧ Ags C (fun a => C.t = some a) H vs ys ∧ (own = false → Ags C O H vs ys)
  | [], [], k, _, _, h => ⟨[], false, h, trivial, fun _ => trivial⟩
  | [], _ :: _, _, c, _, _ => c.elim
  | _ :: _, [], _, c, _, _ => c.elim
  | x :: xs, v :: vs, k, c, f, h => by
    have h : x.argK ρ fun y b => argsK xs ρ fun ys c => k (y :: ys) (b || c) := h
    have st : ∀ a, C.t = some a → O' a := fun a e => hs a (ht a e)
    cases x with
    | v d =>
      obtain ⟨ys, own, q, a1, a2⟩ := args_of r hs ht c.2 f.2 h
      exact ⟨.v d :: ys, own, q, ⟨R.mv (.less st) c.1, a1⟩, fun e => ⟨R.mv (.less hs) c.1, a2 e⟩⟩
    | n d =>
      obtain ⟨ys, own, q, a1, a2⟩ := args_of r hs ht c.2 f.2 h
      obtain ⟨e, he, rd⟩ := sto (k := fun e => e = d) c.1 f.1 hs rfl
      subst he
      exact ⟨.v e :: ys, own, q, ⟨rd.mv (.less ht), a1⟩, fun z => ⟨rd, a2 z⟩⟩
    | tp =>
      obtain ⟨ys, own, q, a1, a2⟩ := args_of r hs ht c.2 f.2 h
      exact ⟨.tp :: ys, own, q, ⟨c.1, a1⟩, fun z => ⟨c.1, a2 z⟩⟩
    | o i =>
      obtain ⟨d, e, h⟩ := own_k h
      obtain ⟨ys, own, q, a1, a2⟩ := args_of r hs ht c.2 f.2 h
      obtain ⟨v', e1, a, e2, wa, nt, t⟩ := r.sl i _ e
      have c' : σ[i]? = some (some v) := c.1
      rw [c'] at e1
      cases e1
      subst e2
      refine ⟨.v d :: ys, true, q, ⟨?_, a1⟩, fun z => by cases z⟩
      cases t with
      | lst h1 h2 => exact .lst (fun z => nt z.symm) h1 (h2.mv (.less st))
      | dK h1 h2 => exact .dK (fun z => nt z.symm) (.inl h1) (h2.mv (.less st))
    | w d => exact h.elim
theorem Rep.tape (r : Rep C bs W O ρ σ H) {a : Addr} (e : C.t = some a) : Tape H a := by
  have f := r.fr
  rw [e] at f
  exact Ext.tape f
theorem tCall_of {F : FV} {as : AV} {E : XK} : tV C (eCall F as) σ H Q → tCall (spV C.K F) [] E (tAV C as) σ H Q := by
  rintro ⟨bs, W, O, ρ, P, rp, hf, k⟩
  refine ⟨bs, W, O, ρ, _, rp, hf, fun xs ρ1 vs H1 hp rp1 cs fs => ?_⟩
  have ht : ∀ a, C.t = some a → O a := fun a e => rp.wo a (rp.tp a e).1
  obtain ⟨ys, own, hF, a1, a2⟩ := args_of rp1 (fun a z => oxs_sub z) ht cs fs hp
  have rp1O : Rep C bs W O ρ1 σ H1 := rp1.less (fun a z => oxs_sub z) rp.wo rp.bo
  show spV C.K F (vs ++ []) H1 Q E
  rw [List.append_nil]
  cases own with
  | false =>
    refine ⟨C.t, O, ys, _, rp1O.ok, fun a e => ⟨rp1.tape e, ht a e⟩, a2 rfl, hF, fun z v H' hz hr => ?_⟩
    obtain ⟨fm, hr⟩ := hr
    have so : ∀ a, O a → Ot C O a := fun a h => .inl h
    have os : ∀ a, Ot C O a → O a := fun a h => h.elim id (ht a)
    cases z with
    | v d => exact k _ _ _ _ hz.2 (out_v (rp1O.fm fm) (R.mv (.less so) hr))
    | n d =>
      obtain ⟨a, rfl, na, t⟩ := hr
      obtain ⟨o, ho, mo⟩ := t.obj
      have nO := (rp1O.free na).1
      refine k _ _ _ _ hz.2 ⟨rp1O.add fm na ho mo, ⟨a, rfl, .inr rfl, fun z => nO (rp.wo a z), t.mv (.less fun b z => ow_less so z) fun _ q => q⟩, fun d' b _ eb => ?_⟩
      cases eb
      exact ⟨nO, (rp1O.free na).2⟩
    | o i => exact hr.elim
    | w d => exact hr.elim
    | tp => exact hr.elim
  | true =>
    refine ⟨C.t, fun a => C.t = some a, ys, _, fun a e => rp1O.ok a (ht a e), fun a e => ⟨rp1.tape e, e⟩, a1, hF, fun z v H' hz hr => ?_⟩
    obtain ⟨fm, hr⟩ := hr
    have sf := hz.1 rfl
    cases z with
    | v d => exact k _ _ _ _ hz.2 (out_v (rp1O.fm fm) (R.noL sf hr))
    | n d =>
      obtain ⟨a, rfl, na, t⟩ := hr
      obtain ⟨o, ho, mo⟩ := t.obj
      have nO := (rp1O.free na).1
      refine k _ _ _ _ hz.2 ⟨rp1O.add fm na ho mo, ⟨a, rfl, .inr rfl, fun z => nO (rp.wo a z), ?_⟩, fun d' b _ eb => ?_⟩
      · cases t with
        | lst h1 h2 => exact .lst h1 (Rs.noL sf h2)
        | dK h1 h2 => exact nomatch (show false = true from sf)
      · cases eb
        exact ⟨nO, (rp1O.free na).2⟩
    | o i => exact hr.elim
    | w d => exact hr.elim
    | tp => exact hr.elim
theorem tCall0_of {F : FV} {E : XK} : tV C (eCall F aN) σ H Q → tCall (spV C.K F) [] E tNil σ H Q := fun h => by
  obtain ⟨bs, W, O, ρ, P, rp, q, k⟩ := tCall_of (E := E) h
  exact k [] ρ [] H q rp trivial trivial
/-! a def -/
def startV (n : Nat) (ys : List Av) : En := ys.map some ++ List.replicate (n - ys.length) none
def defV (len n : Nat) (body : SV) : FV := fun ys P => ys.length = len ∧ body ⟨fun _ => P (.v .none), P, fun _ => False, fun _ => False⟩ (startV n ys)
theorem ags_len : ∀ {vs : List V} {ys : List Av}, Ags C O H vs ys → vs.length = ys.length
  | [], [], _ => rfl
  | _ :: _, _ :: _, h => congrArg (· + 1) (ags_len h.2)
  | [], _ :: _, h => h.elim
  | _ :: _, [], h => h.elim
theorem ags_get : ∀ {vs : List V} {ys : List Av} {i : Nat} {y : Av}, Ags C O H vs ys → ys[i]? = some y → ∃ v, vs[i]? = some v ∧ Sl C W O H v y ∧ ¬ isW (some (some y))
  | v :: vs, y :: ys, 0, z, h, e => by
    cases e
    refine ⟨v, rfl, ?_⟩
    have h1 := h.1
    cases y with
    | v d => exact ⟨h1, id⟩
    | tp => exact ⟨h1, id⟩
    | n d => exact h1.elim
    | w d => exact h1.elim
    | o i => exact h1.elim
  | v :: vs, y :: ys, i + 1, z, h, e => by
    obtain ⟨v', h1, h2⟩ := ags_get (i := i) h.2 (by simpa using e)
    exact ⟨v', by simpa using h1, h2⟩
  | [], [], i, _, _, e => by simp at e
  | [], _ :: _, _, _, h, _ => h.elim
  | _ :: _, [], _, _, h, _ => h.elim
theorem def_of {K : Fg} {N : List Str} {len n : Nat} {body : SV} {F : FV} {vs : List V} {E : XK} (hF : F = defV len n body) (hn : N.length = n) (h : spV K F vs H Q E) : ∃ t, tSV ⟨K, t⟩ body { nx := fun _ H' => Q .non H', rt := Q } (L2.start N vs) H := by
  subst hF
  obtain ⟨t, O, ys, P, ok, ht, ag, hf, k⟩ := h
  refine ⟨t, ⟨H, fun a => O a ∧ some a ≠ t, fun _ => none⟩, fun a => t = some a, O, startV n ys, _, ?_, hf.2, ?_⟩
  · have fr : Fm K t H H := by
      cases t with
      | none => exact Same.refl _
      | some a => exact Ext.refl (ht a rfl).1
    have hl := ags_len ag
    have gl : ∀ (i : Nat) (y : Av), (startV n ys)[i]? = some (some y) → ys[i]? = some y := fun i y e => by
      unfold startV at e
      rw [List.getElem?_append] at e
      split at e
      · rw [List.getElem?_map] at e
        cases q : ys[i]? with
        | none => rw [q] at e; cases e
        | some z => rw [q] at e; cases e; rfl
      · rw [List.getElem?_replicate] at e
        split at e
        · cases e
        · cases e
    refine ⟨fr, fun a e => ⟨e, fun z => z.2 e.symm⟩, fun a e => (ht a e).2, fun a e => .inl e, fun _ _ => rfl, fun a e z => z.2 e.symm, fun a z => z.1, fun a _ => .inr rfl, fun b o e => (by cases e), ok, ?_, fun i y e => ?_, fun i j ne h1 h2 => ?_⟩
    · unfold startV L2.start
      simp only [List.length_append, List.length_map, List.length_replicate, hn, hl]
    · obtain ⟨v, h1, h2, _⟩ := ags_get (W := fun a => t = some a) ag (gl i y e)
      refine ⟨v, ?_, h2⟩
      unfold L2.start
      rw [List.getElem?_append_left (by rw [List.length_map]; exact (List.getElem?_eq_some_iff.mp h1).1), List.getElem?_map, h1]
      rfl
    · exfalso
      cases q : (startV n ys)[i]? with
      | none => rw [q] at h1; exact h1
      | some y =>
        rw [q] at h1
        cases y with
        | none => exact h1
        | some y =>
          obtain ⟨_, _, _, nw⟩ := ags_get (W := fun a => t = some a) ag (gl i y q)
          exact nw h1
  · have fin : ∀ z v H', Rt ⟨K, t⟩ H (fun a => O a ∧ some a ≠ t) H' v z → P z → Q v H' := fun z v H' hr hp => k z v H' hp (rt_ot (fun a q => by
      by_cases e : t = some a
      · exact .inr e
      · exact q.imp (fun z => ⟨z, fun z2 => e z2.symm⟩) id) hr)
    exact ⟨fun W O ρ σ H' r q => fin (.v .none) _ _ ⟨r.fr, R.non⟩ q, fun _ _ _ _ _ _ q => q.elim, fun _ _ _ _ _ _ q => q.elim, fun z v H' hr q => fin z v H' hr q⟩
end

/-! ### loops -/
/-- a list or a tuple is walked: which of them, is told behind the expression -/
def iSeq2 (K : Fg) (te : TE) : TI := fun σ H R => te σ H fun x H1 => ∃ a, x = .ref a ∧ (((∃ xs, SqL K H1 a xs) ∧ R (Itl K a) H1) ∨ ((∃ xs, SqT K H1 a xs) ∧ R (Itt K a) H1))
theorem pi_seq2 {X : Cx} {tg l : Expr} {te : TE} {K : Fg} (hl : PE X l te) (hK : X.K = K := by rfl) : PI X tg l (iSeq2 K te) := by
  subst hK
  constructor
  intro pins s σ H R I h
  apply thn (hl.run pins s σ H _ I h)
  rintro v s1 ⟨x, H1, I1, r1, a, rfl, q⟩
  cases r1
  have fi : FpOk X pins H1 s1.heap.objs.size := I1.fpOk (Nat.le_refl _) (I1.hok.fresh (Nat.le_refl _))
  have one : ∀ b ∈ [s1.heap.objs.size], FpOk X pins H1 b := fun b hb => by
    cases List.mem_singleton.mp hb
    exact fi
  have up := fun (c : PySem.Obj) => I1.kept (t' := s1.toks) (h' := s1.heap.push c) fun b o e => Heap.get?_push_of_some _ e
  rcases q with ⟨⟨xs, hq⟩, q⟩ | ⟨⟨xs, hq⟩, q⟩
  · obtain ⟨ws, _, pl, _⟩ := I1.list hq
    exact wpAny_pyIter_list pl.isList ⟨_, _, _, _, H1, rfl, up _, turn_list a _, ⟨_, Heap.get?_push_size _ rfl, rfl, rfl⟩, one, q⟩
  · obtain ⟨ws, _, pl, _⟩ := I1.tuple hq
    exact wpAny_pyIter_tuple (show s1.heap.IsTuple a ws.toArray from pl) ⟨_, _, _, _, H1, rfl, up _, turn_tuple a _, ⟨_, Heap.get?_push_size _ rfl, rfl, rfl⟩, one, q⟩
section
variable {C : Cd} {bs : Bs} {W O O' : Addr → Prop} {ρ ρ' : En} {σ : L2.St} {H H' : Hp} {v : V} {x : Av} {d : PyData} {Q : VK}
/-- what is walked: the items -/
abbrev IV := En → (List PyData → En → Prop) → Prop
/-- J walks ds, wherever bs is kept -/
def ItOk (C : Cd) (bs : Bs) (J : It) (ds : List PyData) : Prop := ∀ (i : Nat) (W O : Addr → Prop) (ρ : En) (σ : L2.St) (H : Hp), Rep C bs W O ρ σ H →
  (ds.length ≤ i → J.stop i H) ∧ ∀ d, ds[i]? = some d → J.go i H ∧ ∀ x H', J.yld i H x H' → Same H H' ∧ R C.K O H' x d
def tIV (C : Cd) (iv : IV) : TI := fun σ H Q => ∃ bs W O ρ P, Rep C bs W O ρ σ H ∧ iv ρ P ∧ ∀ ds ρ' J H' bs' W' O', P ds ρ' → Rep C bs' W' O' ρ' σ H' → Bs.Le bs bs' → ItOk C bs' J ds → Q J H'
def tIS (C : Cd) (iv : IV) : TI := fun σ H Q => ∃ bs W O ρ P, Rep C bs W O ρ σ H ∧ iv ρ P ∧ ∀ ds ρ' J H' bs' O', P ds ρ' → Rep C bs' W O' ρ' σ H' → Bs.Le bs bs' → (∀ a, O a → W a ∨ bs'.B a) → ItOk C bs' J ds → Q J H'
theorem tIS_of {iv : IV} {Q : It → Hp → Prop} : tIV C iv σ H Q → tIS C iv σ H Q := by
  rintro ⟨bs, W, O, ρ, P, rp, hf, k⟩
  exact ⟨bs, W, O, ρ, P, rp, hf, fun ds ρ' J H' bs' O' h1 h2 h3 _ h4 => k ds ρ' J H' bs' W O' h1 h2 h3 h4⟩
/-- .. of a comprehension: G says that an owned thing is as it was -/
abbrev IC := En → (List PyData → (En → Prop) → En → Prop) → Prop
def ItOkG (C : Cd) (bs : Bs) (σ : L2.St) (J : It) (ds : List PyData) (G : En → Prop) : Prop := ∀ (i : Nat) (W O : Addr → Prop) (ρ : En) (vs : List Nat) (H : Hp), Rep C bs W O ρ (wipe σ vs) H → G ρ →
  (ds.length ≤ i → J.stop i H) ∧ ∀ d, ds[i]? = some d → J.go i H ∧ ∀ x H', J.yld i H x H' → Same H H' ∧ R C.K O H' x d
def tIC (C : Cd) (iv : IC) : TI := fun σ H Q => ∃ bs W O ρ P, Rep C bs W O ρ σ H ∧ iv ρ P ∧ ∀ ds G ρ' J H' bs' O', P ds G ρ' → Rep C bs' W O' ρ' σ H' → Bs.Le bs bs' → (∀ a, O a → W a ∨ bs'.B a) → ItOkG C bs' σ J ds G → Q J H'
def icN (iv : IV) : IC := fun ρ P => iv ρ fun ds ρ' => P ds (fun _ => True) ρ'
theorem tICN_of {iv : IV} {Q : It → Hp → Prop} : tIC C (icN iv) σ H Q → tIS C iv σ H Q := by
  rintro ⟨bs, W, O, ρ, P, rp, hf, k⟩
  exact ⟨bs, W, O, ρ, _, rp, hf, fun ds ρ' J H' bs' O' h1 h2 h3 h4 h5 => k ds _ ρ' J H' bs' O' h1 h2 h3 h4 fun i W O ρ vs H r _ => h5 i W O ρ _ H r⟩
/-- a thing that is walked: an owned one is not changed any more -/
def Av.itK (x : Av) (ρ : En) (k : PyData → En → Prop) : Prop :=
  match x with
  | .v d => k d ρ
  | .n d => k d ρ
  | .o i => ownK i ρ fun d => k d (ρ.set i (some (.v d)))
  | _ => False
def iE (a : EV) : IV := fun ρ P => a ρ fun x ρ1 => x.itK ρ1 fun d ρ2 => seqK d fun ds => P ds ρ2
/-- slot i gives its thing up -/
theorem Rep.giveUp (r : Rep C bs W O ρ σ H) {i : Nat} (e : ρ[i]? = some (some (.w d))) : ∃ a, σ[i]? = some (some (.ref a)) ∧ W a ∧ Top C.K O H a d ∧
    Rep C bs (fun b => W b ∧ b ≠ a) (fun b => O b ∧ b ≠ a) (ρ.set i (some (.v d))) σ H ∧ R C.K (fun b => O b ∧ b ≠ a) H (.ref a) d := by
  obtain ⟨v, h1, a, rfl, wa, nt, t⟩ := r.sl i _ e
  have ls : ∀ b, (O b ∧ b ≠ a) → O b := fun b z => z.1
  have hr : R C.K (fun b => O b ∧ b ≠ a) H (.ref a) d := by
    cases t with
    | lst h2 h3 => exact .lst (fun z => z.2 rfl) h2 (h3.mv (.less ls))
    | dK h2 h3 => exact .dK (fun z => z.2 rfl) (.inl h2) (h3.mv (.less ls))
  refine ⟨a, h1, wa, t, { r with
    tp := fun b eb => ⟨⟨(r.tp b eb).1, fun z => nt (z ▸ eb.symm)⟩, (r.tp b eb).2⟩
    wo := fun b z => ⟨r.wo b z.1, z.2⟩
    wn := fun b z => r.wn b z.1
    wg := fun b z => r.wg b z.1
    wb := fun b z => r.wb b z.1
    bo := fun b z => ⟨r.bo b z, fun q => r.wb a wa (q ▸ z)⟩
    og := fun b z => r.og b z.1
    ok := fun b z => r.ok b z.1
    len := by rw [List.length_set]; exact r.len
    sl := fun j x h' => by
      rw [set_get] at h'
      by_cases c : i = j ∧ j < ρ.length
      · rw [if_pos c] at h'
        cases h'
        rw [← c.1]
        exact ⟨_, h1, hr⟩
      · rw [if_neg c] at h'
        obtain ⟨v, q1, q2⟩ := r.sl j x h'
        refine ⟨v, q1, ?_⟩
        cases x with
        | v d => exact R.mv (.less ls) q2
        | n d => exact q2
        | o i => exact q2
        | tp => exact q2
        | w d =>
          obtain ⟨b, eb, wb, nb, tb⟩ := q2
          refine ⟨b, eb, ⟨wb, fun z => ?_⟩, nb, tb.mv (.less ls) fun _ q => q⟩
          have nij : i ≠ j := fun z2 => c ⟨z2, (List.getElem?_eq_some_iff.mp h').1⟩
          refine r.ds i j nij (by rw [e]; trivial) (by rw [h']; trivial) ?_
          rw [h1, q1, eb, z]
    ds := fun j l n q1 q2 => by
      have key : ∀ l : Nat, isW (ρ.set i (some (.v d)))[l]? → isW ρ[l]? := fun l hl => by
        rw [set_get] at hl
        by_cases c : i = l ∧ l < ρ.length
        · rw [if_pos c] at hl; exact hl.elim
        · rw [if_neg c] at hl; exact hl
      exact r.ds j l n (key j q1) (key l q2) }, hr⟩
/-- data that stands is walked -/
theorem it_seq {ds : List PyData} (r : Rep C bs W O ρ σ H) {a : Addr} {vs : List V} (hs : (H a = some (.lst vs) ∧ ¬ W a) ∨ SqT C.K H a vs) (hr : Rs C.K O H vs ds) :
    ((∃ xs, SqL C.K H a xs) ∧ ItOk C (bs.keep W O H) (Itl C.K a) ds) ∨ ((∃ xs, SqT C.K H a xs) ∧ ItOk C (bs.keep W O H) (Itt C.K a) ds) := by
  have hl := hr.len
  rcases hs with ⟨h, wa⟩ | h
  · refine .inl ⟨⟨vs, SqL.of h⟩, fun i W2 O2 ρ2 σ2 H2 r2 => ?_⟩
    have h2 : H2 a = some (.lst vs) := r2.kept wa h
    have m := r.mvK r2
    refine ⟨fun hi => ⟨vs, SqL.of h2, by omega⟩, fun d hd => ?_⟩
    obtain ⟨u, e1, e2⟩ := hr.get hd
    refine ⟨⟨vs, u, SqL.of h2, e1⟩, fun x H' hy => ?_⟩
    obtain ⟨rfl, hy⟩ := hy
    have e3 := hy vs (SqL.of h2)
    rw [e1] at e3
    cases e3
    exact ⟨Same.refl _, e2.mv m⟩
  · refine .inr ⟨⟨vs, h⟩, fun i W2 O2 ρ2 σ2 H2 r2 => ?_⟩
    have m := r.mvK r2
    have h2 : SqT C.K H2 a vs := m.tup _ _ h
    refine ⟨fun hi => ⟨vs, h2, by omega⟩, fun d hd => ?_⟩
    obtain ⟨u, e1, e2⟩ := hr.get hd
    refine ⟨⟨vs, u, h2, e1⟩, fun x H' hy => ?_⟩
    obtain ⟨rfl, hy⟩ := hy
    have e3 := hy vs h2
    rw [e1] at e3
    cases e3
    exact ⟨Same.refl _, e2.mv m⟩
theorem le_keep {W2 O2 : Addr → Prop} (rp : Rep C bs W2 O2 ρ σ H) : Bs.Le bs (bs.keep W2 O2 H) := rp.le
theorem it_of {k : List PyData → En → Prop} (rp : Rep C bs W O ρ σ H) (o : Out C bs W O ρ' σ H' v x) (h : x.itK ρ' fun d ρ2 => seqK d fun ds => k ds ρ2) : ∃ ds ρ2 W2 O2 a vs, k ds ρ2 ∧ Rep C bs W2 O2 ρ2 σ H' ∧
    v = .ref a ∧ ((H' a = some (.lst vs) ∧ ¬ W2 a) ∨ SqT C.K H' a vs) ∧ Rs C.K O2 H' vs ds := by
  have sq : ∀ {d : PyData} {kk : List PyData → Prop}, seqK d kk → ∃ ds, (d = .tuple ds ∨ d = .list ds) ∧ kk ds := fun {d kk} q => by
    cases d with
    | tuple ds => exact ⟨ds, .inl rfl, q⟩
    | list ds => exact ⟨ds, .inr rfl, q⟩
    | _ => exact q.elim
  cases x with
  | v d =>
    obtain ⟨ds, e, hk⟩ := sq h
    refine ⟨ds, ρ', W, O, ?_⟩
    rcases e with rfl | rfl
    · obtain ⟨a, vs, e, h1, h2⟩ := Sh.tup (.inl o.2.1)
      exact ⟨a, vs, hk, o.1, e, .inr h1, h2⟩
    · have c := o.2.1
      cases c with
      | lst nO h1 h2 => exact ⟨_, _, hk, o.1, rfl, .inl ⟨h1, fun z => nO (rp.wo _ z)⟩, h2⟩
  | n d =>
    obtain ⟨ds, e, hk⟩ := sq h
    obtain ⟨a, rfl, oa, wa, t⟩ := o.2.1
    rcases e with rfl | rfl
    · cases t
    · cases t with
      | lst h1 h2 => exact ⟨ds, ρ', W, _, a, _, hk, o.1, rfl, .inl ⟨h1, wa⟩, h2⟩
  | o i =>
    obtain ⟨d, e0, h⟩ := own_k h
    obtain ⟨ds, e, hk⟩ := sq h
    obtain ⟨a, e1, wa, t, r2, hr⟩ := o.1.giveUp e0
    have c' : σ[i]? = some (some v) := o.2.1
    rw [c'] at e1
    cases e1
    rcases e with rfl | rfl
    · cases t
    · cases hr with
      | lst nO h1 h2 => exact ⟨ds, _, _, _, a, _, hk, r2, rfl, .inl ⟨h1, fun z => z.2 rfl⟩, h2⟩
  | w d => exact h.elim
  | tp => exact h.elim
theorem iE_of {a : EV} {Q : It → Hp → Prop} : tIV C (iE a) σ H Q → iSeq2 C.K (tV C a) σ H Q := by
  rintro ⟨bs, W, O, ρ, P, rp, hf, k⟩
  refine ⟨bs, W, O, ρ, _, rp, hf, fun x ρ' v H' hp o => ?_⟩
  obtain ⟨ds, ρ2, W2, O2, a, vs, hk, r2, rfl, hs, hr⟩ := it_of rp o hp
  refine ⟨a, rfl, ?_⟩
  rcases it_seq r2 hs hr with ⟨h1, h2⟩ | ⟨h1, h2⟩
  · exact .inl ⟨h1, k ds ρ2 _ H' _ W2 O2 hk r2.keep r2.le h2⟩
  · exact .inr ⟨h1, k ds ρ2 _ H' _ W2 O2 hk r2.keep r2.le h2⟩
def icE (a : EV) : IC := fun ρ P => a ρ fun x ρ1 => match x with
  | .v d => seqK d fun ds => P ds (fun _ => True) ρ1
  | .n d => seqK d fun ds => P ds (fun _ => True) ρ1
  | .o i => ownL i ρ1 fun ds => P ds (fun ρ => ρ[i]? = some (some (.w (.list ds)))) ρ1
  | _ => False
theorem icE_of {a : EV} {Q : It → Hp → Prop} : tIC C (icE a) σ H Q → iSeq2 C.K (tV C a) σ H Q := by
  rintro ⟨bs, W, O, ρ, P, rp, hf, k⟩
  refine ⟨bs, W, O, ρ, _, rp, hf, fun x ρ' v H' hp o => ?_⟩
  have sub : ∀ a, O a → W a ∨ (bs.keep W (Ox O x v) H').B a := fun a h => by
    by_cases w : W a
    · exact .inl w
    · exact .inr ⟨ox_sub h, w⟩
  have go : ∀ {ds : List PyData} {a : Addr} {vs : List V}, P ds (fun _ => True) ρ' → v = .ref a → ((H' a = some (.lst vs) ∧ ¬ W a) ∨ SqT C.K H' a vs) → Rs C.K (Ox O x v) H' vs ds →
      ∃ a, v = .ref a ∧ (((∃ xs, SqL C.K H' a xs) ∧ Q (Itl C.K a) H') ∨ ((∃ xs, SqT C.K H' a xs) ∧ Q (Itt C.K a) H')) := fun {ds a vs} hk ev hs hr => by
    refine ⟨a, ev, ?_⟩
    rcases it_seq o.1 hs hr with ⟨h1, h2⟩ | ⟨h1, h2⟩
    · exact .inl ⟨h1, k ds _ ρ' _ H' _ _ hk o.1.keep o.1.le sub fun i W O ρ vs H r _ => h2 i W O ρ _ H r⟩
    · exact .inr ⟨h1, k ds _ ρ' _ H' _ _ hk o.1.keep o.1.le sub fun i W O ρ vs H r _ => h2 i W O ρ _ H r⟩
  cases x with
  | v d =>
    cases d with
    | tuple ds =>
      obtain ⟨a, vs, e, h1, h2⟩ := Sh.tup (.inl o.2.1)
      exact go hp e (.inr h1) h2
    | list ds =>
      have c := o.2.1
      cases c with
      | lst nO h1 h2 => exact go hp rfl (.inl ⟨h1, fun z => nO (rp.wo _ z)⟩) h2
    | _ => exact hp.elim
  | n d =>
    obtain ⟨a, e, oa, wa, t⟩ := o.2.1
    cases d with
    | list ds =>
      cases t with
      | lst h1 h2 => exact go hp e (.inl ⟨h1, wa⟩) h2
    | tuple ds => cases t
    | _ => exact hp.elim
  | o i =>
    obtain ⟨ds, e0, hk⟩ := own_l hp
    obtain ⟨a, vs, e1, wa, nt, h1, h2⟩ := o.1.ownAt e0
    have c' : σ[i]? = some (some v) := o.2.1
    rw [c'] at e1
    cases e1
    refine ⟨a, rfl, .inl ⟨⟨vs, SqL.of h1⟩, k ds _ ρ' _ H' _ _ hk o.1.keep o.1.le sub fun j W2 O2 ρ2 ws H2 r2 g => ?_⟩⟩
    obtain ⟨b, us, e3, wb, nb, h3, h4⟩ := r2.ownAt g
    have e4 := (wipe_some e3).1
    rw [c'] at e4
    cases e4
    have hl := h4.len
    refine ⟨fun hi => ⟨us, SqL.of h3, by omega⟩, fun d hd => ?_⟩
    obtain ⟨u, q1, q2⟩ := h4.get hd
    refine ⟨⟨us, u, SqL.of h3, q1⟩, fun x H' hy => ?_⟩
    obtain ⟨rfl, hy⟩ := hy
    have q3 := hy us (SqL.of h3)
    rw [q1] at q3
    cases q3
    exact ⟨Same.refl _, q2⟩
  | w d => exact hp.elim
  | tp => exact hp.elim
/-! range, enumerate, zip, reversed -/
def rngD (lo : Int) (n : Nat) : List PyData := (List.range n).map fun (i : Nat) => .int (lo + i)
def small62 (i : Int) : Prop := -(2 ^ 62) ≤ i ∧ i < 2 ^ 62
theorem it_rng (lo : Int) (n : Nat) : ItOk C bs (Itr lo n) (rngD lo n) := by
  intro i W O ρ σ H r
  have l : (rngD lo n).length = n := by unfold rngD; rw [List.length_map, List.length_range]
  refine ⟨fun hi => by rw [l] at hi; exact hi, fun d hd => ?_⟩
  have li : i < n := by
    have := (List.getElem?_eq_some_iff.mp hd).1
    rw [l] at this; exact this
  unfold rngD at hd
  rw [List.getElem?_map, List.getElem?_range li] at hd
  cases hd
  refine ⟨li, fun x H' hy => ?_⟩
  obtain ⟨rfl, rfl⟩ := hy
  exact ⟨Same.refl _, .int _⟩
def iR1 (as : AV) : IV := fun ρ P => as ρ fun xs ρ1 => getsK xs ρ1 fun ds => match ds with
  | [.int n] => small62 n ∧ P (rngD 0 n.toNat) ρ1
  | _ => False
def iR2 (as : AV) : IV := fun ρ P => as ρ fun xs ρ1 => getsK xs ρ1 fun ds => match ds with
  | [.int m, .int n] => (small62 m ∧ small62 n) ∧ P (rngD m (n - m).toNat) ρ1
  | _ => False
theorem shs1 {K : Fg} {vs : List V} {d : PyData} (h : Shs K O H vs [d]) : ∃ v, vs = [v] ∧ Sh K O H v d := by
  cases vs with
  | nil => exact h.elim
  | cons v vs =>
    cases vs with
    | nil => exact ⟨v, rfl, h.1⟩
    | cons _ _ => exact h.2.elim
theorem shs2 {K : Fg} {vs : List V} {d e : PyData} (h : Shs K O H vs [d, e]) : ∃ v u, vs = [v, u] ∧ Sh K O H v d ∧ Sh K O H u e := by
  cases vs with
  | nil => exact h.elim
  | cons v vs =>
    obtain ⟨u, rfl, h2⟩ := shs1 h.2
    exact ⟨v, u, rfl, h.1, h2⟩
theorem sub_keep {O2 : Addr → Prop} (hs : ∀ a, O a → O2 a) : ∀ a, O a → W a ∨ (bs.keep W O2 H).B a := fun a h => by
  by_cases w : W a
  · exact .inl w
  · exact .inr ⟨hs a h, w⟩
theorem iR1_of {as : AV} {Q : It → Hp → Prop} : tIS C (iR1 as) σ H Q → iRng1 (tAV C as) σ H Q := by
  rintro ⟨bs, W, O, ρ, P, rp, hf, k⟩
  refine ⟨bs, W, O, ρ, _, rp, hf, fun xs ρ1 vs H1 hp rp1 cs fs => ?_⟩
  obtain ⟨ds, hds, sds⟩ := views rp1 cs hp
  split at hds
  · obtain ⟨v, rfl, h⟩ := shs1 sds
    cases h.int
    obtain ⟨⟨b1, b2⟩, hp⟩ := hds
    exact ⟨_, rfl, b1, b2, k _ ρ1 _ H1 _ _ hp rp1.keep rp1.le (sub_keep fun a z => oxs_sub z) (it_rng _ _)⟩
  · exact hds.elim
theorem iR2_of {as : AV} {Q : It → Hp → Prop} : tIS C (iR2 as) σ H Q → iRng2 (tAV C as) σ H Q := by
  rintro ⟨bs, W, O, ρ, P, rp, hf, k⟩
  refine ⟨bs, W, O, ρ, _, rp, hf, fun xs ρ1 vs H1 hp rp1 cs fs => ?_⟩
  obtain ⟨ds, hds, sds⟩ := views rp1 cs hp
  split at hds
  · obtain ⟨v, u, rfl, h, h2⟩ := shs2 sds
    cases h.int
    cases h2.int
    obtain ⟨⟨⟨b1, b2⟩, b3, b4⟩, hp⟩ := hds
    exact ⟨_, _, rfl, ⟨b1, b2, b3, b4⟩, k _ ρ1 _ H1 _ _ hp rp1.keep rp1.le (sub_keep fun a z => oxs_sub z) (it_rng _ _)⟩
  · exact hds.elim
/-! for -/
def forV (g : GF) (body : SV) (dead : List Nat) (D : EndsV) : List PyData → En → Prop
  | [], ρ => D.nx ρ
  | d :: ds, ρ => g d ρ fun ρ1 => body ⟨fun ρ2 => forV g body dead D ds (kill dead ρ2), D.rt, fun ρ2 => D.nx (kill dead ρ2), fun ρ2 => forV g body dead D ds (kill dead ρ2)⟩ ρ1
def sFor (iv : IV) (g : GF) (body : SV) (dead : List Nat) : SV := fun D ρ => iv ρ fun ds ρ1 => forV g body dead D ds (kill dead ρ1)
theorem tFor_of {iv : IV} {g : GF} {body : SV} {dead is : List Nat} {D : Ends} {wi : TI} (hwi : ∀ σ H R, tIV C iv σ H R → wi σ H R) : tSV C (sFor iv g body dead) D σ H → tFor wi (tGF C is g) (tSV C body) D σ H := by
  rintro ⟨bs, W, O, ρ, D', rp, hf, k⟩
  refine hwi _ _ _ ⟨bs, W, O, ρ, _, rp, hf, fun ds ρ1 J H1 bs' W' O' hp rp1 le ok => ?_⟩
  refine ⟨fun i m σ H => m = ds.length - i ∧ i ≤ ds.length ∧ ∃ W O ρ, Rep C bs' W O ρ σ H ∧ forV g body dead D' (ds.drop i) ρ, ⟨_, rfl, Nat.zero_le _, W', O', _, rp1.kill dead, hp⟩, ?_⟩
  rintro i m σ2 H2 ⟨rfl, hi, W2, O2, ρ2, rp2, hq⟩
  obtain ⟨ok1, ok2⟩ := ok i W2 O2 ρ2 σ2 H2 rp2
  by_cases lt : i < ds.length
  · refine .inr ?_
    have ed : ds.drop i = ds[i] :: ds.drop (i + 1) := List.drop_eq_getElem_cons lt
    rw [ed] at hq
    obtain ⟨go, yl⟩ := ok2 _ (List.getElem?_eq_getElem lt)
    refine ⟨go, fun σ' H' => i + 1 ≤ ds.length ∧ ∃ W O ρ, Rep C bs' W O ρ σ' H' ∧ forV g body dead D' (ds.drop (i + 1)) ρ, fun σ' H' ⟨h1, h2⟩ => ⟨ds.length - (i + 1), by omega, rfl, h1, h2⟩, fun x H3 hy => ?_⟩
    obtain ⟨sm, rx⟩ := yl x H3 hy
    refine ⟨bs', W2, O2, ρ2, _, _, rp2.same sm, rx, hq, fun ρ4 σ4 hr rp4 _ => ⟨bs', W2, O2, ρ4, _, rp4, hr, ?_⟩⟩
    refine ⟨fun W O ρ σ H r q => ⟨lt, W, O, _, r.kill dead, q⟩, fun W O ρ σ H r q => k.nx _ _ _ _ _ ((r.kill dead).weak le) q, fun W O ρ σ H r q => ⟨lt, W, O, _, r.kill dead, q⟩, fun z v H h q => k.rt z v H (rt_less le.b (le.h0 ▸ h)) q⟩
  · have e : i = ds.length := by omega
    subst e
    rw [List.drop_length] at hq
    exact .inl ⟨ok1 (Nat.le_refl _), k.nx _ _ _ _ _ (rp2.weak le) hq⟩
/-! while -/
def whileV (c : TV) (body : SV) (dead : List Nat) (D : EndsV) : Nat → En → Prop
  | 0, _ => False
  | n + 1, ρ => c ρ fun t ρ1 => if t = true then body ⟨fun ρ2 => whileV c body dead D n (kill dead ρ2), D.rt, fun ρ2 => D.nx (kill dead ρ2), fun ρ2 => whileV c body dead D n (kill dead ρ2)⟩ ρ1 else D.nx ρ1
def sWhile (c : TV) (body : SV) (dead : List Nat) : SV := fun D ρ => ∃ n, whileV c body dead D n (kill dead ρ)
theorem tWhile_of {c : TV} {body : SV} {dead : List Nat} {D : Ends} : tSV C (sWhile c body dead) D σ H → tWhile (tTV C c) (tSV C body) D σ H := by
  rintro ⟨bs, W, O, ρ, D', rp, ⟨n, hf⟩, k⟩
  refine ⟨fun m σ H => ∃ W O ρ, Rep C bs W O ρ σ H ∧ whileV c body dead D' m ρ, ⟨n, W, O, _, rp.kill dead, hf⟩, ?_⟩
  rintro m σ2 H2 ⟨W2, O2, ρ2, rp2, hq⟩
  cases m with
  | zero => exact hq.elim
  | succ m =>
    refine ⟨bs, W2, O2, ρ2, _, rp2, hq, fun t ρ3 H3 hr rp3 => ?_⟩
    cases t with
    | true =>
      refine ⟨fun σ H => ∃ W O ρ, Rep C bs W O ρ σ H ∧ whileV c body dead D' m ρ, fun σ' H' h => ⟨m, Nat.lt_succ_self m, h⟩, bs, W2, O2, ρ3, _, rp3, hr, ?_⟩
      exact ⟨fun W O ρ σ H r q => ⟨W, O, _, r.kill dead, q⟩, fun W O ρ σ H r q => k.nx _ _ _ _ _ (r.kill dead) q, fun W O ρ σ H r q => ⟨W, O, _, r.kill dead, q⟩, k.rt⟩
    | false => exact k.nx _ _ _ _ _ rp3 hr
end

/-! ### list comprehensions -/
section
variable {C : Cd} {bs : Bs} {W O O' : Addr → Prop} {ρ ρ' : En} {σ : L2.St} {H H' : Hp} {v : V} {x : Av} {d : PyData} {Q : VK}
theorem kill_length : ∀ (vs : List Nat) (ρ : En), (kill vs ρ).length = ρ.length
  | [], _ => rfl
  | i :: is, ρ => by
    unfold kill
    rw [kill_length is, List.length_set]
theorem kill_some {i : Nat} {x : Av} : ∀ {vs : List Nat} {ρ : En}, (kill vs ρ)[i]? = some (some x) → ρ[i]? = some (some x) ∧ i ∉ vs
  | [], _, h => ⟨h, List.not_mem_nil⟩
  | j :: js, ρ, h => by
    unfold kill at h
    obtain ⟨h1, h2⟩ := kill_some h
    rw [set_get] at h1
    split at h1
    · cases h1
    · rename_i c
      refine ⟨h1, fun z => ?_⟩
      rcases List.mem_cons.mp z with rfl | z
      · exact c ⟨rfl, (List.getElem?_eq_some_iff.mp h1).1⟩
      · exact h2 z
theorem wipe_out {i : Nat} : ∀ {vs : List Nat} {σ : L2.St}, i ∉ vs → (wipe σ vs)[i]? = σ[i]?
  | [], _, _ => rfl
  | j :: js, σ, h => by
    unfold wipe
    rw [List.getElem?_set_ne (fun e => h (by rw [e]; exact List.mem_cons_self))]
    exact wipe_out fun z => h (List.mem_cons_of_mem _ z)
theorem wipe_in {i : Nat} : ∀ {vs : List Nat} {σ : L2.St}, i ∈ vs → i < σ.length → (wipe σ vs)[i]? = some none
  | j :: js, σ, h, l => by
    unfold wipe
    rw [set_get]
    by_cases e : j = i
    · rw [if_pos ⟨e, by rw [wipe_length]; exact l⟩]
    · rw [if_neg fun z => e z.1]
      rcases List.mem_cons.mp h with z | z
      · exact absurd z.symm e
      · exact wipe_in z l
theorem isW_some {y : Option (Option Av)} (h : isW y) : ∃ d, y = some (some (.w d)) := by
  cases y with
  | none => exact h.elim
  | some y =>
    cases y with
    | none => exact h.elim
    | some y =>
      cases y with
      | w d => exact ⟨d, rfl⟩
      | v d => exact h.elim
      | n d => exact h.elim
      | o i => exact h.elim
      | tp => exact h.elim
theorem Rep.wipe (r : Rep C bs W O ρ σ H) (vs : List Nat) : Rep C bs W O (WB.kill vs ρ) (L2.wipe σ vs) H :=
  { r with
    len := by rw [kill_length, wipe_length]; exact r.len
    sl := fun i x h => by
      obtain ⟨h1, h2⟩ := kill_some h
      rw [wipe_out h2]
      exact r.sl i x h1
    ds := fun i j n h1 h2 => by
      obtain ⟨d1, e1⟩ := isW_some h1
      obtain ⟨d2, e2⟩ := isW_some h2
      obtain ⟨e3, n3⟩ := kill_some e1
      obtain ⟨e4, n4⟩ := kill_some e2
      rw [wipe_out n3, wipe_out n4]
      exact r.ds i j n (by rw [e3]; trivial) (by rw [e4]; trivial) }
theorem Rep.unwipe {vs : List Nat} (r : Rep C bs W O ρ (L2.wipe σ vs) H) : Rep C bs W O ρ σ H :=
  { r with
    len := by rw [r.len, wipe_length]
    sl := fun i x h => by
      obtain ⟨v, h1, h2⟩ := r.sl i x h
      exact ⟨v, (wipe_some h1).1, h2⟩
    ds := fun i j n h1 h2 => by
      have q := r.ds i j n h1 h2
      obtain ⟨d1, e1⟩ := isW_some h1
      obtain ⟨d2, e2⟩ := isW_some h2
      obtain ⟨v1, f1, _⟩ := r.sl i _ e1
      obtain ⟨v2, f2, _⟩ := r.sl j _ e2
      rw [f1, f2] at q
      rw [(wipe_some f1).1, (wipe_some f2).1]
      exact q }
theorem wipe_same {is vs : List Nat} {σ2 : L2.St} (h : SameBut is (L2.wipe σ vs) σ2) (hs : ∀ j, j ∈ is → j ∈ vs) : L2.wipe σ2 vs = L2.wipe σ vs := by
  apply List.ext_getElem?
  intro j
  by_cases m : j ∈ vs
  · by_cases l : j < σ.length
    · rw [wipe_in m l, wipe_in m (by rw [h.2, wipe_length]; exact l)]
    · rw [List.getElem?_eq_none (by rw [wipe_length, h.2, wipe_length]; omega), List.getElem?_eq_none (by rw [wipe_length]; omega)]
  · rw [wipe_out m, h.1 j fun z => m (hs j z)]
def Bs.add (bs : Bs) (D : Addr) : Bs := ⟨bs.H0, fun a => bs.B a ∨ a = D, bs.G⟩
theorem Rep.forbid (r : Rep C bs W O ρ σ H) {D : Addr} (hO : O D) (hW : ¬ W D) : Rep C (bs.add D) W O ρ σ H :=
  { r with
    tp := fun a e => ⟨(r.tp a e).1, fun z => z.elim (r.tp a e).2 fun z => hW (z ▸ (r.tp a e).1)⟩
    wb := fun a h z => z.elim (r.wb a h) fun z => hW (z ▸ h)
    bo := fun a h => h.elim (r.bo a) fun z => z ▸ hO
    og := fun a h => (r.og a h).imp .inl id }
theorem le_add {D : Addr} (g : bs.G D = none) : Bs.Le bs (bs.add D) := ⟨rfl, fun _ h => .inl h, fun _ _ h => h, fun a h => h.imp id fun z => by rw [z]; exact g⟩
/-- a thing that is held, but in no slot, is changed -/
theorem Rep.temp (r : Rep C bs W O ρ σ H) {D : Addr} {xs ys : List V} (hO : O D) (hW : ¬ W D) (h0 : bs.H0 D = none) (hg : bs.G D = none) (hD : H D = some (.lst xs)) : Mv C.K O O H (upd H D (.lst ys)) ∧ Rep C bs W O ρ σ (upd H D (.lst ys)) := by
  have un : ∀ b o, b ≠ D → H b = some o → upd H D (.lst ys) b = some o := fun b o n h => by rw [upd_ne n]; exact h
  have mv : Mv C.K O O H (upd H D (.lst ys)) := ⟨tsameL (xs := xs) hD un, fun b o n h => ⟨n, un b o (fun z => n (z ▸ hO)) h⟩⟩
  refine ⟨mv, { r with
    fr := r.fr.mut h0 hD trivial un
    gk := fun b o h => un b o (fun z => by rw [z, hg] at h; cases h) (r.gk b o h)
    ok := fun b h => by
      by_cases z : b = D
      · exact ⟨.lst ys, by rw [z]; exact upd_same, trivial⟩
      · obtain ⟨o, q, m⟩ := r.ok b h
        exact ⟨o, un b o z q, m⟩
    sl := fun j x h' => by
      obtain ⟨v, h1, h2⟩ := r.sl j x h'
      refine ⟨v, h1, ?_⟩
      cases x with
      | v d => exact R.mv mv h2
      | n d => exact h2
      | o i => exact h2
      | tp => exact h2
      | w d =>
        obtain ⟨b, eb, wb, nb, t⟩ := h2
        exact ⟨b, eb, wb, nb, t.mv mv fun o q => un b o (fun z => hW (z ▸ wb)) q⟩ }⟩
def lcV (G : En → Prop) (g : GF) (tt : TV) (e : EV) (vs : List Nat) : List PyData → En → (List PyData → En → Prop) → Prop
  | [], ρ, k => G ρ ∧ k [] ρ
  | d :: ds, ρ, k => G ρ ∧ g d ρ fun ρ1 => tt ρ1 fun b ρ2 => if b = true then e ρ2 fun x ρ3 => x.stoK fun y => lcV G g tt e vs ds (kill vs ρ3) fun out ρ' => k (y :: out) ρ' else lcV G g tt e vs ds (kill vs ρ2) k
def eLc (ic : IC) (g : GF) (tt : TV) (e : EV) (vs : List Nat) : EV := fun ρ P => ic ρ fun ds G ρ1 => ds.length ≤ 1000000 ∧ lcV G g tt e vs ds (kill vs ρ1) fun out ρ2 => P (.n (.list out)) ρ2
theorem tLc_of {ic : IC} {g : GF} {tt : TV} {e : EV} {is vs : List Nat} {wi : TI} (hwi : ∀ σ H R, tIC C ic σ H R → wi σ H R) (his : ∀ j, j ∈ is → j ∈ vs) : tV C (eLc ic g tt e vs) σ H Q → tLc wi (tGF C is g) (tTV C tt) (tV C e) vs σ H Q := by
  rintro ⟨bs, W, O, ρ, P, rp, hf, k⟩
  refine hwi _ _ _ ⟨bs, W, O, ρ, _, rp, hf, fun ds G ρ1 J H1 bs' O1 hp rp1 le sub ok => ?_⟩
  obtain ⟨hl, hp⟩ := hp
  intro D hD
  obtain ⟨nO, n0, ng⟩ := rp1.free hD
  have nW : ¬ W D := fun z => nO (rp1.wo D z)
  have leD := le_add (bs := bs') ng
  refine ⟨fun i m H => m = ds.length - i ∧ i ≤ ds.length ∧ ∃ O ρ acc out, Rep C (bs'.add D) W O ρ (L2.wipe σ vs) H ∧ H D = some (.lst acc) ∧ Rs C.K O H acc out ∧ acc.length ≤ i ∧ lcV G g tt e vs (ds.drop i) ρ fun rest ρ' => P (.n (.list (out ++ rest))) ρ', ⟨_, rfl, Nat.zero_le _, Ow O1 D, _, [], [], ?_, upd_same, .nil, Nat.le_refl _, hp⟩, ?_⟩
  · exact ((rp1.add (rp1.fr.refl.same (same_new hD _)) hD (o := .lst []) upd_same trivial).forbid (.inr rfl) nW).wipe vs
  rintro i m H2 ⟨rfl, hi, O2, ρ2, acc, out, rp2, e2, r2, la, hq⟩
  have bD : (bs'.add D).B D := .inr rfl
  by_cases lt : i < ds.length
  · refine .inr ?_
    have ed : ds.drop i = ds[i] :: ds.drop (i + 1) := List.drop_eq_getElem_cons lt
    rw [ed] at hq
    obtain ⟨hG, hq⟩ := hq
    obtain ⟨ok1, ok2⟩ := ok i W O2 ρ2 vs H2 (rp2.weak leD) hG
    obtain ⟨go, yl⟩ := ok2 _ (List.getElem?_eq_getElem lt)
    refine ⟨go, fun H' => i + 1 ≤ ds.length ∧ ∃ O ρ acc out, Rep C (bs'.add D) W O ρ (L2.wipe σ vs) H' ∧ H' D = some (.lst acc) ∧ Rs C.K O H' acc out ∧ acc.length ≤ i + 1 ∧ lcV G g tt e vs (ds.drop (i + 1)) ρ fun rest ρ' => P (.n (.list (out ++ rest))) ρ', fun H' h => ⟨ds.length - (i + 1), by omega, rfl, h⟩, fun x H3 hy => ?_⟩
    obtain ⟨sm, rx⟩ := yl x H3 hy
    have rp3 := rp2.same sm
    have e3 : H3 D = some (.lst acc) := sm _ _ e2
    have r3 := r2.mv (Mv.same (O := O2) sm)
    refine ⟨(bs'.add D).keep W O2 H3, W, O2, ρ2, _, _, rp3.keep, rx, hq, fun ρ4 σ4 hr rp4 sb => ⟨wipe_same sb his, ?_⟩⟩
    have ew : L2.wipe σ4 vs = L2.wipe σ vs := wipe_same sb his
    refine ⟨(bs'.add D).keep W O2 H3, W, O2, ρ4, _, rp4, hr, fun b ρ5 H5 hb rp5 => ?_⟩
    cases b with
    | true =>
      refine ⟨(bs'.add D).keep W O2 H3, W, O2, ρ5, _, rp5, hb, fun y ρ6 v6 H6 hy6 o6 => ?_⟩
      obtain ⟨y', hy', ry⟩ := sto o6.2.1 o6.2.2 (fun a z => ox_sub z) hy6
      have m6 := rp3.mvK o6.1
      have rp6 : Rep C ((bs'.add D).keep W O2 H3) W O2 ρ6 σ4 H6 := rep_out o6 rp3.wo rp5.bo
      have e6 : H6 D = some (.lst acc) := rp6.kept nW e3
      have r6 : Rs C.K O2 H6 acc out := (r3.mv m6).mv (.less fun a z => ox_sub z)
      have rp7 := (rp3.unkeep rp6).wipe vs
      rw [ew] at rp7
      obtain ⟨mv, rp8⟩ := rp7.temp (ys := acc ++ [v6]) (rp2.bo D bD) nW n0 ng e6
      refine ⟨acc, e6, Nat.lt_of_le_of_lt (Nat.le_trans la (Nat.le_trans hi hl)) (by decide), lt, O2, _, _, out ++ [y'], rp8, upd_same, (r6.append (.cons ry .nil)).mv mv, by rw [List.length_append]; exact Nat.succ_le_succ la, ?_⟩
      have e9 : (fun (rest : List PyData) ρ' => P (.n (.list (out ++ [y'] ++ rest))) ρ') = fun rest ρ' => P (.n (.list (out ++ y' :: rest))) ρ' := by
        funext rest ρ'
        rw [List.append_assoc]
        rfl
      rw [e9]
      exact hy'
    | false =>
      have m6 := rp3.mvK rp5
      have e6 : H5 D = some (.lst acc) := rp5.kept nW e3
      have rp7 := (rp3.unkeep rp5).wipe vs
      rw [ew] at rp7
      exact ⟨lt, O2, _, acc, out, rp7, e6, r3.mv m6, Nat.le_succ_of_le la, hb⟩
  · have e : i = ds.length := by omega
    subst e
    rw [List.drop_length] at hq
    obtain ⟨hG, hq⟩ := hq
    rw [List.append_nil] at hq
    obtain ⟨ok1, ok2⟩ := ok _ W O2 ρ2 vs H2 (rp2.weak leD) hG
    refine .inl ⟨ok1 (Nat.le_refl _), k _ _ _ _ hq ?_⟩
    have sO : ∀ a, Ow O D a → O2 a := fun a z => by
      rcases z with z | rfl
      · rcases sub a z with z | z
        · exact rp2.wo a z
        · exact rp2.bo a (.inl z)
      · exact rp2.bo _ bD
    refine ⟨((rp2.unwipe.weak leD).weak le).less sO (fun a z => .inl (rp.wo a z)) fun a z => .inl (rp.bo a z), ⟨D, rfl, .inr rfl, nW, .lst e2 (r2.mv (.less sO))⟩, fun d' b _ eb => ?_⟩
    cases eb
    refine ⟨fun z => ?_, le.h0 ▸ n0, le.gn ng⟩
    rcases sub D z with z | z
    · exact nW z
    · exact nO (rp1.bo D z)
end

/-! ### built-ins on data -/
section
variable {K : Fg} {C : Cd} {bs : Bs} {W O O' : Addr → Prop} {ρ ρ' : En} {σ : L2.St} {H H' : Hp} {v : V} {x : Av} {d : PyData} {Q : VK}
theorem lst_shaped {a : Addr} {vs : List V} {ds : List PyData} (h : Rs K O H vs ds) : True := trivial
def bLen (ds : List PyData) (P : Av → Prop) : Prop := match ds with
  | [.list xs] => P (.v (.int xs.length))
  | [.tuple xs] => P (.v (.int xs.length))
  | [.str s] => s.length ≤ sizeLine ∧ P (.v (.int s.length))
  | _ => False
theorem bs_len : CbS K bLen (rLenU K) := by
  intro O H vs ds P Q ok hs h k
  unfold bLen at h
  split at h
  · obtain ⟨v, rfl, h1⟩ := shs1 hs
    obtain ⟨a, us, rfl, h2, h3⟩ := h1.lst
    refine .inl ⟨a, us, rfl, .inl (SqL.of h2), ?_⟩
    rw [h3.len]
    exact k _ _ _ h (nw_v (.int _))
  · obtain ⟨v, rfl, h1⟩ := shs1 hs
    obtain ⟨a, us, rfl, h2, h3⟩ := h1.tup
    refine .inl ⟨a, us, rfl, .inr h2, ?_⟩
    rw [h3.len]
    exact k _ _ _ h (nw_v (.int _))
  · obtain ⟨v, rfl, h1⟩ := shs1 hs
    cases h1.str
    exact .inr ⟨_, rfl, h.1, k _ _ _ h.2 (nw_v (.int _))⟩
  · exact h.elim
def bAbs (ds : List PyData) (P : Av → Prop) : Prop := match ds with
  | [.int i] => P (.v (.int i.natAbs))
  | _ => False
theorem bs_abs : CbS K bAbs rAbsU := by
  intro O H vs ds P Q ok hs h k
  unfold bAbs at h
  split at h
  · obtain ⟨v, rfl, h1⟩ := shs1 hs
    cases h1.int
    exact r_abs (k _ _ _ h (nw_v (.int _)))
  · exact h.elim
def bMax2 (ds : List PyData) (P : Av → Prop) : Prop := match ds with
  | [.int i, .int j] => P (.v (.int (max i j)))
  | _ => False
theorem bs_max2 : CbS K bMax2 rMaxU := by
  intro O H vs ds P Q ok hs h k
  unfold bMax2 at h
  split at h
  · obtain ⟨v, u, rfl, h1, h2⟩ := shs2 hs
    cases h1.int
    cases h2.int
    exact r_max (k _ _ _ h (nw_v (.int _)))
  · exact h.elim
def bMin2 (ds : List PyData) (P : Av → Prop) : Prop := match ds with
  | [.int i, .int j] => P (.v (.int (min i j)))
  | _ => False
theorem bs_min2 : CbS K bMin2 rMinU := by
  intro O H vs ds P Q ok hs h k
  unfold bMin2 at h
  split at h
  · obtain ⟨v, u, rfl, h1, h2⟩ := shs2 hs
    cases h1.int
    cases h2.int
    exact r_min (k _ _ _ h (nw_v (.int _)))
  · exact h.elim
theorem Rs.ints {ns : List Int} {vs : List V} (h : Rs K O H vs (ns.map .int)) : vs = ns.map V.int := by
  induction ns generalizing vs with
  | nil => cases h; rfl
  | cons n ns ih =>
    cases h with
    | cons h1 h2 =>
      cases h1
      rw [ih h2]; rfl
theorem Rs.bls {ns : List Bool} {vs : List V} (h : Rs K O H vs (ns.map .bool)) : vs = ns.map V.bl := by
  induction ns generalizing vs with
  | nil => cases h; rfl
  | cons n ns ih =>
    cases h with
    | cons h1 h2 =>
      cases h1
      rw [ih h2]; rfl
theorem Rs.strs {ns : List Str} {vs : List V} (h : Rs K O H vs (ns.map .str)) : vs = ns.map V.str := by
  induction ns generalizing vs with
  | nil => cases h; rfl
  | cons n ns ih =>
    cases h with
    | cons h1 h2 =>
      cases h1
      rw [ih h2]; rfl
def bSum (ds : List PyData) (P : Av → Prop) : Prop := ∃ ns : List Int, ds = [.list (ns.map .int)] ∧ P (.v (.int ns.sum))
theorem bs_sum : CbS K bSum (rSum K) := by
  intro O H vs ds P Q ok hs h k
  obtain ⟨ns, rfl, h⟩ := h
  obtain ⟨v, rfl, h1⟩ := shs1 hs
  obtain ⟨a, us, rfl, h2, h3⟩ := h1.lst
  rw [h3.ints] at h2
  exact ⟨a, ns, rfl, SqL.of h2, k _ _ _ h (nw_v (.int _))⟩
def bMax (ds : List PyData) (P : Av → Prop) : Prop := ∃ ns : List Int, ds = [.list (ns.map .int)] ∧ 0 < ns.length ∧ ∀ m, m ∈ ns → (∀ y, y ∈ ns → y ≤ m) → P (.v (.int m))
theorem bs_max : CbS K bMax (rMax K) := by
  intro O H vs ds P Q ok hs h k
  obtain ⟨ns, rfl, hl, h⟩ := h
  obtain ⟨v, rfl, h1⟩ := shs1 hs
  obtain ⟨a, us, rfl, h2, h3⟩ := h1.lst
  rw [h3.ints] at h2
  exact ⟨a, ns, rfl, SqL.of h2, hl, fun m h4 h5 => k _ _ _ (h m h4 h5) (nw_v (.int _))⟩
def bMin (ds : List PyData) (P : Av → Prop) : Prop := ∃ ns : List Int, ds = [.list (ns.map .int)] ∧ 0 < ns.length ∧ ∀ m, m ∈ ns → (∀ y, y ∈ ns → m ≤ y) → P (.v (.int m))
theorem bs_min : CbS K bMin (rMin K) := by
  intro O H vs ds P Q ok hs h k
  obtain ⟨ns, rfl, hl, h⟩ := h
  obtain ⟨v, rfl, h1⟩ := shs1 hs
  obtain ⟨a, us, rfl, h2, h3⟩ := h1.lst
  rw [h3.ints] at h2
  exact ⟨a, ns, rfl, SqL.of h2, hl, fun m h4 h5 => k _ _ _ (h m h4 h5) (nw_v (.int _))⟩
def bAny (ds : List PyData) (P : Av → Prop) : Prop := ∃ ns : List Bool, ds = [.list (ns.map .bool)] ∧ P (.v (.bool (ns.any id)))
def bAll (ds : List PyData) (P : Av → Prop) : Prop := ∃ ns : List Bool, ds = [.list (ns.map .bool)] ∧ P (.v (.bool (ns.all id)))
theorem bs_any : CbS K bAny (rAny K) := by
  intro O H vs ds P Q ok hs h k
  obtain ⟨ns, rfl, h⟩ := h
  obtain ⟨v, rfl, h1⟩ := shs1 hs
  obtain ⟨a, us, rfl, h2, h3⟩ := h1.lst
  rw [h3.bls] at h2
  exact ⟨a, ns, rfl, SqL.of h2, k _ _ _ h (nw_v (.bl _))⟩
theorem bs_all : CbS K bAll (rAll K) := by
  intro O H vs ds P Q ok hs h k
  obtain ⟨ns, rfl, h⟩ := h
  obtain ⟨v, rfl, h1⟩ := shs1 hs
  obtain ⟨a, us, rfl, h2, h3⟩ := h1.lst
  rw [h3.bls] at h2
  exact ⟨a, ns, rfl, SqL.of h2, k _ _ _ h (nw_v (.bl _))⟩
def bInt (ds : List PyData) (P : Av → Prop) : Prop := match ds with
  | [.int i] => P (.v (.int i))
  | [.bool b] => P (.v (.int (if b = true then 1 else 0)))
  | [.str s] => ∃ n, PySem.intText? s = some n ∧ s.length ≤ 640 ∧ P (.v (.int n))
  | _ => False
theorem bs_int : CbS K bInt rIntW := by
  intro O H vs ds P Q ok hs h k
  unfold bInt at h
  split at h
  · obtain ⟨v, rfl, h1⟩ := shs1 hs
    cases h1.int
    exact .inl (.inl ⟨_, rfl, k _ _ _ h (nw_v (.int _))⟩)
  · obtain ⟨v, rfl, h1⟩ := shs1 hs
    cases h1.bl
    exact .inl (.inr ⟨_, rfl, k _ _ _ h (nw_v (.int _))⟩)
  · obtain ⟨v, rfl, h1⟩ := shs1 hs
    cases h1.str
    obtain ⟨n, e, l, h⟩ := h
    exact .inr ⟨_, n, rfl, e, l, k _ _ _ h (nw_v (.int _))⟩
  · exact h.elim
def bStr (ds : List PyData) (P : Av → Prop) : Prop := match ds with
  | [.int i] => i.natAbs < 2 ^ 1900 ∧ P (.v (.str (toString i)))
  | _ => False
theorem bs_str : CbS K bStr (fun xs H Q => ∃ i, xs = [.int i] ∧ i.natAbs.log2 < 1920 ∧ Q (.str (toString i)) H) := by
  intro O H vs ds P Q ok hs h k
  unfold bStr at h
  split at h
  · obtain ⟨v, rfl, h1⟩ := shs1 hs
    cases h1.int
    exact ⟨_, rfl, Nat.lt_trans (PySem.Flt.log2_lt_of (by decide) h.1) (by decide), k _ _ _ h.2 (nw_v (.str _))⟩
  · exact h.elim
def bTup (ds : List PyData) (P : Av → Prop) : Prop := match ds with
  | [.list xs] => P (.v (.tuple xs))
  | [.tuple xs] => P (.v (.tuple xs))
  | _ => False
theorem bs_tup : CbS K bTup (rTupU K) := by
  intro O H vs ds P Q ok hs h k
  unfold bTup at h
  split at h
  · obtain ⟨v, rfl, h1⟩ := shs1 hs
    obtain ⟨a, us, rfl, h2, h3⟩ := h1.lst
    exact ⟨a, us, rfl, .inl ⟨SqL.of h2, fun l hl => k _ _ _ h (nw_tup hl h3)⟩⟩
  · obtain ⟨v, rfl, h1⟩ := shs1 hs
    obtain ⟨a, us, rfl, h2, h3⟩ := h1.tup
    exact ⟨a, us, rfl, .inr ⟨h2, k _ _ _ h (nw_v (.tup h2 h3))⟩⟩
  · exact h.elim
def bLst (ds : List PyData) (P : Av → Prop) : Prop := match ds with
  | [.list xs] => P (.n (.list xs))
  | [.tuple xs] => P (.n (.list xs))
  | _ => False
theorem bs_lst : CbS K bLst (rListU K) := by
  intro O H vs ds P Q ok hs h k
  unfold bLst at h
  split at h
  · obtain ⟨v, rfl, h1⟩ := shs1 hs
    obtain ⟨a, us, rfl, h2, h3⟩ := h1.lst
    exact ⟨a, us, rfl, .inl (SqL.of h2), fun l hl => k _ _ _ h (nw_lst hl h3)⟩
  · obtain ⟨v, rfl, h1⟩ := shs1 hs
    obtain ⟨a, us, rfl, h2, h3⟩ := h1.tup
    exact ⟨a, us, rfl, .inr h2, fun l hl => k _ _ _ h (nw_lst hl h3)⟩
  · exact h.elim
def bGcd (ds : List PyData) (P : Av → Prop) : Prop := match ds with
  | [.int i, .int j] => P (.v (.int ((Nat.gcd i.natAbs j.natAbs : Nat) : Int)))
  | _ => False
theorem bs_gcd : CbS K bGcd rGcd := by
  intro O H vs ds P Q ok hs h k
  unfold bGcd at h
  split at h
  · obtain ⟨v, u, rfl, h1, h2⟩ := shs2 hs
    cases h1.int
    cases h2.int
    exact ⟨_, _, rfl, k _ _ _ h (nw_v (.int _))⟩
  · exact h.elim
/-! sorted(l) -/
mutual
/-- no list, no dict within: such data owns nothing -/
theorem R.of {d : PyData} {v : V} : ∀ (n : noL d = true) (h : Dp K H v d), R K O H v d := fun n h => by
  cases h with
  | non => exact .non
  | bl b => exact .bl b
  | int i => exact .int i
  | str s => exact .str s
  | lst _ _ => unfold WB.noL at n; cases n
  | tup h1 h2 => unfold WB.noL at n; exact .tup h1 (Rs.of n h2)
theorem Rs.of {ds : List PyData} {vs : List V} : ∀ (n : noLs ds = true) (h : DpAll K H vs ds), Rs K O H vs ds := fun n h => by
  cases h with
  | nil => exact .nil
  | cons h1 h2 =>
    unfold WB.noLs at n
    rw [Bool.and_eq_true] at n
    exact .cons (R.of n.1 h1) (Rs.of n.2 h2)
end
theorem noLs_iff {ds : List PyData} : noLs ds = true ↔ ∀ d ∈ ds, noL d = true := by
  induction ds with
  | nil => simp [noLs]
  | cons d ds ih =>
    unfold noLs
    rw [Bool.and_eq_true, ih]
    simp
mutual
theorem noK_of : ∀ {d : PyData}, noL d = true → noK d = true
  | .none, _ => by unfold noK; rfl
  | .bool b, _ => by unfold noK; rfl
  | .int i, _ => by unfold noK; rfl
  | .str x, _ => by unfold noK; rfl
  | .list _, h => by unfold noL at h; cases h
  | .dict _, h => by unfold noL at h; cases h
  | .tuple ds, h => by unfold noK; unfold noL at h; exact noKs_of h
theorem noKs_of : ∀ {ds : List PyData}, noLs ds = true → noKs ds = true
  | [], _ => by unfold noKs; rfl
  | d :: ds, h => by
    unfold noKs
    unfold noLs at h
    rw [Bool.and_eq_true] at h
    rw [noK_of h.1, noKs_of h.2]
    rfl
end
def bSort (ds : List PyData) (P : Av → Prop) : Prop := match ds with
  | [.list xs] => noLs xs = true ∧ KOk xs ∧ P (.n (.list (xs.mergeSort (PySem.W.dataLe false id))))
  | _ => False
theorem bs_sort : CbS K bSort (rSortD K) := by
  intro O H vs ds P Q ok hs h k
  unfold bSort at h
  split at h
  · obtain ⟨v, rfl, h1⟩ := shs1 hs
    obtain ⟨a, us, rfl, h2, h3⟩ := h1.lst
    obtain ⟨n, ko, h⟩ := h
    refine ⟨a, us, _, rfl, SqL.of h2, h3.dp (noKs_of n), ko, fun p H' ys s np e dd => k _ _ _ h ⟨s, p, rfl, np, .lst e (Rs.of ?_ dd)⟩⟩
    rw [noLs_iff] at n ⊢
    exact fun d hd => n d ((List.mergeSort_perm _ _).mem_iff.mp hd)
  · exact h.elim
/-! isinstance -/
inductive Tn where
  | str | int | bool | tup | lst | dct
def Tn.nm : Tn → String
  | .str => "str"
  | .int => "int"
  | .bool => "bool"
  | .tup => "tuple"
  | .lst => "list"
  | .dct => "dict"
def isi : Tn → PyData → Bool
  | .str, .str _ => true
  | .int, .int _ => true
  | .int, .bool _ => true
  | .bool, .bool _ => true
  | .tup, .tuple _ => true
  | .lst, .list _ => true
  | .dct, .dict _ => true
  | _, _ => false
theorem isi_kit (t : Tn) (d : PyData) : kitB (tnD d) t.nm = some (isi t d) := by
  cases t <;> cases d <;> (simp only [tnD, Tn.nm, isi]; decide +kernel)
theorem R.ty (h : R K O H v d) : TyX K H v (.type (tnD d)) := by
  cases h with
  | non => exact .base .non
  | bl b => exact .base (.bl b)
  | int i => exact .base (.int i)
  | str z => exact .base (.str z)
  | lst _ h1 h2 => exact .base (.lst h1)
  | tup h1 h2 =>
    rcases h1 with (h | ⟨o, h⟩) | ⟨o, its, n, h, hc, _⟩
    · exact .base (.tup h)
    · exact .fTuple h
    · exact .kTuple h hc
  | dK _ h1 h2 =>
    rcases h1 with h | ⟨o, h⟩
    · exact .base (.dK h)
    · exact .fDict h
theorem Sh.ty (h : Sh K O H v d) : TyX K H v (.type (tnD d)) := by
  rcases h with h | ⟨a, rfl, t⟩
  · exact h.ty
  · cases t with
    | lst h1 h2 => exact .base (.lst h1)
    | dK h1 h2 => exact .base (.dK h1)
def eIsi (t : Tn) (a : EV) : EV := fun ρ P => a ρ fun x ρ1 => x.getK ρ1 fun d => P (.v (.bool (isi t d))) ρ1
theorem tIsi_of {t : Tn} {a : EV} : tV C (eIsi t a) σ H Q → tCB (rIsi C.K) (tCons (tV C a) (tCons (tC (.ty t.nm)) tNil)) σ H Q := by
  rintro ⟨bs, W, O, ρ, P, rp, hf, k⟩
  refine ⟨bs, W, O, ρ, _, rp, hf, fun x ρ1 v1 H1 hp o => ?_⟩
  obtain ⟨d, hd, sd⟩ := view o.1 o.2.1 hp
  exact ⟨v1, .ty t.nm, _, _, _, rfl, .ty _, sd.ty, kit_ty (isi_kit t d), k _ ρ1 _ H1 hd (out_v (rep_out o rp.wo rp.bo) (.bl _))⟩
/-! list(range(n)), a[::-1], join, split -/
theorem rs_rng (a b : Int) : Rs K O H (rgV a b) (rngD a (b - a).toNat) := by
  unfold rgV rngD
  induction List.range (b - a).toNat with
  | nil => exact .nil
  | cons i is ih => exact .cons (.int _) ih
def eRg (a : EV) : EV := fun ρ P => a ρ fun x ρ1 => x.getK ρ1 fun d => match d with
  | .int n => n.natAbs < 2 ^ 24 ∧ P (.n (.list (rngD 0 n.toNat))) ρ1
  | _ => False
theorem tRg_of {a : EV} : tV C (eRg a) σ H Q → tLstRg (tRg1 (tV C a)) σ H Q := by
  rintro ⟨bs, W, O, ρ, P, rp, hf, k⟩
  refine ⟨bs, W, O, ρ, _, rp, hf, fun x ρ1 v1 H1 hp o => ?_⟩
  obtain ⟨d, hd, sd⟩ := view o.1 o.2.1 hp
  split at hd
  · rename_i n
    refine ⟨n, sd.int, ⟨by omega, by omega, by omega, by omega, by omega⟩, fun p np => ?_⟩
    have e : rngD 0 n.toNat = rngD 0 (n - 0).toNat := by rw [Int.sub_zero]
    rw [e] at hd
    exact k _ ρ1 _ _ hd.2 ((nw_lst np (rs_rng 0 n)).out (rep_out o rp.wo rp.bo) (fun _ z => z) rp.wo rp.bo)
  · exact hd.elim
theorem Rs.rev {ds : List PyData} {vs : List V} (h : Rs K O H vs ds) : Rs K O H vs.reverse ds.reverse := by
  induction ds generalizing vs with
  | nil => cases h; exact .nil
  | cons d ds ih =>
    cases h with
    | cons h1 h2 =>
      rw [List.reverse_cons, List.reverse_cons]
      exact (ih h2).append (.cons h1 .nil)
def eRevL (a : EV) : EV := fun ρ P => a ρ fun x ρ1 => x.getK ρ1 fun d => match d with
  | .list ds => P (.n (.list ds.reverse)) ρ1
  | _ => False
theorem tRevL_of {a : EV} : tV C (eRevL a) σ H Q → tRevL C.K (tV C a) σ H Q := by
  rintro ⟨bs, W, O, ρ, P, rp, hf, k⟩
  refine ⟨bs, W, O, ρ, _, rp, hf, fun x ρ1 v1 H1 hp o => ?_⟩
  obtain ⟨d, hd, sd⟩ := view o.1 o.2.1 hp
  split at hd
  · obtain ⟨a, vs, rfl, h1, h2⟩ := sd.lst
    exact ⟨a, vs, rfl, SqL.of h1, fun p np => k _ ρ1 _ _ hd ((nw_lst np h2.rev).out o.1 (fun a z => ox_sub z) rp.wo rp.bo)⟩
  · exact hd.elim
def eRevS (a : EV) : EV := fun ρ P => a ρ fun x ρ1 => x.getK ρ1 fun d => match d with
  | .str z => z.length ≤ sizeLine ∧ ∀ r : Str, r.length ≤ z.length → (∀ c, c ∈ r.cps.toList → c ∈ z.cps.toList) → P (.v (.str r)) ρ1
  | _ => False
theorem tRevS_of {a : EV} : tV C (eRevS a) σ H Q → tRevS (tV C a) σ H Q := by
  rintro ⟨bs, W, O, ρ, P, rp, hf, k⟩
  refine ⟨bs, W, O, ρ, _, rp, hf, fun x ρ1 v1 H1 hp o => ?_⟩
  obtain ⟨d, hd, sd⟩ := view o.1 o.2.1 hp
  split at hd
  · cases sd.str
    exact ⟨_, rfl, hd.1, fun r h1 h2 => k _ ρ1 _ _ (hd.2 r h1 h2) (out_v (rep_out o rp.wo rp.bo) (.str _))⟩
  · exact hd.elim
/-- a text's method with one argument -/
def eM1 (op : Str → PyData → (Av → Prop) → Prop) (a b : EV) : EV := fun ρ P => a ρ fun x ρ1 => x.getK ρ1 fun d => match d with
  | .str s => b ρ1 fun y ρ2 => y.getK ρ2 fun e => op s e fun z => P z ρ2
  | _ => False
def M1S (K : Fg) (op : Str → PyData → (Av → Prop) → Prop) (r : V → List V → Hp → VK → Prop) : Prop :=
  ∀ (O : Addr → Prop) (H : Hp) (s : Str) (u : V) (e : PyData) (P : Av → Prop) (Q : VK), OkO O H → Sh K O H u e → op s e P → (∀ z v' H', P z → Nw K O H H' v' z → Q v' H') → r (.str s) [u] H Q
theorem tM1_of {op : Str → PyData → (Av → Prop) → Prop} {r : V → List V → Hp → VK → Prop} {a b : EV} (h : M1S C.K op r) : tV C (eM1 op a b) σ H Q → tM1 r (tV C a) (tV C b) σ H Q := by
  rintro ⟨bs, W, O, ρ, P, rp, hf, k⟩
  refine ⟨bs, W, O, ρ, _, rp, hf, fun x ρ1 v1 H1 hp o => ?_⟩
  obtain ⟨d, hd, sd⟩ := view o.1 o.2.1 hp
  split at hd
  · cases sd.str
    refine ⟨⟨_, rfl⟩, bs, W, O, ρ1, _, rep_out o rp.wo rp.bo, hd, fun y ρ2 v2 H2 hq o2 => ?_⟩
    obtain ⟨e, he, se⟩ := view o2.1 o2.2.1 hq
    exact h _ H2 _ v2 e _ Q o2.1.ok se he fun z v' H' hz nw => k z ρ2 v' H' hz (nw.out o2.1 (fun a z => ox_sub z) rp.wo rp.bo)
  · exact hd.elim
def mJoin (s : Str) (e : PyData) (P : Av → Prop) : Prop := ∃ ys : List Str, (e = .list (ys.map .str) ∨ e = .tuple (ys.map .str)) ∧ (ys.map (·.length)).sum + ys.length * s.length ≤ 16777216 ∧ P (.v (.str (Txt.join s ys)))
theorem ms_join : M1S K mJoin (rJoinK K) := by
  intro O H s u e P Q ok hu h k
  obtain ⟨ys, he, hl, h⟩ := h
  rcases he with rfl | rfl
  · obtain ⟨a, us, rfl, h2, h3⟩ := hu.lst
    rw [h3.strs] at h2
    exact ⟨s, a, ys, rfl, rfl, .inl (SqL.of h2), hl, k _ _ _ h (nw_v (.str _))⟩
  · obtain ⟨a, us, rfl, h2, h3⟩ := hu.tup
    rw [h3.strs] at h2
    exact ⟨s, a, ys, rfl, rfl, .inr h2, hl, k _ _ _ h (nw_v (.str _))⟩
theorem rs_strs (ys : List Str) : Rs K O H (ys.map V.str) (ys.map .str) := by
  induction ys with
  | nil => exact .nil
  | cons y ys ih => exact .cons (.str _) ih
def mSplit (s : Str) (e : PyData) (P : Av → Prop) : Prop := match e with
  | .str b => (b.length == 0) = false ∧ s.length + 2 ≤ sizeLine ∧ P (.n (.list ((Txt.split s b).map .str)))
  | _ => False
theorem ms_split : M1S K mSplit (fun x xs H Q => ∃ a b, x = .str a ∧ xs = [.str b] ∧ (b.length == 0) = false ∧ a.length + 2 ≤ sizeLine ∧ rNewStrs (Txt.split a b) H Q) := by
  intro O H s u e P Q ok hu h k
  unfold mSplit at h
  split at h
  · cases hu.str
    exact ⟨_, _, rfl, rfl, h.1, h.2.1, fun p np => k _ _ _ h.2.2 (nw_lst np (rs_strs _))⟩
  · exact h.elim
end

/-! ### the rules by data: the raw rule, then its data -/
section
variable {X : Cx} {C : Cd} {K : Fg} {t : Option Addr} {e : Expr} {es : List Expr} {st : Stmt} {sts : List Stmt}
theorem PO.up {lo : Option Expr} {t t' : TO} (h : PO X lo t) (k : ∀ σ H Q, t' σ H Q → t σ H Q) : PO X lo t' := ⟨fun pins s σ H Q I q => h.run pins s σ H Q I (k _ _ _ q)⟩
theorem xv {i : Nat} (h : PE X e (tVar i)) : PE X e (tV ⟨K, t⟩ (eV i)) := PE.up h fun _ _ _ => tVar_of
theorem xC {w : V} {d : PyData} (h : PE X e (tC w)) (hw : ∀ K O H, R K O H w d) : PE X e (tV ⟨K, t⟩ (eC d)) := PE.up h fun _ _ _ => tC_of hw
theorem xi {i : Int} (h : PE X e (tC (.int i))) : PE X e (tV ⟨K, t⟩ (eC (.int i))) := xC h fun _ _ _ => .int _
theorem xs {i : Str} (h : PE X e (tC (.str i))) : PE X e (tV ⟨K, t⟩ (eC (.str i))) := xC h fun _ _ _ => .str _
theorem xb {i : Bool} (h : PE X e (tC (.bl i))) : PE X e (tV ⟨K, t⟩ (eC (.bool i))) := xC h fun _ _ _ => .bl _
theorem xn (h : PE X e (tC .non)) : PE X e (tV ⟨K, t⟩ (eC .none)) := xC h fun _ _ _ => .non
theorem xE {op : PyData → PyData → (Av → Prop) → Prop} {r : R2} {a b : EV} (h : PE X e (tOp r (tV ⟨K, t⟩ a) (tV ⟨K, t⟩ b))) (s : OpS K op r) : PE X e (tV ⟨K, t⟩ (e2 op a b)) := PE.up h fun _ _ _ => tOp_of s
theorem xU {op : PyData → (Av → Prop) → Prop} {r : V → Hp → VK → Prop} {a : EV} (h : PE X e (tUn r (tV ⟨K, t⟩ a))) (s : UnS K op r) : PE X e (tV ⟨K, t⟩ (e1 op a)) := PE.up h fun _ _ _ => tUn_of s
theorem xT {op : PyData → PyData → (Av → Prop) → Prop} {r : R2} {a b : EV} (h : PT X e (tTest (tOp r (tV ⟨K, t⟩ a) (tV ⟨K, t⟩ b)))) (s : OpS K op r) : PT X e (tTV ⟨K, t⟩ (asT (e2 op a b))) := PT.up h fun _ _ _ => tTest_of fun _ => tOp_of s
theorem xTr {a : EV} (h : PT X e (tTr K (tV ⟨K, t⟩ a))) : PT X e (tTV ⟨K, t⟩ (truT a)) := PT.up h fun _ _ _ => tTr_of
theorem xTB {a : EV} (h : PT X e (tB (tV ⟨K, t⟩ a))) : PT X e (tTV ⟨K, t⟩ (asT a)) := PT.up h fun _ _ _ => tTest_of fun _ h => h
theorem xAnd {a b : TV} (h : PW X e (tAnd (tTV ⟨K, t⟩ a) (tTV ⟨K, t⟩ b))) : PW X e (tTV ⟨K, t⟩ (andT a b)) := PW.up h fun _ _ _ => tAnd_of
theorem xOr {a b : TV} (h : PW X e (tOr (tTV ⟨K, t⟩ a) (tTV ⟨K, t⟩ b))) : PW X e (tTV ⟨K, t⟩ (orT a b)) := PW.up h fun _ _ _ => tOr_of
theorem xNot {a : TV} (h : PT X e (tNot (tTV ⟨K, t⟩ a))) : PT X e (tTV ⟨K, t⟩ (notT a)) := PT.up h fun _ _ _ => tNot_of
theorem xIf {c : TV} {a b : EV} (h : PE X e (tIf (tTV ⟨K, t⟩ c) (tV ⟨K, t⟩ a) (tV ⟨K, t⟩ b))) : PE X e (tV ⟨K, t⟩ (ifE c a b)) := PE.up h fun _ _ _ => tIf_of
theorem xAndV {a b : EV} (h : PE X e (tAndV (tV ⟨K, t⟩ a) (tV ⟨K, t⟩ b))) : PE X e (tV ⟨K, t⟩ (andE a b)) := PE.up h fun _ _ _ => tAndV_of
theorem xOrV {a b : EV} (h : PE X e (tOrV (tV ⟨K, t⟩ a) (tV ⟨K, t⟩ b))) : PE X e (tV ⟨K, t⟩ (orE a b)) := PE.up h fun _ _ _ => tOrV_of
theorem xN (h : PA X es tNil) : PA X es (tAV ⟨K, t⟩ aN) := PA.up h fun _ _ _ => tNil_of
theorem xA {a : EV} {as : AV} (h : PA X es (tCons (tV ⟨K, t⟩ a) (tAV ⟨K, t⟩ as))) : PA X es (tAV ⟨K, t⟩ (aC a as)) := PA.up h fun _ _ _ => tCons_of
theorem xTup {as : AV} (h : PE X e (tTup (tAV ⟨K, t⟩ as))) : PE X e (tV ⟨K, t⟩ (eTup as)) := PE.up h fun _ _ _ => tTup_of
theorem xLst {as : AV} (h : PE X e (tLst (tAV ⟨K, t⟩ as))) : PE X e (tV ⟨K, t⟩ (eLst as)) := PE.up h fun _ _ _ => tLst_of
theorem xPn {lo : Option Expr} (h : PO X lo tNoPart) : PO X lo (tOV ⟨K, t⟩ oNo) := PO.up h fun _ _ _ => tNo_of
theorem xPe {lo : Option Expr} {a : EV} (h : PO X lo (tPart (tV ⟨K, t⟩ a))) : PO X lo (tOV ⟨K, t⟩ (oE a)) := PO.up h fun _ _ _ => tPart_of
theorem xSl {a : EV} {lo hi : OV} (h : PE X e (tSl (rSlU K) (tV ⟨K, t⟩ a) (tOV ⟨K, t⟩ lo) (tOV ⟨K, t⟩ hi))) : PE X e (tV ⟨K, t⟩ (eSl a lo hi)) := PE.up h fun _ _ _ => tSl_of
theorem xB {op : List PyData → (Av → Prop) → Prop} {r : List V → Hp → VK → Prop} {as : AV} (h : PE X e (tCB r (tAV ⟨K, t⟩ as))) (s : CbS K op r) : PE X e (tV ⟨K, t⟩ (eB op as)) := PE.up h fun _ _ _ => tCB_of s
theorem xIsi (tn : Tn) {a : EV} (h : PE X e (tCB (rIsi K) (tCons (tV ⟨K, t⟩ a) (tCons (tC (.ty tn.nm)) tNil)))) : PE X e (tV ⟨K, t⟩ (eIsi tn a)) := PE.up h fun _ _ _ => tIsi_of
theorem xRg {a : EV} (h : PE X e (tLstRg (tRg1 (tV ⟨K, t⟩ a)))) : PE X e (tV ⟨K, t⟩ (eRg a)) := PE.up h fun _ _ _ => tRg_of
theorem xRevL {a : EV} (h : PE X e (tRevL K (tV ⟨K, t⟩ a))) : PE X e (tV ⟨K, t⟩ (eRevL a)) := PE.up h fun _ _ _ => tRevL_of
theorem xRevS {a : EV} (h : PE X e (tRevS (tV ⟨K, t⟩ a))) : PE X e (tV ⟨K, t⟩ (eRevS a)) := PE.up h fun _ _ _ => tRevS_of
theorem xM1 {op : Str → PyData → (Av → Prop) → Prop} {r : V → List V → Hp → VK → Prop} {a b : EV} (h : PE X e (tM1 r (tV ⟨K, t⟩ a) (tV ⟨K, t⟩ b))) (s : M1S K op r) : PE X e (tV ⟨K, t⟩ (eM1 op a b)) := PE.up h fun _ _ _ => tM1_of s
theorem xApp {i : Nat} {a : EV} (h : PE X e (tBM K "list" rAppend (tVar i) (tAV ⟨K, t⟩ (aC a aN)))) : PE X e (tV ⟨K, t⟩ (eApp i a)) := PE.up h fun _ _ _ => tApp_of
theorem xExt {i : Nat} {a : EV} (h : PE X e (tBM K "list" rExtend (tVar i) (tAV ⟨K, t⟩ (aC a aN)))) : PE X e (tV ⟨K, t⟩ (eExt i a)) := PE.up h fun _ _ _ => tExt_of
theorem xPop {i : Nat} {a : EV} (h : PE X e (tBM K "list" rPopAt (tVar i) (tAV ⟨K, t⟩ (aC a aN)))) : PE X e (tV ⟨K, t⟩ (ePop i a)) := PE.up h fun _ _ _ => tPop_of
theorem xCall {F : FV} {as : AV} {E : XK} (h : PE X e (tCall (spV K F) [] E (tAV ⟨K, t⟩ as))) : PE X e (tV ⟨K, t⟩ (eCall F as)) := PE.up h fun _ _ _ => tCall_of
theorem xCall0 {F : FV} {E : XK} (h : PE X e (tCall (spV K F) [] E tNil)) : PE X e (tV ⟨K, t⟩ (eCall F aN)) := PE.up h fun _ _ _ => tCall0_of
theorem xYes (h : PTs X es tYes) : PTs X es (tTV ⟨K, t⟩ yesT) := PTs.up h fun _ _ _ => tYes_of
theorem xLc {ic : IC} {g : GF} {tt : TV} {a : EV} {is vs : List Nat} {wi : TI} (h : PE X e (tLc wi (tGF ⟨K, t⟩ is g) (tTV ⟨K, t⟩ tt) (tV ⟨K, t⟩ a) vs)) (hwi : ∀ σ H R, tIC ⟨K, t⟩ ic σ H R → wi σ H R) (his : ∀ j, j ∈ is → j ∈ vs := by decide) : PE X e (tV ⟨K, t⟩ (eLc ic g tt a vs)) := PE.up h fun _ _ _ => tLc_of hwi his
/-! targets -/
theorem xgN {i : Nat} (h : PG X e (gName i)) : PG X e (tGF ⟨K, t⟩ [i] (fN i)) := PG.up h fun _ _ _ _ => gName_of
theorem xgsN (h : PGs X es gNil) : PGs X es (tGFs ⟨K, t⟩ [] fsN) := PGs.up h fun _ _ _ _ => gNil_of
theorem xgsC {is js : List Nat} {g : GF} {gs : GFs} (h : PGs X es (gCons (tGF ⟨K, t⟩ is g) (tGFs ⟨K, t⟩ js gs))) : PGs X es (tGFs ⟨K, t⟩ (is ++ js) (fsC g gs)) := PGs.up h fun _ _ _ _ => gCons_of
theorem xgT {is : List Nat} {n : Nat} {gs : GFs} (h : PG X e (gTup K n (tGFs ⟨K, t⟩ is gs))) (hn : ∀ (ds : List PyData) ρ k, gs ds ρ k → ds.length = n) : PG X e (tGF ⟨K, t⟩ is (fT gs)) := PG.up h fun _ _ _ _ => gTup_of hn
/-- the number of targets: whatever is asked behind, some state is come to -/
structure GfOk (g : GF) : Prop where
  ex : ∀ d ρ k, g d ρ k → ∃ ρ', k ρ'
theorem gfN {i : Nat} : GfOk (fN i) := ⟨fun _ _ _ h => ⟨_, h⟩⟩
theorem gsN : ∀ (ds : List PyData) ρ k, fsN ds ρ k → ds.length = 0 := fsN_len
theorem gsEx {g : GF} {gs : GFs} (hg : GfOk g) (ex : ∀ ds ρ k, gs ds ρ k → ∃ ρ', k ρ') : ∀ ds ρ k, fsC g gs ds ρ k → ∃ ρ', k ρ'
  | [], _, _, h => h.elim
  | d :: ds, ρ, k, h => by
    obtain ⟨ρ1, h1⟩ := hg.ex d ρ _ h
    exact ex ds ρ1 k h1
theorem gsE0 : ∀ ds ρ k, fsN ds ρ k → ∃ ρ', k ρ'
  | [], _, _, h => ⟨_, h⟩
  | _ :: _, _, _, h => h.elim
theorem gsC {g : GF} {gs : GFs} {n : Nat} (hg : GfOk g) (h : ∀ (ds : List PyData) ρ k, gs ds ρ k → ds.length = n) : ∀ (ds : List PyData) ρ k, fsC g gs ds ρ k → ds.length = n + 1
  | [], _, _, q => q.elim
  | d :: ds, ρ, k, q => by
    obtain ⟨ρ', q'⟩ := hg.ex d ρ _ q
    exact congrArg (· + 1) (h ds ρ' k q')
theorem gfT {gs : GFs} (ex : ∀ ds ρ k, gs ds ρ k → ∃ ρ', k ρ') : GfOk (fT gs) := ⟨fun d ρ k h => by
  cases d with
  | tuple ds => exact ex ds ρ k h
  | _ => exact h.elim⟩
/-! statements -/
theorem xNext (h : PS X st tNext) : PS X st (tSV ⟨K, t⟩ sNext) := PS.up h fun _ _ _ => tNext_of
theorem xNexts (h : PSs X sts tNext) : PSs X sts (tSV ⟨K, t⟩ sNext) := PSs.up h fun _ _ _ => tNext_of
theorem xBreak (h : PS X st tBreak) : PS X st (tSV ⟨K, t⟩ sBreak) := PS.up h fun _ _ _ => tBreak_of
theorem xCont (h : PS X st tCont) : PS X st (tSV ⟨K, t⟩ sCont) := PS.up h fun _ _ _ => tCont_of
theorem xSeq {a b : SV} (h : PSs X sts (tSeq (tSV ⟨K, t⟩ a) (tSV ⟨K, t⟩ b))) : PSs X sts (tSV ⟨K, t⟩ (sSeq a b)) := PSs.up h fun _ _ _ => tSeq_of
theorem xExpr {a : EV} (h : PS X st (tDrop (tV ⟨K, t⟩ a))) : PS X st (tSV ⟨K, t⟩ (sExpr a)) := PS.up h fun _ _ _ => tDrop_of
theorem xRet {a : EV} (h : PS X st (tRet (tV ⟨K, t⟩ a))) : PS X st (tSV ⟨K, t⟩ (sRet a)) := PS.up h fun _ _ _ => tRet_of
theorem xRetN (h : PS X st tRetN) : PS X st (tSV ⟨K, t⟩ sRetN) := PS.up h fun _ _ _ => tRetN_of
theorem xIfS {c : TV} {a b : SV} (h : PS X st (tIfS (tTV ⟨K, t⟩ c) (tSV ⟨K, t⟩ a) (tSV ⟨K, t⟩ b))) : PS X st (tSV ⟨K, t⟩ (sIf c a b)) := PS.up h fun _ _ _ => tIfS_of
theorem xSetF {i : Nat} {a : EV} {te : TE} (h : PS X st (tAsg te (gName i))) (k : ∀ σ H Q, tV ⟨K, t⟩ a σ H Q → te σ H Q) : PS X st (tSV ⟨K, t⟩ (sSetF i a)) := PS.up h fun _ _ _ q => k _ _ _ (tSetF_of q)
theorem xSetO {i : Nat} {a : EV} {te : TE} (h : PS X st (tAsg te (gName i))) (k : ∀ σ H Q, tV ⟨K, t⟩ a σ H Q → te σ H Q) : PS X st (tSV ⟨K, t⟩ (sSetO i a)) := PS.up h fun _ _ _ q => k _ _ _ (tSetO_of q)
theorem xSetG {g : GF} {a : EV} {is : List Nat} (h : PS X st (tAsg (tV ⟨K, t⟩ a) (tGF ⟨K, t⟩ is g))) : PS X st (tSV ⟨K, t⟩ (sSetG g a)) := PS.up h fun _ _ _ => tSetG_of
theorem xPut {i : Nat} {ek a : EV} (h : PS X st (tAsg (tV ⟨K, t⟩ a) (gSub (tVar i) (tV ⟨K, t⟩ ek) rSetL))) : PS X st (tSV ⟨K, t⟩ (sPut i ek a)) := PS.up h fun _ _ _ => tPut_of
theorem xFor {iv : IV} {g : GF} {body : SV} {dead is : List Nat} {wi : TI} (h : PS X st (tFor wi (tGF ⟨K, t⟩ is g) (tSV ⟨K, t⟩ body))) (hwi : ∀ σ H R, tIV ⟨K, t⟩ iv σ H R → wi σ H R) : PS X st (tSV ⟨K, t⟩ (sFor iv g body dead)) := PS.up h fun _ _ _ => tFor_of hwi
theorem xWhile {c : TV} {body : SV} {dead : List Nat} (h : PS X st (tWhile (tTV ⟨K, t⟩ c) (tSV ⟨K, t⟩ body))) : PS X st (tSV ⟨K, t⟩ (sWhile c body dead)) := PS.up h fun _ _ _ => tWhile_of
def sPar (i j : Nat) (as : AV) : SV := fun D ρ => as ρ fun xs ρ1 => match xs with
  | [x, y] => x.stoK fun d => y.stoK fun e => D.nx ((ρ1.set i (some (.v d))).set j (some (.v e)))
  | _ => False
theorem tPar_of {i j : Nat} {as : AV} {D : Ends} {σ : L2.St} {H : Hp} : tSV C (sPar i j as) D σ H → tPar i j (tAV C as) D σ H := by
  rintro ⟨bs, W, O, ρ, D', rp, hf, k⟩
  refine ⟨bs, W, O, ρ, _, rp, hf, fun xs ρ1 vs H1 hp rp1 cs fs => ?_⟩
  split at hp
  · cases vs with
    | nil => exact cs.elim
    | cons v vs =>
      cases vs with
      | nil => exact cs.2.elim
      | cons u vs =>
        cases vs with
        | cons _ _ => exact cs.2.2.elim
        | nil =>
          obtain ⟨d, hd, rd⟩ := sto cs.1 fs.1 (fun a z => oxs_sub z) hp
          obtain ⟨e, he, re⟩ := sto cs.2.1 fs.2.1 (fun a z => oxs_sub z) hd
          have rp' : Rep C bs W O ρ1 σ H1 := rp1.less (fun a z => oxs_sub z) rp.wo rp.bo
          exact ⟨v, u, rfl, k.nx _ _ _ _ _ ((rp'.put i rd).put j re) he⟩
  · exact hp.elim
theorem xPar {i j : Nat} {as : AV} (h : PS X st (tPar i j (tAV ⟨K, t⟩ as))) : PS X st (tSV ⟨K, t⟩ (sPar i j as)) := PS.up h fun _ _ _ => tPar_of
end
/-! defs -/
theorem spV_len {K : Fg} {len n : Nat} {body : SV} {F : FV} {vs : List V} {H : Hp} {Q : VK} {E : XK} (hF : F = defV len n body) (h : spV K F vs H Q E) : vs.length = len := by
  subst hF
  obtain ⟨t, O, ys, P, _, _, ag, hf, _⟩ := h
  rw [ags_len ag]
  exact hf.1
theorem fn_false {P : Program} {w : World} {K : Fg} {mg : Str → Option Value} {base : Heap} {k : Nat} {f : Addr} {fd : FuncData} {ps : List Str} {F : FV} (hF : ∀ ys P, ¬ F ys P) : FnOk P w K mg base CX0 k f fd ps (spV K F) := by
  have no : ∀ vs H Q E, ¬ spV K F vs H Q E := fun vs H Q E ⟨_, _, _, _, _, _, _, hf, _⟩ => hF _ _ hf
  exact ⟨fun vs H Q E h => (no vs H Q E h).elim, fun A outer s H args us vs Q E _ _ _ _ h => (no vs H Q E h).elim⟩
/-! the tape: any number below the told one -/
def F__law_draw : FV := fun ys P => match ys with
  | [.tp, .v (.int m)] => m.natAbs < 2 ^ 62 ∧ ∀ r : Int, 0 ≤ r → r < max m 1 → P (.v (.int r))
  | _ => False
theorem sp_draw {K : Fg} {vs : List V} {H : Hp} {Q : VK} {E : XK} : spV K F__law_draw vs H Q E → sp__law_draw K vs H Q E := by
  rintro ⟨t, O, ys, P, ok, ht, ag, hf, k⟩
  unfold F__law_draw at hf
  split at hf
  · rename_i m
    cases vs with
    | nil => exact ag.elim
    | cons v vs =>
      cases vs with
      | nil => exact ag.2.elim
      | cons u vs =>
        cases vs with
        | cons _ _ => exact ag.2.2.elim
        | nil =>
          obtain ⟨⟨a, rfl, et⟩, hu, _⟩ := ag
          cases hu
          have et : t = some a := et
          subst et
          exact ⟨a, m, rfl, (ht a rfl).1, hf.1, fun r H' x h0 h1 => k _ _ _ (hf.2 r h0 h1) ⟨x, .int _⟩⟩
  · exact hf.elim

/-! ### dicts by ints and texts; a few more rules -/
abbrev opIn (d e : PyData) (P : Av → Prop) : Prop := inK d e fun b => P (.v (.bool b))
abbrev opNin (d e : PyData) (P : Av → Prop) : Prop := inK d e fun b => P (.v (.bool (!b)))
abbrev opIs (d e : PyData) (P : Av → Prop) : Prop := isNone e = true ∧ P (.v (.bool (isNone d)))
abbrev opIsN (d e : PyData) (P : Av → Prop) : Prop := isNone e = true ∧ P (.v (.bool (!isNone d)))
def keyEq (p : PyData) (k : L2.Key) : Bool :=
  match p, k with
  | .int i, .inl j => decide (i = j)
  | .str s, .inr t => decide (s = t)
  | _, _ => false
theorem keyEq_kD (a k : L2.Key) : keyEq (kD a) k = decide (a = k) := by
  cases a <;> cases k <;> simp [keyEq, kD]
abbrev Dct := List (PyData × PyData)
def dGet (ds : Dct) (k : L2.Key) : Option PyData := (ds.find? fun p => keyEq p.1 k).map (·.2)
def dPut (ds : Dct) (k : L2.Key) (z : PyData) : Dct := if (ds.any fun p => keyEq p.1 k) = true then ds.map (fun p => if keyEq p.1 k = true then (p.1, z) else p) else ds ++ [(kD k, z)]
def keyK (d : PyData) (k : L2.Key → Prop) : Prop :=
  match d with
  | .int i => k (.inl i)
  | .str s => k (.inr s)
  | _ => False
section
variable {K : Fg} {C : Cd} {bs : Bs} {W O O' : Addr → Prop} {ρ ρ' : En} {σ : L2.St} {H H' : Hp} {v : V} {x : Av} {d : PyData} {Q : VK}
theorem Rk.get {kvs : List (L2.Key × V)} {ds : Dct} (h : Rk K O H kvs ds) (k : L2.Key) : (∀ z, dGet ds k = some z → ∃ u, valV kvs k = some u ∧ R K O H u z) ∧ (dGet ds k = none → valV kvs k = none) := by
  induction kvs generalizing ds with
  | nil =>
    cases h
    exact ⟨fun z e => by simp [dGet] at e, fun _ => rfl⟩
  | cons p kvs ih =>
    cases h with
    | @cons k0 v0 _ d0 ds0 h1 h2 =>
      obtain ⟨i1, i2⟩ := ih h2
      by_cases e : k0 = k
      · have g : dGet ((kD k0, d0) :: ds0) k = some d0 := by simp [dGet, List.find?_cons, keyEq_kD, e]
        rw [g, valV_pos (p := (k0, v0)) e]
        exact ⟨fun z ez => by cases ez; exact ⟨v0, rfl, h1⟩, fun z => by cases z⟩
      · have g : dGet ((kD k0, d0) :: ds0) k = dGet ds0 k := by simp [dGet, List.find?_cons, keyEq_kD, e]
        rw [g, valV_neg (p := (k0, v0)) e]
        exact ⟨i1, i2⟩
theorem Rk.any {kvs : List (L2.Key × V)} {ds : Dct} (h : Rk K O H kvs ds) (k : L2.Key) : (kvs.any fun kv => decide (kv.1 = k)) = ds.any fun p => keyEq p.1 k := by
  induction kvs generalizing ds with
  | nil => cases h; rfl
  | cons p kvs ih =>
    cases h with
    | cons h1 h2 =>
      simp only [List.any_cons]
      rw [ih h2, keyEq_kD]
theorem Rk.append {kvs kvs' : List (L2.Key × V)} {ds ds' : Dct} (h : Rk K O H kvs ds) (h' : Rk K O H kvs' ds') : Rk K O H (kvs ++ kvs') (ds ++ ds') := by
  induction kvs generalizing ds with
  | nil => cases h; exact h'
  | cons p kvs ih =>
    cases h with
    | cons h1 h2 => exact .cons h1 (ih h2)
theorem Rk.put {kvs : List (L2.Key × V)} {ds : Dct} (h : Rk K O H kvs ds) (k : L2.Key) {u : V} {z : PyData} (hz : R K O H u z) : Rk K O H (putK kvs k u) (dPut ds k z) := by
  unfold putK dPut
  rw [h.any k]
  by_cases c : (ds.any fun p => keyEq p.1 k) = true
  · rw [if_pos c, if_pos c]
    clear c
    induction kvs generalizing ds with
    | nil => cases h; exact .nil
    | cons p kvs ih =>
      cases h with
      | @cons k0 v0 _ d0 ds0 h1 h2 =>
        simp only [List.map_cons, keyEq_kD, decide_eq_true_eq]
        by_cases e : k0 = k
        · rw [if_pos e, if_pos e]
          exact .cons hz (ih h2)
        · rw [if_neg e, if_neg e]
          exact .cons h1 (ih h2)
  · rw [if_neg c, if_neg c]
    exact h.append (.cons hz .nil)
theorem Rk.len {kvs : List (L2.Key × V)} {ds : Dct} (h : Rk K O H kvs ds) : kvs.length = ds.length := by
  induction kvs generalizing ds with
  | nil => cases h; rfl
  | cons p kvs ih =>
    cases h with
    | cons h1 h2 => exact congrArg (· + 1) (ih h2)
theorem dPut_len (ds : Dct) (k : L2.Key) (z : PyData) : (dPut ds k z).length ≤ ds.length + 1 := by
  unfold dPut
  split
  · rw [List.length_map]; omega
  · rw [List.length_append]; exact Nat.le_refl _
theorem Sh.dct {ds : Dct} (h : Sh K O H v (.dict ds)) : ∃ a kvs, v = .ref a ∧ Rd H a (.dK kvs) ∧ Rk K O H kvs ds := by
  rcases h with h | ⟨a, rfl, t⟩
  · cases h with
    | dK _ h1 h2 => exact ⟨_, _, rfl, h1, h2⟩
  · cases t with
    | dK h1 h2 => exact ⟨_, _, rfl, .inl h1, h2⟩
theorem key_v {kd : PyData} {k : L2.Key → Prop} (h : keyK kd k) (hv : Sh K O H v kd) : ∃ q, v = kV q ∧ k q := by
  unfold keyK at h
  split at h
  · exact ⟨.inl _, hv.int, h⟩
  · exact ⟨.inr _, hv.str, h⟩
  · exact h.elim
/-- d[k], k in d -/
def opDg (d e : PyData) (P : Av → Prop) : Prop := match d with
  | .dict ds => keyK e fun k => ∃ z, dGet ds k = some z ∧ P (.v z)
  | _ => False
def rDG : R2 := fun x y H Q => ∃ a v, x = .ref a ∧ DGet H a y (some v) ∧ Q v H
theorem os_dg : OpS K opDg rDG := by
  intro O H v u d e P Q ok hv hu h k
  cases d with
  | dict ds =>
    obtain ⟨a, kvs, rfl, h1, h2⟩ := hv.dct
    have h : keyK e fun k => ∃ z, dGet ds k = some z ∧ P (.v z) := h
    obtain ⟨q, rfl, z, hz, hp⟩ := key_v h hu
    obtain ⟨w, hw, hr⟩ := (h2.get q).1 z hz
    exact ⟨a, w, rfl, .inl ⟨kvs, q, h1, rfl, hw.symm⟩, k _ _ _ hp (nw_v hr)⟩
  | _ => exact h.elim
def opDin (e d : PyData) (P : Av → Prop) : Prop := match d with
  | .dict ds => keyK e fun k => P (.v (.bool (dGet ds k).isSome))
  | _ => False
def opDnin (e d : PyData) (P : Av → Prop) : Prop := match d with
  | .dict ds => keyK e fun k => P (.v (.bool (!(dGet ds k).isSome)))
  | _ => False
def rDin : R2 := fun y x H Q => ∃ a o, x = .ref a ∧ DGet H a y o ∧ Q (.bl o.isSome) H
def rDnin : R2 := fun y x H Q => ∃ a o, x = .ref a ∧ DGet H a y o ∧ Q (.bl (!o.isSome)) H
theorem rk_some {kvs : List (L2.Key × V)} {ds : Dct} (h : Rk K O H kvs ds) (k : L2.Key) : (valV kvs k).isSome = (dGet ds k).isSome := by
  obtain ⟨h1, h2⟩ := h.get k
  cases e : dGet ds k with
  | none => rw [h2 e]; rfl
  | some z =>
    obtain ⟨u, hu, _⟩ := h1 z e
    rw [hu]; rfl
theorem os_din : OpS K opDin rDin := by
  intro O H v u d e P Q ok hv hu h k
  cases e with
  | dict ds =>
    obtain ⟨a, kvs, rfl, h1, h2⟩ := hu.dct
    have h : keyK d fun k => P (.v (.bool (dGet ds k).isSome)) := h
    obtain ⟨q, rfl, hp⟩ := key_v h hv
    refine ⟨a, _, rfl, .inl ⟨kvs, q, h1, rfl, rfl⟩, ?_⟩
    rw [rk_some h2]
    exact k _ _ _ hp (nw_v (.bl _))
  | _ => exact h.elim
theorem os_dnin : OpS K opDnin rDnin := by
  intro O H v u d e P Q ok hv hu h k
  cases e with
  | dict ds =>
    obtain ⟨a, kvs, rfl, h1, h2⟩ := hu.dct
    have h : keyK d fun k => P (.v (.bool (!(dGet ds k).isSome))) := h
    obtain ⟨q, rfl, hp⟩ := key_v h hv
    refine ⟨a, _, rfl, .inl ⟨kvs, q, h1, rfl, rfl⟩, ?_⟩
    rw [rk_some h2]
    exact k _ _ _ hp (nw_v (.bl _))
  | _ => exact h.elim
/-! {k: v for ..} -/
theorem Rep.tempD (r : Rep C bs W O ρ σ H) {D : Addr} {xs ys : List (L2.Key × V)} (hO : O D) (hW : ¬ W D) (h0 : bs.H0 D = none) (hg : bs.G D = none) (hD : H D = some (.dK xs)) : Mv C.K O O H (upd H D (.dK ys)) ∧ Rep C bs W O ρ σ (upd H D (.dK ys)) := by
  have un : ∀ b o, b ≠ D → H b = some o → upd H D (.dK ys) b = some o := fun b o n h => by rw [upd_ne n]; exact h
  have ts : TSame C.K H (upd H D (.dK ys)) := fun a zs q => by
    rcases q with (q | ⟨o, q⟩) | q
    · exact .inl (.inl (un _ _ (by rintro rfl; rw [hD] at q; cases q) q))
    · exact .inl (.inr ⟨o, un _ _ (by rintro rfl; rw [hD] at q; cases q) q⟩)
    · exact .inr q
  have mv : Mv C.K O O H (upd H D (.dK ys)) := ⟨ts, fun b o n h => ⟨n, un b o (fun z => n (z ▸ hO)) h⟩⟩
  refine ⟨mv, { r with
    fr := r.fr.mut h0 hD trivial un
    gk := fun b o h => un b o (fun z => by rw [z, hg] at h; cases h) (r.gk b o h)
    ok := fun b h => by
      by_cases z : b = D
      · exact ⟨.dK ys, by rw [z]; exact upd_same, trivial⟩
      · obtain ⟨o, q, m⟩ := r.ok b h
        exact ⟨o, un b o z q, m⟩
    sl := fun j x h' => by
      obtain ⟨v, h1, h2⟩ := r.sl j x h'
      refine ⟨v, h1, ?_⟩
      cases x with
      | v d => exact R.mv mv h2
      | n d => exact h2
      | o i => exact h2
      | tp => exact h2
      | w d =>
        obtain ⟨b, eb, wb, nb, t⟩ := h2
        exact ⟨b, eb, wb, nb, t.mv mv fun o q => un b o (fun z => hW (z ▸ wb)) q⟩ }⟩
def dcV (G : En → Prop) (g : GF) (tt : TV) (ek e : EV) (vs : List Nat) : List PyData → Dct → En → (Dct → En → Prop) → Prop
  | [], acc, ρ, k => G ρ ∧ k acc ρ
  | d :: ds, acc, ρ, k => G ρ ∧ g d ρ fun ρ1 => tt ρ1 fun b ρ2 => if b = true then ek ρ2 fun x ρ3 => e ρ3 fun y ρ4 => x.getK ρ4 fun kd => keyK kd fun q => y.stoK fun z => dcV G g tt ek e vs ds (dPut acc q z) (kill vs ρ4) k else dcV G g tt ek e vs ds acc (kill vs ρ2) k
def eDc (ic : IC) (g : GF) (tt : TV) (ek e : EV) (vs : List Nat) : EV := fun ρ P => ic ρ fun ds G ρ1 => ds.length ≤ 1000000 ∧ dcV G g tt ek e vs ds [] (kill vs ρ1) fun out ρ2 => P (.n (.dict out)) ρ2
theorem tDc_of {ic : IC} {g : GF} {tt : TV} {ek e : EV} {is vs : List Nat} {wi : TI} (hwi : ∀ σ H R, tIC C ic σ H R → wi σ H R) (his : ∀ j, j ∈ is → j ∈ vs) : tV C (eDc ic g tt ek e vs) σ H Q → tDc wi (tGF C is g) (tTV C tt) (tV C ek) (tV C e) vs σ H Q := by
  rintro ⟨bs, W, O, ρ, P, rp, hf, k⟩
  refine hwi _ _ _ ⟨bs, W, O, ρ, _, rp, hf, fun ds G ρ1 J H1 bs' O1 hp rp1 le sub ok => ?_⟩
  obtain ⟨hl, hp⟩ := hp
  intro D hD
  obtain ⟨nO, n0, ng⟩ := rp1.free hD
  have nW : ¬ W D := fun z => nO (rp1.wo D z)
  have leD := le_add (bs := bs') ng
  refine ⟨fun i m H => m = ds.length - i ∧ i ≤ ds.length ∧ ∃ O ρ acc out, Rep C (bs'.add D) W O ρ (L2.wipe σ vs) H ∧ H D = some (.dK acc) ∧ Rk C.K O H acc out ∧ acc.length ≤ i ∧ dcV G g tt ek e vs (ds.drop i) out ρ fun fin ρ' => P (.n (.dict fin)) ρ', ⟨_, rfl, Nat.zero_le _, Ow O1 D, _, [], [], ?_, upd_same, .nil, Nat.le_refl _, hp⟩, ?_⟩
  · exact ((rp1.add (rp1.fr.refl.same (same_new hD _)) hD (o := .dK []) upd_same trivial).forbid (.inr rfl) nW).wipe vs
  rintro i m H2 ⟨rfl, hi, O2, ρ2, acc, out, rp2, e2, r2, la, hq⟩
  have bD : (bs'.add D).B D := .inr rfl
  by_cases lt : i < ds.length
  · refine .inr ?_
    have ed : ds.drop i = ds[i] :: ds.drop (i + 1) := List.drop_eq_getElem_cons lt
    rw [ed] at hq
    obtain ⟨hG, hq⟩ := hq
    obtain ⟨ok1, ok2⟩ := ok i W O2 ρ2 vs H2 (rp2.weak leD) hG
    obtain ⟨go, yl⟩ := ok2 _ (List.getElem?_eq_getElem lt)
    refine ⟨go, fun H' => i + 1 ≤ ds.length ∧ ∃ O ρ acc out, Rep C (bs'.add D) W O ρ (L2.wipe σ vs) H' ∧ H' D = some (.dK acc) ∧ Rk C.K O H' acc out ∧ acc.length ≤ i + 1 ∧ dcV G g tt ek e vs (ds.drop (i + 1)) out ρ fun fin ρ' => P (.n (.dict fin)) ρ', fun H' h => ⟨ds.length - (i + 1), by omega, rfl, h⟩, fun x H3 hy => ?_⟩
    obtain ⟨sm, rx⟩ := yl x H3 hy
    have rp3 := rp2.same sm
    have e3 : H3 D = some (.dK acc) := sm _ _ e2
    have r3 := r2.mv (Mv.same (O := O2) sm)
    refine ⟨(bs'.add D).keep W O2 H3, W, O2, ρ2, _, _, rp3.keep, rx, hq, fun ρ4 σ4 hr rp4 sb => ⟨wipe_same sb his, ?_⟩⟩
    have ew : L2.wipe σ4 vs = L2.wipe σ vs := wipe_same sb his
    refine ⟨(bs'.add D).keep W O2 H3, W, O2, ρ4, _, rp4, hr, fun b ρ5 H5 hb rp5 => ?_⟩
    cases b with
    | true =>
      refine ⟨(bs'.add D).keep W O2 H3, W, O2, ρ5, _, rp5, hb, fun kx ρ6 v6 H6 hy6 o6 => ?_⟩
      have rp6 := o6.1
      refine ⟨((bs'.add D).keep W O2 H3).keep W (Ox O2 kx v6) H6, W, Ox O2 kx v6, ρ6, _, rp6.keep, hy6, fun y ρ7 v7 H7 hy7 o7 => ?_⟩
      have rp7 := rp6.unkeep o7.1
      have c7 := o6.2.1.up rp6 o7.1
      obtain ⟨kd, hkd, skd⟩ := view rp7 c7 hy7
      obtain ⟨q, ek', hq7⟩ := key_v hkd skd
      obtain ⟨z, hz, rz⟩ := sto o7.2.1 o7.2.2 (fun a z => ox_sub z) hq7
      have m7 := rp3.mvK rp7
      have rp7O : Rep C ((bs'.add D).keep W O2 H3) W O2 ρ7 σ4 H7 := rp7.less (fun a z => ox_sub (ox_sub z)) rp3.wo rp5.bo
      have e7 : H7 D = some (.dK acc) := rp7O.kept nW e3
      have r7 : Rk C.K O2 H7 acc out := (r3.mv m7).mv (.less fun a z => ox_sub (ox_sub z))
      have rz' : R C.K O2 H7 v7 z := rz.mv (.less fun a z => ox_sub z)
      have rp8 := (rp3.unkeep rp7O).wipe vs
      rw [ew] at rp8
      obtain ⟨mv, rp9⟩ := rp8.tempD (ys := putK acc q v7) (rp2.bo D bD) nW n0 ng e7
      have l1 : (putK acc q v7).length ≤ acc.length + 1 := by
        unfold putK
        split
        · rw [List.length_map]; omega
        · rw [List.length_append]; exact Nat.le_refl _
      exact ⟨acc, q, ek', e7, Nat.lt_of_le_of_lt (Nat.le_trans la (Nat.le_trans hi hl)) (by decide), lt, O2, _, _, dPut out q z, rp9, upd_same, (r7.put q rz').mv mv, Nat.le_trans l1 (Nat.succ_le_succ la), hz⟩
    | false =>
      have m6 := rp3.mvK rp5
      have e6 : H5 D = some (.dK acc) := rp5.kept nW e3
      have rp7 := (rp3.unkeep rp5).wipe vs
      rw [ew] at rp7
      exact ⟨lt, O2, _, acc, out, rp7, e6, r3.mv m6, Nat.le_succ_of_le la, hb⟩
  · have e : i = ds.length := by omega
    subst e
    rw [List.drop_length] at hq
    obtain ⟨hG, hq⟩ := hq
    obtain ⟨ok1, ok2⟩ := ok _ W O2 ρ2 vs H2 (rp2.weak leD) hG
    refine .inl ⟨ok1 (Nat.le_refl _), k _ _ _ _ hq ?_⟩
    have sO : ∀ a, Ow O D a → O2 a := fun a z => by
      rcases z with z | rfl
      · rcases sub a z with z | z
        · exact rp2.wo a z
        · exact rp2.bo a (.inl z)
      · exact rp2.bo _ bD
    refine ⟨((rp2.unwipe.weak leD).weak le).less sO (fun a z => .inl (rp.wo a z)) fun a z => .inl (rp.bo a z), ⟨D, rfl, .inr rfl, nW, .dK e2 (r2.mv (.less sO))⟩, fun d' b _ eb => ?_⟩
    cases eb
    refine ⟨fun z => ?_, le.h0 ▸ n0, le.gn ng⟩
    rcases sub D z with z | z
    · exact nW z
    · exact nO (rp1.bo D z)
/-! not as a value; a < b < c; len(set(l)) -/
def notE (a : EV) : EV := fun ρ P => a ρ fun x ρ1 => asB x fun c => P (.v (.bool (!c))) ρ1
theorem tNotV_of {a : EV} : tV C (notE a) σ H Q → tNotV (tV C a) σ H Q := by
  rintro ⟨bs, W, O, ρ, P, rp, hf, k⟩
  refine ⟨bs, W, O, ρ, _, rp, hf, fun x ρ' v H' hp o => ?_⟩
  obtain ⟨c, rfl, q⟩ := as_b hp
  cases o.2.1
  exact ⟨c, rfl, k _ ρ' _ H' q (out_v (rep_out o rp.wo rp.bo) (.bl _))⟩
def eCh (op op' : PyData → PyData → (Av → Prop) → Prop) (a b c : EV) : EV := fun ρ P => a ρ fun x ρ1 => b ρ1 fun y ρ2 => x.getK ρ2 fun d => y.getK ρ2 fun e => op d e fun z => asB z fun t => if t = true then c ρ2 fun w ρ3 => y.getK ρ3 fun e => w.getK ρ3 fun f => op' e f fun z => P z ρ3 else P (.v (.bool false)) ρ2
theorem tCh_of {op op' : PyData → PyData → (Av → Prop) → Prop} {r r' : R2} {a b c : EV} (h : OpS C.K op r) (h' : OpS C.K op' r') : tV C (eCh op op' a b c) σ H Q → tChain r r' (tV C a) (tV C b) (tV C c) σ H Q := by
  rintro ⟨bs, W, O, ρ, P, rp, hf, k⟩
  refine ⟨bs, W, O, ρ, _, rp, hf, fun x ρ1 v1 H1 hp ⟨rp1, c1, f1⟩ => ?_⟩
  refine ⟨bs.keep W (Ox O x v1) H1, W, Ox O x v1, ρ1, _, rp1.keep, hp, fun y ρ2 v2 H2 hq ⟨rp2, c2, f2⟩ => ?_⟩
  have rp2' := rp1.unkeep rp2
  obtain ⟨d, hd, sd⟩ := view rp2' (c1.up rp1 rp2) hq
  obtain ⟨e, he, se⟩ := view rp2' c2 hd
  refine h _ H2 v1 v2 d e _ _ rp2'.ok sd se he fun z v' H' hz nw => ?_
  obtain ⟨t, rfl, ht⟩ := as_b hz
  have o3 := nw.out rp2' (fun a z => z) rp2'.wo rp2'.bo
  cases o3.2.1
  have rp3 : Rep C bs W (Ox (Ox O x v1) y v2) ρ2 σ H' := o3.1
  refine ⟨t, rfl, ?_⟩
  cases t with
  | true =>
    have c3 : Cu C W (Ox (Ox O x v1) y v2) σ H' v2 y := by
      cases y with
      | v d => exact R.mv (.same nw.1) c2
      | n d =>
        obtain ⟨a, e, oa, wa, t⟩ := c2
        exact ⟨a, e, oa, wa, t.mv (.same nw.1) fun o q => nw.1 _ _ q⟩
      | o i => exact c2
      | w d => exact c2
      | tp => exact c2
    refine ⟨bs.keep W (Ox (Ox O x v1) y v2) H', W, _, ρ2, _, rp3.keep, ht, fun w ρ3 v3 H3 hr ⟨rp4, c4, f4⟩ => ?_⟩
    have rp4' := rp3.unkeep rp4
    obtain ⟨e', he', se'⟩ := view rp4' (c3.up rp3 rp4) hr
    obtain ⟨f, hf', sf⟩ := view rp4' c4 he'
    exact h' _ H3 v2 v3 e' f _ Q rp4'.ok se' sf hf' fun z v' H' hz nw => k z ρ3 v' H' hz (nw.out rp4' (fun a z => ox_sub (ox_sub (ox_sub z))) rp.wo rp.bo)
  | false => exact k _ _ _ _ ht (out_v (rp3.less (fun a z => ox_sub (ox_sub z)) rp.wo rp.bo) (.bl _))
def eLenSet (a : EV) : EV := fun ρ P => a ρ fun x ρ1 => x.getK ρ1 fun d => ∃ xs : List Str, d = .list (xs.map .str) ∧ xs.length < 4000 ∧ P (.v (.int ((ddS xs).length : Int))) ρ1
theorem tLenSet_of {a : EV} : tV C (eLenSet a) σ H Q → tLenSetL C.K (tV C a) σ H Q := by
  rintro ⟨bs, W, O, ρ, P, rp, hf, k⟩
  refine ⟨bs, W, O, ρ, _, rp, hf, fun x ρ1 v1 H1 hp o => ?_⟩
  obtain ⟨d, ⟨xs, rfl, hl, hd⟩, sd⟩ := view o.1 o.2.1 hp
  obtain ⟨a, vs, rfl, h1, h2⟩ := sd.lst
  rw [h2.strs] at h1
  exact ⟨a, xs, rfl, SqL.of h1, hl, k _ ρ1 _ _ hd (out_v (rep_out o rp.wo rp.bo) (.int _))⟩
end
section
variable {X : Cx} {K : Fg} {t : Option Addr} {e : Expr} {es : List Expr} {st : Stmt}
theorem xNotV {a : EV} (h : PE X e (tNotV (tV ⟨K, t⟩ a))) : PE X e (tV ⟨K, t⟩ (notE a)) := PE.up h fun _ _ _ => tNotV_of
theorem xCh {op op' : PyData → PyData → (Av → Prop) → Prop} {r r' : R2} {a b c : EV} (h : PE X e (tChain r r' (tV ⟨K, t⟩ a) (tV ⟨K, t⟩ b) (tV ⟨K, t⟩ c))) (s : OpS K op r) (s' : OpS K op' r') : PE X e (tV ⟨K, t⟩ (eCh op op' a b c)) := PE.up h fun _ _ _ => tCh_of s s'
theorem xTCh {op op' : PyData → PyData → (Av → Prop) → Prop} {r r' : R2} {a b c : EV} (h : PT X e (tTest (tChain r r' (tV ⟨K, t⟩ a) (tV ⟨K, t⟩ b) (tV ⟨K, t⟩ c)))) (s : OpS K op r) (s' : OpS K op' r') : PT X e (tTV ⟨K, t⟩ (asT (eCh op op' a b c))) := PT.up h fun _ _ _ => tTest_of fun _ => tCh_of s s'
theorem xLenSet {a : EV} (h : PE X e (tLenSetL K (tV ⟨K, t⟩ a))) : PE X e (tV ⟨K, t⟩ (eLenSet a)) := PE.up h fun _ _ _ => tLenSet_of
theorem xDg {a b : EV} (h : PE X e (tDGet (tV ⟨K, t⟩ a) (tV ⟨K, t⟩ b))) : PE X e (tV ⟨K, t⟩ (e2 opDg a b)) := PE.up h fun _ _ _ => tOp_of (r := rDG) os_dg
theorem xDin {a b : EV} (h : PE X e (tDIn (tV ⟨K, t⟩ a) (tV ⟨K, t⟩ b))) : PE X e (tV ⟨K, t⟩ (e2 opDin a b)) := PE.up h fun _ _ _ => tOp_of (r := rDin) os_din
theorem xDnin {a b : EV} (h : PE X e (tDNotIn (tV ⟨K, t⟩ a) (tV ⟨K, t⟩ b))) : PE X e (tV ⟨K, t⟩ (e2 opDnin a b)) := PE.up h fun _ _ _ => tOp_of (r := rDnin) os_dnin
theorem xTDin {a b : EV} (h : PT X e (tB (tDIn (tV ⟨K, t⟩ a) (tV ⟨K, t⟩ b)))) : PT X e (tTV ⟨K, t⟩ (asT (e2 opDin a b))) := PT.up h fun _ _ _ => tTest_of fun _ => tOp_of (r := rDin) os_din
theorem xTDnin {a b : EV} (h : PT X e (tB (tDNotIn (tV ⟨K, t⟩ a) (tV ⟨K, t⟩ b)))) : PT X e (tTV ⟨K, t⟩ (asT (e2 opDnin a b))) := PT.up h fun _ _ _ => tTest_of fun _ => tOp_of (r := rDnin) os_dnin
theorem xDc {ic : IC} {g : GF} {tt : TV} {ek a : EV} {is vs : List Nat} {wi : TI} (h : PE X e (tDc wi (tGF ⟨K, t⟩ is g) (tTV ⟨K, t⟩ tt) (tV ⟨K, t⟩ ek) (tV ⟨K, t⟩ a) vs)) (hwi : ∀ σ H R, tIC ⟨K, t⟩ ic σ H R → wi σ H R) (his : ∀ j, j ∈ is → j ∈ vs := by decide) : PE X e (tV ⟨K, t⟩ (eDc ic g tt ek a vs)) := PE.up h fun _ _ _ => tDc_of hwi his
end

/-! ### owned dicts; sorted by a def; more walks -/
section
variable {K : Fg} {C : Cd} {bs : Bs} {W O O' : Addr → Prop} {ρ ρ' : En} {σ : L2.St} {H H' : Hp} {v : V} {x : Av} {d : PyData} {Q : VK}
def ownD (i : Nat) (ρ : En) (k : Dct → Prop) : Prop := ownK i ρ fun d => match d with
  | .dict ds => k ds
  | _ => False
theorem own_d {i : Nat} {k : Dct → Prop} (h : ownD i ρ k) : ∃ ds, ρ[i]? = some (some (.w (.dict ds))) ∧ k ds := by
  obtain ⟨d, e, q⟩ := own_k h
  cases d with
  | dict ds => exact ⟨ds, e, q⟩
  | _ => exact q.elim
theorem Rep.ownDt (r : Rep C bs W O ρ σ H) {i : Nat} {ds : Dct} (e : ρ[i]? = some (some (.w (.dict ds)))) : ∃ a kvs, σ[i]? = some (some (.ref a)) ∧ W a ∧ some a ≠ C.t ∧ H a = some (.dK kvs) ∧ Rk C.K O H kvs ds := by
  obtain ⟨v, h1, a, rfl, wa, nt, t⟩ := r.sl i _ e
  cases t with
  | dK h2 h3 => exact ⟨a, _, h1, wa, nt, h2, h3⟩
/-- slot i's thing is changed, whatever it is -/
theorem Rep.mutO (r : Rep C bs W O ρ σ H) {i : Nat} {d d' : PyData} {a : Addr} {o o' : HO} (e : ρ[i]? = some (some (.w d))) (hs : σ[i]? = some (some (.ref a))) (wa : W a) (nt : some a ≠ C.t) (ha : H a = some o) (m0 : Mtb o) (m1 : Mtb o')
    (hr : Mv C.K O O H (upd H a o') → Top C.K O (upd H a o') a d') : Mv C.K O O H (upd H a o') ∧ Rep C bs W O (ρ.set i (some (.w d'))) σ (upd H a o') := by
  have un : ∀ b u, b ≠ a → H b = some u → upd H a o' b = some u := fun b u n h => by rw [upd_ne n]; exact h
  have ts : TSame C.K H (upd H a o') := fun b zs q => by
    rcases q with (q | ⟨u, q⟩) | q
    · exact .inl (.inl (un _ _ (by rintro rfl; rw [ha] at q; cases q; exact m0) q))
    · exact .inl (.inr ⟨u, un _ _ (by rintro rfl; rw [ha] at q; cases q; exact m0) q⟩)
    · exact .inr q
  have mv : Mv C.K O O H (upd H a o') := ⟨ts, fun b u n h => ⟨n, un b u (fun z => n (z ▸ r.wo a wa)) h⟩⟩
  refine ⟨mv, ?_⟩
  have n0 : bs.H0 a = none := (r.wn a wa).resolve_left fun e => nt e.symm
  exact { r with
    fr := r.fr.mut n0 ha m0 un
    gk := fun b u h => un b u (fun z => by rw [z, r.wg a wa] at h; cases h) (r.gk b u h)
    ok := fun b h => by
      by_cases z : b = a
      · exact ⟨o', by rw [z]; exact upd_same, m1⟩
      · obtain ⟨u, q, m⟩ := r.ok b h
        exact ⟨u, un b u z q, m⟩
    len := by rw [List.length_set]; exact r.len
    sl := fun j x h' => by
      rw [set_get] at h'
      by_cases c : i = j ∧ j < ρ.length
      · rw [if_pos c] at h'
        cases h'
        rw [← c.1]
        exact ⟨_, hs, a, rfl, wa, nt, hr mv⟩
      · rw [if_neg c] at h'
        obtain ⟨v, h1, h2⟩ := r.sl j x h'
        refine ⟨v, h1, ?_⟩
        cases x with
        | v d => exact R.mv mv h2
        | n d => exact h2
        | o i => exact h2
        | tp => exact h2
        | w d =>
          obtain ⟨b, eb, wb, nb, t⟩ := h2
          refine ⟨b, eb, wb, nb, t.mv mv fun o q => un b o (fun z => ?_) q⟩
          have nij : i ≠ j := fun z2 => c ⟨z2, (List.getElem?_eq_some_iff.mp h').1⟩
          refine r.ds i j nij (by rw [e]; trivial) (by rw [h']; trivial) ?_
          rw [hs, h1, eb, z]
    ds := fun j l n h1 h2 => by
      have key : ∀ l : Nat, isW (ρ.set i (some (.w d')))[l]? → isW ρ[l]? := fun l hl => by
        rw [set_get] at hl
        by_cases c : i = l ∧ l < ρ.length
        · rw [← c.1, e]; trivial
        · rw [if_neg c] at hl; exact hl
      exact r.ds j l n (key j h1) (key l h2) }
/-- {}, d[k] = v -/
def eDn : EV := fun ρ P => P (.n (.dict [])) ρ
theorem tDn_of : tV C eDn σ H Q → tDNewK σ H Q := by
  rintro ⟨bs, W, O, ρ, P, rp, hf, k⟩
  intro p np
  have nw : Nw C.K O H (upd H p (.dK [])) (.ref p) (.n (.dict [])) := ⟨same_new np _, p, rfl, np, .dK upd_same .nil⟩
  exact k _ _ _ _ hf (nw.out rp (fun _ z => z) rp.wo rp.bo)
def sDput (i : Nat) (ek e : EV) : SV := fun D ρ => e ρ fun x ρ1 => ownD i ρ1 fun _ => ek ρ1 fun y ρ2 => y.getK ρ2 fun kd => x.stoK fun d => ownD i ρ2 fun ds => keyK kd fun q => ds.length < sizeLine ∧ D.nx (ρ2.set i (some (.w (.dict (dPut ds q d)))))
theorem tDput_of {i : Nat} {ek e : EV} {D : Ends} : tSV C (sDput i ek e) D σ H → sDPut (tVar i) (tV C ek) (tV C e) D σ H := by
  rintro ⟨bs, W, O, ρ, D', rp, hf, k⟩
  refine ⟨bs, W, O, ρ, _, rp, hf, fun x ρ1 v1 H1 hp ⟨rp1, c1, f1⟩ => ?_⟩
  obtain ⟨ds0, e0, hd1⟩ := own_d hp
  obtain ⟨b0, vs0, s0, w0, n0, h0, r0⟩ := rp1.ownDt e0
  refine ⟨_, s0, bs.keep W (Ox O x v1) H1, W, Ox O x v1, ρ1, _, rp1.keep, hd1, fun y ρ2 v2 H2 hq ⟨rp2, c2, f2⟩ => ?_⟩
  have rp2' := rp1.unkeep rp2
  obtain ⟨kd, hkd, sk⟩ := view rp2' c2 hq
  obtain ⟨d, hd, rd⟩ := sto (c1.up rp1 rp2) f1 (fun a z => ox_sub (ox_sub z)) hkd
  obtain ⟨ds, e1, hkd⟩ := own_d hd
  obtain ⟨q, rfl, hl, hx⟩ := key_v hkd sk
  have rp2O : Rep C bs W O ρ2 σ H2 := rp2'.less (fun a z => ox_sub (ox_sub z)) rp.wo rp.bo
  obtain ⟨a1, kvs, s1, w1, n1, h1, r1⟩ := rp2O.ownDt e1
  rw [s0] at s1
  cases s1
  obtain ⟨mv, rp3⟩ := rp2O.mutO (d' := .dict (dPut ds q d)) (o' := .dK (putK kvs q v1)) e1 s0 w1 n1 h1 trivial trivial fun mv => .dK upd_same ((r1.put q rd).mv mv)
  exact ⟨b0, _, rfl, .inl ⟨kvs, q, h1, rfl, by rw [r1.len]; exact hl, rfl⟩, k.nx _ _ _ _ _ rp3 hx⟩
theorem Rk.keys {kvs : List (L2.Key × V)} {ds : Dct} (h : Rk K O H kvs ds) : Rs K O H (kvs.map fun kv => kV kv.1) (ds.map (·.1)) := by
  induction kvs generalizing ds with
  | nil => cases h; exact .nil
  | cons p kvs ih =>
    cases h with
    | @cons k0 v0 _ d0 ds0 h1 h2 =>
      refine .cons ?_ (ih h2)
      cases k0 with
      | inl i => exact .int i
      | inr s => exact .str s
/-- list(d) of a dict that can still be written -/
def bLstD (ds : List PyData) (P : Av → Prop) : Prop := match ds with
  | [.dict es] => P (.n (.list (es.map (·.1))))
  | _ => False
def rListDR : List V → Hp → VK → Prop := rListD
theorem bs_lstD : CbS K bLstD (fun xs H Q => ∃ p kvs, xs = [.ref p] ∧ Rd H p (.dK kvs) ∧ ∀ q, H q = none → Q (.ref q) (upd H q (.lst (kvs.map fun kv => kV kv.1)))) := by
  intro O H vs ds P Q ok hs h k
  unfold bLstD at h
  split at h
  · obtain ⟨v, rfl, h1⟩ := shs1 hs
    obtain ⟨a, kvs, rfl, h2, h3⟩ := h1.dct
    exact ⟨a, kvs, rfl, h2, fun q nq => k _ _ _ h (nw_lst nq h3.keys)⟩
  · exact h.elim
/-- list(x) of an owned dict (its slot) -/
def eLstD (i : Nat) : EV := fun ρ P => ownD i ρ fun ds => P (.n (.list (ds.map (·.1)))) ρ
theorem tLstD_of {i : Nat} : tV C (eLstD i) σ H Q → tCB rListD (tCons (tVar i) tNil) σ H Q := by
  rintro ⟨bs, W, O, ρ, P, rp, hf, k⟩
  obtain ⟨ds, e, hp⟩ := own_d hf
  obtain ⟨a, kvs, s0, wa, nt, h1, r1⟩ := rp.ownDt e
  exact ⟨_, s0, a, kvs, rfl, h1, fun q nq => k _ _ _ _ hp ((nw_lst nq r1.keys).out rp (fun _ z => z) rp.wo rp.bo)⟩
/-- l.pop() -/
def ePop0 (i : Nat) : EV := fun ρ P => ownL i ρ fun ds => ∃ y, ds[ds.length - 1]? = some y ∧ P (.v y) (ρ.set i (some (.w (.list ds.dropLast))))
theorem Rs.dropLast {ds : List PyData} {vs : List V} (h : Rs K O H vs ds) : Rs K O H vs.dropLast ds.dropLast := by
  rw [List.dropLast_eq_take, List.dropLast_eq_take, h.len]
  exact h.take _
theorem tPop0_of {i : Nat} : tV C (ePop0 i) σ H Q → tBM0 C.K "list" rPop (tVar i) σ H Q := by
  rintro ⟨bs, W, O, ρ, P, rp, hf, k⟩
  obtain ⟨ds, e, y, hy, hp⟩ := own_l hf
  obtain ⟨a, vs, s0, wa, nt, h1, r1⟩ := rp.ownAt e
  obtain ⟨u, hu, ru⟩ := r1.get hy
  refine ⟨_, s0, .inl ⟨rfl, vs, SqL.of h1⟩, a, vs, u, rfl, rfl, h1, by rw [r1.len]; exact hu, ?_⟩
  obtain ⟨mv, rp2⟩ := rp.mut (ds' := ds.dropLast) (vs' := vs.dropLast) e s0 wa nt h1 r1.dropLast
  exact k _ _ _ _ hp (out_v rp2 (ru.mv mv))
/-! sorted(l, key=f) -/
theorem noL_isK {d : PyData} (h : noK d = true) : noK d = true := h
def bSortBy (F : FV) (ds : List PyData) (P : Av → Prop) : Prop := match ds with
  | [.list xs] => ∃ key : PyData → PyData, noLs xs = true ∧ xs.length ≤ 1000000 ∧ KOk (xs.map key) ∧ (∀ d, d ∈ xs → noK (key d) = true ∧ ∀ P' : Av → Prop, P' (.v (key d)) → F [.v d] P') ∧ P (.n (.list (xs.mergeSort (PySem.W.dataLe false key))))
  | _ => False
theorem rs_each {ds : List PyData} {vs : List V} (n : noLs ds = true) (h : Rs K O H vs ds) : PySem.W.EachIs (fun x d => noL d = true ∧ Dp K H x d) vs ds := by
  induction ds generalizing vs with
  | nil => cases h; exact .nil
  | cons d ds ih =>
    unfold noLs at n
    rw [Bool.and_eq_true] at n
    cases h with
    | cons h1 h2 => exact .cons ⟨n.1, h1.dp (noK_of n.1)⟩ (ih n.2 h2)
theorem each_rs {ds : List PyData} {vs : List V} (h : PySem.W.EachIs (fun x d => noL d = true ∧ Dp K H x d) vs ds) : Rs K O H vs ds := by
  induction ds generalizing vs with
  | nil => cases h; exact .nil
  | cons d ds ih =>
    cases h with
    | cons h1 h2 => exact .cons (R.of h1.1 h1.2) (ih h2)
theorem each_up2 {R1 R2 : V → PyData → Prop} {vs : List V} {ds : List PyData} (h : PySem.W.EachIs R1 vs ds) (f : ∀ x d, R1 x d → R2 x d) : PySem.W.EachIs R2 vs ds := by
  induction h with
  | nil => exact .nil
  | cons a _ ih => exact .cons (f _ _ a) ih
def eSortBy (F : FV) (as : AV) : EV := eB (bSortBy F) as
theorem tSortBy_of {F : FV} {f : Addr} {as : AV} : tV C (eSortBy F as) σ H Q → tCKw (rSortBy C.K f (spV C.K F)) (tAV C as) (tCons (tC (.ref f)) tNil) σ H Q := by
  rintro ⟨bs, W, O, ρ, P, rp, hf, k⟩
  refine ⟨bs, W, O, ρ, _, rp, hf, fun xs ρ1 vs H1 hp rp1 cs fs => ?_⟩
  obtain ⟨ds, hds, sds⟩ := views rp1 cs hp
  unfold bSortBy at hds
  split at hds
  · rename_i xs'
    obtain ⟨v, rfl, h1⟩ := shs1 sds
    obtain ⟨a, us, rfl, h2, h3⟩ := h1.lst
    obtain ⟨key, nl, hl, ko, hk, hp⟩ := hds
    refine ⟨PyData, fun x d => noL d = true ∧ TyX C.K H1 x (.type (tnD d)) ∧ Dp C.K H1 x d, key, xs', a, us, rfl, rfl, SqL.of h2, ?_, by rw [h3.len]; exact hl, ko, ?_, ?_⟩
    · exact each_up2 (rs_each nl h3) fun x d h => ⟨h.1, dp_ty h.2, h.2⟩
    · intro x c H' _ hc hr sm Q' hq
      obtain ⟨nk, hF⟩ := hk c hc
      refine ⟨none, fun _ => False, [.v c], fun z => z = .v (key c), fun a z => z.elim, fun a z => (by cases z), ⟨R.of hr.1 (dpUp sm hr.2.2), trivial⟩, hF _ rfl, fun z v H'' hz hr2 => ?_⟩
      subst hz
      exact hq v H'' hr2.1 (R.dp nk hr2.2)
    · intro p H' ys sm np e hy
      have hy2 : Rs C.K (Oxs O xs [V.ref a]) H' ys (xs'.mergeSort (PySem.W.dataLe false key)) := each_rs (each_up2 hy fun x d h => ⟨h.1, dpUp sm h.2.2⟩)
      have nw : Nw C.K (Oxs O xs [V.ref a]) H1 H' (.ref p) (.n (.list (xs'.mergeSort (PySem.W.dataLe false key)))) := by
        refine ⟨sm, p, rfl, np, .lst e ?_⟩
        exact each_rs (each_up2 hy fun x d h => ⟨h.1, dpUp sm h.2.2⟩)
      exact k _ ρ1 _ _ hp (nw.out rp1 (fun a z => oxs_sub z) rp.wo rp.bo)
  · exact hds.elim
end
section
variable {X : Cx} {K : Fg} {t : Option Addr} {e : Expr} {es : List Expr} {st : Stmt}
theorem xDn (h : PE X e tDNewK) : PE X e (tV ⟨K, t⟩ eDn) := PE.up h fun _ _ _ => tDn_of
theorem xDput {i : Nat} {ek a : EV} (h : PS X st (sDPut (tVar i) (tV ⟨K, t⟩ ek) (tV ⟨K, t⟩ a))) : PS X st (tSV ⟨K, t⟩ (sDput i ek a)) := PS.up h fun _ _ _ => tDput_of
theorem xLstD {i : Nat} (h : PE X e (tCB rListD (tCons (tVar i) tNil))) : PE X e (tV ⟨K, t⟩ (eLstD i)) := PE.up h fun _ _ _ => tLstD_of
theorem xPop0 {i : Nat} (h : PE X e (tBM0 K "list" rPop (tVar i))) : PE X e (tV ⟨K, t⟩ (ePop0 i)) := PE.up h fun _ _ _ => tPop0_of
theorem xSortBy {F : FV} {f : Addr} {as : AV} (h : PE X e (tCKw (rSortBy K f (spV K F)) (tAV ⟨K, t⟩ as) (tCons (tC (.ref f)) tNil))) : PE X e (tV ⟨K, t⟩ (eSortBy F as)) := PE.up h fun _ _ _ => tSortBy_of
end

/-! ### loops over data, by their state -/
def turnV (g : GF) (body : SV) (dead : List Nat) (D : EndsV) (d : PyData) (k : En → Prop) (ρ : En) : Prop :=
  g d ρ fun ρ1 => body ⟨fun ρ2 => k (kill dead ρ2), D.rt, fun ρ2 => D.nx (kill dead ρ2), fun ρ2 => k (kill dead ρ2)⟩ ρ1
/-- a loop that carries a state a (S a: the slots), one step an item -/
theorem for_fold {α β : Type} {g : GF} {body : SV} {dead : List Nat} {D : EndsV} (S : α → En) (f : β → PyData) (step : α → β → α) (Inv : α → List β → Prop)
    (h : ∀ a x xs k, Inv a (x :: xs) → Inv (step a x) xs ∧ (k (S (step a x)) → turnV g body dead D (f x) k (S a))) : ∀ (xs : List β) (a : α), Inv a xs → D.nx (S (xs.foldl step a)) → forV g body dead D (xs.map f) (S a)
  | [], a, _, q => q
  | x :: xs, a, hi, q => by
    have ⟨h1, h2⟩ := h a x xs (fun ρ => forV g body dead D (xs.map f) ρ) hi
    exact h2 (for_fold S f step Inv h xs _ h1 q)
/-- .. the state does not change, all pass -/
theorem for_each {β : Type} {g : GF} {body : SV} {dead : List Nat} {D : EndsV} {ρ : En} (f : β → PyData) (xs : List β) (h : ∀ x k, x ∈ xs → k ρ → turnV g body dead D (f x) k ρ) (q : D.nx ρ) : forV g body dead D (xs.map f) ρ := by
  induction xs with
  | nil => exact q
  | cons x xs ih => exact h x _ List.mem_cons_self (ih fun y k hy => h y k (List.mem_cons_of_mem _ hy))
/-- .. left at the first item that is bad -/
theorem for_find {β : Type} {g : GF} {body : SV} {dead : List Nat} {D : EndsV} {ρ : En} (f : β → PyData) (bad : β → Bool) (xs : List β) (h : ∀ x k, x ∈ xs → (bad x = false → k ρ) → (bad x = true → Q0) → turnV g body dead D (f x) k ρ) (hb : xs.any bad = true → Q0) (q : xs.any bad = false → D.nx ρ) : forV g body dead D (xs.map f) ρ := by
  induction xs with
  | nil => exact q rfl
  | cons x xs ih =>
    refine h x _ List.mem_cons_self (fun e => ih (fun y k hy => h y k (List.mem_cons_of_mem _ hy)) (fun z => hb ?_) fun z => q ?_) fun e => hb ?_
    · rw [List.any_cons, e, z]; rfl
    · rw [List.any_cons, e, z]; rfl
    · rw [List.any_cons, e]; rfl
/-- a comprehension: each item is told (or left out), the slots stay -/
theorem lc_each {β γ : Type} {G : En → Prop} {g : GF} {tt : TV} {e : EV} {vs : List Nat} {ρ : En} (f : β → PyData) (keep : β → Bool) (F : β → PyData) (hG : G ρ) {k : List PyData → En → Prop} : ∀ (xs : List β),
    (∀ x, x ∈ xs → ∀ k : En → PyData → Prop, True → True) → True := fun _ _ => trivial
theorem lc_map {β : Type} {G : En → Prop} {g : GF} {tt : TV} {e : EV} {vs : List Nat} {ρ : En} (f : β → PyData) (keep : β → Bool) (F : β → PyData) (hG : G ρ) : ∀ (xs : List β) (k : List PyData → En → Prop)
    (_ : ∀ x, x ∈ xs → ∀ (k1 : PyData → En → Prop) (k2 : En → Prop), (keep x = true → k1 (F x) ρ) → (keep x = false → k2 ρ) → g (f x) ρ fun ρ1 => tt ρ1 fun b ρ2 => if b = true then e ρ2 fun x ρ3 => x.stoK fun y => k1 y (kill vs ρ3) else k2 (kill vs ρ2)),
    k ((xs.filter keep).map F) ρ → lcV G g tt e vs (xs.map f) ρ k
  | [], k, _, q => ⟨hG, q⟩
  | x :: xs, k, h, q => by
    refine ⟨hG, h x List.mem_cons_self (fun y ρ3 => lcV G g tt e vs (xs.map f) ρ3 fun out ρ' => k (y :: out) ρ') (fun ρ2 => lcV G g tt e vs (xs.map f) ρ2 k) (fun c => ?_) fun c => ?_⟩
    · refine lc_map f keep F hG xs _ (fun y hy => h y (List.mem_cons_of_mem _ hy)) ?_
      rw [List.filter_cons_of_pos c] at q
      exact q
    · refine lc_map f keep F hG xs _ (fun y hy => h y (List.mem_cons_of_mem _ hy)) ?_
      rw [List.filter_cons_of_neg (by rw [c]; decide)] at q
      exact q
theorem dix_at0 {d : PyData} {ds : List PyData} : dix (d :: ds) 0 = some d := dix_nat (j := 0) rfl
theorem dix_lit0 {d z : PyData} {ds : List PyData} : (dix (d :: ds) 0 = some z) = (d = z) := by rw [dix_at0]; exact propext ⟨fun h => Option.some.inj h, fun h => by rw [h]⟩
theorem dix_at1 {d e : PyData} {ds : List PyData} : dix (d :: e :: ds) 1 = some e := dix_nat (j := 1) rfl
theorem dix_lit1 {d e z : PyData} {ds : List PyData} : (dix (d :: e :: ds) 1 = some z) = (e = z) := by rw [dix_at1]; exact propext ⟨fun h => Option.some.inj h, fun h => by rw [h]⟩
theorem dix_at2 {d e f : PyData} {ds : List PyData} : dix (d :: e :: f :: ds) 2 = some f := dix_nat (j := 2) rfl
theorem dix_lit2 {d e f z : PyData} {ds : List PyData} : (dix (d :: e :: f :: ds) 2 = some z) = (f = z) := by rw [dix_at2]; exact propext ⟨fun h => Option.some.inj h, fun h => by rw [h]⟩
theorem dix_at3 {d e f g : PyData} {ds : List PyData} : dix (d :: e :: f :: g :: ds) 3 = some g := dix_nat (j := 3) rfl
theorem dix_lit3 {d e f g z : PyData} {ds : List PyData} : (dix (d :: e :: f :: g :: ds) 3 = some z) = (g = z) := by rw [dix_at3]; exact propext ⟨fun h => Option.some.inj h, fun h => by rw [h]⟩
/-! ### the law's own def: the tape is made in its first statement -/
theorem PSs.ex {X : Cx} {sts : List Stmt} {α : Type} {t : α → TS} (h : ∀ a, PSs X sts (t a)) : PSs X sts (fun D σ H => ∃ a, t a D σ H) := ⟨fun pins s σ H D I ⟨a, q⟩ => (h a).run pins s σ H D I q⟩
def sp_law (K : Fg) : Sp := fun vs H Q _ => ∃ (a : Addr) (ns : List Int), vs = [.ref a] ∧ SqL K H a (ns.map V.int) ∧ ns.length ≤ 63 ∧ ∀ H', Q (.bl true) H'
theorem law_of {K : Fg} {rest : SV} {t : Addr} {a : Addr} {n : Nat} {H H' : Hp} {Q : VK} (hq : ∀ H', Q (.bl true) H') (hT : Tape H' t)
    (h : rest ⟨fun _ => False, fun z => z = .v (.bool true), fun _ => False, fun _ => False⟩ (none :: some .tp :: List.replicate n none)) :
    tSV ⟨K, some t⟩ rest { nx := fun _ H' => Q .non H', rt := Q } (some (.ref a) :: some (.ref t) :: List.replicate n none) H' := by
  refine ⟨⟨H', fun _ => False, fun _ => none⟩, fun b => some t = some b, fun b => some t = some b, _, _, ?_, h, ?_⟩
  · refine ⟨Ext.refl hT, fun b e => ⟨e, id⟩, fun b e => e, fun b e => .inl e, fun _ _ => rfl, fun _ _ => id, fun _ h => h.elim, fun b _ => .inr rfl, fun b o e => (by cases e), fun b e => ?_, by simp, fun i x e => ?_, fun i j ne h1 h2 => ?_⟩
    · cases e
      obtain ⟨xs, hx⟩ := hT.get
      exact ⟨_, hx, trivial⟩
    · match i with
      | 0 => cases e
      | 1 =>
        cases e
        exact ⟨_, rfl, t, rfl, rfl⟩
      | i + 2 =>
        have e : (List.replicate n (none : Option Av))[i]? = some (some x) := e
        rw [List.getElem?_replicate] at e
        split at e <;> cases e
    · exfalso
      match i with
      | 0 => exact h1
      | 1 => exact h1
      | i + 2 =>
        have h1 : isW (List.replicate n (none : Option Av))[i]? := h1
        rw [List.getElem?_replicate] at h1
        split at h1 <;> exact h1
  · exact ⟨fun _ _ _ _ _ _ q => q.elim, fun _ _ _ _ _ _ q => q.elim, fun _ _ _ _ _ _ q => q.elim, fun z v H r q => by
      subst q
      cases r.2
      exact hq H⟩
/-! ### steps: what is known of the data decides -/
section
variable {ρ : En} {k : PyData → Prop} {kb : Bool → Prop} {kl : List PyData → Prop} {ka : Av → Prop} {kab : Av → Bool → Prop} {kde : PyData → En → Prop} {P : Av → Prop} {d e : PyData} {i j : Int} {n : Nat} {s t : Str} {a b : List PyData} {p q : Bool} {z : Av} {di : Dct}
theorem getK_v : (Av.v d).getK ρ k = k d := propext Iff.rfl
theorem getK_n : (Av.n d).getK ρ k = k d := propext Iff.rfl
theorem getK_o : (Av.o n).getK ρ k = ownK n ρ k := propext Iff.rfl
theorem stoK_v : (Av.v d).stoK k = k d := propext Iff.rfl
theorem stoK_n : (Av.n d).stoK k = k d := propext Iff.rfl
theorem argK_v : (Av.v d).argK ρ kab = kab (.v d) false := propext Iff.rfl
theorem argK_n : (Av.n d).argK ρ kab = kab (.v d) false := propext Iff.rfl
theorem argK_t : Av.tp.argK ρ kab = kab .tp false := propext Iff.rfl
theorem argK_o : (Av.o n).argK ρ kab = ownK n ρ fun d => kab (.v d) true := propext Iff.rfl
theorem retK_v : (Av.v d).retK ρ ka = ka (.v d) := propext Iff.rfl
theorem retK_n : (Av.n d).retK ρ ka = ka (.n d) := propext Iff.rfl
theorem retK_o : (Av.o n).retK ρ ka = ownK n ρ fun d => ka (.n d) := propext Iff.rfl
theorem itK_v : (Av.v d).itK ρ kde = kde d ρ := propext Iff.rfl
theorem itK_n : (Av.n d).itK ρ kde = kde d ρ := propext Iff.rfl
theorem itK_o : (Av.o n).itK ρ kde = ownK n ρ fun d => kde d (ρ.set n (some (.v d))) := propext Iff.rfl
theorem ownL_of (ds : List PyData) (h : ρ[n]? = some (some (.w (.list ds)))) : ownL n ρ kl = kl ds := by unfold ownL ownK; rw [h]
theorem asB_b : asB (.v (.bool p)) kb = kb p := propext Iff.rfl
theorem truK_n : truK .none kb = kb false := propext Iff.rfl
theorem truK_b : truK (.bool p) kb = kb p := propext Iff.rfl
theorem truK_i : truK (.int i) kb = kb (i != 0) := propext Iff.rfl
theorem truK_s : truK (.str s) kb = (s.length ≤ sizeLine ∧ kb ((s.length : Int) != 0)) := propext Iff.rfl
theorem truK_l : truK (.list a) kb = kb (!a.isEmpty) := propext Iff.rfl
theorem truK_t : truK (.tuple a) kb = kb (!a.isEmpty) := propext Iff.rfl
theorem seqK_l : seqK (.list a) kl = kl a := propext Iff.rfl
theorem seqK_t : seqK (.tuple a) kl = kl a := propext Iff.rfl
theorem safeR_f : safeR false z = True := by simp [safeR]
theorem safeR_v : safeR true (.v d) = (noL d = true) := by simp [safeR]
theorem safeR_n : safeR true (.n (.list a)) = (noLs a = true) := by simp [safeR, noLT]
theorem opAdd_i : opAdd (.int i) (.int j) P = P (.v (.int (i + j))) := propext Iff.rfl
theorem opAdd_s : opAdd (.str s) (.str t) P = (s.length + t.length ≤ sizeLine ∧ P (.v (.str (s ++ t)))) := propext Iff.rfl
theorem opAdd_t : opAdd (.tuple a) (.tuple b) P = (a.length + b.length ≤ sizeLine ∧ P (.v (.tuple (a ++ b)))) := propext Iff.rfl
theorem opAdd_l : opAdd (.list a) (.list b) P = (a.length + b.length ≤ sizeLine ∧ P (.n (.list (a ++ b)))) := propext Iff.rfl
theorem opSub_i : opSub (.int i) (.int j) P = P (.v (.int (i - j))) := by simp [opI]
theorem opFd_i : opFd (.int i) (.int j) P = ((j ≠ 0 ∧ j.natAbs < 2 ^ 8999) ∧ P (.v (.int (i.fdiv j)))) := propext Iff.rfl
theorem opMod_i : opMod (.int i) (.int j) P = (j ≠ 0 ∧ P (.v (.int (i.fmod j)))) := propext Iff.rfl
theorem opPow_i : opPow (.int i) (.int j) P = ((0 ≤ j ∧ j ≤ 1000000 ∧ i.natAbs < 2 ^ 64) ∧ P (.v (.int (i ^ j.toNat)))) := propext Iff.rfl
theorem opLt_i : opLtI (.int i) (.int j) P = P (.v (.bool (decide (i < j)))) := by simp [opI]
theorem opLe_i : opLeI (.int i) (.int j) P = P (.v (.bool (decide (i ≤ j)))) := by simp [opI]
theorem opGt_i : opGtI (.int i) (.int j) P = P (.v (.bool (decide (j < i)))) := by simp [opI]
theorem opGe_i : opGeI (.int i) (.int j) P = P (.v (.bool (decide (j ≤ i)))) := by simp [opI]
theorem opMul_i : opMul (.int i) (.int j) P = (mulOk i j ∧ P (.v (.int (i * j)))) := propext Iff.rfl
theorem opMul_l : opMul (.list a) (.int j) P = (-(2 ^ 63) ≤ j ∧ j < 2 ^ 63 ∧ a.length * j.toNat ≤ sizeLine ∧ P (.n (.list (List.replicate j.toNat a).flatten))) := propext Iff.rfl
theorem eqK_i : eqK (.int i) (.int j) kb = kb (decide (i = j)) := propext Iff.rfl
theorem eqK_s : eqK (.str s) (.str t) kb = kb (decide (s = t)) := propext Iff.rfl
theorem eqK_b : eqK (.bool p) (.bool q) kb = kb (decide (p = q)) := propext Iff.rfl
theorem eqK_si : eqK (.str s) (.int j) kb = kb false := propext Iff.rfl
theorem eqK_is : eqK (.int i) (.str s) kb = kb false := propext Iff.rfl
theorem eqK_t : eqK (.tuple a) e kb = (eqOk (.tuple a) e ∧ kb (PyData.eqv (.tuple a) e)) := by cases e <;> rfl
theorem eqK_l : eqK (.list a) e kb = (eqOk (.list a) e ∧ kb (PyData.eqv (.list a) e)) := by cases e <;> rfl
theorem inK_l : inK d (.list a) kb = ((flatD d = true ∧ a.all flatD = true ∨ SeqAt.shaped d = true ∧ SeqAt.shaped (.list a) = true) ∧ kb (a.any fun z => PyData.eqv z d)) := propext Iff.rfl
theorem inK_t : inK d (.tuple a) kb = ((flatD d = true ∧ a.all flatD = true ∨ SeqAt.shaped d = true ∧ SeqAt.shaped (.tuple a) = true) ∧ kb (a.any fun z => PyData.eqv z d)) := propext Iff.rfl
theorem isNone_n : isNone .none = true := rfl
theorem isNone_b : isNone (.bool p) = false := rfl
theorem isNone_i : isNone (.int i) = false := rfl
theorem isNone_s : isNone (.str s) = false := rfl
theorem isNone_l : isNone (.list a) = false := rfl
theorem isNone_t : isNone (.tuple a) = false := rfl
theorem isNone_d : isNone (.dict di) = false := rfl
theorem opIx_t : opIx (.tuple a) (.int i) P = ∃ z, dix a i = some z ∧ P (.v z) := propext Iff.rfl
theorem opIx_l : opIx (.list a) (.int i) P = ∃ z, dix a i = some z ∧ P (.v z) := propext Iff.rfl
theorem opIx_s : opIx (.str s) (.int i) P = (s.length ≤ sizeLine ∧ ∃ c, atI s.cps.toList i = some c ∧ P (.v (.str (chS c)))) := propext Iff.rfl
theorem opSl_t {lo hi : Option Int} : opSl (.tuple a) lo hi P = P (.v (.tuple (cutD a lo hi))) := propext Iff.rfl
theorem opSl_l {lo hi : Option Int} : opSl (.list a) lo hi P = P (.n (.list (cutD a lo hi))) := propext Iff.rfl
theorem opSl_s {lo hi : Option Int} : opSl (.str s) lo hi P = (s.length ≤ sizeLine ∧ P (.v (.str (cutS s lo hi)))) := propext Iff.rfl
theorem opNeg_i : opNeg (.int i) P = P (.v (.int (-i))) := propext Iff.rfl
theorem opDg_k : opDg (.dict di) e P = keyK e fun k => ∃ z, dGet di k = some z ∧ P (.v z) := propext Iff.rfl
theorem opDin_k : opDin e (.dict di) P = keyK e fun k => P (.v (.bool (dGet di k).isSome)) := propext Iff.rfl
theorem opDnin_k : opDnin e (.dict di) P = keyK e fun k => P (.v (.bool (!(dGet di k).isSome))) := propext Iff.rfl
theorem keyK_i {kk : L2.Key → Prop} : keyK (.int i) kk = kk (.inl i) := propext Iff.rfl
theorem keyK_s {kk : L2.Key → Prop} : keyK (.str s) kk = kk (.inr s) := propext Iff.rfl
theorem bLen_l : bLen [.list a] P = P (.v (.int a.length)) := propext Iff.rfl
theorem bLen_t : bLen [.tuple a] P = P (.v (.int a.length)) := propext Iff.rfl
theorem bLen_s : bLen [.str s] P = (s.length ≤ sizeLine ∧ P (.v (.int s.length))) := propext Iff.rfl
theorem bAbs_i : bAbs [.int i] P = P (.v (.int i.natAbs)) := propext Iff.rfl
theorem bMax2_i : bMax2 [.int i, .int j] P = P (.v (.int (max i j))) := propext Iff.rfl
theorem bMin2_i : bMin2 [.int i, .int j] P = P (.v (.int (min i j))) := propext Iff.rfl
theorem bInt_i : bInt [.int i] P = P (.v (.int i)) := propext Iff.rfl
theorem bInt_b : bInt [.bool p] P = P (.v (.int (if p = true then 1 else 0))) := propext Iff.rfl
theorem bInt_s : bInt [.str s] P = ∃ n, PySem.intText? s = some n ∧ s.length ≤ 640 ∧ P (.v (.int n)) := propext Iff.rfl
theorem bStr_i : bStr [.int i] P = (i.natAbs < 2 ^ 1900 ∧ P (.v (.str (toString i)))) := propext Iff.rfl
theorem bTup_l : bTup [.list a] P = P (.v (.tuple a)) := propext Iff.rfl
theorem bTup_t : bTup [.tuple a] P = P (.v (.tuple a)) := propext Iff.rfl
theorem bLst_l : bLst [.list a] P = P (.n (.list a)) := propext Iff.rfl
theorem bLst_t : bLst [.tuple a] P = P (.n (.list a)) := propext Iff.rfl
theorem isi_ss : isi .str (.str s) = true := rfl
theorem isi_sn : isi .str .none = false := rfl
theorem isi_sb : isi .str (.bool p) = false := rfl
theorem isi_si : isi .str (.int i) = false := rfl
theorem isi_sl : isi .str (.list a) = false := rfl
theorem isi_st : isi .str (.tuple a) = false := rfl
theorem isi_tt : isi .tup (.tuple a) = true := rfl
theorem isi_tn : isi .tup .none = false := rfl
theorem isi_tb : isi .tup (.bool p) = false := rfl
theorem isi_ti : isi .tup (.int i) = false := rfl
theorem isi_ts : isi .tup (.str s) = false := rfl
theorem isi_tl : isi .tup (.list a) = false := rfl
theorem isi_ii : isi .int (.int i) = true := rfl
theorem isi_ib : isi .int (.bool p) = true := rfl
theorem isi_in : isi .int .none = false := rfl
theorem isi_is : isi .int (.str s) = false := rfl
theorem isi_il : isi .int (.list a) = false := rfl
theorem isi_it : isi .int (.tuple a) = false := rfl
theorem isi_bb : isi .bool (.bool p) = true := rfl
theorem isi_bn : isi .bool .none = false := rfl
theorem isi_bi : isi .bool (.int i) = false := rfl
theorem isi_bs : isi .bool (.str s) = false := rfl
theorem isi_bl : isi .bool (.list a) = false := rfl
theorem isi_bt : isi .bool (.tuple a) = false := rfl
theorem fT_t {gs : GFs} {k : En → Prop} : fT gs (.tuple a) ρ k = gs a ρ k := propext Iff.rfl
theorem fsN_n {k : En → Prop} : fsN [] ρ k = k ρ := propext Iff.rfl
theorem fsC_c {g : GF} {gs : GFs} {k : En → Prop} : fsC g gs (d :: a) ρ k = g d ρ fun ρ1 => gs a ρ1 k := propext Iff.rfl
theorem bSort_l : bSort [.list a] P = (noLs a = true ∧ KOk a ∧ P (.n (.list (a.mergeSort (PySem.W.dataLe false id))))) := propext Iff.rfl
theorem mSplit_s : mSplit s (.str t) P = ((t.length == 0) = false ∧ s.length + 2 ≤ sizeLine ∧ P (.n (.list ((Txt.split s t).map .str)))) := propext Iff.rfl
theorem draw_i : F__law_draw [.tp, .v (.int i)] P = (i.natAbs < 2 ^ 62 ∧ ∀ r : Int, 0 ≤ r → r < max i 1 → P (.v (.int r))) := propext Iff.rfl
end
/-- the values of a target, behind any step -/
theorem sPar_2 {i j : Nat} {as : AV} {D : EndsV} {ρ : En} : sPar i j as D ρ = as ρ fun xs ρ1 => match xs with
  | [x, y] => x.stoK fun d => y.stoK fun e => D.nx ((ρ1.set i (some (.v d))).set j (some (.v e)))
  | _ => False := rfl
/-! ### slots, read one by one (nothing is opened where the slots are not known) -/
def slotK : Nat → En → (Option Av → Prop) → Prop
  | _, [], _ => False
  | 0, a :: _, k => k a
  | n + 1, _ :: ρ, k => slotK n ρ k
theorem slotK_z {a : Option Av} {ρ : En} {k : Option Av → Prop} : slotK 0 (a :: ρ) k = k a := propext Iff.rfl
theorem slotK_s {n : Nat} {a : Option Av} {ρ : En} {k : Option Av → Prop} : slotK (n + 1) (a :: ρ) k = slotK n ρ k := propext Iff.rfl
theorem slotK_eq (k : Option Av → Prop) : ∀ (n : Nat) (ρ : En), slotK n ρ k = match ρ[n]? with
    | some a => k a
    | none => False
  | 0, [] => rfl
  | _ + 1, [] => rfl
  | 0, _ :: _ => rfl
  | n + 1, a :: ρ => by
    rw [slotK_s, slotK_eq k n ρ, List.getElem?_cons_succ]
def readK (i : Nat) (a : Option Av) (k : Av → Prop) : Prop :=
  match a with
  | some (.v d) => k (.v d)
  | some (.w _) => k (.o i)
  | some .tp => k .tp
  | _ => False
theorem readK_v {i : Nat} {d : PyData} {k : Av → Prop} : readK i (some (.v d)) k = k (.v d) := propext Iff.rfl
theorem readK_w {i : Nat} {d : PyData} {k : Av → Prop} : readK i (some (.w d)) k = k (.o i) := propext Iff.rfl
theorem readK_t {i : Nat} {k : Av → Prop} : readK i (some .tp) k = k .tp := propext Iff.rfl
theorem eV_eq {i : Nat} {ρ : En} {P : Av → En → Prop} : eV i ρ P = slotK i ρ fun a => readK i a fun x => P x ρ := by
  rw [slotK_eq]
  unfold eV readK
  cases ρ[i]? with
  | none => rfl
  | some a => cases a with
    | none => rfl
    | some a => cases a <;> rfl
def wK (a : Option Av) (k : PyData → Prop) : Prop :=
  match a with
  | some (.w d) => k d
  | _ => False
theorem wK_w {d : PyData} {k : PyData → Prop} : wK (some (.w d)) k = k d := propext Iff.rfl
theorem ownK_eq {i : Nat} {ρ : En} {k : PyData → Prop} : ownK i ρ k = slotK i ρ fun a => wK a k := by
  rw [slotK_eq]
  unfold ownK wK
  cases ρ[i]? with
  | none => rfl
  | some a => cases a with
    | none => rfl
    | some a => cases a <;> rfl
def lstK (d : PyData) (k : List PyData → Prop) : Prop :=
  match d with
  | .list ds => k ds
  | _ => False
theorem lstK_l {ds : List PyData} {k : List PyData → Prop} : lstK (.list ds) k = k ds := propext Iff.rfl
theorem ownL_eq {i : Nat} {ρ : En} {k : List PyData → Prop} : ownL i ρ k = ownK i ρ fun d => lstK d k := propext Iff.rfl
def dctK (d : PyData) (k : Dct → Prop) : Prop :=
  match d with
  | .dict ds => k ds
  | _ => False
theorem dctK_d {ds : Dct} {k : Dct → Prop} : dctK (.dict ds) k = k ds := propext Iff.rfl
theorem ownD_eq {i : Nat} {ρ : En} {k : Dct → Prop} : ownD i ρ k = ownK i ρ fun d => dctK d k := propext Iff.rfl
def Av.setoK (x : Av) (k : Av → Prop) : Prop :=
  match x with
  | .v d => k (.v d)
  | .n d => k (.w d)
  | _ => False
theorem setoK_v {d : PyData} {k : Av → Prop} : (Av.v d).setoK k = k (.v d) := propext Iff.rfl
theorem setoK_n {d : PyData} {k : Av → Prop} : (Av.n d).setoK k = k (.w d) := propext Iff.rfl
theorem sSetO_eq {i : Nat} {e : EV} {D : EndsV} {ρ : En} : sSetO i e D ρ = e ρ fun x ρ1 => x.setoK fun s => D.nx (ρ1.set i (some s)) := by
  unfold sSetO Av.setoK
  congr 1
def Av.icK (x : Av) (ρ : En) (k : List PyData → (En → Prop) → Prop) : Prop :=
  match x with
  | .v d => seqK d fun ds => k ds fun _ => True
  | .n d => seqK d fun ds => k ds fun _ => True
  | .o i => ownL i ρ fun ds => k ds fun ρ => ρ[i]? = some (some (.w (.list ds)))
  | _ => False
theorem icK_v {d : PyData} {ρ : En} {k : List PyData → (En → Prop) → Prop} : (Av.v d).icK ρ k = seqK d fun ds => k ds fun _ => True := propext Iff.rfl
theorem icK_n {d : PyData} {ρ : En} {k : List PyData → (En → Prop) → Prop} : (Av.n d).icK ρ k = seqK d fun ds => k ds fun _ => True := propext Iff.rfl
theorem icK_o {i : Nat} {ρ : En} {k : List PyData → (En → Prop) → Prop} : (Av.o i).icK ρ k = ownL i ρ fun ds => k ds fun ρ => ρ[i]? = some (some (.w (.list ds))) := propext Iff.rfl
theorem icE_eq {a : EV} {ρ : En} {P : List PyData → (En → Prop) → En → Prop} : icE a ρ P = a ρ fun x ρ1 => x.icK ρ1 fun ds G => P ds G ρ1 := by
  unfold icE Av.icK
  congr 1

/-! ### the steps, head first: each rule wants all its arguments, so nothing behind a step is opened before the step is done -/
def setK : Nat → Option Av → En → (En → Prop) → Prop
  | _, _, [], k => k []
  | 0, x, _ :: ρ, k => k (x :: ρ)
  | n + 1, x, a :: ρ, k => setK n x ρ fun ρ' => k (a :: ρ')
theorem setK_z {x a : Option Av} {ρ : En} {k : En → Prop} : setK 0 x (a :: ρ) k = k (x :: ρ) := propext Iff.rfl
theorem setK_s {n : Nat} {x a : Option Av} {ρ : En} {k : En → Prop} : setK (n + 1) x (a :: ρ) k = setK n x ρ fun ρ' => k (a :: ρ') := propext Iff.rfl
theorem setK_eq {x : Option Av} : ∀ {n : Nat} {ρ : En} {k : En → Prop}, setK n x ρ k = k (ρ.set n x)
  | 0, [], _ => rfl
  | _ + 1, [], _ => rfl
  | 0, _ :: _, _ => rfl
  | n + 1, a :: ρ, k => by rw [setK_s, setK_eq, List.set_cons_succ]
def killK : List Nat → En → (En → Prop) → Prop
  | [], ρ, k => k ρ
  | i :: is, ρ, k => setK i none ρ fun ρ' => killK is ρ' k
theorem killK_n {ρ : En} {k : En → Prop} : killK [] ρ k = k ρ := propext Iff.rfl
theorem killK_c {i : Nat} {is : List Nat} {ρ : En} {k : En → Prop} : killK (i :: is) ρ k = setK i none ρ fun ρ' => killK is ρ' k := propext Iff.rfl
theorem killK_eq : ∀ {is : List Nat} {ρ : En} {k : En → Prop}, killK is ρ k = k (kill is ρ)
  | [], _, _ => rfl
  | i :: is, ρ, k => by
    rw [killK_c, setK_eq, killK_eq]
    rfl
section
variable {ρ : En} {D : EndsV} {a b c : EV} {as : AV} {ta tb : TV} {s t : SV} {i j : Nat} {P : Av → En → Prop} {Pb : Bool → En → Prop} {Pl : List Av → En → Prop} {Po : Option Int → En → Prop} {Pi : List PyData → En → Prop} {Pc : List PyData → (En → Prop) → En → Prop} {k : En → Prop} {F : FV} {d : PyData} {g : GF} {gs : GFs} {x : Av} {xs : List Av} {dead vs : List Nat} {iv : IV} {ic : IC} {tt : TV} {lo hi : OV}
theorem h_seq : sSeq s t D ρ = s ⟨fun ρ' => t D ρ', D.rt, D.bk, D.ct⟩ ρ := propext Iff.rfl
theorem h_next : sNext D ρ = D.nx ρ := propext Iff.rfl
theorem h_break : sBreak D ρ = D.bk ρ := propext Iff.rfl
theorem h_cont : sCont D ρ = D.ct ρ := propext Iff.rfl
theorem h_expr : sExpr a D ρ = a ρ fun _ ρ' => D.nx ρ' := propext Iff.rfl
theorem h_ret : sRet a D ρ = a ρ fun x ρ' => x.retK ρ' D.rt := propext Iff.rfl
theorem h_retN : sRetN D ρ = D.rt (.v .none) := propext Iff.rfl
theorem h_if : sIf ta s t D ρ = ta ρ fun c ρ' => if c = true then s D ρ' else t D ρ' := propext Iff.rfl
theorem h_setF : sSetF i a D ρ = a ρ fun x ρ1 => x.stoK fun d => setK i (some (.v d)) ρ1 D.nx := by unfold sSetF; simp only [setK_eq]
theorem h_setO : sSetO i a D ρ = a ρ fun x ρ1 => x.setoK fun s => setK i (some s) ρ1 D.nx := by rw [sSetO_eq]; simp only [setK_eq]
theorem h_setG : sSetG g a D ρ = a ρ fun x ρ1 => x.stoK fun d => g d ρ1 D.nx := propext Iff.rfl
def par2 (i j : Nat) (xs : List Av) (ρ : En) (k : En → Prop) : Prop := match xs with
  | [x, y] => x.stoK fun d => y.stoK fun e => k ((ρ.set i (some (.v d))).set j (some (.v e)))
  | _ => False
theorem h_par2 {y : Av} : par2 i j [x, y] ρ k = x.stoK fun d => y.stoK fun e => setK i (some (.v d)) ρ fun ρ1 => setK j (some (.v e)) ρ1 k := by unfold par2; simp only [setK_eq]
theorem h_par : sPar i j as D ρ = as ρ fun xs ρ1 => par2 i j xs ρ1 D.nx := by
  unfold sPar par2
  rfl
def intK (d : PyData) (k : Int → Prop) : Prop := match d with
  | .int n => k n
  | _ => False
theorem intK_i {n : Int} {k : Int → Prop} : intK (.int n) k = k n := propext Iff.rfl
theorem h_put : sPut i b a D ρ = a ρ fun x ρ1 => ownL i ρ1 fun _ => b ρ1 fun y ρ2 => y.getK ρ2 fun kd => x.stoK fun d => ownL i ρ2 fun ds => intK kd fun j => ∃ n, ixN ds.length j = some n ∧ setK i (some (.w (.list (ds.set n d)))) ρ2 D.nx := by
  unfold sPut
  simp only [setK_eq]
  rfl
theorem h_dput : sDput i b a D ρ = a ρ fun x ρ1 => ownD i ρ1 fun _ => b ρ1 fun y ρ2 => y.getK ρ2 fun kd => x.stoK fun d => ownD i ρ2 fun ds => keyK kd fun q => ds.length < sizeLine ∧ setK i (some (.w (.dict (dPut ds q d)))) ρ2 D.nx := by
  unfold sDput
  simp only [setK_eq]
theorem h_for : sFor iv g s dead D ρ = iv ρ fun ds ρ1 => killK dead ρ1 fun ρ2 => forV g s dead D ds ρ2 := by
  unfold sFor
  simp only [killK_eq]
theorem h_forN : forV g s dead D [] ρ = D.nx ρ := propext Iff.rfl
theorem h_forC {ds : List PyData} : forV g s dead D (d :: ds) ρ = turnV g s dead D d (forV g s dead D ds) ρ := propext Iff.rfl
theorem h_turn : turnV g s dead D d k ρ = g d ρ fun ρ1 => s ⟨fun ρ2 => killK dead ρ2 k, D.rt, fun ρ2 => killK dead ρ2 D.nx, fun ρ2 => killK dead ρ2 k⟩ ρ1 := by
  unfold turnV
  simp only [killK_eq]
theorem h_c : eC d ρ P = P (.v d) ρ := propext Iff.rfl
theorem h_e2 {op : PyData → PyData → (Av → Prop) → Prop} : e2 op a b ρ P = a ρ fun x ρ1 => b ρ1 fun y ρ2 => x.getK ρ2 fun d => y.getK ρ2 fun e => op d e fun z => P z ρ2 := propext Iff.rfl
theorem h_e1 {op : PyData → (Av → Prop) → Prop} : e1 op a ρ P = a ρ fun x ρ1 => x.getK ρ1 fun d => op d fun z => P z ρ1 := propext Iff.rfl
theorem h_tup : eTup as ρ P = as ρ fun xs ρ1 => xs.length ≤ sizeLine ∧ stosK xs fun ds => P (.v (.tuple ds)) ρ1 := propext Iff.rfl
theorem h_lst : eLst as ρ P = as ρ fun xs ρ1 => xs.length ≤ sizeLine ∧ stosK xs fun ds => P (.n (.list ds)) ρ1 := propext Iff.rfl
theorem h_b {op : List PyData → (Av → Prop) → Prop} : eB op as ρ P = as ρ fun xs ρ1 => getsK xs ρ1 fun ds => op ds fun z => P z ρ1 := propext Iff.rfl
theorem h_oN : oNo ρ Po = Po none ρ := propext Iff.rfl
theorem h_oE : oE a ρ Po = a ρ fun x ρ1 => x.getK ρ1 fun d => intK d fun i => Po (some i) ρ1 := propext Iff.rfl
theorem h_sl : eSl a lo hi ρ P = a ρ fun x ρ1 => lo ρ1 fun l ρ2 => hi ρ2 fun h ρ3 => x.getK ρ3 fun d => opSl d l h fun z => P z ρ3 := propext Iff.rfl
theorem h_isi {t : Tn} : eIsi t a ρ P = a ρ fun x ρ1 => x.getK ρ1 fun d => P (.v (.bool (isi t d))) ρ1 := propext Iff.rfl
theorem h_rg : eRg a ρ P = a ρ fun x ρ1 => x.getK ρ1 fun d => intK d fun n => n.natAbs < 2 ^ 24 ∧ P (.n (.list (rngD 0 n.toNat))) ρ1 := propext Iff.rfl
theorem h_revL : eRevL a ρ P = a ρ fun x ρ1 => x.getK ρ1 fun d => lstK d fun ds => P (.n (.list ds.reverse)) ρ1 := propext Iff.rfl
def strK (d : PyData) (k : Str → Prop) : Prop := match d with
  | .str n => k n
  | _ => False
theorem strK_s {n : Str} {k : Str → Prop} : strK (.str n) k = k n := propext Iff.rfl
theorem h_revS : eRevS a ρ P = a ρ fun x ρ1 => x.getK ρ1 fun d => strK d fun z => z.length ≤ sizeLine ∧ ∀ r : Str, r.length ≤ z.length → (∀ c, c ∈ r.cps.toList → c ∈ z.cps.toList) → P (.v (.str r)) ρ1 := propext Iff.rfl
theorem h_m1 {op : Str → PyData → (Av → Prop) → Prop} : eM1 op a b ρ P = a ρ fun x ρ1 => x.getK ρ1 fun d => strK d fun s => b ρ1 fun y ρ2 => y.getK ρ2 fun e => op s e fun z => P z ρ2 := propext Iff.rfl
theorem h_app : eApp i a ρ P = ownL i ρ fun _ => a ρ fun x ρ1 => x.stoK fun d => ownL i ρ1 fun ds => ds.length < sizeLine ∧ setK i (some (.w (.list (ds ++ [d])))) ρ1 (P (.v .none)) := by
  unfold eApp
  simp only [setK_eq]
theorem h_ext : eExt i a ρ P = ownL i ρ fun _ => a ρ fun x ρ1 => x.getK ρ1 fun d => ownL i ρ1 fun ds => lstK d fun es => ds.length + es.length ≤ sizeLine ∧ setK i (some (.w (.list (ds ++ es)))) ρ1 (P (.v .none)) := by
  unfold eExt
  simp only [setK_eq]
  rfl
theorem h_pop : ePop i a ρ P = ownL i ρ fun _ => a ρ fun x ρ1 => x.getK ρ1 fun d => ownL i ρ1 fun ds => intK d fun j => 0 ≤ j ∧ j < (ds.length : Int) ∧ ds.length < 2 ^ 60 ∧ ∃ y, ds[j.toNat]? = some y ∧ setK i (some (.w (.list (ds.eraseIdx j.toNat)))) ρ1 (P (.v y)) := by
  unfold ePop
  simp only [setK_eq]
  rfl
theorem h_pop0 : ePop0 i ρ P = ownL i ρ fun ds => ∃ y, ds[ds.length - 1]? = some y ∧ setK i (some (.w (.list ds.dropLast))) ρ (P (.v y)) := by
  unfold ePop0
  simp only [setK_eq]
theorem h_call : eCall F as ρ P = as ρ fun xs ρ1 => argsK xs ρ1 fun ys own => F ys fun z => safeR own z ∧ P z ρ1 := propext Iff.rfl
theorem h_lc : eLc ic g tt a vs ρ P = ic ρ fun ds G ρ1 => ds.length ≤ 1000000 ∧ killK vs ρ1 fun ρ2 => lcV G g tt a vs ds ρ2 fun out ρ2 => P (.n (.list out)) ρ2 := by
  unfold eLc
  simp only [killK_eq]
theorem h_dc : eDc ic g tt b a vs ρ P = ic ρ fun ds G ρ1 => ds.length ≤ 1000000 ∧ killK vs ρ1 fun ρ2 => dcV G g tt b a vs ds [] ρ2 fun out ρ2 => P (.n (.dict out)) ρ2 := by
  unfold eDc
  simp only [killK_eq]
theorem h_dn : eDn ρ P = P (.n (.dict [])) ρ := propext Iff.rfl
theorem h_lstD : eLstD i ρ P = ownD i ρ fun ds => P (.n (.list (ds.map (·.1)))) ρ := propext Iff.rfl
theorem h_lenSet : eLenSet a ρ P = a ρ fun x ρ1 => x.getK ρ1 fun d => ∃ xs : List Str, d = .list (xs.map .str) ∧ xs.length < 4000 ∧ P (.v (.int ((ddS xs).length : Int))) ρ1 := propext Iff.rfl
theorem h_sortBy : eSortBy F as ρ P = as ρ fun xs ρ1 => getsK xs ρ1 fun ds => bSortBy F ds fun z => P z ρ1 := propext Iff.rfl
theorem h_ch {op op' : PyData → PyData → (Av → Prop) → Prop} : eCh op op' a b c ρ P = a ρ fun x ρ1 => b ρ1 fun y ρ2 => x.getK ρ2 fun d => y.getK ρ2 fun e => op d e fun z => asB z fun t => if t = true then c ρ2 fun w ρ3 => y.getK ρ3 fun e => w.getK ρ3 fun f => op' e f fun z => P z ρ3 else P (.v (.bool false)) ρ2 := propext Iff.rfl
theorem h_ifE : ifE ta a b ρ P = ta ρ fun t ρ1 => if t = true then a ρ1 P else b ρ1 P := propext Iff.rfl
theorem h_andE : andE a b ρ P = a ρ fun x ρ1 => asB x fun c => if c = true then b ρ1 P else P (.v (.bool false)) ρ1 := propext Iff.rfl
theorem h_orE : orE a b ρ P = a ρ fun x ρ1 => asB x fun c => if c = true then P (.v (.bool true)) ρ1 else b ρ1 P := propext Iff.rfl
theorem h_notE : notE a ρ P = a ρ fun x ρ1 => asB x fun c => P (.v (.bool (!c))) ρ1 := propext Iff.rfl
theorem h_asT : asT a ρ Pb = a ρ fun x ρ' => asB x fun b => Pb b ρ' := propext Iff.rfl
theorem h_truT : truT a ρ Pb = a ρ fun x ρ' => x.getK ρ' fun d => truK d fun b => Pb b ρ' := propext Iff.rfl
theorem h_andT : andT ta tb ρ Pb = ta ρ fun c ρ1 => if c = true then tb ρ1 Pb else Pb false ρ1 := propext Iff.rfl
theorem h_orT : orT ta tb ρ Pb = ta ρ fun c ρ1 => if c = true then Pb true ρ1 else tb ρ1 Pb := propext Iff.rfl
theorem h_notT : notT ta ρ Pb = ta ρ fun c ρ1 => Pb (!c) ρ1 := propext Iff.rfl
theorem h_yes : yesT ρ Pb = Pb true ρ := propext Iff.rfl
theorem h_aN : aN ρ Pl = Pl [] ρ := propext Iff.rfl
theorem h_aC : aC a as ρ Pl = a ρ fun x ρ1 => as ρ1 fun xs ρ2 => Pl (x :: xs) ρ2 := propext Iff.rfl
theorem h_iE : iE a ρ Pi = a ρ fun x ρ1 => x.itK ρ1 fun d ρ2 => seqK d fun ds => Pi ds ρ2 := propext Iff.rfl
theorem h_icE : icE a ρ Pc = a ρ fun x ρ1 => x.icK ρ1 fun ds G => Pc ds G ρ1 := icE_eq
theorem h_icN : icN iv ρ Pc = iv ρ fun ds ρ' => Pc ds (fun _ => True) ρ' := propext Iff.rfl
def rg1 (ds : List PyData) (k : Int → Prop) : Prop := match ds with
  | [.int n] => k n
  | _ => False
theorem rg1_i {n : Int} {k : Int → Prop} : rg1 [.int n] k = k n := propext Iff.rfl
def rg2 (ds : List PyData) (k : Int → Int → Prop) : Prop := match ds with
  | [.int m, .int n] => k m n
  | _ => False
theorem rg2_i {m n : Int} {k : Int → Int → Prop} : rg2 [.int m, .int n] k = k m n := propext Iff.rfl
theorem h_iR1 : iR1 as ρ Pi = as ρ fun xs ρ1 => getsK xs ρ1 fun ds => rg1 ds fun n => small62 n ∧ Pi (rngD 0 n.toNat) ρ1 := by
  unfold iR1 rg1
  rfl
theorem h_iR2 : iR2 as ρ Pi = as ρ fun xs ρ1 => getsK xs ρ1 fun ds => rg2 ds fun m n => (small62 m ∧ small62 n) ∧ Pi (rngD m (n - m).toNat) ρ1 := by
  unfold iR2 rg2
  rfl
theorem h_fN : fN i d ρ k = setK i (some (.v d)) ρ k := setK_eq.symm
theorem h_gets0 {kl : List PyData → Prop} : getsK [] ρ kl = kl [] := propext Iff.rfl
theorem h_gets1 {kl : List PyData → Prop} : getsK (x :: xs) ρ kl = x.getK ρ fun d => getsK xs ρ fun ds => kl (d :: ds) := propext Iff.rfl
theorem h_stos0 {kl : List PyData → Prop} : stosK [] kl = kl [] := propext Iff.rfl
theorem h_stos1 {kl : List PyData → Prop} : stosK (x :: xs) kl = x.stoK fun d => stosK xs fun ds => kl (d :: ds) := propext Iff.rfl
theorem h_args0 {ka : List Av → Bool → Prop} : argsK [] ρ ka = ka [] false := propext Iff.rfl
theorem h_args1 {ka : List Av → Bool → Prop} : argsK (x :: xs) ρ ka = x.argK ρ fun y b => argsK xs ρ fun ys c => ka (y :: ys) (b || c) := propext Iff.rfl
theorem h_lcN {G : En → Prop} {kl : List PyData → En → Prop} : lcV G g tt a vs [] ρ kl = (G ρ ∧ kl [] ρ) := propext Iff.rfl
theorem itK_oS {kde : PyData → En → Prop} : (Av.o i).itK ρ kde = ownK i ρ fun d => setK i (some (.v d)) ρ fun ρ' => kde d ρ' := by
  rw [itK_o]
  simp only [setK_eq]
theorem ix_t0 {e : PyData} {ds : List PyData} {ka : Av → Prop} : opIx (.tuple (e :: ds)) (.int 0) ka = ka (.v e) := by rw [opIx_t, dix_at0]; simp
theorem ix_t1 {e f : PyData} {ds : List PyData} {ka : Av → Prop} : opIx (.tuple (e :: f :: ds)) (.int 1) ka = ka (.v f) := by rw [opIx_t, dix_at1]; simp
theorem ix_t2 {e f g : PyData} {ds : List PyData} {ka : Av → Prop} : opIx (.tuple (e :: f :: g :: ds)) (.int 2) ka = ka (.v g) := by rw [opIx_t, dix_at2]; simp
theorem ix_t3 {e f g h : PyData} {ds : List PyData} {ka : Av → Prop} : opIx (.tuple (e :: f :: g :: h :: ds)) (.int 3) ka = ka (.v h) := by rw [opIx_t, dix_at3]; simp
theorem ix_l0 {e : PyData} {ds : List PyData} {ka : Av → Prop} : opIx (.list (e :: ds)) (.int 0) ka = ka (.v e) := by rw [opIx_l, dix_at0]; simp
theorem ix_l1 {e f : PyData} {ds : List PyData} {ka : Av → Prop} : opIx (.list (e :: f :: ds)) (.int 1) ka = ka (.v f) := by rw [opIx_l, dix_at1]; simp
theorem ix_l2 {e f g : PyData} {ds : List PyData} {ka : Av → Prop} : opIx (.list (e :: f :: g :: ds)) (.int 2) ka = ka (.v g) := by rw [opIx_l, dix_at2]; simp
theorem ix_l3 {e f g h : PyData} {ds : List PyData} {ka : Av → Prop} : opIx (.list (e :: f :: g :: h :: ds)) (.int 3) ka = ka (.v h) := by rw [opIx_l, dix_at3]; simp
theorem is_n {ka : Av → Prop} : opIs d .none ka = ka (.v (.bool (isNone d))) := propext ⟨fun h => h.2, fun h => ⟨rfl, h⟩⟩
theorem isn_n {ka : Av → Prop} : opIsN d .none ka = ka (.v (.bool (!isNone d))) := propext ⟨fun h => h.2, fun h => ⟨rfl, h⟩⟩
theorem h_eq {e : PyData} {ka : Av → Prop} : opEq d e ka = eqK d e fun b => ka (.v (.bool b)) := propext Iff.rfl
theorem h_ne {e : PyData} {ka : Av → Prop} : opNe d e ka = eqK d e fun b => ka (.v (.bool (!b))) := propext Iff.rfl
theorem h_in {e : PyData} {ka : Av → Prop} : opIn d e ka = inK d e fun b => ka (.v (.bool b)) := propext Iff.rfl
theorem h_nin {e : PyData} {ka : Av → Prop} : opNin d e ka = inK d e fun b => ka (.v (.bool (!b))) := propext Iff.rfl
end

/-! steps over data -/
local macro_rules | `(tactic| walk_at "pv") => `(tactic| try simp only [↓h_seq, ↓h_next, ↓h_break, ↓h_cont, ↓h_expr, ↓h_ret, ↓h_retN, ↓h_if, ↓h_setF, ↓h_setO, ↓h_setG, ↓h_par2, ↓h_par, ↓intK_i, ↓h_put, ↓h_dput, ↓h_for, ↓h_forN, ↓h_forC, ↓h_turn, ↓h_c, ↓h_e2, ↓h_e1, ↓h_tup, ↓h_lst, ↓h_b, ↓h_oN, ↓h_oE, ↓h_sl, ↓h_isi, ↓h_rg, ↓h_revL, ↓strK_s, ↓h_revS, ↓h_m1, ↓h_app, ↓h_ext, ↓h_pop, ↓h_pop0, ↓h_call, ↓h_lc, ↓h_dc, ↓h_dn, ↓h_lstD, ↓h_lenSet, ↓h_sortBy, ↓h_ch, ↓h_ifE, ↓h_andE, ↓h_orE, ↓h_notE, ↓h_asT, ↓h_truT, ↓h_andT, ↓h_orT, ↓h_notT, ↓h_yes, ↓h_aN, ↓h_aC, ↓h_iE, ↓h_icE, ↓h_icN, ↓rg1_i, ↓rg2_i, ↓h_iR1, ↓h_iR2, ↓h_fN, ↓h_gets0, ↓h_gets1, ↓h_stos0, ↓h_stos1, ↓h_args0, ↓h_args1, ↓h_lcN, ↓itK_oS, ↓ix_t0, ↓ix_t1, ↓ix_t2, ↓ix_t3, ↓ix_l0, ↓ix_l1, ↓ix_l2, ↓ix_l3, ↓is_n, ↓isn_n, ↓h_eq, ↓h_ne, ↓h_in, ↓h_nin,
  ↓setK_z, ↓setK_s, ↓killK_n, ↓killK_c, ↓eV_eq, ↓ownK_eq, ↓ownL_eq, ↓ownD_eq, ↓slotK_z, ↓slotK_s, ↓readK_v, ↓readK_w, ↓readK_t, ↓wK_w, ↓lstK_l, ↓dctK_d, ↓setoK_v, ↓setoK_n, ↓icK_v, ↓icK_n, ↓icK_o, ↓fT_t, ↓fsN_n, ↓fsC_c,
  ↓getK_v, ↓getK_n, ↓getK_o, ↓stoK_v, ↓stoK_n, ↓argK_v, ↓argK_n, ↓argK_t, ↓argK_o, ↓retK_v, ↓retK_n, ↓retK_o, ↓itK_v, ↓itK_n, ↓asB_b, ↓truK_n, ↓truK_b, ↓truK_i, ↓truK_s, ↓truK_l, ↓truK_t, ↓seqK_l, ↓seqK_t, ↓safeR_f, ↓safeR_v, ↓safeR_n,
  ↓opAdd_i, ↓opAdd_s, ↓opAdd_t, ↓opAdd_l, ↓opSub_i, ↓opFd_i, ↓opMod_i, ↓opPow_i, ↓opLt_i, ↓opLe_i, ↓opGt_i, ↓opGe_i, ↓opMul_i, ↓opMul_l, ↓eqK_i, ↓eqK_s, ↓eqK_b, ↓eqK_si, ↓eqK_is, ↓eqK_t, ↓eqK_l, ↓inK_l, ↓inK_t, isNone_n, isNone_b, isNone_i, isNone_s, isNone_l, isNone_t, isNone_d, opIx_t, opIx_l, opIx_s, ↓opSl_t, ↓opSl_l, ↓opSl_s, ↓opNeg_i, ↓opDg_k, ↓opDin_k, ↓opDnin_k, ↓keyK_i, ↓keyK_s,
  ↓bLen_l, ↓bLen_t, ↓bLen_s, ↓bAbs_i, ↓bMax2_i, ↓bMin2_i, ↓bInt_i, ↓bInt_b, ↓bInt_s, ↓bStr_i, ↓bTup_l, ↓bTup_t, ↓bLst_l, ↓bLst_t, ↓bSort_l, ↓mSplit_s, ↓draw_i,
  isi_ss, isi_sn, isi_sb, isi_si, isi_sl, isi_st, isi_tt, isi_tn, isi_tb, isi_ti, isi_ts, isi_tl, isi_ii, isi_ib, isi_in, isi_is, isi_il, isi_it, isi_bb, isi_bn, isi_bi, isi_bs, isi_bl, isi_bt,
  List.map_cons, List.map_nil, List.length_cons, List.length_nil, List.replicate_succ, List.replicate_zero, List.cons_append, List.nil_append, List.append_nil, List.isEmpty_nil, List.isEmpty_cons, Nat.zero_add, Nat.reduceAdd, Nat.reduceSub, Nat.reduceLeDiff, Nat.reduceLT, sizeLine_eq, Bool.or_false, Bool.or_true, Bool.or_self, Bool.false_or, Bool.true_or, Bool.false_eq_true, reduceCtorEq, ↓reduceIte, if_true, if_false, true_and, and_true, false_implies, forall_const, true_implies, not_true_eq_false, not_false_eq_true, Bool.not_true, Bool.not_false, startV, and_self, Option.some.injEq, Av.v.injEq, PyData.bool.injEq, PyData.int.injEq, PyData.str.injEq, PyData.list.injEq, PyData.tuple.injEq, decide_true, decide_false, eq_self, Int.reduceLT, Int.reduceLE, Int.reduceEq, Int.reduceNe, Int.reduceAdd, Int.reduceSub, Int.reduceMul, Int.reduceNeg, Int.reduceToNat, exists_eq_left, exists_eq_left', dix_lit0, dix_lit1, dix_lit2, dix_lit3])

/-! ### terms, atoms, plans: plain -/
/-- a term: a letter or a constant -/
inductive Term where
  | l (s : Str)
  | c (x : L2.Key)
def termD : Term → PyData
  | .l s => .str s
  | .c x => .tuple [cd x]
abbrev Atom := Str × List Term
def atomD (a : Atom) : PyData := .tuple [.str a.1, .tuple (a.2.map termD)]
def atomsD (as : List Atom) : PyData := .tuple (as.map atomD)
structure Mem where
  head : List Term
  atoms : List Atom
def memD (m : Mem) : PyData := .tuple [.str "select", .tuple (m.head.map termD), atomsD m.atoms, .tuple []]
inductive Plan where
  | tab (s : Str)
  | join (ps : List Plan)
  | proj (k x : Str) (p : Plan)
mutual
def planD : Plan → PyData
  | .tab s => .str s
  | .join ps => .tuple [.str "join", .tuple (plansD ps)]
  | .proj k x p => .tuple [.str k, .str x, planD p]
def plansD : List Plan → List PyData
  | [] => []
  | p :: ps => planD p :: plansD ps
end
mutual
/-- the tables, in order -/
def names : Plan → List Str
  | .tab s => [s]
  | .join ps => namesL ps
  | .proj _ _ p => names p
def namesL : List Plan → List Str
  | [] => []
  | p :: ps => names p ++ namesL ps
end
mutual
/-- the projections, the inner ones first -/
def projs : Plan → List Plan
  | .tab _ => []
  | .join ps => projsL ps
  | .proj k x p => projs p ++ [.proj k x p]
def projsL : List Plan → List Plan
  | [] => []
  | p :: ps => projs p ++ projsL ps
end
mutual
/-- all parts, the inner ones first but a join ahead of its parts -/
def parts : Plan → List Plan
  | .tab s => [.tab s]
  | .join ps => .join ps :: partsL ps
  | .proj k x p => parts p ++ [.proj k x p]
def partsL : List Plan → List Plan
  | [] => []
  | p :: ps => parts p ++ partsL ps
end
mutual
def psize : Plan → Nat
  | .tab _ => 1
  | .join ps => 1 + psizeL ps
  | .proj _ _ p => 1 + psize p
def psizeL : List Plan → Nat
  | [] => 0
  | p :: ps => psize p + psizeL ps
end
/-- a text that may stand in data -/
def sOk (s : Str) : Prop := okS 2000 s
mutual
/-- a plan of depth below n, well made -/
def pOk : Nat → Plan → Prop
  | 0, _ => False
  | _ + 1, .tab s => sOk s
  | n + 1, .join ps => pOkL n ps
  | n + 1, .proj k x p => (k = "independent" ∨ k = "exclusive") ∧ sOk x ∧ pOk n p
def pOkL : Nat → List Plan → Prop
  | _, [] => True
  | n, p :: ps => pOk n p ∧ pOkL n ps
end
theorem plansD_map : ∀ ps : List Plan, plansD ps = ps.map planD
  | [] => by unfold plansD; rfl
  | p :: ps => by
    unfold plansD
    rw [plansD_map ps]
    rfl
theorem namesL_nil : namesL [] = [] := by unfold namesL; rfl
theorem namesL_cons (p : Plan) (ps : List Plan) : namesL (p :: ps) = names p ++ namesL ps := by
  conv => lhs; unfold namesL
theorem namesL_append : ∀ ps qs : List Plan, namesL (ps ++ qs) = namesL ps ++ namesL qs
  | [], _ => by rw [List.nil_append, namesL_nil, List.nil_append]
  | p :: ps, qs => by rw [List.cons_append, namesL_cons, namesL_cons, namesL_append ps qs, List.append_assoc]
theorem projsL_nil : projsL [] = [] := by unfold projsL; rfl
theorem projsL_cons (p : Plan) (ps : List Plan) : projsL (p :: ps) = projs p ++ projsL ps := by
  conv => lhs; unfold projsL
theorem projsL_append : ∀ ps qs : List Plan, projsL (ps ++ qs) = projsL ps ++ projsL qs
  | [], _ => by rw [List.nil_append, projsL_nil, List.nil_append]
  | p :: ps, qs => by rw [List.cons_append, projsL_cons, projsL_cons, projsL_append ps qs, List.append_assoc]
theorem partsL_nil : partsL [] = [] := by unfold partsL; rfl
theorem partsL_cons (p : Plan) (ps : List Plan) : partsL (p :: ps) = parts p ++ partsL ps := by
  conv => lhs; unfold partsL
theorem partsL_append : ∀ ps qs : List Plan, partsL (ps ++ qs) = partsL ps ++ partsL qs
  | [], _ => by rw [List.nil_append, partsL_nil, List.nil_append]
  | p :: ps, qs => by rw [List.cons_append, partsL_cons, partsL_cons, partsL_append ps qs, List.append_assoc]
theorem pOkL_iff {n : Nat} : ∀ {ps : List Plan}, pOkL n ps ↔ ∀ p, p ∈ ps → pOk n p
  | [] => by
    unfold pOkL
    simp
  | p :: ps => by
    unfold pOkL
    rw [pOkL_iff (ps := ps)]
    simp
mutual
theorem names_le : ∀ p : Plan, (names p).length ≤ psize p
  | .tab s => by unfold names psize; exact Nat.le_refl _
  | .join ps => by
    unfold names psize
    have := namesL_le ps
    omega
  | .proj k x p => by
    unfold names psize
    have := names_le p
    omega
theorem namesL_le : ∀ ps : List Plan, (namesL ps).length ≤ psizeL ps
  | [] => by unfold namesL psizeL; exact Nat.le_refl _
  | p :: ps => by
    unfold namesL psizeL
    have := names_le p
    have := namesL_le ps
    rw [List.length_append]
    omega
end
mutual
theorem projs_le : ∀ p : Plan, (projs p).length ≤ psize p
  | .tab s => by unfold projs psize; exact Nat.zero_le _
  | .join ps => by
    unfold projs psize
    have := projsL_le ps
    omega
  | .proj k x p => by
    unfold projs psize
    have := projs_le p
    rw [List.length_append]
    show _ + 1 ≤ _
    omega
theorem projsL_le : ∀ ps : List Plan, (projsL ps).length ≤ psizeL ps
  | [] => by unfold projsL psizeL; exact Nat.le_refl _
  | p :: ps => by
    unfold projsL psizeL
    have := projs_le p
    have := projsL_le ps
    rw [List.length_append]
    omega
end
theorem psize_pos : ∀ p : Plan, 1 ≤ psize p
  | .tab _ => by unfold psize; exact Nat.le_refl _
  | .join _ => by unfold psize; omega
  | .proj _ _ _ => by unfold psize; omega
theorem psizeL_mem {p : Plan} : ∀ {ps : List Plan}, p ∈ ps → psize p ≤ psizeL ps
  | q :: ps, h => by
    unfold psizeL
    rcases List.mem_cons.mp h with rfl | h
    · omega
    · have := psizeL_mem h
      omega
theorem psizeL_len : ∀ ps : List Plan, ps.length ≤ psizeL ps
  | [] => Nat.zero_le _
  | p :: ps => by
    unfold psizeL
    have := psizeL_len ps
    have := psize_pos p
    rw [List.length_cons]
    omega
mutual
theorem noL_planD : ∀ p : Plan, noL (planD p) = true
  | .tab s => by unfold planD noL; rfl
  | .join ps => by
    have h := noL_plansD ps
    simp [planD, noL, noLs, h]
  | .proj k x p => by
    have h := noL_planD p
    simp [planD, noL, noLs, h]
theorem noL_plansD : ∀ ps : List Plan, noLs (plansD ps) = true
  | [] => by unfold plansD noLs; rfl
  | p :: ps => by
    have h := noL_planD p
    have h2 := noL_plansD ps
    simp [plansD, noLs, h, h2]
end
theorem noL_termD (t : Term) : noL (termD t) = true := by
  cases t with
  | l s => rfl
  | c x => cases x <;> (simp [termD, cd, noL, noLs])
theorem noL_atomD (a : Atom) : noL (atomD a) = true := by
  have h := noLs_map noL_termD a.2
  simp [atomD, noL, noLs, h]
theorem noL_atomsD (as : List Atom) : noL (atomsD as) = true := by
  have h := noLs_map noL_atomD as
  simp [atomsD, noL, h]
theorem noL_memD (m : Mem) : noL (memD m) = true := by
  have h := noLs_map noL_termD m.head
  have h2 := noL_atomsD m.atoms
  simp [memD, noL, noLs, h, h2]

def topS (i : Nat) : Stmt := PySem.Challenge.pw_worldbase_k47_determined_letters_and_dem.main.body.getD i (.Pass ⟨0, 0, 0, 0⟩)
abbrev s_letters_in : Stmt := topS 1
theorem sc_letters_in : FnScope ["atoms", "found", "table", "terms", "term"] ["atoms"] (defScope s_letters_in) := ⟨rfl, rfl, rfl, by decide +kernel, rfl, by decide +kernel, by decide +kernel⟩
abbrev s_number_of : Stmt := topS 2
theorem sc_number_of : FnScope ["letter"] ["letter"] (defScope s_number_of) := ⟨rfl, rfl, rfl, by decide +kernel, rfl, by decide +kernel, by decide +kernel⟩
abbrev s_by_number : Stmt := topS 3
theorem sc_by_number : FnScope ["letters"] ["letters"] (defScope s_by_number) := ⟨rfl, rfl, rfl, by decide +kernel, rfl, by decide +kernel, by decide +kernel⟩
abbrev s_block_keys : Stmt := topS 4
theorem sc_block_keys : FnScope ["shapes", "shape"] ["shapes"] (defScope s_block_keys) := ⟨rfl, rfl, rfl, by decide +kernel, rfl, by decide +kernel, by decide +kernel⟩
abbrev s_parts_within : Stmt := topS 6
theorem sc_parts_within : FnScope ["plan"] ["plan"] (defScope s_parts_within) := ⟨rfl, rfl, rfl, by decide +kernel, rfl, by decide +kernel, by decide +kernel⟩
abbrev s_tables_in : Stmt := topS 7
theorem sc_tables_in : FnScope ["plan", "found", "part"] ["plan"] (defScope s_tables_in) := ⟨rfl, rfl, rfl, by decide +kernel, rfl, by decide +kernel, by decide +kernel⟩
abbrev s_projections : Stmt := topS 8
theorem sc_projections : FnScope ["plan", "found", "part"] ["plan"] (defScope s_projections) := ⟨rfl, rfl, rfl, by decide +kernel, rfl, by decide +kernel, by decide +kernel⟩
abbrev s_determined : Stmt := topS 10
theorem sc_determined : FnScope ["shapes", "atoms", "letters", "keys", "found", "letter", "grown", "table", "terms", "added", "missing"] ["shapes", "atoms", "letters"] (defScope s_determined) := ⟨rfl, rfl, rfl, by decide +kernel, rfl, by decide +kernel, by decide +kernel⟩
abbrev s_meets_demand : Stmt := topS 11
theorem sc_meets_demand : FnScope ["shapes", "kind", "letter", "atoms", "free", "keys", "name", "form", "width", "many", "table", "terms"] ["shapes", "kind", "letter", "atoms", "free"] (defScope s_meets_demand) := ⟨rfl, rfl, rfl, by decide +kernel, rfl, by decide +kernel, by decide +kernel⟩
abbrev s_atoms_below : Stmt := topS 12
theorem sc_atoms_below : FnScope ["member", "part", "tables", "atom"] ["member", "part"] (defScope s_atoms_below) := ⟨rfl, rfl, rfl, by decide +kernel, rfl, by decide +kernel, by decide +kernel⟩
abbrev s_free_letters : Stmt := topS 13
theorem sc_free_letters : FnScope ["member", "part", "projected", "other", "letter"] ["member", "part"] (defScope s_free_letters) := ⟨rfl, rfl, rfl, by decide +kernel, rfl, by decide +kernel, by decide +kernel⟩
abbrev s_is_met : Stmt := topS 14
theorem sc_is_met : FnScope ["shapes", "member", "part"] ["shapes", "member", "part"] (defScope s_is_met) := ⟨rfl, rfl, rfl, by decide +kernel, rfl, by decide +kernel, by decide +kernel⟩
abbrev s_demands : Stmt := topS 15
theorem sc_demands : FnScope ["shapes", "member", "plan", "part"] ["shapes", "member", "plan"] (defScope s_demands) := ⟨rfl, rfl, rfl, by decide +kernel, rfl, by decide +kernel, by decide +kernel⟩
abbrev s_is_safe : Stmt := topS 16
theorem sc_is_safe : FnScope ["shapes", "member", "plan", "letter", "met"] ["shapes", "member", "plan"] (defScope s_is_safe) := ⟨rfl, rfl, rfl, by decide +kernel, rfl, by decide +kernel, by decide +kernel⟩
abbrev s__law_tape : Stmt := topS 18
theorem sc__law_tape : FnScope ["script", "mixed", "cell"] ["script"] (defScope s__law_tape) := ⟨rfl, rfl, rfl, by decide +kernel, rfl, by decide +kernel, by decide +kernel⟩
abbrev s__law_draw : Stmt := topS 19
theorem sc__law_draw : FnScope ["tape", "many", "place", "number"] ["tape", "many"] (defScope s__law_draw) := ⟨rfl, rfl, rfl, by decide +kernel, rfl, by decide +kernel, by decide +kernel⟩
abbrev s__law_pick : Stmt := topS 20
theorem sc__law_pick : FnScope ["tape", "rows"] ["tape", "rows"] (defScope s__law_pick) := ⟨rfl, rfl, rfl, by decide +kernel, rfl, by decide +kernel, by decide +kernel⟩
abbrev s__law_turns : Stmt := topS 21
theorem sc__law_turns : FnScope ["tape", "many", "left", "turns", "k"] ["tape", "many"] (defScope s__law_turns) := ⟨rfl, rfl, rfl, by decide +kernel, rfl, by decide +kernel, by decide +kernel⟩
abbrev s__law_shuffled : Stmt := topS 22
theorem sc__law_shuffled : FnScope ["tape", "rows", "left", "turned", "k"] ["tape", "rows"] (defScope s__law_shuffled) := ⟨rfl, rfl, rfl, by decide +kernel, rfl, by decide +kernel, by decide +kernel⟩
abbrev s__law_same : Stmt := topS 23
theorem sc__law_same : FnScope ["told", "wanted", "k"] ["told", "wanted"] (defScope s__law_same) := ⟨rfl, rfl, rfl, by decide +kernel, rfl, by decide +kernel, by decide +kernel⟩
abbrev s__law_text : Stmt := topS 24
theorem sc__law_text : FnScope ["tape", "most", "signs", "k"] ["tape", "most"] (defScope s__law_text) := ⟨rfl, rfl, rfl, by decide +kernel, rfl, by decide +kernel, by decide +kernel⟩
abbrev s__law_value_of : Stmt := topS 25
theorem sc__law_value_of : FnScope ["tape", "choice"] ["tape"] (defScope s__law_value_of) := ⟨rfl, rfl, rfl, by decide +kernel, rfl, by decide +kernel, by decide +kernel⟩
abbrev s__law_pool : Stmt := topS 26
theorem sc__law_pool : FnScope ["tape", "many", "k"] ["tape"] (defScope s__law_pool) := ⟨rfl, rfl, rfl, by decide +kernel, rfl, by decide +kernel, by decide +kernel⟩
abbrev s__law_reserved : Stmt := topS 27
theorem sc__law_reserved : FnScope ["words"] [] (defScope s__law_reserved) := ⟨rfl, rfl, rfl, by decide +kernel, rfl, by decide +kernel, by decide +kernel⟩
abbrev s__law_name : Stmt := topS 28
theorem sc__law_name : FnScope ["tape", "taken", "signs", "stem", "name", "k"] ["tape", "taken"] (defScope s__law_name) := ⟨rfl, rfl, rfl, by decide +kernel, rfl, by decide +kernel, by decide +kernel⟩
abbrev s__law_term_of : Stmt := topS 29
theorem sc__law_term_of : FnScope ["tape", "letters", "pool"] ["tape", "letters", "pool"] (defScope s__law_term_of) := ⟨rfl, rfl, rfl, by decide +kernel, rfl, by decide +kernel, by decide +kernel⟩
abbrev s__law_letters_in : Stmt := topS 30
theorem sc__law_letters_in : FnScope ["atoms", "found", "name", "terms", "term"] ["atoms"] (defScope s__law_letters_in) := ⟨rfl, rfl, rfl, by decide +kernel, rfl, by decide +kernel, by decide +kernel⟩
abbrev s__law_shapes : Stmt := topS 31
theorem sc__law_shapes : FnScope ["tape", "many", "kinds", "names", "k", "told", "name", "kind", "columns", "keys"] ["tape", "many", "kinds"] (defScope s__law_shapes) := ⟨rfl, rfl, rfl, by decide +kernel, rfl, by decide +kernel, by decide +kernel⟩
abbrev s__law_shape : Stmt := topS 32
theorem sc__law_shape : FnScope ["forms", "name", "shape"] ["forms", "name"] (defScope s__law_shape) := ⟨rfl, rfl, rfl, by decide +kernel, rfl, by decide +kernel, by decide +kernel⟩
abbrev s__law_terms : Stmt := topS 33
theorem sc__law_terms : FnScope ["tape", "columns", "pool", "met", "most", "new", "terms", "k", "choice"] ["tape", "columns", "pool", "met", "most", "new"] (defScope s__law_terms) := ⟨rfl, rfl, rfl, by decide +kernel, rfl, by decide +kernel, by decide +kernel⟩
abbrev s__law_twelve : Stmt := topS 34
theorem sc__law_twelve : FnScope ["kind", "keys", "forms", "name", "letters", "k", "atoms"] ["kind", "keys"] (defScope s__law_twelve) := ⟨rfl, rfl, rfl, by decide +kernel, rfl, by decide +kernel, by decide +kernel⟩
abbrev s__law_letter_number : Stmt := topS 35
theorem sc__law_letter_number : FnScope ["letter"] ["letter"] (defScope s__law_letter_number) := ⟨rfl, rfl, rfl, by decide +kernel, rfl, by decide +kernel, by decide +kernel⟩
abbrev s__law_in_order : Stmt := topS 36
theorem sc__law_in_order : FnScope ["letters"] ["letters"] (defScope s__law_in_order) := ⟨rfl, rfl, rfl, by decide +kernel, rfl, by decide +kernel, by decide +kernel⟩
abbrev s__law_simple : Stmt := topS 37
theorem sc__law_simple : FnScope ["tape", "forms", "most", "pool", "columns", "atoms", "new", "shape", "letters", "k"] ["tape", "forms", "most", "pool", "columns"] (defScope s__law_simple) := ⟨rfl, rfl, rfl, by decide +kernel, rfl, by decide +kernel, by decide +kernel⟩
abbrev s__law_bound : Stmt := topS 38
theorem sc__law_bound : FnScope ["member", "letter"] ["member"] (defScope s__law_bound) := ⟨rfl, rfl, rfl, by decide +kernel, rfl, by decide +kernel, by decide +kernel⟩
abbrev s__law_joined : Stmt := topS 39
theorem sc__law_joined : FnScope ["tape", "parts", "k"] ["tape", "parts"] (defScope s__law_joined) := ⟨rfl, rfl, rfl, by decide +kernel, rfl, by decide +kernel, by decide +kernel⟩
abbrev s__law_plan : Stmt := topS 40
theorem sc__law_plan : FnScope ["tape", "member", "parts", "atom", "letter", "mine", "part", "rest"] ["tape", "member"] (defScope s__law_plan) := ⟨rfl, rfl, rfl, by decide +kernel, rfl, by decide +kernel, by decide +kernel⟩
abbrev s__law_plan_names : Stmt := topS 41
theorem sc__law_plan_names : FnScope ["plan", "names", "part"] ["plan"] (defScope s__law_plan_names) := ⟨rfl, rfl, rfl, by decide +kernel, rfl, by decide +kernel, by decide +kernel⟩
abbrev s__law_projections : Stmt := topS 42
theorem sc__law_projections : FnScope ["plan", "told", "part"] ["plan"] (defScope s__law_projections) := ⟨rfl, rfl, rfl, by decide +kernel, rfl, by decide +kernel, by decide +kernel⟩
abbrev s__law_projected : Stmt := topS 43
theorem sc__law_projected : FnScope ["plan", "part"] ["plan"] (defScope s__law_projected) := ⟨rfl, rfl, rfl, by decide +kernel, rfl, by decide +kernel, by decide +kernel⟩
abbrev s__law_atoms_below : Stmt := topS 44
theorem sc__law_atoms_below : FnScope ["member", "plan", "names", "atom"] ["member", "plan"] (defScope s__law_atoms_below) := ⟨rfl, rfl, rfl, by decide +kernel, rfl, by decide +kernel, by decide +kernel⟩
abbrev s__law_key_letters : Stmt := topS 45
theorem sc__law_key_letters : FnScope ["forms", "atom"] ["forms", "atom"] (defScope s__law_key_letters) := ⟨rfl, rfl, rfl, by decide +kernel, rfl, by decide +kernel, by decide +kernel⟩
abbrev s__law_determined : Stmt := topS 46
theorem sc__law_determined : FnScope ["forms", "atoms", "letters", "known", "letter", "turn", "atom", "lacking", "term"] ["forms", "atoms", "letters"] (defScope s__law_determined) := ⟨rfl, rfl, rfl, by decide +kernel, rfl, by decide +kernel, by decide +kernel⟩
abbrev s__law_demand_met : Stmt := topS 47
theorem sc__law_demand_met : FnScope ["forms", "member", "plan", "atoms", "bad", "atom", "inside", "free", "letter"] ["forms", "member", "plan"] (defScope s__law_demand_met) := ⟨rfl, rfl, rfl, by decide +kernel, rfl, by decide +kernel, by decide +kernel⟩
abbrev s__law_other_kind : Stmt := topS 48
theorem sc__law_other_kind : FnScope ["tape", "forms", "at", "name", "kind", "columns", "keys", "new"] ["tape", "forms"] (defScope s__law_other_kind) := ⟨rfl, rfl, rfl, by decide +kernel, rfl, by decide +kernel, by decide +kernel⟩
abbrev s__law_demands_right : Stmt := topS 49
theorem sc__law_demands_right : FnScope ["forms", "member", "plan", "due", "part"] ["forms", "member", "plan"] (defScope s__law_demands_right) := ⟨rfl, rfl, rfl, by decide +kernel, rfl, by decide +kernel, by decide +kernel⟩
abbrev s__law_safe_right : Stmt := topS 50
theorem sc__law_safe_right : FnScope ["forms", "member", "plan", "unmet", "part"] ["forms", "member", "plan"] (defScope s__law_safe_right) := ⟨rfl, rfl, rfl, by decide +kernel, rfl, by decide +kernel, by decide +kernel⟩
abbrev s__law_determined_right : Stmt := topS 51
theorem sc__law_determined_right : FnScope ["forms", "atoms", "letters", "due"] ["forms", "atoms", "letters"] (defScope s__law_determined_right) := ⟨rfl, rfl, rfl, by decide +kernel, rfl, by decide +kernel, by decide +kernel⟩
abbrev s__law_some : Stmt := topS 52
theorem sc__law_some : FnScope ["tape", "rows", "share", "one"] ["tape", "rows"] (defScope s__law_some) := ⟨rfl, rfl, rfl, by decide +kernel, rfl, by decide +kernel, by decide +kernel⟩
abbrev s_law : Stmt := topS 53
theorem sc_law : FnScope ["script", "tape", "forms", "pool", "member", "letters", "plan", "other", "near", "atoms", "atom", "some", "turn", "free", "great", "seat", "one", "first", "second", "safe", "keyed", "chain"] ["script"] (defScope s_law) := ⟨rfl, rfl, rfl, by decide +kernel, rfl, by decide +kernel, by decide +kernel⟩
structure Txt (K : PySem.W.Frag) (mg : Str → Option Value) where
  a_letters_in : Addr
  d_letters_in : FuncData
  F_letters_in : Fun K "letters_in" "letters_in" s_letters_in a_letters_in d_letters_in
  b_letters_in : Binds K d_letters_in ["atoms"] []
  m_letters_in : mg "letters_in" = some (.ref a_letters_in)
  a_number_of : Addr
  d_number_of : FuncData
  F_number_of : Fun K "number_of" "number_of" s_number_of a_number_of d_number_of
  b_number_of : Binds K d_number_of ["letter"] []
  m_number_of : mg "number_of" = some (.ref a_number_of)
  a_by_number : Addr
  d_by_number : FuncData
  F_by_number : Fun K "by_number" "by_number" s_by_number a_by_number d_by_number
  b_by_number : Binds K d_by_number ["letters"] []
  m_by_number : mg "by_number" = some (.ref a_by_number)
  a_block_keys : Addr
  d_block_keys : FuncData
  F_block_keys : Fun K "block_keys" "block_keys" s_block_keys a_block_keys d_block_keys
  b_block_keys : Binds K d_block_keys ["shapes"] []
  m_block_keys : mg "block_keys" = some (.ref a_block_keys)
  a_parts_within : Addr
  d_parts_within : FuncData
  F_parts_within : Fun K "parts_within" "parts_within" s_parts_within a_parts_within d_parts_within
  b_parts_within : Binds K d_parts_within ["plan"] []
  m_parts_within : mg "parts_within" = some (.ref a_parts_within)
  a_tables_in : Addr
  d_tables_in : FuncData
  F_tables_in : Fun K "tables_in" "tables_in" s_tables_in a_tables_in d_tables_in
  b_tables_in : Binds K d_tables_in ["plan"] []
  m_tables_in : mg "tables_in" = some (.ref a_tables_in)
  a_projections : Addr
  d_projections : FuncData
  F_projections : Fun K "projections" "projections" s_projections a_projections d_projections
  b_projections : Binds K d_projections ["plan"] []
  m_projections : mg "projections" = some (.ref a_projections)
  a_determined : Addr
  d_determined : FuncData
  F_determined : Fun K "determined" "determined" s_determined a_determined d_determined
  b_determined : Binds K d_determined ["shapes", "atoms", "letters"] []
  m_determined : mg "determined" = some (.ref a_determined)
  a_meets_demand : Addr
  d_meets_demand : FuncData
  F_meets_demand : Fun K "meets_demand" "meets_demand" s_meets_demand a_meets_demand d_meets_demand
  b_meets_demand : Binds K d_meets_demand ["shapes", "kind", "letter", "atoms", "free"] []
  m_meets_demand : mg "meets_demand" = some (.ref a_meets_demand)
  a_atoms_below : Addr
  d_atoms_below : FuncData
  F_atoms_below : Fun K "atoms_below" "atoms_below" s_atoms_below a_atoms_below d_atoms_below
  b_atoms_below : Binds K d_atoms_below ["member", "part"] []
  m_atoms_below : mg "atoms_below" = some (.ref a_atoms_below)
  a_free_letters : Addr
  d_free_letters : FuncData
  F_free_letters : Fun K "free_letters" "free_letters" s_free_letters a_free_letters d_free_letters
  b_free_letters : Binds K d_free_letters ["member", "part"] []
  m_free_letters : mg "free_letters" = some (.ref a_free_letters)
  a_is_met : Addr
  d_is_met : FuncData
  F_is_met : Fun K "is_met" "is_met" s_is_met a_is_met d_is_met
  b_is_met : Binds K d_is_met ["shapes", "member", "part"] []
  m_is_met : mg "is_met" = some (.ref a_is_met)
  a_demands : Addr
  d_demands : FuncData
  F_demands : Fun K "demands" "demands" s_demands a_demands d_demands
  b_demands : Binds K d_demands ["shapes", "member", "plan"] []
  m_demands : mg "demands" = some (.ref a_demands)
  a_is_safe : Addr
  d_is_safe : FuncData
  F_is_safe : Fun K "is_safe" "is_safe" s_is_safe a_is_safe d_is_safe
  b_is_safe : Binds K d_is_safe ["shapes", "member", "plan"] []
  m_is_safe : mg "is_safe" = some (.ref a_is_safe)
  a__law_tape : Addr
  d__law_tape : FuncData
  F__law_tape : Fun K "_law_tape" "_law_tape" s__law_tape a__law_tape d__law_tape
  b__law_tape : Binds K d__law_tape ["script"] []
  m__law_tape : mg "_law_tape" = some (.ref a__law_tape)
  a__law_draw : Addr
  d__law_draw : FuncData
  F__law_draw : Fun K "_law_draw" "_law_draw" s__law_draw a__law_draw d__law_draw
  b__law_draw : Binds K d__law_draw ["tape", "many"] []
  m__law_draw : mg "_law_draw" = some (.ref a__law_draw)
  a__law_pick : Addr
  d__law_pick : FuncData
  F__law_pick : Fun K "_law_pick" "_law_pick" s__law_pick a__law_pick d__law_pick
  b__law_pick : Binds K d__law_pick ["tape", "rows"] []
  m__law_pick : mg "_law_pick" = some (.ref a__law_pick)
  a__law_turns : Addr
  d__law_turns : FuncData
  F__law_turns : Fun K "_law_turns" "_law_turns" s__law_turns a__law_turns d__law_turns
  b__law_turns : Binds K d__law_turns ["tape", "many"] []
  m__law_turns : mg "_law_turns" = some (.ref a__law_turns)
  a__law_shuffled : Addr
  d__law_shuffled : FuncData
  F__law_shuffled : Fun K "_law_shuffled" "_law_shuffled" s__law_shuffled a__law_shuffled d__law_shuffled
  b__law_shuffled : Binds K d__law_shuffled ["tape", "rows"] []
  m__law_shuffled : mg "_law_shuffled" = some (.ref a__law_shuffled)
  a__law_same : Addr
  d__law_same : FuncData
  F__law_same : Fun K "_law_same" "_law_same" s__law_same a__law_same d__law_same
  b__law_same : Binds K d__law_same ["told", "wanted"] []
  m__law_same : mg "_law_same" = some (.ref a__law_same)
  a__law_text : Addr
  d__law_text : FuncData
  F__law_text : Fun K "_law_text" "_law_text" s__law_text a__law_text d__law_text
  b__law_text : Binds K d__law_text ["tape", "most"] []
  m__law_text : mg "_law_text" = some (.ref a__law_text)
  a__law_value_of : Addr
  d__law_value_of : FuncData
  F__law_value_of : Fun K "_law_value_of" "_law_value_of" s__law_value_of a__law_value_of d__law_value_of
  b__law_value_of : Binds K d__law_value_of ["tape"] []
  m__law_value_of : mg "_law_value_of" = some (.ref a__law_value_of)
  a__law_pool : Addr
  d__law_pool : FuncData
  F__law_pool : Fun K "_law_pool" "_law_pool" s__law_pool a__law_pool d__law_pool
  b__law_pool : Binds K d__law_pool ["tape"] []
  m__law_pool : mg "_law_pool" = some (.ref a__law_pool)
  a__law_reserved : Addr
  d__law_reserved : FuncData
  F__law_reserved : Fun K "_law_reserved" "_law_reserved" s__law_reserved a__law_reserved d__law_reserved
  b__law_reserved : Binds K d__law_reserved [] []
  m__law_reserved : mg "_law_reserved" = some (.ref a__law_reserved)
  a__law_name : Addr
  d__law_name : FuncData
  F__law_name : Fun K "_law_name" "_law_name" s__law_name a__law_name d__law_name
  b__law_name : Binds K d__law_name ["tape", "taken"] []
  m__law_name : mg "_law_name" = some (.ref a__law_name)
  a__law_term_of : Addr
  d__law_term_of : FuncData
  F__law_term_of : Fun K "_law_term_of" "_law_term_of" s__law_term_of a__law_term_of d__law_term_of
  b__law_term_of : Binds K d__law_term_of ["tape", "letters", "pool"] []
  m__law_term_of : mg "_law_term_of" = some (.ref a__law_term_of)
  a__law_letters_in : Addr
  d__law_letters_in : FuncData
  F__law_letters_in : Fun K "_law_letters_in" "_law_letters_in" s__law_letters_in a__law_letters_in d__law_letters_in
  b__law_letters_in : Binds K d__law_letters_in ["atoms"] []
  m__law_letters_in : mg "_law_letters_in" = some (.ref a__law_letters_in)
  a__law_shapes : Addr
  d__law_shapes : FuncData
  F__law_shapes : Fun K "_law_shapes" "_law_shapes" s__law_shapes a__law_shapes d__law_shapes
  b__law_shapes : Binds K d__law_shapes ["tape", "many", "kinds"] []
  m__law_shapes : mg "_law_shapes" = some (.ref a__law_shapes)
  a__law_shape : Addr
  d__law_shape : FuncData
  F__law_shape : Fun K "_law_shape" "_law_shape" s__law_shape a__law_shape d__law_shape
  b__law_shape : Binds K d__law_shape ["forms", "name"] []
  m__law_shape : mg "_law_shape" = some (.ref a__law_shape)
  a__law_terms : Addr
  d__law_terms : FuncData
  F__law_terms : Fun K "_law_terms" "_law_terms" s__law_terms a__law_terms d__law_terms
  b__law_terms : Binds K d__law_terms ["tape", "columns", "pool", "met", "most", "new"] []
  m__law_terms : mg "_law_terms" = some (.ref a__law_terms)
  a__law_twelve : Addr
  d__law_twelve : FuncData
  F__law_twelve : Fun K "_law_twelve" "_law_twelve" s__law_twelve a__law_twelve d__law_twelve
  b__law_twelve : Binds K d__law_twelve ["kind", "keys"] []
  m__law_twelve : mg "_law_twelve" = some (.ref a__law_twelve)
  a__law_letter_number : Addr
  d__law_letter_number : FuncData
  F__law_letter_number : Fun K "_law_letter_number" "_law_letter_number" s__law_letter_number a__law_letter_number d__law_letter_number
  b__law_letter_number : Binds K d__law_letter_number ["letter"] []
  m__law_letter_number : mg "_law_letter_number" = some (.ref a__law_letter_number)
  a__law_in_order : Addr
  d__law_in_order : FuncData
  F__law_in_order : Fun K "_law_in_order" "_law_in_order" s__law_in_order a__law_in_order d__law_in_order
  b__law_in_order : Binds K d__law_in_order ["letters"] []
  m__law_in_order : mg "_law_in_order" = some (.ref a__law_in_order)
  a__law_simple : Addr
  d__law_simple : FuncData
  F__law_simple : Fun K "_law_simple" "_law_simple" s__law_simple a__law_simple d__law_simple
  b__law_simple : Binds K d__law_simple ["tape", "forms", "most", "pool", "columns"] []
  m__law_simple : mg "_law_simple" = some (.ref a__law_simple)
  a__law_bound : Addr
  d__law_bound : FuncData
  F__law_bound : Fun K "_law_bound" "_law_bound" s__law_bound a__law_bound d__law_bound
  b__law_bound : Binds K d__law_bound ["member"] []
  m__law_bound : mg "_law_bound" = some (.ref a__law_bound)
  a__law_joined : Addr
  d__law_joined : FuncData
  F__law_joined : Fun K "_law_joined" "_law_joined" s__law_joined a__law_joined d__law_joined
  b__law_joined : Binds K d__law_joined ["tape", "parts"] []
  m__law_joined : mg "_law_joined" = some (.ref a__law_joined)
  a__law_plan : Addr
  d__law_plan : FuncData
  F__law_plan : Fun K "_law_plan" "_law_plan" s__law_plan a__law_plan d__law_plan
  b__law_plan : Binds K d__law_plan ["tape", "member"] []
  m__law_plan : mg "_law_plan" = some (.ref a__law_plan)
  a__law_plan_names : Addr
  d__law_plan_names : FuncData
  F__law_plan_names : Fun K "_law_plan_names" "_law_plan_names" s__law_plan_names a__law_plan_names d__law_plan_names
  b__law_plan_names : Binds K d__law_plan_names ["plan"] []
  m__law_plan_names : mg "_law_plan_names" = some (.ref a__law_plan_names)
  a__law_projections : Addr
  d__law_projections : FuncData
  F__law_projections : Fun K "_law_projections" "_law_projections" s__law_projections a__law_projections d__law_projections
  b__law_projections : Binds K d__law_projections ["plan"] []
  m__law_projections : mg "_law_projections" = some (.ref a__law_projections)
  a__law_projected : Addr
  d__law_projected : FuncData
  F__law_projected : Fun K "_law_projected" "_law_projected" s__law_projected a__law_projected d__law_projected
  b__law_projected : Binds K d__law_projected ["plan"] []
  m__law_projected : mg "_law_projected" = some (.ref a__law_projected)
  a__law_atoms_below : Addr
  d__law_atoms_below : FuncData
  F__law_atoms_below : Fun K "_law_atoms_below" "_law_atoms_below" s__law_atoms_below a__law_atoms_below d__law_atoms_below
  b__law_atoms_below : Binds K d__law_atoms_below ["member", "plan"] []
  m__law_atoms_below : mg "_law_atoms_below" = some (.ref a__law_atoms_below)
  a__law_key_letters : Addr
  d__law_key_letters : FuncData
  F__law_key_letters : Fun K "_law_key_letters" "_law_key_letters" s__law_key_letters a__law_key_letters d__law_key_letters
  b__law_key_letters : Binds K d__law_key_letters ["forms", "atom"] []
  m__law_key_letters : mg "_law_key_letters" = some (.ref a__law_key_letters)
  a__law_determined : Addr
  d__law_determined : FuncData
  F__law_determined : Fun K "_law_determined" "_law_determined" s__law_determined a__law_determined d__law_determined
  b__law_determined : Binds K d__law_determined ["forms", "atoms", "letters"] []
  m__law_determined : mg "_law_determined" = some (.ref a__law_determined)
  a__law_demand_met : Addr
  d__law_demand_met : FuncData
  F__law_demand_met : Fun K "_law_demand_met" "_law_demand_met" s__law_demand_met a__law_demand_met d__law_demand_met
  b__law_demand_met : Binds K d__law_demand_met ["forms", "member", "plan"] []
  m__law_demand_met : mg "_law_demand_met" = some (.ref a__law_demand_met)
  a__law_other_kind : Addr
  d__law_other_kind : FuncData
  F__law_other_kind : Fun K "_law_other_kind" "_law_other_kind" s__law_other_kind a__law_other_kind d__law_other_kind
  b__law_other_kind : Binds K d__law_other_kind ["tape", "forms"] []
  m__law_other_kind : mg "_law_other_kind" = some (.ref a__law_other_kind)
  a__law_demands_right : Addr
  d__law_demands_right : FuncData
  F__law_demands_right : Fun K "_law_demands_right" "_law_demands_right" s__law_demands_right a__law_demands_right d__law_demands_right
  b__law_demands_right : Binds K d__law_demands_right ["forms", "member", "plan"] []
  m__law_demands_right : mg "_law_demands_right" = some (.ref a__law_demands_right)
  a__law_safe_right : Addr
  d__law_safe_right : FuncData
  F__law_safe_right : Fun K "_law_safe_right" "_law_safe_right" s__law_safe_right a__law_safe_right d__law_safe_right
  b__law_safe_right : Binds K d__law_safe_right ["forms", "member", "plan"] []
  m__law_safe_right : mg "_law_safe_right" = some (.ref a__law_safe_right)
  a__law_determined_right : Addr
  d__law_determined_right : FuncData
  F__law_determined_right : Fun K "_law_determined_right" "_law_determined_right" s__law_determined_right a__law_determined_right d__law_determined_right
  b__law_determined_right : Binds K d__law_determined_right ["forms", "atoms", "letters"] []
  m__law_determined_right : mg "_law_determined_right" = some (.ref a__law_determined_right)
  a__law_some : Addr
  d__law_some : FuncData
  F__law_some : Fun K "_law_some" "_law_some" s__law_some a__law_some d__law_some
  b__law_some : Binds K d__law_some ["tape", "rows"] []
  m__law_some : mg "_law_some" = some (.ref a__law_some)
  a_law : Addr
  d_law : FuncData
  F_law : Fun K "law" "law" s_law a_law d_law
  z_tuple : mg "tuple" = none
  z_list : mg "list" = none
  z_isinstance : mg "isinstance" = none
  z_str : mg "str" = none
  z_int : mg "int" = none
  z_sorted : mg "sorted" = none
  z_all : mg "all" = none
  z_abs : mg "abs" = none
  z_max : mg "max" = none
  z_len : mg "len" = none
  z_range : mg "range" = none
  z_bool : mg "bool" = none

def B_letters_in : SV := (sSeq (sSetO 1 eDn)
  (sSeq (sFor (iE (eV 0)) (fT (fsC (fN 2) (fsC (fN 3) fsN)))
  (sFor (iE (eV 3)) (fN 4)
  (sIf (truT (eIsi .str (eV 4))) (sDput 1 (eV 4) (eC (.bool true))) sNext) [4]) [2, 3, 4])
  (sRet (eB bTup (aC (eLstD 1) aN)))))
def F_letters_in : FV := defV 1 5 B_letters_in
def B_number_of : SV := (sRet (eB bInt (aC (eSl (eV 0) (oE (eC (.int 1))) oNo) aN)))
def F_number_of : FV := defV 1 1 B_number_of
def B_by_number : SV := (sRet (eB bTup (aC (eSortBy F_number_of (aC (eB bLst (aC (eV 0) aN)) aN)) aN)))
def F_by_number : FV := defV 1 1 B_by_number
def B_block_keys : SV := (sRet (eDc (icE (eV 0)) (fN 1) (asT (e2 opEq (e2 opIx (eV 1) (eC (.int 1))) (eC (.str "block")))) (e2 opIx (eV 1) (eC (.int 0))) (e2 opIx (eV 1) (eC (.int 3))) [1]))
def F_block_keys : FV := defV 1 2 B_block_keys
def B_parts_within : SV := (sSeq (sIf (truT (eIsi .str (eV 0))) (sRet (eTup aN)) sNext)
  (sSeq (sIf (asT (e2 opEq (e2 opIx (eV 0) (eC (.int 0))) (eC (.str "join")))) (sRet (e2 opIx (eV 0) (eC (.int 1)))) sNext)
  (sRet (eTup (aC (e2 opIx (eV 0) (eC (.int 2))) aN)))))
def F_parts_within : FV := defV 1 1 B_parts_within
def R_tables_in : Nat → FV
  | 0 => fun _ _ => False
  | n + 1 => defV 1 3 (sSeq (sIf (truT (eIsi .str (eV 0))) (sRet (eTup (aC (eV 0) aN))) sNext)
  (sSeq (sSetF 1 (eTup aN))
  (sSeq (sFor (iE (eCall F_parts_within (aC (eV 0) aN))) (fN 2)
  (sSetF 1 (e2 opAdd (eV 1) (eCall (R_tables_in n) (aC (eV 2) aN)))) [2])
  (sRet (eV 1)))))
def F_tables_in : FV := R_tables_in 130
def R_projections : Nat → FV
  | 0 => fun _ _ => False
  | n + 1 => defV 1 3 (sSeq (sSetF 1 (eTup aN))
  (sSeq (sFor (iE (eCall F_parts_within (aC (eV 0) aN))) (fN 2)
  (sSetF 1 (e2 opAdd (eV 1) (eCall (R_projections n) (aC (eV 2) aN)))) [2])
  (sSeq (sIf (andT (notT (truT (eIsi .str (eV 0)))) (asT (e2 opNe (e2 opIx (eV 0) (eC (.int 0))) (eC (.str "join"))))) (sSetF 1 (e2 opAdd (eV 1) (eTup (aC (eV 0) aN)))) sNext)
  (sRet (eV 1)))))
def F_projections : FV := R_projections 130
def B_determined : SV := (sSeq (sSetF 3 (eCall F_block_keys (aC (eV 0) aN)))
  (sSeq (sSetF 4 (eLc (icE (eCall F_letters_in (aC (eV 1) aN))) (fN 5) (asT (e2 opIn (eV 5) (eV 2))) (eV 5) [5]))
  (sSeq (sSetF 6 (eC (.bool true)))
  (sSeq (sWhile (truT (eV 6))
  (sSeq (sSetF 6 (eC (.bool false)))
  (sFor (iE (eV 1)) (fT (fsC (fN 7) (fsC (fN 8) fsN)))
  (sIf (asT (e2 opDin (eV 7) (eV 3))) (sSeq (sSetF 9 (eLc (icE (eCall F_letters_in (aC (eTup (aC (eTup (aC (eV 7) (aC (eV 8) aN))) aN)) aN))) (fN 5) (asT (e2 opNin (eV 5) (eV 4))) (eV 5) [5]))
  (sSeq (sSetF 10 (eLc (icE (eV 9)) (fN 5) (asT (e2 opIn (eV 5) (eSl (eV 8) oNo (oE (e2 opDg (eV 3) (eV 7)))))) (eV 5) [5]))
  (sIf (andT (truT (eV 9)) (notT (truT (eV 10)))) (sSeq (sSetF 4 (e2 opAdd (eV 4) (eV 9)))
  (sSetF 6 (eC (.bool true)))) sNext))) sNext) [7, 8, 9, 10])) [7, 8, 9, 10])
  (sRet (eCall F_by_number (aC (eV 4) aN)))))))
def F_determined : FV := defV 3 11 B_determined
def B_meets_demand : SV := (sSeq (sIf (asT (e2 opEq (eV 1) (eC (.str "exclusive")))) (sRet (e2 opIn (eV 2) (eCall F_determined (aC (eV 0) (aC (eV 3) (aC (eV 4) aN)))))) sNext)
  (sSeq (sSetF 5 (eDc (icE (eV 0)) (fT (fsC (fN 6) (fsC (fN 7) (fsC (fN 8) (fsC (fN 9) fsN))))) (asT (e2 opNe (eV 7) (eC (.str "certain")))) (eV 6) (eV 9) [6, 7, 8, 9]))
  (sSeq (sFor (iE (eV 3)) (fT (fsC (fN 10) (fsC (fN 11) fsN)))
  (sIf (andT (asT (e2 opDin (eV 10) (eV 5))) (asT (e2 opNin (eV 2) (eSl (eV 11) oNo (oE (e2 opDg (eV 5) (eV 10))))))) (sRet (eC (.bool false))) sNext) [10, 11])
  (sRet (eC (.bool true))))))
def F_meets_demand : FV := defV 5 12 B_meets_demand
def B_atoms_below : SV := (sSeq (sSetF 2 (eCall F_tables_in (aC (eV 1) aN)))
  (sRet (eB bTup (aC (eLc (icE (e2 opIx (eV 0) (eC (.int 2)))) (fN 3) (asT (e2 opIn (e2 opIx (eV 3) (eC (.int 0))) (eV 2))) (eV 3) [3]) aN))))
def F_atoms_below : FV := defV 2 4 B_atoms_below
def B_free_letters : SV := (sSeq (sSetF 2 (eLc (icE (eCall F_projections (aC (eV 1) aN))) (fN 3) yesT (e2 opIx (eV 3) (eC (.int 1))) [3]))
  (sRet (eCall F_by_number (aC (eLc (icE (eCall F_letters_in (aC (eCall F_atoms_below (aC (eV 0) (aC (eV 1) aN))) aN))) (fN 4) (asT (e2 opNin (eV 4) (eV 2))) (eV 4) [4]) aN))))
def F_free_letters : FV := defV 2 5 B_free_letters
def B_is_met : SV := (sRet (eCall F_meets_demand (aC (eV 0) (aC (e2 opIx (eV 2) (eC (.int 0))) (aC (e2 opIx (eV 2) (eC (.int 1))) (aC (eCall F_atoms_below (aC (eV 1) (aC (eV 2) aN))) (aC (eCall F_free_letters (aC (eV 1) (aC (eV 2) aN))) aN)))))))
def F_is_met : FV := defV 3 3 B_is_met
def B_demands : SV := (sRet (eB bTup (aC (eLc (icE (eCall F_projections (aC (eV 2) aN))) (fN 3) yesT (eTup (aC (e2 opIx (eV 3) (eC (.int 1))) (aC (eCall F_is_met (aC (eV 0) (aC (eV 1) (aC (eV 3) aN)))) aN))) [3]) aN)))
def F_demands : FV := defV 3 4 B_demands
def B_is_safe : SV := (sRet (eB bAll (aC (eLc (icE (eCall F_demands (aC (eV 0) (aC (eV 1) (aC (eV 2) aN))))) (fT (fsC (fN 3) (fsC (fN 4) fsN))) yesT (eV 4) [3, 4]) aN)))
def F_is_safe : FV := defV 3 5 B_is_safe
def B__law_pick : SV := (sRet (e2 opIx (eV 1) (eCall F__law_draw (aC (eV 0) (aC (eB bLen (aC (eV 1) aN)) aN)))))
def F__law_pick : FV := defV 2 2 B__law_pick
def B__law_turns : SV := (sSeq (sSetO 2 (eRg (eV 1)))
  (sSeq (sSetO 3 (eLst aN))
  (sSeq (sFor (iR1 (aC (eV 1) aN)) (fN 4)
  (sExpr (eApp 3 (ePop 2 (eCall F__law_draw (aC (eV 0) (aC (eB bLen (aC (eV 2) aN)) aN)))))) [4])
  (sRet (eSl (eV 3) oNo (oE (e2 opIx (eLst (aC (eV 1) (aC (eV 1) (aC (eC (.int 1)) aN)))) (eCall F__law_draw (aC (eV 0) (aC (eC (.int 3)) aN))))))))))
def F__law_turns : FV := defV 2 5 B__law_turns
def B__law_shuffled : SV := (sSeq (sSetO 2 (eB bLst (aC (eV 1) aN)))
  (sSeq (sSetO 3 (eLst aN))
  (sSeq (sFor (iR1 (aC (eB bLen (aC (eV 1) aN)) aN)) (fN 4)
  (sExpr (eApp 3 (ePop 2 (eCall F__law_draw (aC (eV 0) (aC (eB bLen (aC (eV 2) aN)) aN)))))) [4])
  (sRet (eV 3)))))
def F__law_shuffled : FV := defV 2 5 B__law_shuffled
def R__law_same : Nat → FV
  | 0 => fun _ _ => False
  | n + 1 => defV 2 3 (sSeq (sIf (truT (eIsi .tup (eV 1))) (sSeq (sIf (orT (notT (truT (eIsi .tup (eV 0)))) (asT (e2 opNe (eB bLen (aC (eV 0) aN)) (eB bLen (aC (eV 1) aN))))) (sRet (eC (.bool false))) sNext)
  (sRet (e2 opNin (eC (.bool false)) (eLc (icN (iR1 (aC (eB bLen (aC (eV 1) aN)) aN))) (fN 2) yesT (eCall (R__law_same n) (aC (e2 opIx (eV 0) (eV 2)) (aC (e2 opIx (eV 1) (eV 2)) aN))) [2])))) sNext)
  (sSeq (sIf (orT (asT (e2 opIs (eV 1) (eC .none))) (asT (e2 opIs (eV 0) (eC .none)))) (sRet (andE (e2 opIs (eV 1) (eC .none)) (e2 opIs (eV 0) (eC .none)))) sNext)
  (sSeq (sIf (orT (asT (e2 opNe (eIsi .bool (eV 0)) (eIsi .bool (eV 1)))) (asT (e2 opNe (eIsi .str (eV 0)) (eIsi .str (eV 1))))) (sRet (eC (.bool false))) sNext)
  (sRet (andE (e2 opEq (eIsi .int (eV 0)) (eIsi .int (eV 1))) (e2 opEq (eV 0) (eV 1)))))))
def F__law_same : FV := R__law_same 130
def B__law_text : SV := (sSeq (sSetF 2 (eC (.str " !\"#$&'()*+,-./0123456789:;<=>?@ABCDEFGHIJKLMNOPQRSTUVWXYZ[\\]^_`abcdefghijklmnopqrstuvwxyz{|}~")))
  (sRet (eM1 mJoin (eC (.str "")) (eLc (icN (iR1 (aC (eCall F__law_draw (aC (eV 0) (aC (e2 opAdd (eV 1) (eC (.int 1))) aN))) aN))) (fN 3) yesT (e2 opIx (eV 2) (eCall F__law_draw (aC (eV 0) (aC (eC (.int 94)) aN)))) [3]))))
def F__law_text : FV := defV 2 4 B__law_text
def B__law_value_of : SV := (sSeq (sSetF 1 (eCall F__law_draw (aC (eV 0) (aC (eC (.int 8)) aN))))
  (sSeq (sIf (asT (e2 opLtI (eV 1) (eC (.int 3)))) (sRet (eCall F__law_draw (aC (eV 0) (aC (eC (.int 4)) aN)))) sNext)
  (sSeq (sIf (asT (e2 opEq (eV 1) (eC (.int 3)))) (sRet (eCall F__law_pick (aC (eV 0) (aC (eLst (aC (e1 opNeg (eC (.int 9999))) (aC (eC (.int 9999)) (aC (eC (.int 10)) (aC (eC (.int 9)) (aC (e1 opNeg (eC (.int 1))) (aC (eC (.int 17)) (aC (eC (.int 40)) aN)))))))) aN)))) sNext)
  (sSeq (sIf (asT (e2 opEq (eV 1) (eC (.int 4)))) (sRet (e2 opSub (eCall F__law_draw (aC (eV 0) (aC (eC (.int 19999)) aN))) (eC (.int 9999)))) sNext)
  (sSeq (sIf (asT (e2 opLtI (eV 1) (eC (.int 7)))) (sRet (eCall F__law_pick (aC (eV 0) (aC (eLst (aC (eC (.str "")) (aC (eC (.str "a")) (aC (eC (.str "b")) (aC (eC (.str "ab")) (aC (eC (.str "1")) (aC (eC (.str "10")) (aC (eC (.str "9")) (aC (eC (.str "B")) (aC (eC (.str "it's")) (aC (eC (.str " ")) (aC (eC (.str "-1")) aN)))))))))))) aN)))) sNext)
  (sRet (eCall F__law_text (aC (eV 0) (aC (eC (.int 12)) aN)))))))))
def F__law_value_of : FV := defV 1 2 B__law_value_of
def B__law_pool : SV := (sSeq (sSetF 1 (e2 opAdd (eC (.int 2)) (eCall F__law_draw (aC (eV 0) (aC (eC (.int 4)) aN)))))
  (sSeq (sIf (asT (e2 opEq (eCall F__law_draw (aC (eV 0) (aC (eC (.int 2)) aN))) (eC (.int 0)))) (sRet (eSl (eCall F__law_pick (aC (eV 0) (aC (eLst (aC (eLst (aC (eC (.int 1)) (aC (eC (.int 2)) (aC (eC (.int 3)) (aC (eC (.int 4)) (aC (eC (.int 5)) aN)))))) (aC (eLst (aC (eC (.int 0)) (aC (eC (.int 1)) (aC (eC (.str "1")) (aC (eC (.int 10)) (aC (eC (.int 9)) aN)))))) (aC (eLst (aC (eC (.str "a")) (aC (eC (.str "b")) (aC (eC (.str "ab")) (aC (eC (.int 3)) (aC (eC (.str "")) aN)))))) aN)))) aN))) oNo (oE (eV 1)))) sNext)
  (sRet (eLc (icN (iR1 (aC (eV 1) aN))) (fN 2) yesT (eCall F__law_value_of (aC (eV 0) aN)) [2]))))
def F__law_pool : FV := defV 1 3 B__law_pool
def B__law_reserved : SV := (sSeq (sSetF 0 (eC (.str "always and block by certain chance constraint count delete down drop event except false greatest group holds if")))
  (sSeq (sSetF 0 (e2 opAdd (eV 0) (eC (.str " independent insert least match never not one or rank recursive report reweight some source sum table"))))
  (sSeq (sSetF 0 (e2 opAdd (eV 0) (eC (.str " top union values variable view when"))))
  (sRet (eM1 mSplit (eV 0) (eC (.str " ")))))))
def F__law_reserved : FV := defV 0 1 B__law_reserved
def B__law_name : SV := (sSeq (sSetF 2 (eC (.str "abcdefghijklmnopqrstuvwxyz0123456789_")))
  (sSeq (sSetF 3 (e2 opAdd (eCall F__law_pick (aC (eV 0) (aC (eLst (aC (eC (.str "")) (aC (eC (.str "")) (aC (eC (.str "")) (aC (eC (.str "road")) (aC (eC (.str "if_x")) (aC (eC (.str "values_")) aN))))))) aN))) (e2 opIx (eV 2) (eCall F__law_draw (aC (eV 0) (aC (eC (.int 26)) aN))))))
  (sSeq (sSetF 4 (eV 3))
  (sSeq (sFor (iR1 (aC (eCall F__law_pick (aC (eV 0) (aC (eLst (aC (eC (.int 0)) (aC (eC (.int 0)) (aC (eC (.int 1)) (aC (eC (.int 2)) (aC (eC (.int 4)) aN)))))) aN))) aN)) (fN 5)
  (sSetF 4 (e2 opAdd (eV 4) (e2 opIx (eV 2) (eCall F__law_draw (aC (eV 0) (aC (eC (.int 37)) aN)))))) [5])
  (sSeq (sIf (asT (e2 opIn (eV 4) (eCall F__law_reserved aN))) (sSetF 4 (e2 opAdd (eV 4) (eC (.str "0")))) sNext)
  (sSeq (sFor (iR1 (aC (eC (.int 99)) aN)) (fN 5)
  (sIf (asT (e2 opIn (eV 4) (eV 1))) (sSetF 4 (e2 opAdd (eV 3) (eB bStr (aC (eV 5) aN)))) sNext) [5])
  (sRet (eV 4))))))))
def F__law_name : FV := defV 2 6 B__law_name
def B__law_term_of : SV := (sSeq (sIf (orT (asT (e2 opEq (eB bLen (aC (eV 1) aN)) (eC (.int 0)))) (asT (e2 opEq (eCall F__law_draw (aC (eV 0) (aC (eC (.int 6)) aN))) (eC (.int 0))))) (sRet (eTup (aC (eCall F__law_pick (aC (eV 0) (aC (eV 2) aN))) aN))) sNext)
  (sRet (eCall F__law_pick (aC (eV 0) (aC (eV 1) aN)))))
def F__law_term_of : FV := defV 3 3 B__law_term_of
def B__law_letters_in : SV := (sSeq (sSetO 1 (eLst aN))
  (sSeq (sFor (iE (eV 0)) (fT (fsC (fN 2) (fsC (fN 3) fsN)))
  (sFor (iE (eV 3)) (fN 4)
  (sIf (andT (truT (eIsi .str (eV 4))) (asT (e2 opNin (eV 4) (eV 1)))) (sExpr (eApp 1 (eV 4))) sNext) [4]) [2, 3, 4])
  (sRet (eV 1))))
def F__law_letters_in : FV := defV 1 5 B__law_letters_in
def B__law_shapes : SV := (sSeq (sSetO 3 (eLst aN))
  (sSeq (sFor (iR1 (aC (eV 1) aN)) (fN 4)
  (sExpr (eApp 3 (eCall F__law_name (aC (eV 0) (aC (eV 3) aN))))) [4])
  (sSeq (sSetO 5 (eLst aN))
  (sSeq (sFor (iE (eB bSort (aC (eV 3) aN))) (fN 6)
  (sSeq (sSetF 7 (eCall F__law_pick (aC (eV 0) (aC (eV 2) aN))))
  (sSeq (sSetF 8 (e2 opIx (eLst (aC (eC (.int 1)) (aC (eC (.int 2)) (aC (eC (.int 2)) (aC (eC (.int 3)) (aC (eC (.int 2)) (aC (eC (.int 4)) aN))))))) (eCall F__law_draw (aC (eV 0) (aC (eC (.int 6)) aN)))))
  (sSeq (sSetF 9 (eV 8))
  (sSeq (sIf (asT (e2 opEq (eV 7) (eC (.str "block")))) (sSetF 9 (eCall F__law_draw (aC (eV 0) (aC (e2 opAdd (eV 8) (eCall F__law_draw (aC (eV 0) (aC (eC (.int 2)) aN)))) aN)))) sNext)
  (sExpr (eApp 5 (eTup (aC (eV 6) (aC (eV 7) (aC (eV 8) (aC (eV 9) aN))))))))))) [6, 7, 8, 9])
  (sRet (eB bTup (aC (eV 5) aN)))))))
def F__law_shapes : FV := defV 3 10 B__law_shapes
def B__law_shape : SV := (sRet (e2 opIx (eLc (icE (eV 0)) (fN 2) (asT (e2 opEq (e2 opIx (eV 2) (eC (.int 0))) (eV 1))) (eV 2) [2]) (eC (.int 0))))
def F__law_shape : FV := defV 2 3 B__law_shape
def B__law_terms : SV := (sSeq (sSetO 6 (eLst aN))
  (sSeq (sFor (iR1 (aC (eV 1) aN)) (fN 7)
  (sSeq (sSetF 8 (eCall F__law_draw (aC (eV 0) (aC (eC (.int 8)) aN))))
  (sIf (orT (asT (e2 opEq (eV 8) (eC (.int 0)))) (asT (e2 opEq (eV 4) (eC (.int 0))))) (sExpr (eApp 6 (eTup (aC (eCall F__law_pick (aC (eV 0) (aC (eV 2) aN))) aN)))) (sIf (orT (asT (e2 opEq (eV 3) (eC (.int 0)))) (andT (asT (e2 opLeI (eV 8) (eV 5))) (asT (e2 opLtI (eV 3) (eV 4))))) (sSeq (sExpr (eApp 6 (e2 opAdd (eC (.str "x")) (eB bStr (aC (eV 3) aN)))))
  (sSetF 3 (e2 opAdd (eV 3) (eC (.int 1))))) (sExpr (eApp 6 (e2 opAdd (eC (.str "x")) (eB bStr (aC (eCall F__law_draw (aC (eV 0) (aC (eV 3) aN))) aN)))))))) [7, 8])
  (sRet (eB bTup (aC (eV 6) aN)))))
def F__law_terms : FV := defV 6 9 B__law_terms
def B__law_twelve : SV := (sSeq (sSetF 2 (eB bTup (aC (eLc (icE (eLst (aC (eC (.str "a")) (aC (eC (.str "b")) (aC (eC (.str "c")) aN))))) (fN 3) yesT (eTup (aC (eV 3) (aC (eV 0) (aC (eC (.int 4)) (aC (eV 1) aN))))) [3]) aN)))
  (sSeq (sSetF 4 (eLc (icN (iR1 (aC (eC (.int 12)) aN))) (fN 5) yesT (e2 opAdd (eC (.str "x")) (eB bStr (aC (eV 5) aN))) [5]))
  (sSeq (sSetF 6 (eTup (aC (eTup (aC (eC (.str "a")) (aC (eB bTup (aC (eSl (eV 4) oNo (oE (eC (.int 4)))) aN)) aN))) (aC (eTup (aC (eC (.str "b")) (aC (eB bTup (aC (eSl (eV 4) (oE (eC (.int 4))) (oE (eC (.int 8)))) aN)) aN))) (aC (eTup (aC (eC (.str "c")) (aC (eB bTup (aC (eSl (eV 4) (oE (eC (.int 8))) oNo) aN)) aN))) aN)))))
  (sRet (eTup (aC (eV 2) (aC (eTup (aC (eC (.str "select")) (aC (eTup aN) (aC (eV 6) (aC (eTup aN) aN))))) aN)))))))
def F__law_twelve : FV := defV 2 7 B__law_twelve
def B__law_letter_number : SV := (sRet (eB bInt (aC (eSl (eV 0) (oE (eC (.int 1))) oNo) aN)))
def F__law_letter_number : FV := defV 1 1 B__law_letter_number
def B__law_in_order : SV := (sRet (eSortBy F__law_letter_number (aC (eB bLst (aC (eV 0) aN)) aN)))
def F__law_in_order : FV := defV 1 1 B__law_in_order
def B__law_simple : SV := (sSeq (sSetO 5 (eLst aN))
  (sSeq (sSetF 6 (eCall F__law_pick (aC (eV 0) (aC (eLst (aC (eC (.int 1)) (aC (eC (.int 2)) (aC (eC (.int 3)) (aC (eC (.int 6)) aN))))) aN))))
  (sSeq (sFor (iE (eSl (eCall F__law_shuffled (aC (eV 0) (aC (eV 1) aN))) oNo (oE (e2 opAdd (eC (.int 1)) (eCall F__law_draw (aC (eV 0) (aC (eB bLen (aC (eV 1) aN)) aN))))))) (fN 7)
  (sExpr (eApp 5 (eTup (aC (e2 opIx (eV 7) (eC (.int 0))) (aC (eCall F__law_terms (aC (eV 0) (aC (e2 opIx (eV 7) (eC (.int 2))) (aC (eV 3) (aC (eB bLen (aC (eCall F__law_letters_in (aC (eV 5) aN)) aN)) (aC (eV 2) (aC (eV 6) aN))))))) aN))))) [7])
  (sSeq (sSetF 8 (eCall F__law_letters_in (aC (eV 5) aN)))
  (sRet (eTup (aC (eC (.str "select")) (aC (eB bTup (aC (eLc (icN (iR1 (aC (eV 4) aN))) (fN 9) yesT (eCall F__law_term_of (aC (eV 0) (aC (eV 8) (aC (eV 3) aN)))) [9]) aN)) (aC (eB bTup (aC (eV 5) aN)) (aC (eTup aN) aN))))))))))
def F__law_simple : FV := defV 5 10 B__law_simple
def B__law_bound : SV := (sRet (eLc (icE (eCall F__law_letters_in (aC (e2 opIx (eV 0) (eC (.int 2))) aN))) (fN 1) (asT (e2 opNin (eV 1) (e2 opIx (eV 0) (eC (.int 1))))) (eV 1) [1]))
def F__law_bound : FV := defV 1 2 B__law_bound
def B__law_joined : SV := (sSeq (sSetF 1 (eCall F__law_shuffled (aC (eV 0) (aC (eV 1) aN))))
  (sSeq (sIf (asT (e2 opEq (eB bLen (aC (eV 1) aN)) (eC (.int 1)))) (sRet (e2 opIx (eV 1) (eC (.int 0)))) sNext)
  (sSeq (sIf (andT (asT (e2 opGtI (eB bLen (aC (eV 1) aN)) (eC (.int 2)))) (asT (e2 opEq (eCall F__law_draw (aC (eV 0) (aC (eC (.int 3)) aN))) (eC (.int 0))))) (sSeq (sSetF 2 (e2 opAdd (eC (.int 2)) (eCall F__law_draw (aC (eV 0) (aC (e2 opSub (eB bLen (aC (eV 1) aN)) (eC (.int 2))) aN)))))
  (sRet (eTup (aC (eC (.str "join")) (aC (eB bTup (aC (e2 opAdd (eLst (aC (eTup (aC (eC (.str "join")) (aC (eB bTup (aC (eSl (eV 1) oNo (oE (eV 2))) aN)) aN))) aN)) (eSl (eV 1) (oE (eV 2)) oNo)) aN)) aN))))) sNext)
  (sRet (eTup (aC (eC (.str "join")) (aC (eB bTup (aC (eV 1) aN)) aN)))))))
def F__law_joined : FV := defV 2 3 B__law_joined
def R__law_plan_names : Nat → FV
  | 0 => fun _ _ => False
  | n + 1 => defV 1 3 (sSeq (sIf (truT (eIsi .str (eV 0))) (sRet (eLst (aC (eV 0) aN))) sNext)
  (sSeq (sIf (asT (e2 opNe (e2 opIx (eV 0) (eC (.int 0))) (eC (.str "join")))) (sRet (eCall (R__law_plan_names n) (aC (e2 opIx (eV 0) (eC (.int 2))) aN))) sNext)
  (sSeq (sSetO 1 (eLst aN))
  (sSeq (sFor (iE (e2 opIx (eV 0) (eC (.int 1)))) (fN 2)
  (sExpr (eExt 1 (eCall (R__law_plan_names n) (aC (eV 2) aN)))) [2])
  (sRet (eV 1))))))
def F__law_plan_names : FV := R__law_plan_names 130
def B__law_atoms_below : SV := (sSeq (sSetF 2 (eCall F__law_plan_names (aC (eV 1) aN)))
  (sRet (eLc (icE (e2 opIx (eV 0) (eC (.int 2)))) (fN 3) (asT (e2 opIn (e2 opIx (eV 3) (eC (.int 0))) (eV 2))) (eV 3) [3])))
def F__law_atoms_below : FV := defV 2 4 B__law_atoms_below
def B__law_plan : SV := (sSeq (sSetF 2 (eLc (icE (e2 opIx (eV 1) (eC (.int 2)))) (fN 3) yesT (e2 opIx (eV 3) (eC (.int 0))) [3]))
  (sSeq (sFor (iE (eCall F__law_shuffled (aC (eV 0) (aC (eCall F__law_bound (aC (eV 1) aN)) aN)))) (fN 4)
  (sSeq (sSetO 5 (eLc (icE (eV 2)) (fN 6) (asT (e2 opIn (eV 4) (eCall F__law_letters_in (aC (eCall F__law_atoms_below (aC (eV 1) (aC (eV 6) aN))) aN)))) (eV 6) [6]))
  (sSeq (sSetO 7 (eLc (icE (eV 2)) (fN 6) (asT (e2 opNin (eV 6) (eV 5))) (eV 6) [6]))
  (sSeq (sIf (andT (asT (e2 opGtI (eB bLen (aC (eV 7) aN)) (eC (.int 0)))) (asT (e2 opEq (eCall F__law_draw (aC (eV 0) (aC (eC (.int 5)) aN))) (eC (.int 0))))) (sExpr (eApp 5 (ePop 7 (eCall F__law_draw (aC (eV 0) (aC (eB bLen (aC (eV 7) aN)) aN)))))) sNext)
  (sSetF 2 (e2 opAdd (eV 7) (eLst (aC (eTup (aC (eCall F__law_pick (aC (eV 0) (aC (eLst (aC (eC (.str "independent")) (aC (eC (.str "exclusive")) aN))) aN))) (aC (eV 4) (aC (eCall F__law_joined (aC (eV 0) (aC (eV 5) aN))) aN)))) aN))))))) [4, 5, 7])
  (sRet (eCall F__law_joined (aC (eV 0) (aC (eV 2) aN))))))
def F__law_plan : FV := defV 2 8 B__law_plan
def R__law_projections : Nat → FV
  | 0 => fun _ _ => False
  | n + 1 => defV 1 3 (sSeq (sIf (truT (eIsi .str (eV 0))) (sRet (eLst aN)) sNext)
  (sSeq (sIf (asT (e2 opNe (e2 opIx (eV 0) (eC (.int 0))) (eC (.str "join")))) (sRet (e2 opAdd (eCall (R__law_projections n) (aC (e2 opIx (eV 0) (eC (.int 2))) aN)) (eLst (aC (eV 0) aN)))) sNext)
  (sSeq (sSetO 1 (eLst aN))
  (sSeq (sFor (iE (e2 opIx (eV 0) (eC (.int 1)))) (fN 2)
  (sExpr (eExt 1 (eCall (R__law_projections n) (aC (eV 2) aN)))) [2])
  (sRet (eV 1))))))
def F__law_projections : FV := R__law_projections 130
def B__law_projected : SV := (sRet (eLc (icE (eCall F__law_projections (aC (eV 0) aN))) (fN 1) yesT (e2 opIx (eV 1) (eC (.int 1))) [1]))
def F__law_projected : FV := defV 1 2 B__law_projected
def B__law_key_letters : SV := (sRet (eSl (e2 opIx (eV 1) (eC (.int 1))) oNo (oE (e2 opIx (eCall F__law_shape (aC (eV 0) (aC (e2 opIx (eV 1) (eC (.int 0))) aN))) (eC (.int 3))))))
def F__law_key_letters : FV := defV 2 2 B__law_key_letters
def B__law_determined : SV := (sSeq (sSetO 3 (eLc (icE (eCall F__law_letters_in (aC (eV 1) aN))) (fN 4) (asT (e2 opIn (eV 4) (eV 2))) (eV 4) [4]))
  (sSeq (sFor (iR1 (aC (eB bLen (aC (eV 1) aN)) aN)) (fN 5)
  (sFor (iE (eV 1)) (fN 6)
  (sSeq (sSetF 7 (eLc (icE (eCall F__law_key_letters (aC (eV 0) (aC (eV 6) aN)))) (fN 8) (andT (truT (eIsi .str (eV 8))) (asT (e2 opNin (eV 8) (eV 3)))) (eV 8) [8]))
  (sIf (andT (asT (e2 opEq (e2 opIx (eCall F__law_shape (aC (eV 0) (aC (e2 opIx (eV 6) (eC (.int 0))) aN))) (eC (.int 1))) (eC (.str "block")))) (asT (e2 opEq (eB bLen (aC (eV 7) aN)) (eC (.int 0))))) (sExpr (eExt 3 (eLc (icE (eCall F__law_letters_in (aC (eLst (aC (eV 6) aN)) aN))) (fN 4) (asT (e2 opNin (eV 4) (eV 3))) (eV 4) [4]))) sNext)) [6, 7]) [5, 6, 7])
  (sRet (eV 3))))
def F__law_determined : FV := defV 3 9 B__law_determined
def B__law_demand_met : SV := (sSeq (sSetF 3 (eCall F__law_atoms_below (aC (eV 1) (aC (eV 2) aN))))
  (sSeq (sIf (asT (e2 opEq (e2 opIx (eV 2) (eC (.int 0))) (eC (.str "independent")))) (sSeq (sSetF 4 (eLc (icE (eV 3)) (fN 5) (asT (e2 opNin (e2 opIx (eV 2) (eC (.int 1))) (eCall F__law_key_letters (aC (eV 0) (aC (eV 5) aN))))) (eV 5) [5]))
  (sRet (e2 opEq (eB bLen (aC (eLc (icE (eV 4)) (fN 5) (asT (e2 opNe (e2 opIx (eCall F__law_shape (aC (eV 0) (aC (e2 opIx (eV 5) (eC (.int 0))) aN))) (eC (.int 1))) (eC (.str "certain")))) (eV 5) [5]) aN)) (eC (.int 0))))) sNext)
  (sSeq (sSetF 6 (eCall F__law_projected (aC (eV 2) aN)))
  (sSeq (sSetF 7 (eLc (icE (eCall F__law_letters_in (aC (eV 3) aN))) (fN 8) (asT (e2 opNin (eV 8) (eV 6))) (eV 8) [8]))
  (sRet (e2 opIn (e2 opIx (eV 2) (eC (.int 1))) (eCall F__law_determined (aC (eV 0) (aC (eV 3) (aC (eV 7) aN))))))))))
def F__law_demand_met : FV := defV 3 9 B__law_demand_met
def B__law_other_kind : SV := (sSeq (sSetF 2 (eCall F__law_draw (aC (eV 0) (aC (eB bLen (aC (eV 1) aN)) aN))))
  (sSeq (sSetG (fT (fsC (fN 3) (fsC (fN 4) (fsC (fN 5) (fsC (fN 6) fsN))))) (e2 opIx (eV 1) (eV 2)))
  (sSeq (sSetF 7 (eCall F__law_pick (aC (eV 0) (aC (eLst (aC (eC (.str "independent")) (aC (eC (.str "certain")) (aC (eC (.str "block")) (aC (eC (.str "block")) (aC (eC (.str "block")) aN)))))) aN))))
  (sSeq (sIf (asT (e2 opEq (eV 7) (eC (.str "block")))) (sSetF 6 (eCall F__law_draw (aC (eV 0) (aC (e2 opAdd (eV 5) (eC (.int 1))) aN)))) (sSetF 6 (eV 5)))
  (sRet (e2 opAdd (e2 opAdd (eSl (eV 1) oNo (oE (eV 2))) (eTup (aC (eTup (aC (eV 3) (aC (eV 7) (aC (eV 5) (aC (eV 6) aN))))) aN))) (eSl (eV 1) (oE (e2 opAdd (eV 2) (eC (.int 1)))) oNo)))))))
def F__law_other_kind : FV := defV 2 8 B__law_other_kind
def B__law_demands_right : SV := (sSeq (sSetF 3 (eLc (icE (eCall F__law_projections (aC (eV 2) aN))) (fN 4) yesT (eTup (aC (e2 opIx (eV 4) (eC (.int 1))) (aC (eCall F__law_demand_met (aC (eV 0) (aC (eV 1) (aC (eV 4) aN)))) aN))) [4]))
  (sRet (eCall F__law_same (aC (eCall F_demands (aC (eV 0) (aC (eV 1) (aC (eV 2) aN)))) (aC (eB bTup (aC (eV 3) aN)) aN)))))
def F__law_demands_right : FV := defV 3 5 B__law_demands_right
def B__law_safe_right : SV := (sSeq (sSetF 3 (eLc (icE (eCall F__law_projections (aC (eV 2) aN))) (fN 4) (notT (truT (eCall F__law_demand_met (aC (eV 0) (aC (eV 1) (aC (eV 4) aN)))))) (eV 4) [4]))
  (sRet (eCall F__law_same (aC (eCall F_is_safe (aC (eV 0) (aC (eV 1) (aC (eV 2) aN)))) (aC (e2 opEq (eB bLen (aC (eV 3) aN)) (eC (.int 0))) aN)))))
def F__law_safe_right : FV := defV 3 5 B__law_safe_right
def B__law_determined_right : SV := (sSeq (sSetF 3 (eB bTup (aC (eCall F__law_in_order (aC (eCall F__law_determined (aC (eV 0) (aC (eV 1) (aC (eV 2) aN)))) aN)) aN)))
  (sRet (eCall F__law_same (aC (eCall F_determined (aC (eV 0) (aC (eV 1) (aC (eV 2) aN)))) (aC (eV 3) aN)))))
def F__law_determined_right : FV := defV 3 4 B__law_determined_right
def B__law_some : SV := (sSeq (sSetF 2 (e2 opAdd (eC (.int 1)) (eCall F__law_draw (aC (eV 0) (aC (eC (.int 3)) aN)))))
  (sRet (eB bTup (aC (eCall F__law_shuffled (aC (eV 0) (aC (eLc (icE (eV 1)) (fN 3) (asT (e2 opLtI (eCall F__law_draw (aC (eV 0) (aC (eC (.int 4)) aN))) (eV 2))) (eV 3) [3]) aN))) aN))))
def F__law_some : FV := defV 2 4 B__law_some

/-! ### letters, plain -/
def lets : List Term → List Str
  | [] => []
  | .l s :: ts => s :: lets ts
  | .c _ :: ts => lets ts
def allLets : List Atom → List Str
  | [] => []
  | a :: as => lets a.2 ++ allLets as
/-- the letters of atoms, in the order in which they are met -/
def letters (as : List Atom) : List Str := ddS (allLets as)
def lname (k : Int) : Str := ("x" : Str) ++ Str.ofString (toString k)
def isLet (s : Str) : Prop := ∃ k : Int, 0 ≤ k ∧ k < 1000000 ∧ s = lname k
def lnum (s : Str) : Int := (PySem.intText? (cutS s (some 1) none)).getD 0
def tOk : Term → Prop
  | .l s => isLet s
  | .c x => cellOk x
def aOk (a : Atom) : Prop := sOk a.1 ∧ (∀ t, t ∈ a.2 → tOk t) ∧ a.2.length ≤ 100
def asOk (as : List Atom) : Prop := (∀ a, a ∈ as → aOk a) ∧ as.length ≤ 100
def mOk (m : Mem) : Prop := (∀ t, t ∈ m.head → tOk t) ∧ m.head.length ≤ 100 ∧ asOk m.atoms
/-- letters by their numbers -/
def byNum (xs : List Str) : List Str := xs.mergeSort (PySem.W.dataLe false fun s => .int (lnum s))
/-- s stands among the terms -/
def inTs (ts : List Term) (s : Str) : Bool := (ts.map termD).any fun z => PyData.eqv z (.str s)
def bound (m : Mem) : List Str := (letters m.atoms).filter fun s => !inTs m.head s
theorem lname_cut (k : Int) : cutS (lname k) (some 1) none = Str.ofString (toString k) := by
  have e : (lname k).cps.toList = ("x" : Str).cps.toList ++ (Str.ofString (toString k)).cps.toList := by
    show (("x" : Str).cps ++ (Str.ofString (toString k)).cps).toList = _
    rw [Array.toList_append]
  have e1 : ("x" : Str).cps.toList.length = 1 := by decide +kernel
  have el : (lname k).length = 1 + (Str.ofString (toString k)).cps.toList.length := by
    show (lname k).cps.size = _
    rw [← Array.length_toList, e, List.length_append, e1]
  have i1 : HT.sIx (lname k).length 0 (some 1) = 1 := by
    have z : HT.sIx (lname k).length 0 (some 1) = min 1 (lname k).length := HT.sIx_nat (lname k).length 0 1
    rw [z]
    omega
  unfold cutS
  rw [i1, HT.sIx_none, e, List.drop_append_of_le_length (by omega), List.drop_of_length_le (by omega), List.nil_append, List.take_of_length_le (by omega)]
theorem lnum_lname {k : Int} (h0 : 0 ≤ k) (h1 : k < 1000000) : lnum (lname k) = k := by
  unfold lnum
  rw [lname_cut, PySem.W.KIN.num_reads h0 (by omega)]
  rfl
theorem isLet_ok {s : Str} (h : isLet s) : okS 1922 s := by
  obtain ⟨k, h0, h1, rfl⟩ := h
  have e := okS_app (okS_of (n := 1) (x := "x") (by decide +kernel) (by decide +kernel)) (okS_int k (by omega))
  exact e.mono (by decide)
theorem lets_append : ∀ a b : List Term, lets (a ++ b) = lets a ++ lets b
  | [], _ => rfl
  | .l s :: a, b => congrArg (s :: ·) (lets_append a b)
  | .c _ :: a, b => lets_append a b
theorem allLets_append : ∀ a b : List Atom, allLets (a ++ b) = allLets a ++ allLets b
  | [], _ => rfl
  | x :: a, b => by
    rw [List.cons_append]
    show lets x.2 ++ allLets (a ++ b) = (lets x.2 ++ allLets a) ++ allLets b
    rw [allLets_append a b, List.append_assoc]
theorem dd_snoc (xs : List Str) (x : Str) : ddS (xs ++ [x]) = metS (ddS xs) x := by
  unfold ddS
  rw [List.foldl_append]
  rfl
theorem lets_mem {s : Str} : ∀ {ts : List Term}, s ∈ lets ts → .l s ∈ ts
  | .l r :: ts, h => by
    rcases List.mem_cons.mp h with h | h
    · rw [h]; exact List.mem_cons_self
    · exact List.mem_cons_of_mem _ (lets_mem h)
  | .c _ :: ts, h => List.mem_cons_of_mem _ (lets_mem (ts := ts) h)
theorem allLets_mem {s : Str} : ∀ {as : List Atom}, s ∈ allLets as → ∃ a, a ∈ as ∧ .l s ∈ a.2
  | a :: as, h => by
    rcases List.mem_append.mp h with h | h
    · exact ⟨a, List.mem_cons_self, lets_mem h⟩
    · obtain ⟨b, h1, h2⟩ := allLets_mem h
      exact ⟨b, List.mem_cons_of_mem _ h1, h2⟩
theorem fold_mem {s : Str} : ∀ (xs σ : List Str), s ∈ xs.foldl metS σ → s ∈ σ ∨ s ∈ xs
  | [], _, h => .inl h
  | x :: xs, σ, h => by
    rcases fold_mem xs (metS σ x) h with h | h
    · unfold metS at h
      split at h
      · exact .inl h
      · rcases List.mem_append.mp h with h | h
        · exact .inl h
        · rw [List.mem_singleton.mp h]; exact .inr List.mem_cons_self
    · exact .inr (List.mem_cons_of_mem _ h)
theorem letters_ok {as : List Atom} (h : asOk as) {s : Str} (hs : s ∈ letters as) : isLet s := by
  rcases fold_mem _ _ hs with z | z
  · cases z
  · obtain ⟨a, h1, h2⟩ := allLets_mem z
    exact (h.1 a h1).2.1 _ h2
theorem lets_len : ∀ ts : List Term, (lets ts).length ≤ ts.length
  | [] => Nat.le_refl _
  | .l _ :: ts => Nat.succ_le_succ (lets_len ts)
  | .c _ :: ts => Nat.le_succ_of_le (lets_len ts)
theorem allLets_len : ∀ {as : List Atom}, (∀ a, a ∈ as → a.2.length ≤ 100) → (allLets as).length ≤ 100 * as.length
  | [], _ => Nat.le_refl _
  | a :: as, h => by
    have h1 := lets_len a.2
    have h2 := h a List.mem_cons_self
    have h3 := allLets_len (as := as) fun b hb => h b (List.mem_cons_of_mem _ hb)
    show (lets a.2 ++ allLets as).length ≤ _
    rw [List.length_append, List.length_cons]
    omega
theorem letters_len {as : List Atom} (h : asOk as) : (letters as).length ≤ 10000 := by
  have h1 := ddS_le (allLets as)
  have h2 := allLets_len fun a ha => (h.1 a ha).2.2
  have h3 := h.2
  unfold letters
  omega
/-- a dict's keys are these texts -/
def KeysEq (kvs : List (L2.Key × V)) (xs : List Str) : Prop := kvs.map (·.1) = xs.map Sum.inr
theorem keysEq_put {kvs : List (L2.Key × V)} {xs : List Str} (h : KeysEq kvs (ddS xs)) (x : Str) (v : V) : KeysEq (putK kvs (.inr x) v) (ddS (xs ++ [x])) := by
  unfold KeysEq at h ⊢
  rw [keys_put, dd_snoc, h]
  unfold metS
  have e : (.inr x : L2.Key) ∈ (ddS xs).map Sum.inr ↔ (ddS xs).any (· == x) = true := by
    rw [List.any_eq_true]
    constructor
    · intro z
      obtain ⟨y, h1, h2⟩ := List.mem_map.mp z
      exact ⟨y, h1, beq_iff_eq.mpr (Sum.inr.inj h2)⟩
    · rintro ⟨y, h1, h2⟩
      exact List.mem_map.mpr ⟨y, h1, by rw [beq_iff_eq.mp h2]⟩
  by_cases c : (ddS xs).any (· == x) = true
  · rw [if_pos (e.mpr c), if_pos c]
  · rw [if_neg fun z => c (e.mp z), if_neg c, List.map_append]
    rfl
theorem keysEq_len {kvs : List (L2.Key × V)} {xs : List Str} (h : KeysEq kvs xs) : kvs.length = xs.length := by
  have e := congrArg List.length h
  rw [List.length_map, List.length_map] at e
  exact e

def B_law_rest : SV := (sSeq (sSetF 2 (eCall F__law_shapes (aC (eV 1) (aC (eCall F__law_pick (aC (eV 1) (aC (eLst (aC (eC (.int 1)) (aC (eC (.int 2)) (aC (eC (.int 3)) (aC (eC (.int 3)) (aC (eC (.int 4)) (aC (eC (.int 5)) aN))))))) aN))) (aC (eLst (aC (eC (.str "independent")) (aC (eC (.str "certain")) (aC (eC (.str "block")) (aC (eC (.str "block")) (aC (eC (.str "block")) aN)))))) aN)))))
  (sSeq (sSetF 3 (eCall F__law_pool (aC (eV 1) aN)))
  (sSeq (sSetF 4 (eCall F__law_simple (aC (eV 1) (aC (eV 2) (aC (e2 opIx (eLst (aC (eC (.int 2)) (aC (eC (.int 3)) (aC (eC (.int 4)) (aC (eC (.int 6)) (aC (eC (.int 20)) aN)))))) (eCall F__law_draw (aC (eV 1) (aC (eC (.int 5)) aN)))) (aC (eV 3) (aC (eCall F__law_pick (aC (eV 1) (aC (eLst (aC (eC (.int 0)) (aC (eC (.int 0)) (aC (eC (.int 1)) (aC (eC (.int 2)) (aC (eC (.int 6)) aN)))))) aN))) aN)))))))
  (sSeq (sSetF 5 (eCall F__law_letters_in (aC (e2 opIx (eV 4) (eC (.int 2))) aN)))
  (sSeq (sSetF 6 (eCall F__law_plan (aC (eV 1) (aC (eV 4) aN))))
  (sSeq (sSetF 7 (eCall F__law_plan (aC (eV 1) (aC (eV 4) aN))))
  (sSeq (sSetF 8 (eCall F__law_other_kind (aC (eV 1) (aC (eV 2) aN))))
  (sSeq (sSetF 9 (eB bTup (aC (eLc (icE (e2 opIx (eV 4) (eC (.int 2)))) (fN 10) (asT (e2 opGtI (eCall F__law_draw (aC (eV 1) (aC (eC (.int 3)) aN))) (eC (.int 0)))) (eV 10) [10]) aN)))
  (sSeq (sSetF 11 (eCall F__law_some (aC (eV 1) (aC (eV 5) aN))))
  (sSeq (sIf (orT (notT (truT (eCall F__law_demands_right (aC (eV 2) (aC (eV 4) (aC (eV 6) aN)))))) (notT (truT (eCall F__law_determined_right (aC (eV 2) (aC (e2 opIx (eV 4) (eC (.int 2))) (aC (eV 11) aN))))))) (sRet (eC (.bool false))) sNext)
  (sSeq (sFor (iE (eCall F__law_turns (aC (eV 1) (aC (eC (.int 8)) aN)))) (fN 12)
  (sSeq (sIf (andT (asT (e2 opEq (eV 12) (eC (.int 0)))) (notT (truT (eCall F__law_safe_right (aC (eV 2) (aC (eV 4) (aC (eV 6) aN))))))) (sRet (eC (.bool false))) sNext)
  (sSeq (sIf (andT (asT (e2 opEq (eV 12) (eC (.int 1)))) (notT (truT (eCall F__law_determined_right (aC (eV 2) (aC (eV 9) (aC (eV 11) aN))))))) (sRet (eC (.bool false))) sNext)
  (sSeq (sIf (andT (asT (e2 opEq (eV 12) (eC (.int 2)))) (notT (truT (eCall F__law_determined_right (aC (eV 8) (aC (e2 opIx (eV 4) (eC (.int 2))) (aC (eV 11) aN))))))) (sRet (eC (.bool false))) sNext)
  (sSeq (sIf (andT (asT (e2 opEq (eV 12) (eC (.int 3)))) (notT (truT (eCall F__law_demands_right (aC (eV 8) (aC (eV 4) (aC (eV 6) aN))))))) (sRet (eC (.bool false))) sNext)
  (sSeq (sIf (andT (asT (e2 opEq (eV 12) (eC (.int 4)))) (notT (truT (eCall F__law_demands_right (aC (eV 2) (aC (eV 4) (aC (eV 7) aN))))))) (sRet (eC (.bool false))) sNext)
  (sSeq (sIf (andT (asT (e2 opEq (eV 12) (eC (.int 5)))) (notT (truT (eCall F__law_safe_right (aC (eV 8) (aC (eV 4) (aC (eV 7) aN))))))) (sRet (eC (.bool false))) sNext)
  (sSeq (sIf (andT (asT (e2 opEq (eV 12) (eC (.int 6)))) (notT (truT (eCall F__law_determined_right (aC (eV 2) (aC (e2 opIx (eV 4) (eC (.int 2))) (aC (eCall F__law_some (aC (eV 1) (aC (eV 5) aN))) aN))))))) (sRet (eC (.bool false))) sNext)
  (sIf (andT (asT (e2 opEq (eV 12) (eC (.int 7)))) (notT (truT (eCall F__law_determined_right (aC (eV 2) (aC (e2 opIx (eV 4) (eC (.int 2))) (aC (eCall F__law_pick (aC (eV 1) (aC (eLst (aC (eTup aN) (aC (eB bTup (aC (eV 5) aN)) aN))) aN))) aN))))))) (sRet (eC (.bool false))) sNext)))))))) [12])
  (sSeq (sIf (orT (notT (truT (eCall F__law_demands_right (aC (eV 2) (aC (eV 4) (aC (eV 6) aN)))))) (notT (truT (eCall F__law_determined_right (aC (eV 2) (aC (e2 opIx (eV 4) (eC (.int 2))) (aC (eV 11) aN))))))) (sRet (eC (.bool false))) sNext)
  (sSeq (sSetG (fT (fsC (fN 13) (fsC (fN 14) fsN))) (eCall F__law_twelve (aC (eC (.str "block")) (aC (eC (.int 0)) aN))))
  (sSeq (sIf (orT (notT (truT (eCall F__law_determined_right (aC (eV 13) (aC (e2 opIx (eV 14) (eC (.int 2))) (aC (eTup aN) aN)))))) (notT (truT (eCall F__law_determined_right (aC (eV 13) (aC (eSl (e2 opIx (eV 14) (eC (.int 2))) (oE (eC (.int 1))) oNo) (aC (eTup (aC (eC (.str "x0")) aN)) aN))))))) (sRet (eC (.bool false))) sNext)
  (sSeq (sSetF 15 (eTup (aC (eTup (aC (eC (.str "t")) (aC (eC (.str "block")) (aC (eC (.int 2)) (aC (eC (.int 1)) aN))))) aN)))
  (sSeq (sSetF 16 (eTup (aC (eC (.str "select")) (aC (eTup aN) (aC (eTup (aC (eTup (aC (eC (.str "t")) (aC (eTup (aC (eC (.str "x0")) (aC (eC (.str "x1")) aN))) aN))) aN)) (aC (eTup aN) aN))))))
  (sSeq (sSetF 17 (eTup (aC (eC (.str "exclusive")) (aC (eC (.str "x0")) (aC (eTup (aC (eC (.str "exclusive")) (aC (eC (.str "x1")) (aC (eC (.str "t")) aN)))) aN)))))
  (sSeq (sSetF 18 (eTup (aC (eC (.str "exclusive")) (aC (eC (.str "x1")) (aC (eTup (aC (eC (.str "independent")) (aC (eC (.str "x0")) (aC (eC (.str "t")) aN)))) aN)))))
  (sSeq (sIf (orT (notT (truT (eCall F__law_determined_right (aC (eV 15) (aC (e2 opIx (eV 16) (eC (.int 2))) (aC (eTup (aC (eC (.str "x0")) aN)) aN)))))) (notT (truT (eCall F__law_determined_right (aC (eV 15) (aC (e2 opIx (eV 16) (eC (.int 2))) (aC (eTup (aC (eC (.str "x1")) aN)) aN))))))) (sRet (eC (.bool false))) sNext)
  (sSeq (sSetF 19 (eTup (aC (eC (.str "independent")) (aC (eC (.str "x0")) (aC (eTup (aC (eC (.str "exclusive")) (aC (eC (.str "x1")) (aC (eC (.str "t")) aN)))) aN)))))
  (sSeq (sIf (orT (notT (truT (eCall F__law_safe_right (aC (eV 15) (aC (eV 16) (aC (eV 19) aN)))))) (notT (truT (eCall F__law_safe_right (aC (eV 15) (aC (eV 16) (aC (eV 18) aN))))))) (sRet (eC (.bool false))) sNext)
  (sSeq (sIf (notT (truT (eCall F__law_demands_right (aC (eV 15) (aC (eV 16) (aC (eTup (aC (eC (.str "independent")) (aC (eC (.str "x1")) (aC (eTup (aC (eC (.str "independent")) (aC (eC (.str "x0")) (aC (eC (.str "t")) aN)))) aN)))) aN)))))) (sRet (eC (.bool false))) sNext)
  (sSeq (sSetF 20 (eTup (aC (eTup (aC (eC (.str "a")) (aC (eC (.str "block")) (aC (eC (.int 2)) (aC (eC (.int 1)) aN))))) (aC (eTup (aC (eC (.str "b")) (aC (eC (.str "block")) (aC (eC (.int 2)) (aC (eC (.int 1)) aN))))) (aC (eTup (aC (eC (.str "c")) (aC (eC (.str "independent")) (aC (eC (.int 2)) (aC (eC (.int 2)) aN))))) aN)))))
  (sSeq (sSetF 21 (eTup (aC (eTup (aC (eC (.str "b")) (aC (eTup (aC (eC (.str "x0")) (aC (eC (.str "x1")) aN))) aN))) (aC (eTup (aC (eC (.str "c")) (aC (eTup (aC (eC (.str "x1")) (aC (eC (.str "x2")) aN))) aN))) (aC (eTup (aC (eC (.str "a")) (aC (eTup (aC (eC (.str "x3")) (aC (eC (.str "x0")) aN))) aN))) aN)))))
  (sSeq (sIf (orT (notT (truT (eCall F__law_determined_right (aC (eV 20) (aC (eV 21) (aC (eTup (aC (eC (.str "x3")) aN)) aN)))))) (notT (truT (eCall F__law_determined_right (aC (eV 20) (aC (eV 21) (aC (eTup (aC (eC (.str "x1")) aN)) aN))))))) (sRet (eC (.bool false))) sNext)
  (sRet (andE (eCall F__law_demands_right (aC (eV 15) (aC (eV 16) (aC (eV 17) aN)))) (eCall F__law_demands_right (aC (eV 15) (aC (eV 16) (aC (eV 18) aN)))))))))))))))))))))))))))))))

/-! ### worldbase.terms, plainly -/
def seenD (xs : List Str) : Dct := xs.map fun s => (.str s, .bool true)
theorem seen_put (xs : List Str) (s : Str) : dPut (seenD xs) (.inr s) (.bool true) = seenD (metS xs s) := by
  have e : ((seenD xs).any fun p => keyEq p.1 (.inr s)) = xs.any (· == s) := by
    induction xs with
    | nil => rfl
    | cons x xs ih =>
      show (decide (x = s) || (seenD xs).any fun p => keyEq p.1 (.inr s)) = ((x == s) || xs.any (· == s))
      rw [ih]
      congr 1
  unfold dPut metS
  rw [e]
  by_cases c : xs.any (· == s) = true
  · rw [if_pos c, if_pos c]
    clear c e
    induction xs with
    | nil => rfl
    | cons x xs ih =>
      show (if keyEq (.str x) (.inr s) = true then (PyData.str x, PyData.bool true) else _) :: _ = _
      rw [ite_self]
      exact congrArg _ ih
  · rw [if_neg c, if_neg c]
    show _ = List.map _ (xs ++ [s])
    rw [List.map_append]
    rfl
/-- one term more -/
def seeT (σ : List Str) (t : Term) : List Str := match t with
  | .l s => metS σ s
  | .c _ => σ
def seeA (σ : List Str) (a : Atom) : List Str := a.2.foldl seeT σ
theorem seeT_fold (ts : List Term) (σ : List Str) : ts.foldl seeT σ = (lets ts).foldl metS σ := by
  induction ts generalizing σ with
  | nil => rfl
  | cons t ts ih => cases t <;> exact ih _
theorem seeA_fold (as : List Atom) (σ : List Str) : as.foldl seeA σ = (allLets as).foldl metS σ := by
  induction as generalizing σ with
  | nil => rfl
  | cons a as ih =>
    show List.foldl seeA (seeA σ a) as = List.foldl metS σ (lets a.2 ++ allLets as)
    rw [List.foldl_append, ih, seeA, seeT_fold]
theorem metS_le (σ : List Str) (x : Str) : (metS σ x).length ≤ σ.length + 1 := by
  unfold metS
  split
  · omega
  · rw [List.length_append]; exact Nat.le_refl _
theorem seeT_le (σ : List Str) (t : Term) : (seeT σ t).length ≤ σ.length + 1 := by
  cases t with
  | l s => exact metS_le σ s
  | c _ => exact Nat.le_succ _
theorem seeA_le (σ : List Str) (a : Atom) : (seeA σ a).length ≤ σ.length + a.2.length := by
  unfold seeA
  induction a.2 generalizing σ with
  | nil => exact Nat.le_refl _
  | cons t ts ih =>
    have h1 := ih (seeT σ t)
    have h2 := seeT_le σ t
    simp only [List.foldl_cons, List.length_cons]
    omega
theorem f_letters_in {as : List Atom} (ho : asOk as) {P : Av → Prop} (h : P (.v (.tuple ((letters as).map .str)))) : F_letters_in [.v (atomsD as)] P := by
  unfold F_letters_in defV B_letters_in atomsD
  walk_at "pv"
  refine for_fold (fun σ => [some (.v (.tuple (as.map atomD))), some (.w (.dict (seenD σ))), none, none, none]) atomD seeA (fun σ xs => σ.length + 100 * xs.length ≤ 10000 ∧ ∀ a, a ∈ xs → aOk a) ?_ as [] ⟨?_, ho.1⟩ ?_
  · rintro σ a xs k ⟨hl, hx⟩
    have ha := hx a List.mem_cons_self
    have l1 := seeA_le σ a
    have l2 := ha.2.2
    refine ⟨⟨?_, fun b hb => hx b (List.mem_cons_of_mem _ hb)⟩, fun q => ?_⟩
    · rw [List.length_cons] at hl; omega
    · unfold turnV atomD
      walk_at "pv"
      refine for_fold (fun τ => [some (.v (.tuple (as.map atomD))), some (.w (.dict (seenD τ))), some (.v (.str a.1)), some (.v (.tuple (a.2.map termD))), none]) termD seeT (fun τ ts => τ.length + ts.length ≤ 10000) ?_ a.2 σ ?_ ?_
      · intro τ t ts k2 hl2
        have l3 := seeT_le τ t
        refine ⟨by rw [List.length_cons] at hl2; omega, fun q2 => ?_⟩
        unfold turnV
        cases t with
        | l s =>
          unfold termD
          walk_at "pv"
          rw [seen_put]
          exact ⟨by unfold seenD; rw [List.length_map]; omega, q2⟩
        | c x =>
          unfold termD
          walk_at "pv"
          exact q2
      · rw [List.length_cons] at hl; omega
      · walk_at "pv"
        exact q
  · have := ho.2
    simp only [List.length_nil]
    omega
  · walk_at "pv"
    have e : (seenD (as.foldl seeA [])).map (·.1) = (letters as).map PyData.str := by
      rw [seeA_fold]
      unfold seenD letters ddS
      rw [List.map_map]
      rfl
    rw [e]
    exact h

/-! ### what can be laid: terms, texts, ints -/
theorem lay_terms : ∀ {ts : List Term}, (∀ t, t ∈ ts → tOk t) → PyData.canLayAll0 (ts.map termD) = true ∧ PyData.depthAll (ts.map termD) ≤ 1
  | [], _ => ⟨by simp [PyData.canLayAll0], by simp [PyData.depthAll]⟩
  | t :: ts, h => by
    obtain ⟨h1, h2⟩ := lay_terms (ts := ts) fun x hx => h x (List.mem_cons_of_mem _ hx)
    have h3 : (termD t).canLay0 = true ∧ (termD t).depth ≤ 1 := by
      have ht := h t List.mem_cons_self
      cases t with
      | l s => exact ⟨by simp [termD, PyData.canLay0, (isLet_ok ht).strOk], by simp [termD, PyData.depth]⟩
      | c x =>
        cases x with
        | inl i => exact ⟨by simp [termD, cd, PyData.canLay0, PyData.canLayAll0], by simp [termD, cd, PyData.depth, PyData.depthAll]⟩
        | inr s => exact ⟨by simp [termD, cd, PyData.canLay0, PyData.canLayAll0, okS.strOk (show okS 2000 s from ht)], by simp [termD, cd, PyData.depth, PyData.depthAll]⟩
    refine ⟨by simp [PyData.canLayAll0, h1, h3.1], ?_⟩
    simp only [List.map_cons, PyData.depthAll]
    omega
theorem shp_terms {ts : List Term} (h : ∀ t, t ∈ ts → tOk t) : SeqAt.shaped (.tuple (ts.map termD)) = true := by
  obtain ⟨h1, h2⟩ := lay_terms h
  unfold SeqAt.shaped
  rw [Bool.and_eq_true]
  refine ⟨by simp only [PyData.canLay0, h1], decide_eq_true ?_⟩
  simp only [PyData.depth]
  omega
theorem shp_str {s : Str} {n : Nat} (h : okS n s) : SeqAt.shaped (.str s) = true := by
  unfold SeqAt.shaped
  rw [Bool.and_eq_true]
  exact ⟨by simp only [PyData.canLay0, h.strOk], decide_eq_true (by simp [PyData.depth])⟩
theorem kok_ints {α : Type} (f : α → Int) (xs : List α) : KOk (xs.map fun x => .int (f x)) := by
  refine ⟨fun d hd => ?_, fun d hd e he => ?_, .inr (.inr ⟨.type "int", by decide, fun d hd => ?_⟩)⟩
  · obtain ⟨x, _, rfl⟩ := List.mem_map.mp hd
    exact ⟨by simp [isK], by simp [PyData.depth]⟩
  · obtain ⟨x, _, rfl⟩ := List.mem_map.mp hd
    obtain ⟨y, _, rfl⟩ := List.mem_map.mp he
    simp [cmpK]
  · obtain ⟨x, _, rfl⟩ := List.mem_map.mp hd
    rfl

/-! ### letters by number, bound letters; the law's own -/
theorem any_str (xs : List Str) (s : Str) : ((xs.map PyData.str).any fun z => PyData.eqv z (.str s)) = xs.any (· == s) := by
  induction xs with
  | nil => rfl
  | cons x xs ih =>
    rw [List.map_cons, List.any_cons, List.any_cons, ih]
    simp [PyData.eqv]
theorem flat_strs (xs : List Str) : (xs.map PyData.str).all flatD = true := by
  induction xs with
  | nil => rfl
  | cons x xs ih => rw [List.map_cons, List.all_cons, ih]; rfl
theorem noL_strs (xs : List Str) : noLs (xs.map PyData.str) = true := noLs_map (fun _ => by unfold noL; rfl) xs
theorem shp_list_strs {ss : List Str} (h : ∀ s, s ∈ ss → okS 2000 s) : SeqAt.shaped (.list (ss.map .str)) = true ∧ SeqAt.shaped (.tuple (ss.map .str)) = true := by
  have key : PyData.canLayAll0 (ss.map .str) = true ∧ PyData.depthAll (ss.map .str) = 0 := by
    induction ss with
    | nil => exact ⟨by simp [PyData.canLayAll0], by simp [PyData.depthAll]⟩
    | cons s ss ih =>
      obtain ⟨h1, h2⟩ := ih fun x hx => h x (List.mem_cons_of_mem _ hx)
      exact ⟨by simp [PyData.canLayAll0, PyData.canLay0, (h s List.mem_cons_self).strOk, h1], by simp [PyData.depthAll, PyData.depth, h2]⟩
  obtain ⟨h1, h2⟩ := key
  unfold SeqAt.shaped
  rw [Bool.and_eq_true, Bool.and_eq_true]
  exact ⟨⟨by simp only [PyData.canLay0, h1], decide_eq_true (by simp only [PyData.depth, h2]; decide)⟩, by simp only [PyData.canLay0, h1], decide_eq_true (by simp only [PyData.depth, h2]; decide)⟩
theorem f_number_of {s : Str} (hs : isLet s) {P : Av → Prop} (h : P (.v (.int (lnum s)))) : F_number_of [.v (.str s)] P := by
  unfold F_number_of defV B_number_of
  walk_at "pv"
  obtain ⟨n, h0, h1, rfl⟩ := hs
  have ok := isLet_ok ⟨n, h0, h1, rfl⟩
  have e := PySem.W.KIN.num_reads h0 (show n < 10 ^ 10 by omega)
  have hn : lnum (lname n) = n := lnum_lname h0 h1
  rw [hn] at h
  refine ⟨Nat.le_trans ok.1 (by decide), n, ?_, ?_, h⟩
  · rw [lname_cut]; exact e
  · rw [lname_cut, PySem.ofString_length]
    exact Nat.le_trans (PySem.int_text_length_le10 (a := n) (k := 7) (by decide) (by omega)) (by decide)
def lkey : PyData → PyData
  | .str s => .int (lnum s)
  | _ => .none
theorem sort_lkey (xs : List Str) : (xs.map PyData.str).mergeSort (PySem.W.dataLe false lkey) = (byNum xs).map PyData.str := by
  unfold byNum
  exact (List.map_mergeSort (f := PyData.str) (r := PySem.W.dataLe false fun s => .int (lnum s)) (s := PySem.W.dataLe false lkey) fun a _ b _ => rfl).symm
theorem f_by_number {d : PyData} {xs : List Str} (hd : d = .list (xs.map .str) ∨ d = .tuple (xs.map .str)) (hl : ∀ s, s ∈ xs → isLet s) (hz : xs.length ≤ 100000) {P : Av → Prop} (h : P (.v (.tuple ((byNum xs).map .str)))) : F_by_number [.v d] P := by
  have key : bSortBy F_number_of [.list (xs.map .str)] fun z => z.getK [some (Av.v d)] fun d => match d with
      | .list ys => P (.v (.tuple ys))
      | _ => False := by
    refine ⟨lkey, noL_strs xs, by rw [List.length_map]; omega, ?_, fun d hd => ?_, ?_⟩
    · have e : (xs.map PyData.str).map lkey = xs.map fun s => .int (lnum s) := by rw [List.map_map]; rfl
      rw [e]
      exact kok_ints lnum xs
    · obtain ⟨s, hs, rfl⟩ := List.mem_map.mp hd
      exact ⟨by unfold lkey noK; rfl, fun P' q => f_number_of (hl s hs) q⟩
    · rw [sort_lkey]
      exact h
  unfold F_by_number defV B_by_number
  rcases hd with rfl | rfl
  · walk_at "pv"
    unfold bSortBy at key ⊢
    simp only [] at key ⊢
    obtain ⟨k, h1, h2, h3, h4, h5⟩ := key
    exact ⟨k, h1, h2, h3, h4, h5⟩
  · walk_at "pv"
    unfold bSortBy at key ⊢
    simp only [] at key ⊢
    obtain ⟨k, h1, h2, h3, h4, h5⟩ := key
    exact ⟨k, h1, h2, h3, h4, h5⟩
theorem f_law_letters_in {d : PyData} {as : List Atom} (hd : d = .list (as.map atomD) ∨ d = .tuple (as.map atomD)) (ho : asOk as) {P : Av → Prop} (h : P (.n (.list ((letters as).map .str)))) : F__law_letters_in [.v d] P := by
  have main : ∀ D : EndsV, D.nx [some (.v d), some (.w (.list ((letters as).map .str))), none, none, none] → forV (fT (fsC (fN 2) (fsC (fN 3) fsN))) (sFor (iE (eV 3)) (fN 4) (sIf (andT (truT (eIsi .str (eV 4))) (asT (e2 opNin (eV 4) (eV 1)))) (sExpr (eApp 1 (eV 4))) sNext) [4]) [2, 3, 4] D (as.map atomD) [some (.v d), some (.w (.list [])), none, none, none] := by
    intro D q0
    refine for_fold (fun σ => [some (.v d), some (.w (.list (σ.map .str))), none, none, none]) atomD seeA (fun σ xs => σ.length + 100 * xs.length ≤ 10000 ∧ ∀ a, a ∈ xs → aOk a) ?_ as [] ⟨?_, ho.1⟩ ?_
    · rintro σ a xs k ⟨hl, hx⟩
      have ha := hx a List.mem_cons_self
      have l1 := seeA_le σ a
      have l2 := ha.2.2
      refine ⟨⟨?_, fun b hb => hx b (List.mem_cons_of_mem _ hb)⟩, fun q => ?_⟩
      · rw [List.length_cons] at hl; omega
      · unfold turnV atomD
        walk_at "pv"
        refine for_fold (fun τ => [some (.v d), some (.w (.list (τ.map .str))), some (.v (.str a.1)), some (.v (.tuple (a.2.map termD))), none]) termD seeT (fun τ ts => τ.length + ts.length ≤ 10000) ?_ a.2 σ ?_ ?_
        · intro τ t ts k2 hl2
          have l3 := seeT_le τ t
          refine ⟨by rw [List.length_cons] at hl2; omega, fun q2 => ?_⟩
          unfold turnV
          cases t with
          | l s =>
            unfold termD
            walk_at "pv"
            refine ⟨.inl ⟨rfl, flat_strs τ⟩, ?_⟩
            rw [any_str]
            have e : seeT τ (.l s) = if τ.any (· == s) = true then τ else τ ++ [s] := rfl
            rw [e] at q2
            cases c : τ.any (· == s) with
            | true =>
              rw [c, if_pos rfl] at q2
              exact q2
            | false =>
              rw [c, if_neg (by decide), List.map_append] at q2
              rw [List.length_cons] at hl2
              refine ⟨by rw [List.length_map]; omega, q2⟩
          | c x =>
            unfold termD
            walk_at "pv"
            exact q2
        · rw [List.length_cons] at hl; omega
        · walk_at "pv"
          exact q
    · have := ho.2
      simp only [List.length_nil]
      omega
    · rw [seeA_fold]
      exact q0
  unfold F__law_letters_in defV B__law_letters_in
  rcases hd with rfl | rfl
  · walk_at "pv"
    refine main _ ?_
    walk_at "pv"
    exact h
  · walk_at "pv"
    refine main _ ?_
    walk_at "pv"
    exact h
theorem f_law_bound {m : Mem} (ho : mOk m) {P : Av → Prop} (h : P (.n (.list ((bound m).map .str)))) : F__law_bound [.v (memD m)] P := by
  unfold F__law_bound defV B__law_bound memD
  walk_at "pv"
  refine f_law_letters_in (.inr rfl) ho.2.2 ?_
  walk_at "pv"
  have ll := letters_len ho.2.2
  refine ⟨by rw [List.length_map]; omega, ?_⟩
  refine lc_map (ρ := [some (.v (memD m)), none]) PyData.str (fun s => !inTs m.head s) PyData.str trivial (letters m.atoms) _ (fun s hs k1 k2 q1 q2 => ?_) ?_
  · unfold memD
    walk_at "pv"
    refine ⟨.inr ⟨shp_str (isLet_ok (letters_ok ho.2.2 hs)), shp_terms ho.1⟩, ?_⟩
    show if (!inTs m.head s) = true then _ else _
    cases c : inTs m.head s with
    | true => exact q2 (by rw [c]; rfl)
    | false => exact q1 (by rw [c]; rfl)
  · walk_at "pv"
    exact h

/-! ### plans: their tables, projections, parts -/
theorem planD_tab (s : Str) : planD (.tab s) = .str s := by unfold planD; rfl
theorem planD_join (ps : List Plan) : planD (.join ps) = .tuple [.str "join", .tuple (ps.map planD)] := by unfold planD; rw [plansD_map]
theorem planD_proj (k x : Str) (p : Plan) : planD (.proj k x p) = .tuple [.str k, .str x, planD p] := by conv => lhs; unfold planD
theorem names_tab (s : Str) : names (.tab s) = [s] := by unfold names; rfl
theorem names_join (ps : List Plan) : names (.join ps) = namesL ps := by conv => lhs; unfold names
theorem names_proj (k x : Str) (p : Plan) : names (.proj k x p) = names p := by conv => lhs; unfold names
theorem projs_tab (s : Str) : projs (.tab s) = [] := by unfold projs; rfl
theorem projs_join (ps : List Plan) : projs (.join ps) = projsL ps := by conv => lhs; unfold projs
theorem projs_proj (k x : Str) (p : Plan) : projs (.proj k x p) = projs p ++ [.proj k x p] := by conv => lhs; unfold projs
theorem parts_tab (s : Str) : parts (.tab s) = [.tab s] := by unfold parts; rfl
theorem parts_join (ps : List Plan) : parts (.join ps) = .join ps :: partsL ps := by conv => lhs; unfold parts
theorem parts_proj (k x : Str) (p : Plan) : parts (.proj k x p) = parts p ++ [.proj k x p] := by conv => lhs; unfold parts
theorem psize_join (ps : List Plan) : psize (.join ps) = 1 + psizeL ps := by conv => lhs; unfold psize
theorem psize_proj (k x : Str) (p : Plan) : psize (.proj k x p) = 1 + psize p := by conv => lhs; unfold psize
theorem pOk_join {n : Nat} {ps : List Plan} (h : pOk (n + 1) (.join ps)) : ∀ p, p ∈ ps → pOk n p := pOkL_iff.mp (by unfold pOk at h; exact h)
theorem pOk_proj {n : Nat} {k x : Str} {p : Plan} (h : pOk (n + 1) (.proj k x p)) : (k = "independent" ∨ k = "exclusive") ∧ sOk x ∧ pOk n p := by unfold pOk at h; exact h
theorem not_join {n : Nat} {k x : Str} {p : Plan} (h : pOk (n + 1) (.proj k x p)) : ¬ k = "join" := by
  rcases (pOk_proj h).1 with rfl | rfl <;> decide +kernel
theorem fold_names (ps : List Plan) (a : List Str) : ps.foldl (fun a p => a ++ names p) a = a ++ namesL ps := by
  induction ps generalizing a with
  | nil => rw [namesL_nil, List.append_nil]; rfl
  | cons p ps ih => rw [List.foldl_cons, ih, namesL_cons, List.append_assoc]
theorem fold_projs (ps : List Plan) (a : List Plan) : ps.foldl (fun a p => a ++ projs p) a = a ++ projsL ps := by
  induction ps generalizing a with
  | nil => rw [projsL_nil, List.append_nil]; rfl
  | cons p ps ih => rw [List.foldl_cons, ih, projsL_cons, List.append_assoc]
theorem fold_parts (ps : List Plan) (a : List Plan) : ps.foldl (fun a p => a ++ parts p) a = a ++ partsL ps := by
  induction ps generalizing a with
  | nil => rw [partsL_nil, List.append_nil]; rfl
  | cons p ps ih => rw [List.foldl_cons, ih, partsL_cons, List.append_assoc]
theorem psizeL_cons (p : Plan) (ps : List Plan) : psizeL (p :: ps) = psize p + psizeL ps := by conv => lhs; unfold psizeL
theorem parts_le : ∀ (n : Nat) (p : Plan), pOk n p → (parts p).length ≤ psize p
  | 0, p, h => by cases p <;> exact absurd h (by unfold pOk; exact id)
  | n + 1, .tab s, _ => by rw [parts_tab]; exact psize_pos _
  | n + 1, .proj k x p, h => by
    have := parts_le n p (pOk_proj h).2.2
    rw [parts_proj, psize_proj, List.length_append, List.length_singleton]; omega
  | n + 1, .join ps, h => by
    have key : ∀ qs : List Plan, (∀ q, q ∈ qs → pOk n q) → (partsL qs).length ≤ psizeL qs := by
      intro qs
      induction qs with
      | nil => intro _; rw [partsL_nil]; exact Nat.zero_le _
      | cons q qs ih =>
        intro hq
        have h1 := parts_le n q (hq q List.mem_cons_self)
        have h2 := ih fun r hr => hq r (List.mem_cons_of_mem _ hr)
        rw [partsL_cons, psizeL_cons, List.length_append]; omega
    have := key ps (pOk_join h)
    rw [parts_join, psize_join, List.length_cons]; omega
def strsT (xs : List Str) : PyData := .tuple (xs.map .str)
/-- the program: tables_in -/
theorem f_tables_in : ∀ (n : Nat) (p : Plan), pOk n p → psize p ≤ 2000 → ∀ P : Av → Prop, P (.v (.tuple ((names p).map .str))) → R_tables_in n [.v (planD p)] P
  | 0, p, h, _, _, _ => by cases p <;> exact absurd h (by unfold pOk; exact id)
  | n + 1, .tab s, _, _, P, q => by
    unfold R_tables_in defV
    rw [planD_tab]
    walk_at "pv"
    rw [names_tab] at q
    exact q
  | n + 1, .proj k x p, h, hz, P, q => by
    have nj := not_join h
    have hp := (pOk_proj h).2.2
    rw [psize_proj] at hz
    have nl := names_le p
    unfold R_tables_in defV
    rw [planD_proj]
    walk_at "pv"
    unfold F_parts_within defV B_parts_within
    walk_at "pv"
    rw [decide_eq_false nj]
    walk_at "pv"
    refine f_tables_in n p hp (by omega) _ ?_
    walk_at "pv"
    refine ⟨by rw [List.length_map]; omega, ?_⟩
    rw [names_proj] at q
    exact q
  | n + 1, .join ps, h, hz, P, q => by
    have hp := pOk_join h
    rw [psize_join] at hz
    unfold R_tables_in defV
    rw [planD_join]
    walk_at "pv"
    unfold F_parts_within defV B_parts_within
    walk_at "pv"
    refine for_fold (fun a => [some (.v (.tuple [.str "join", .tuple (ps.map planD)])), some (.v (strsT a)), none]) planD (fun a p => a ++ names p) (fun a qs => a.length + psizeL qs ≤ 2000 ∧ ∀ q, q ∈ qs → pOk n q) ?_ ps [] ⟨by rw [List.length_nil]; omega, hp⟩ ?_
    · rintro a p qs k ⟨hl, hq⟩
      rw [psizeL_cons] at hl
      have nl := names_le p
      have pp := psize_pos p
      refine ⟨⟨by rw [List.length_append]; omega, fun r hr => hq r (List.mem_cons_of_mem _ hr)⟩, fun qk => ?_⟩
      unfold turnV
      walk_at "pv"
      refine f_tables_in n p (hq p List.mem_cons_self) (by omega) _ ?_
      unfold strsT
      walk_at "pv"
      refine ⟨by rw [List.length_map, List.length_map]; omega, ?_⟩
      unfold strsT at qk
      rw [List.map_append] at qk
      exact qk
    · rw [fold_names]
      unfold strsT
      walk_at "pv"
      rw [names_join] at q
      exact q
/-- projections -/
theorem f_projections : ∀ (n : Nat) (p : Plan), pOk n p → psize p ≤ 2000 → ∀ P : Av → Prop, P (.v (.tuple ((projs p).map planD))) → R_projections n [.v (planD p)] P
  | 0, p, h, _, _, _ => by cases p <;> exact absurd h (by unfold pOk; exact id)
  | n + 1, .tab s, _, _, P, q => by
    unfold R_projections defV
    rw [planD_tab]
    walk_at "pv"
    unfold F_parts_within defV B_parts_within
    walk_at "pv"
    rw [projs_tab] at q
    exact q
  | n + 1, .proj k x p, h, hz, P, q => by
    have nj := not_join h
    have hp := (pOk_proj h).2.2
    rw [psize_proj] at hz
    have nl := projs_le p
    unfold R_projections defV
    rw [planD_proj]
    walk_at "pv"
    unfold F_parts_within defV B_parts_within
    walk_at "pv"
    rw [decide_eq_false nj]
    walk_at "pv"
    refine f_projections n p hp (by omega) _ ?_
    walk_at "pv"
    refine ⟨by rw [List.length_map]; omega, ?_⟩
    (try rw [decide_eq_false nj])
    walk_at "pv"
    refine ⟨by rw [List.length_map]; omega, ?_⟩
    rw [projs_proj, List.map_append, List.map_cons, List.map_nil, planD_proj] at q
    exact q
  | n + 1, .join ps, h, hz, P, q => by
    have hp := pOk_join h
    rw [psize_join] at hz
    unfold R_projections defV
    rw [planD_join]
    walk_at "pv"
    unfold F_parts_within defV B_parts_within
    walk_at "pv"
    refine for_fold (fun a => [some (.v (.tuple [.str "join", .tuple (ps.map planD)])), some (.v (.tuple (a.map planD))), none]) planD (fun a p => a ++ projs p) (fun a qs => a.length + psizeL qs ≤ 2000 ∧ ∀ q, q ∈ qs → pOk n q) ?_ ps [] ⟨by rw [List.length_nil]; omega, hp⟩ ?_
    · rintro a p qs k ⟨hl, hq⟩
      rw [psizeL_cons] at hl
      have nl := projs_le p
      have pp := psize_pos p
      refine ⟨⟨by rw [List.length_append]; omega, fun r hr => hq r (List.mem_cons_of_mem _ hr)⟩, fun qk => ?_⟩
      unfold turnV
      walk_at "pv"
      refine f_projections n p (hq p List.mem_cons_self) (by omega) _ ?_
      walk_at "pv"
      refine ⟨by rw [List.length_map, List.length_map]; omega, ?_⟩
      rw [List.map_append] at qk
      exact qk
    · rw [fold_projs]
      walk_at "pv"
      rw [projs_join] at q
      exact q
/-! the law's own: lists -/
theorem f_law_plan_names : ∀ (n : Nat) (p : Plan), pOk n p → psize p ≤ 2000 → ∀ P : Av → Prop, P (.n (.list ((names p).map .str))) → R__law_plan_names n [.v (planD p)] P
  | 0, p, h, _, _, _ => by cases p <;> exact absurd h (by unfold pOk; exact id)
  | n + 1, .tab s, _, _, P, q => by
    unfold R__law_plan_names defV
    rw [planD_tab]
    walk_at "pv"
    rw [names_tab] at q
    exact q
  | n + 1, .proj k x p, h, hz, P, q => by
    have nj := not_join h
    rw [psize_proj] at hz
    unfold R__law_plan_names defV
    rw [planD_proj]
    walk_at "pv"
    rw [decide_eq_false nj]
    walk_at "pv"
    refine f_law_plan_names n p (pOk_proj h).2.2 (by omega) _ ?_
    walk_at "pv"
    rw [names_proj] at q
    exact q
  | n + 1, .join ps, h, hz, P, q => by
    have hp := pOk_join h
    rw [psize_join] at hz
    unfold R__law_plan_names defV
    rw [planD_join]
    walk_at "pv"
    refine for_fold (fun a => [some (.v (.tuple [.str "join", .tuple (ps.map planD)])), some (.w (.list (a.map .str))), none]) planD (fun a p => a ++ names p) (fun a qs => a.length + psizeL qs ≤ 2000 ∧ ∀ q, q ∈ qs → pOk n q) ?_ ps [] ⟨by rw [List.length_nil]; omega, hp⟩ ?_
    · rintro a p qs k ⟨hl, hq⟩
      rw [psizeL_cons] at hl
      have nl := names_le p
      have pp := psize_pos p
      refine ⟨⟨by rw [List.length_append]; omega, fun r hr => hq r (List.mem_cons_of_mem _ hr)⟩, fun qk => ?_⟩
      unfold turnV
      walk_at "pv"
      refine f_law_plan_names n p (hq p List.mem_cons_self) (by omega) _ ?_
      walk_at "pv"
      refine ⟨by rw [List.length_map, List.length_map]; omega, ?_⟩
      rw [List.map_append] at qk
      exact qk
    · rw [fold_names]
      walk_at "pv"
      rw [names_join] at q
      exact q
theorem f_law_projections : ∀ (n : Nat) (p : Plan), pOk n p → psize p ≤ 2000 → ∀ P : Av → Prop, P (.n (.list ((projs p).map planD))) → R__law_projections n [.v (planD p)] P
  | 0, p, h, _, _, _ => by cases p <;> exact absurd h (by unfold pOk; exact id)
  | n + 1, .tab s, _, _, P, q => by
    unfold R__law_projections defV
    rw [planD_tab]
    walk_at "pv"
    rw [projs_tab] at q
    exact q
  | n + 1, .proj k x p, h, hz, P, q => by
    have nj := not_join h
    rw [psize_proj] at hz
    have nl := projs_le p
    unfold R__law_projections defV
    rw [planD_proj]
    walk_at "pv"
    rw [decide_eq_false nj]
    walk_at "pv"
    refine f_law_projections n p (pOk_proj h).2.2 (by omega) _ ?_
    walk_at "pv"
    refine ⟨by rw [List.length_map]; omega, ?_⟩
    rw [projs_proj, List.map_append, List.map_cons, List.map_nil, planD_proj] at q
    exact q
  | n + 1, .join ps, h, hz, P, q => by
    have hp := pOk_join h
    rw [psize_join] at hz
    unfold R__law_projections defV
    rw [planD_join]
    walk_at "pv"
    refine for_fold (fun a => [some (.v (.tuple [.str "join", .tuple (ps.map planD)])), some (.w (.list (a.map planD))), none]) planD (fun a p => a ++ projs p) (fun a qs => a.length + psizeL qs ≤ 2000 ∧ ∀ q, q ∈ qs → pOk n q) ?_ ps [] ⟨by rw [List.length_nil]; omega, hp⟩ ?_
    · rintro a p qs k ⟨hl, hq⟩
      rw [psizeL_cons] at hl
      have nl := projs_le p
      have pp := psize_pos p
      refine ⟨⟨by rw [List.length_append]; omega, fun r hr => hq r (List.mem_cons_of_mem _ hr)⟩, fun qk => ?_⟩
      unfold turnV
      walk_at "pv"
      refine f_law_projections n p (hq p List.mem_cons_self) (by omega) _ ?_
      walk_at "pv"
      refine ⟨by rw [List.length_map, List.length_map]; omega, ?_⟩
      rw [List.map_append] at qk
      exact qk
    · rw [fold_projs]
      walk_at "pv"
      rw [projs_join] at q
      exact q

/-! ### comprehensions without a test -/
theorem lc_all {β : Type} {G : En → Prop} {g : GF} {e : EV} {vs : List Nat} {ρ : En} (f : β → PyData) (F : β → PyData) (hG : G ρ) : ∀ (xs : List β) (k : List PyData → En → Prop)
    (_ : ∀ x, x ∈ xs → ∀ k1 : PyData → En → Prop, k1 (F x) ρ → g (f x) ρ fun ρ1 => e ρ1 fun x ρ3 => x.stoK fun y => k1 y (kill vs ρ3)),
    k (xs.map F) ρ → lcV G g yesT e vs (xs.map f) ρ k
  | [], k, _, q => ⟨hG, q⟩
  | x :: xs, k, h, q => by
    refine ⟨hG, ?_⟩
    unfold yesT
    simp only [if_true]
    exact h x List.mem_cons_self (fun y ρ3 => lcV G g (fun ρ P => P true ρ) e vs (xs.map f) ρ3 fun out ρ' => k (y :: out) ρ') (lc_all f F hG xs _ (fun y hy => h y (List.mem_cons_of_mem _ hy)) q)
/-! ### the drawn things, plainly: whatever is drawn -/
theorem dix_mem {ds : List PyData} {r : Int} (h0 : 0 ≤ r) (h1 : r < (ds.length : Int)) : ∃ d, d ∈ ds ∧ dix ds r = some d := by
  have l : r.toNat < ds.length := by omega
  refine ⟨ds[r.toNat], List.getElem_mem l, ?_⟩
  unfold dix ixN
  rw [if_pos h0, if_pos h1]
  show ds[r.toNat]? = _
  exact List.getElem?_eq_getElem l
theorem dix_atN {ds : List PyData} {r : Int} (h0 : 0 ≤ r) (h1 : r < (ds.length : Int)) : dix ds r = ds[r.toNat]? := by
  unfold dix ixN
  rw [if_pos h0, if_pos h1]
  rfl
theorem f_pick {d : PyData} {ds : List PyData} (hd : d = .list ds ∨ d = .tuple ds) (h0 : 0 < ds.length) (h1 : ds.length < 100000000) {P : Av → Prop} (h : ∀ x, x ∈ ds → P (.v x)) : F__law_pick [.tp, .v d] P := by
  unfold F__law_pick defV B__law_pick
  rcases hd with rfl | rfl
  · walk_at "pv"
    refine ⟨by omega, fun r a b => ?_⟩
    obtain ⟨x, hx, e⟩ := dix_mem (ds := ds) a (by omega)
    walk_at "pv"
    exact ⟨x, e, h x hx⟩
  · walk_at "pv"
    refine ⟨by omega, fun r a b => ?_⟩
    obtain ⟨x, hx, e⟩ := dix_mem (ds := ds) a (by omega)
    walk_at "pv"
    exact ⟨x, e, h x hx⟩
/-- numbers 0 .. n - 1 -/
theorem rng_map (n : Nat) : rngD 0 n = (List.range n).map fun (i : Nat) => PyData.int (i : Int) := by
  unfold rngD
  apply List.map_congr_left
  intro i _
  rw [Int.zero_add]
/-- the items in some other order -/
theorem f_shuffled {d : PyData} {ds : List PyData} (hd : d = .list ds ∨ d = .tuple ds) (h1 : ds.length < 1000000) {P : Av → Prop} (h : ∀ es, es.Perm ds → P (.n (.list es))) : F__law_shuffled [.tp, .v d] P := by
  have main : ∀ (m : Nat) (a b : List PyData) (D : EndsV) (is : List Nat), a.length = m → is.length = m → b.length + a.length < 1000000 → (∀ es, es.Perm (b ++ a) → D.nx [some .tp, some (.v d), some (.w (.list [])), some (.w (.list es)), none]) →
      forV (fN 4) (sExpr (eApp 3 (ePop 2 (eCall F__law_draw (aC (eV 0) (aC (eB bLen (aC (eV 2) aN)) aN)))))) [4] D (is.map fun (i : Nat) => PyData.int (i : Int)) [some .tp, some (.v d), some (.w (.list a)), some (.w (.list b)), none] := by
    intro m
    induction m with
    | zero =>
      intro a b D is ha hi hz k
      obtain rfl : a = [] := List.length_eq_zero_iff.mp ha
      obtain rfl : is = [] := List.length_eq_zero_iff.mp hi
      exact k b (by rw [List.append_nil])
    | succ m ih =>
      intro a b D is ha hi hz k
      cases is with
      | nil => cases hi
      | cons i is =>
        walk_at "pv"
        refine ⟨by omega, fun r r0 r1 => ?_⟩
        walk_at "pv"
        have rl : r.toNat < a.length := by omega
        refine ⟨r0, by omega, by omega, a[r.toNat], List.getElem?_eq_getElem rl, by omega, ?_⟩
        refine ih _ _ D is ?_ (by simpa using hi) ?_ fun es p => k es (p.trans ?_)
        · rw [List.length_eraseIdx_of_lt rl]; omega
        · rw [List.length_eraseIdx_of_lt rl, List.length_append, List.length_singleton]; omega
        · have p2 := perm_pop (List.getElem?_eq_getElem rl)
          rw [List.append_assoc]
          refine List.Perm.append_left b ?_
          exact (List.perm_append_comm.trans p2)
  have hD : (∀ es, es.Perm ([] ++ ds) → P (.n (.list es))) := fun es p => h es p
  unfold F__law_shuffled defV B__law_shuffled
  rcases hd with rfl | rfl
  · walk_at "pv"
    refine ⟨by unfold small62; omega, ?_⟩
    rw [Int.toNat_natCast, rng_map]
    refine main ds.length ds [] _ _ rfl (by rw [List.length_range]) (by rw [List.length_nil]; omega) fun es p => ?_
    walk_at "pv"
    exact hD es p
  · walk_at "pv"
    refine ⟨by unfold small62; omega, ?_⟩
    rw [Int.toNat_natCast, rng_map]
    refine main ds.length ds [] _ _ rfl (by rw [List.length_range]) (by rw [List.length_nil]; omega) fun es p => ?_
    walk_at "pv"
    exact hD es p
/-- some of 0 .. n - 1 -/
theorem f_turns {n : Nat} (hn : n < 1000000) {P : Av → Prop} (h : ∀ is : List Nat, (∀ i, i ∈ is → i < n) → is.length ≤ n → P (.n (.list (is.map fun (i : Nat) => PyData.int (i : Int))))) : F__law_turns [.tp, .v (.int n)] P := by
  have main : ∀ (m : Nat) (a b : List PyData) (D : EndsV) (is : List Nat), a.length = m → is.length = m → b.length + a.length < 1000000 → (∀ es, es.Perm (b ++ a) → D.nx [some .tp, some (.v (.int n)), some (.w (.list [])), some (.w (.list es)), none]) →
      forV (fN 4) (sExpr (eApp 3 (ePop 2 (eCall F__law_draw (aC (eV 0) (aC (eB bLen (aC (eV 2) aN)) aN)))))) [4] D (is.map fun (i : Nat) => PyData.int (i : Int)) [some .tp, some (.v (.int n)), some (.w (.list a)), some (.w (.list b)), none] := by
    intro m
    induction m with
    | zero =>
      intro a b D is ha hi hz k
      obtain rfl : a = [] := List.length_eq_zero_iff.mp ha
      obtain rfl : is = [] := List.length_eq_zero_iff.mp hi
      exact k b (by rw [List.append_nil])
    | succ m ih =>
      intro a b D is ha hi hz k
      cases is with
      | nil => cases hi
      | cons i is =>
        walk_at "pv"
        refine ⟨by omega, fun r r0 r1 => ?_⟩
        walk_at "pv"
        have rl : r.toNat < a.length := by omega
        refine ⟨r0, by omega, by omega, a[r.toNat], List.getElem?_eq_getElem rl, by omega, ?_⟩
        refine ih _ _ D is ?_ (by simpa using hi) ?_ fun es p => k es (p.trans ?_)
        · rw [List.length_eraseIdx_of_lt rl]; omega
        · rw [List.length_eraseIdx_of_lt rl, List.length_append, List.length_singleton]; omega
        · have p2 := perm_pop (List.getElem?_eq_getElem rl)
          rw [List.append_assoc]
          refine List.Perm.append_left b ?_
          exact (List.perm_append_comm.trans p2)
  unfold F__law_turns defV B__law_turns
  walk_at "pv"
  refine ⟨by omega, by unfold small62; omega, ?_⟩
  rw [Int.toNat_natCast, rng_map]
  refine main n _ [] _ _ (by rw [List.length_map, List.length_range]) (by rw [List.length_range]) (by rw [List.length_map, List.length_range, List.length_nil]; omega) fun es p => ?_
  walk_at "pv"
  obtain ⟨is, p2, rfl⟩ := perm_map_of (fun (i : Nat) => PyData.int (i : Int)) p
  have hm : ∀ i, i ∈ is → i < n := fun i hi => List.mem_range.mp (p2.mem_iff.mp hi)
  have hl : is.length = n := by rw [p2.length_eq, List.length_range]
  refine ⟨by decide, fun r r0 r1 => ?_⟩
  obtain ⟨x, hx, e⟩ := dix_mem (ds := [.int (n : Int), .int (n : Int), .int 1]) r0 (by simp only [List.length_cons, List.length_nil]; omega)
  walk_at "pv"
  refine ⟨x, e, ?_⟩
  have : ∃ m : Int, x = .int m := by
    simp only [List.mem_cons, List.not_mem_nil, or_false] at hx
    rcases hx with rfl | rfl | rfl <;> exact ⟨_, rfl⟩
  obtain ⟨m, rfl⟩ := this
  walk_at "pv"
  have ec : cutD (is.map fun (i : Nat) => PyData.int (i : Int)) none (some m) = ((is.drop (HT.sIx is.length 0 none)).take (HT.sIx is.length is.length (some m) - HT.sIx is.length 0 none)).map fun (i : Nat) => PyData.int (i : Int) := by
    unfold cutD
    rw [List.length_map, List.map_take, List.map_drop]
  rw [ec]
  refine h _ (fun i hi => hm i (List.mem_of_mem_drop (List.mem_of_mem_take hi))) ?_
  rw [List.length_take, List.length_drop]
  omega
/-! _law_same of a thing and itself -/
def smq : Nat → PyData → Bool
  | 0, _ => false
  | n + 1, .tuple ds => Nat.ble ds.length 100000 && ds.all (smq n)
  | _ + 1, .list _ => false
  | _ + 1, .dict _ => false
  | _ + 1, .str s => PyData.strOk s
  | _ + 1, _ => true
theorem not_in_true (n : Nat) : ((List.replicate n (PyData.bool true)).any fun z => PyData.eqv z (.bool false)) = false ∧ (List.replicate n (PyData.bool true)).all flatD = true := by
  induction n with
  | zero => exact ⟨rfl, rfl⟩
  | succ n ih =>
    rw [List.replicate_succ, List.any_cons, List.all_cons, ih.1, ih.2]
    exact ⟨by simp [PyData.eqv], rfl⟩
theorem f_same : ∀ (n : Nat) (d : PyData), smq n d = true → ∀ P : Av → Prop, P (.v (.bool true)) → R__law_same n [.v d, .v d] P
  | 0, _, h, _, _ => by unfold smq at h; cases h
  | n + 1, .none, _, P, q => by
    unfold R__law_same defV
    walk_at "pv"
    exact q
  | n + 1, .bool b, _, P, q => by
    unfold R__law_same defV
    walk_at "pv"
    exact q
  | n + 1, .int i, _, P, q => by
    unfold R__law_same defV
    walk_at "pv"
    exact q
  | n + 1, .str s, h, P, q => by
    unfold R__law_same defV
    walk_at "pv"
    exact q
  | n + 1, .list _, h, _, _ => by unfold smq at h; cases h
  | n + 1, .dict _, h, _, _ => by unfold smq at h; cases h
  | n + 1, .tuple ds, h, P, q => by
    unfold smq at h
    rw [Bool.and_eq_true] at h
    have hl : ds.length ≤ 100000 := Nat.le_of_ble_eq_true h.1
    have ha := List.all_eq_true.mp h.2
    unfold R__law_same defV
    walk_at "pv"
    refine ⟨by unfold small62; omega, by unfold rngD; rw [List.length_map, List.length_range]; omega, ?_⟩
    rw [Int.toNat_natCast, rng_map]
    refine lc_map (ρ := [some (.v (.tuple ds)), some (.v (.tuple ds)), none]) (fun (i : Nat) => PyData.int (i : Int)) (fun _ => true) (fun _ => .bool true) trivial (List.range ds.length) _ (fun i hi k1 k2 q1 q2 => ?_) ?_
    · have li : i < ds.length := List.mem_range.mp hi
      have e : dix ds (i : Int) = some ds[i] := dix_nat (List.getElem?_eq_getElem li)
      walk_at "pv"
      refine ⟨_, e, _, e, ?_⟩
      refine f_same n _ (ha _ (List.getElem_mem li)) _ ?_
      walk_at "pv"
      exact q1 rfl
    · have e : (List.filter (fun _ => true) (List.range ds.length)).map (fun _ => PyData.bool true) = List.replicate ds.length (.bool true) := by
        rw [List.filter_eq_self.mpr (fun _ _ => rfl), List.map_const', List.length_range]
      rw [e]
      walk_at "pv"
      obtain ⟨e1, e2⟩ := not_in_true ds.length
      rw [e1]
      exact ⟨.inl ⟨rfl, e2⟩, q⟩

/-! ### sorted texts -/
def srt (ss : List Str) : List PyData := (ss.map PyData.str).mergeSort (PySem.W.dataLe false id)
theorem str_anti {s r : Str} (h1 : PySem.W.dataLe false id (PyData.str s) (.str r) = true) (h2 : PySem.W.dataLe false id (PyData.str r) (.str s) = true) : s = r := by
  rw [PySem.W.dataLe_eq] at h1 h2
  have e1 : PySem.W.dataLt (.str r) (.str s) = false := by simpa using h1
  have e2 : PySem.W.dataLt (.str s) (.str r) = false := by simpa using h2
  have e3 := PyProof.Rows.lex_total (O := PyProof.Rows.itemOrd) _ _ e2 e1
  simp only [PySem.W.keyToks, List.cons.injEq, Sum.inr.injEq, and_true] at e3
  exact PySem.W.str_of_cps e3
theorem srt_perm {ss rs : List Str} (h : ss.Perm rs) : srt ss = srt rs := by
  have p1 := List.mergeSort_perm (ss.map PyData.str) (PySem.W.dataLe false id)
  have p2 := List.mergeSort_perm (rs.map PyData.str) (PySem.W.dataLe false id)
  refine List.Perm.eq_of_pairwise (le := fun a b => PySem.W.dataLe false id a b = true) (fun a b ha hb h1 h2 => ?_) (PySem.W.sort_pairwise (PySem.W.sortLe_total _ _ _) _) (PySem.W.sort_pairwise (PySem.W.sortLe_total _ _ _) _) (p1.trans ((h.map _).trans p2.symm))
  obtain ⟨s, _, rfl⟩ := List.mem_map.mp (p1.mem_iff.mp ha)
  obtain ⟨r, _, rfl⟩ := List.mem_map.mp (p2.mem_iff.mp hb)
  rw [str_anti h1 h2]
theorem srt_mem {ss : List Str} {d : PyData} (h : d ∈ srt ss) : ∃ s, s ∈ ss ∧ d = .str s := by
  have p1 := List.mergeSort_perm (ss.map PyData.str) (PySem.W.dataLe false id)
  obtain ⟨s, h1, h2⟩ := List.mem_map.mp (p1.mem_iff.mp h)
  exact ⟨s, h1, h2.symm⟩
theorem kok_strs {ss : List Str} (h : ∀ s, s ∈ ss → okS 2000 s) : KOk (ss.map PyData.str) := by
  refine ⟨fun d hd => ?_, fun d hd e he => ?_, .inr (.inr ⟨.type "str", by decide, fun d hd => ?_⟩)⟩
  · obtain ⟨x, hx, rfl⟩ := List.mem_map.mp hd
    exact ⟨by simp [isK, (h x hx).strOk], by simp [PyData.depth]⟩
  · obtain ⟨x, _, rfl⟩ := List.mem_map.mp hd
    obtain ⟨y, _, rfl⟩ := List.mem_map.mp he
    simp [cmpK]
  · obtain ⟨x, _, rfl⟩ := List.mem_map.mp hd
    rfl
theorem shp_srt {ss : List Str} (h : ∀ s, s ∈ ss → okS 2000 s) : SeqAt.shaped (.list (srt ss)) = true := by
  have key : ∀ ds : List PyData, (∀ d, d ∈ ds → ∃ s, s ∈ ss ∧ d = .str s) → PyData.canLayAll0 ds = true ∧ PyData.depthAll ds = 0 := by
    intro ds
    induction ds with
    | nil => intro _; exact ⟨by simp [PyData.canLayAll0], by simp [PyData.depthAll]⟩
    | cons d ds ih =>
      intro hd
      obtain ⟨s, hs, rfl⟩ := hd d List.mem_cons_self
      obtain ⟨h1, h2⟩ := ih fun x hx => hd x (List.mem_cons_of_mem _ hx)
      exact ⟨by simp [PyData.canLayAll0, PyData.canLay0, (h s hs).strOk, h1], by simp [PyData.depthAll, PyData.depth, h2]⟩
  obtain ⟨h1, h2⟩ := key (srt ss) fun d hd => srt_mem hd
  unfold SeqAt.shaped
  rw [Bool.and_eq_true]
  exact ⟨by simp only [PyData.canLay0, h1], decide_eq_true (by simp only [PyData.depth, h2]; decide)⟩

/-- the letter of a projection -/
def plet : Plan → Str
  | .proj _ x _ => x
  | _ => Str.empty
def plets (p : Plan) : List Str := (projs p).map plet
def isProj : Plan → Prop
  | .proj _ _ _ => True
  | _ => False
mutual
theorem projs_are : ∀ (p q : Plan), q ∈ projs p → isProj q
  | .tab s, q, h => by unfold projs at h; cases h
  | .join ps, q, h => by unfold projs at h; exact projsL_are ps q h
  | .proj k x p, q, h => by
    unfold projs at h
    rcases List.mem_append.mp h with h | h
    · exact projs_are p q h
    · rw [List.mem_singleton.mp h]
      trivial
theorem projsL_are : ∀ (ps : List Plan) (q : Plan), q ∈ projsL ps → isProj q
  | [], q, h => by unfold projsL at h; cases h
  | p :: ps, q, h => by
    unfold projsL at h
    rcases List.mem_append.mp h with h | h
    · exact projs_are p q h
    · exact projsL_are ps q h
end

/-! ### shapes; simple members -/
theorem dc_all {β : Type} {G : En → Prop} {g : GF} {ek e : EV} {vs : List Nat} {ρ : En} (f : β → PyData) (kf : β → L2.Key) (vf : β → PyData) (hG : G ρ) : ∀ (xs : List β) (acc : Dct) (k : Dct → En → Prop)
    (_ : ∀ x, x ∈ xs → ∀ k1 : L2.Key → PyData → En → Prop, k1 (kf x) (vf x) ρ → g (f x) ρ fun ρ1 => ek ρ1 fun x ρ3 => e ρ3 fun y ρ4 => x.getK ρ4 fun kd => keyK kd fun q => y.stoK fun z => k1 q z (kill vs ρ4)),
    k (xs.foldl (fun acc x => dPut acc (kf x) (vf x)) acc) ρ → dcV G g yesT ek e vs (xs.map f) acc ρ k
  | [], _, k, _, q => ⟨hG, q⟩
  | x :: xs, acc, k, h, q => by
    refine ⟨hG, ?_⟩
    unfold yesT
    simp only [if_true]
    exact h x List.mem_cons_self (fun q z ρ4 => dcV G g (fun ρ P => P true ρ) ek e vs (xs.map f) (dPut acc q z) ρ4 k) (dc_all f kf vf hG xs _ _ (fun y hy => h y (List.mem_cons_of_mem _ hy)) q)
structure Shp where
  name : Str
  kind : Str
  cols : Int
  keys : Int
def shapeD (s : Shp) : PyData := .tuple [.str s.name, .str s.kind, .int s.cols, .int s.keys]
def formsD (fs : List Shp) : PyData := .tuple (fs.map shapeD)
def kindsD (fs : List Shp) : Dct := fs.map fun s => (.str s.name, .str s.kind)
theorem kinds_any (fs : List Shp) (t : Str) : ((kindsD fs).any fun p => keyEq p.1 (.inr t)) = (fs.map (·.name)).any (· == t) := by
  induction fs with
  | nil => rfl
  | cons s fs ih =>
    show (decide (s.name = t) || (kindsD fs).any fun p => keyEq p.1 (.inr t)) = _
    rw [ih]; rfl
theorem kinds_fold (gs : List Shp) : ∀ fs : List Shp, ((fs ++ gs).map (·.name)).Nodup → gs.foldl (fun acc (s : Shp) => dPut acc (.inr s.name) (.str s.kind)) (kindsD fs) = kindsD (fs ++ gs) := by
  induction gs with
  | nil => intro fs _; rw [List.append_nil]; rfl
  | cons s gs ih =>
    intro fs h
    have e : dPut (kindsD fs) (.inr s.name) (.str s.kind) = kindsD (fs ++ [s]) := by
      have no : (fs.map (·.name)).any (· == s.name) = false := by
        rw [List.any_eq_false]
        intro x hx
        rw [List.map_append, List.map_cons] at h
        have := (List.nodup_append.mp h).2.2 x hx s.name List.mem_cons_self
        simpa using this
      unfold dPut
      rw [kinds_any, no, if_neg (by decide)]
      unfold kindsD
      rw [List.map_append]
      rfl
    rw [List.foldl_cons, e, ih (fs ++ [s]) (by rw [List.append_assoc]; exact h), List.append_assoc]
    rfl
def kindOf (fs : List Shp) (t : Str) : Str := ((fs.find? fun s => s.name == t).map (·.kind)).getD Str.empty
theorem kinds_get {fs : List Shp} {t : Str} (h : t ∈ fs.map (·.name)) : dGet (kindsD fs) (.inr t) = some (.str (kindOf fs t)) := by
  induction fs with
  | nil => cases h
  | cons s fs ih =>
    by_cases e : s.name = t
    · have g : dGet (kindsD (s :: fs)) (.inr t) = some (.str s.kind) := by simp [dGet, kindsD, keyEq, e]
      rw [g]
      unfold kindOf
      rw [List.find?_cons, beq_iff_eq.mpr e]
      rfl
    · have g : dGet (kindsD (s :: fs)) (.inr t) = dGet (kindsD fs) (.inr t) := by simp [dGet, kindsD, keyEq, e]
      rw [g, ih (by
        rcases List.mem_map.mp h with ⟨x, hx, ex⟩
        rcases List.mem_cons.mp hx with rfl | hx
        · exact absurd ex e
        · exact List.mem_map.mpr ⟨x, hx, ex⟩)]
      unfold kindOf
      rw [List.find?_cons, beq_eq_false_iff_ne.mpr e]
structure FsOk (fs : List Shp) : Prop where
  nd : (fs.map (·.name)).Nodup
  len : fs.length ≤ 100
def tabs (m : Mem) : List Str := m.atoms.map (·.1)
def genB (fs : List Shp) (t : Str) : Bool := decide (kindOf fs t = "general")
def simB (fs : List Shp) (m : Mem) : Bool := decide (0 < (tabs m).length) && (decide ((ddS (tabs m)).length = (tabs m).length) && (tabs m).all fun t => !genB fs t)
theorem f_law_shape {fs : List Shp} (hl : fs.length ≤ 1000000) {t : Str} (h : t ∈ fs.map (·.name)) {P : Av → Prop} (q : ∀ s, s ∈ fs → s.name = t → s.kind = kindOf fs t → P (.v (shapeD s))) : F__law_shape [.v (formsD fs), .v (.str t)] P := by
  unfold F__law_shape defV B__law_shape formsD
  walk_at "pv"
  refine ⟨by rw [List.length_map]; exact hl, ?_⟩
  refine lc_map shapeD (fun s => decide (s.name = t)) shapeD trivial fs _ (fun s _ k1 k2 q1 q2 => ?_) ?_
  · unfold shapeD at q1 ⊢
    walk_at "pv"
    by_cases c : s.name = t
    · rw [decide_eq_true c] at q1 ⊢
      walk_at "pv"
      exact q1 rfl
    · rw [decide_eq_false c] at q2 ⊢
      walk_at "pv"
      exact q2 rfl
  · have ef : ∃ s r, fs.filter (fun s => decide (s.name = t)) = s :: r ∧ fs.find? (fun s => s.name == t) = some s := by
      obtain ⟨x, hx, ex⟩ := List.mem_map.mp h
      have : fs.find? (fun s => s.name == t) = (fs.filter fun s => decide (s.name = t)).head? := by
        rw [List.head?_filter]
        rfl
      cases e : fs.filter fun s => decide (s.name = t) with
      | nil =>
        have : x ∈ fs.filter fun s => decide (s.name = t) := List.mem_filter.mpr ⟨hx, decide_eq_true ex⟩
        rw [e] at this; cases this
      | cons s r =>
        rw [e] at this
        exact ⟨s, r, rfl, this⟩
    obtain ⟨s, r, e, e2⟩ := ef
    rw [e]
    walk_at "pv"
    have hs : s ∈ fs.filter fun s => decide (s.name = t) := by rw [e]; exact List.mem_cons_self
    have hm := List.mem_filter.mp hs
    refine q s hm.1 (of_decide_eq_true hm.2) ?_
    unfold kindOf
    rw [e2]
    rfl

/-- the atoms whose tables stand in the plan -/
def below (m : Mem) (p : Plan) : List Atom := m.atoms.filter fun a => (names p).any (· == a.1)
theorem below_ok {m : Mem} (h : mOk m) (p : Plan) : asOk (below m p) :=
  ⟨fun a ha => h.2.2.1 a (List.mem_filter.mp ha).1, Nat.le_trans (List.length_filter_le _ _) h.2.2.2⟩

/-- what fits tells -/
def restB (m : Mem) (p : Plan) : Bool := (projs p).all fun q => m.atoms.all fun a => !(inTs a.2 (plet q) && !(names q).any (· == a.1))
def fitsB (m : Mem) (p : Plan) : Bool :=
  PyData.eqv (.list (srt (names p))) (.list (srt (m.atoms.map (·.1)))) && (PyData.eqv (.list (srt (plets p))) (.list (srt (bound m))) && restB m p)
mutual
theorem names_ok : ∀ (n : Nat) (p : Plan), pOk n p → ∀ s, s ∈ names p → sOk s
  | 0, p, h, _, _ => by cases p <;> exact absurd h (by unfold pOk; exact id)
  | n + 1, .tab s, h, r, hr => by
    unfold pOk at h
    unfold names at hr
    rw [List.mem_singleton.mp hr]
    exact h
  | n + 1, .join ps, h, r, hr => by
    unfold pOk at h
    unfold names at hr
    exact namesL_ok n ps h r hr
  | n + 1, .proj k x p, h, r, hr => by
    unfold pOk at h
    unfold names at hr
    exact names_ok n p h.2.2 r hr
theorem namesL_ok : ∀ (n : Nat) (ps : List Plan), pOkL n ps → ∀ s, s ∈ namesL ps → sOk s
  | n, [], _, s, h => by unfold namesL at h; cases h
  | n, p :: ps, h, s, hs => by
    unfold pOkL at h
    unfold namesL at hs
    rcases List.mem_append.mp hs with hs | hs
    · exact names_ok n p h.1 s hs
    · exact namesL_ok n ps h.2 s hs
end
theorem pOk_up : ∀ {n : Nat} {p : Plan}, pOk n p → pOk (n + 1) p := by
  intro n
  induction n with
  | zero => intro p h; cases p <;> exact absurd h (by unfold pOk; exact id)
  | succ n ih =>
    intro p h
    cases p with
    | tab s => unfold pOk at h ⊢; exact h
    | join ps =>
      unfold pOk at h ⊢
      exact pOkL_iff.mpr fun q hq => ih (pOkL_iff.mp h q hq)
    | proj k x p =>
      unfold pOk at h ⊢
      exact ⟨h.1, h.2.1, ih h.2.2⟩
theorem pOk_le {n m : Nat} {p : Plan} (h : pOk n p) (l : n ≤ m) : pOk m p := by
  induction l with
  | refl => exact h
  | step _ ih => exact pOk_up ih
mutual
/-- a projection of a plan is well made itself -/
theorem projs_ok : ∀ (n : Nat) (p q : Plan), pOk n p → q ∈ projs p → pOk n q ∧ psize q ≤ psize p
  | 0, p, _, h, _ => by cases p <;> exact absurd h (by unfold pOk; exact id)
  | n + 1, .tab s, q, h, hq => by unfold projs at hq; cases hq
  | n + 1, .join ps, q, h, hq => by
    unfold pOk at h
    unfold projs at hq
    obtain ⟨h1, h2⟩ := projsL_ok n ps q h hq
    refine ⟨pOk_up h1, ?_⟩
    rw [psize_join]
    omega
  | n + 1, .proj k x p, q, h, hq => by
    have h0 := h
    unfold pOk at h
    unfold projs at hq
    rcases List.mem_append.mp hq with hq | hq
    · obtain ⟨h1, h2⟩ := projs_ok n p q h.2.2 hq
      refine ⟨pOk_up h1, ?_⟩
      rw [psize_proj]
      omega
    · rw [List.mem_singleton.mp hq]
      exact ⟨h0, Nat.le_refl _⟩
theorem projsL_ok : ∀ (n : Nat) (ps : List Plan) (q : Plan), pOkL n ps → q ∈ projsL ps → pOk n q ∧ psize q ≤ psizeL ps
  | n, [], q, _, h => by unfold projsL at h; cases h
  | n, p :: ps, q, h, hq => by
    unfold pOkL at h
    unfold projsL at hq
    show _ ∧ _ ≤ psizeL (p :: ps)
    unfold psizeL
    rcases List.mem_append.mp hq with hq | hq
    · obtain ⟨h1, h2⟩ := projs_ok n p q h.1 hq
      exact ⟨h1, by omega⟩
    · obtain ⟨h1, h2⟩ := projsL_ok n ps q h.2 hq
      exact ⟨h1, by omega⟩
end
theorem plets_ok {n : Nat} {p : Plan} (h : pOk n p) {s : Str} (hs : s ∈ plets p) : sOk s := by
  obtain ⟨q, hq, rfl⟩ := List.mem_map.mp hs
  have h1 := (projs_ok n p q h hq).1
  have h2 := projs_are p q hq
  cases q with
  | tab s => exact h2.elim
  | join ps => exact h2.elim
  | proj k x q =>
    cases n with
    | zero => exact absurd h1 (by unfold pOk; exact id)
    | succ n =>
      unfold pOk at h1
      exact h1.2.1
theorem bound_ok {m : Mem} (h : mOk m) {s : Str} (hs : s ∈ bound m) : isLet s := letters_ok h.2.2 (List.mem_filter.mp hs).1
theorem isLet_sOk {s : Str} (h : isLet s) : okS 2000 s := (isLet_ok h).mono (by decide)
theorem byNum_perm (xs : List Str) : (byNum xs).Perm xs := List.mergeSort_perm _ _

/-! ### drawn texts, values, pools, names -/
theorem lc_any {β : Type} {G : En → Prop} {g : GF} {e : EV} {vs : List Nat} {ρ : En} (f : β → PyData) (Good : PyData → Prop) (hG : G ρ) : ∀ (xs : List β) (k : List PyData → En → Prop)
    (_ : ∀ x, x ∈ xs → ∀ k1 : PyData → En → Prop, (∀ y, Good y → k1 y ρ) → g (f x) ρ fun ρ1 => e ρ1 fun x ρ3 => x.stoK fun y => k1 y (kill vs ρ3)),
    (∀ out : List PyData, (∀ y, y ∈ out → Good y) → out.length = xs.length → k out ρ) → lcV G g yesT e vs (xs.map f) ρ k
  | [], k, _, q => ⟨hG, q [] (fun _ h => nomatch h) rfl⟩
  | x :: xs, k, h, q => by
    refine ⟨hG, ?_⟩
    unfold yesT
    simp only [if_true]
    refine h x List.mem_cons_self (fun y ρ3 => lcV G g (fun ρ P => P true ρ) e vs (xs.map f) ρ3 fun out ρ' => k (y :: out) ρ') fun y hy => ?_
    refine lc_any f Good hG xs _ (fun z hz => h z (List.mem_cons_of_mem _ hz)) fun out ho hl => q (y :: out) (fun z hz => ?_) (by rw [List.length_cons, List.length_cons, hl])
    rcases List.mem_cons.mp hz with rfl | hz
    · exact hy
    · exact ho z hz
theorem data_map {α : Type} (f : α → PyData) (G : α → Prop) : ∀ ds : List PyData, (∀ y, y ∈ ds → ∃ x, y = f x ∧ G x) → ∃ xs : List α, ds = xs.map f ∧ ∀ x, x ∈ xs → G x
  | [], _ => ⟨[], rfl, fun _ h => nomatch h⟩
  | d :: ds, h => by
    obtain ⟨x, e, gx⟩ := h d List.mem_cons_self
    obtain ⟨xs, e2, g2⟩ := data_map f G ds fun y hy => h y (List.mem_cons_of_mem _ hy)
    refine ⟨x :: xs, by rw [e, e2]; rfl, fun y hy => ?_⟩
    rcases List.mem_cons.mp hy with rfl | hy
    · exact gx
    · exact g2 y hy
/-- a sign of a text -/
theorem at_sign {z : Str} {n : Nat} (hl : Nat.ble z.cps.toList.length n = true ∧ Nat.ble n z.cps.toList.length = true) (ha : z.cps.toList.all (fun c => Nat.blt c 0x110000) = true) {i : Int} (h0 : 0 ≤ i) (h1 : i < (n : Int)) : ∃ c, atI z.cps.toList i = some c ∧ okS 1 (chS c) := by
  have l1 := Nat.le_of_ble_eq_true hl.1
  have l2 := Nat.le_of_ble_eq_true hl.2
  have hi : i.toNat < z.cps.toList.length := by omega
  refine ⟨z.cps.toList[i.toNat], ?_, Nat.le_refl _, fun c hc => ?_⟩
  · unfold atI
    rw [ixN_of h0 (by omega)]
    exact List.getElem?_eq_getElem hi
  · have e : c = z.cps.toList[i.toNat] := by simpa [chS] using hc
    rw [e]
    exact Nat.le_of_ble_eq_true (List.all_eq_true.mp ha _ (List.getElem_mem hi))
theorem sumS_le : ∀ {ys : List Str}, (∀ y, y ∈ ys → okS 1 y) → (ys.map (·.length)).sum ≤ ys.length
  | [], _ => Nat.le_refl _
  | y :: ys, h => by
    have h1 := (h y List.mem_cons_self).1
    have h2 := sumS_le (ys := ys) fun z hz => h z (List.mem_cons_of_mem _ hz)
    simp only [List.map_cons, List.sum_cons, List.length_cons]
    omega
theorem okS_joined : ∀ {ys : List Str}, (∀ y, y ∈ ys → okS 1 y) → okS ys.length (Str.join "" ys)
  | [], _ => ⟨Nat.zero_le _, fun c hc => nomatch hc⟩
  | [y], h => h y List.mem_cons_self
  | y :: z :: r, h => by
    have e1 := okS_joined (ys := z :: r) fun x hx => h x (List.mem_cons_of_mem _ hx)
    have e2 := okS_app (okS_app (h y List.mem_cons_self) (okS_of (n := 0) (x := "") (by decide +kernel) (by decide +kernel))) e1
    exact e2.mono (by simp only [List.length_cons]; omega)
theorem f_text {n : Int} (h0 : 0 ≤ n) (h1 : n ≤ 100) {P : Av → Prop} (h : ∀ s, okS 100 s → P (.v (.str s))) : F__law_text [.tp, .v (.int n)] P := by
  unfold F__law_text defV B__law_text
  walk_at "pv"
  refine ⟨by omega, fun r r0 r1 => ?_⟩
  walk_at "pv"
  refine ⟨by unfold small62; omega, by unfold rngD; rw [List.length_map, List.length_range]; omega, ?_⟩
  rw [rng_map]
  refine lc_any (fun (i : Nat) => PyData.int (i : Int)) (fun d => ∃ s, d = .str s ∧ okS 1 s) trivial (List.range r.toNat) _ (fun i _ k1 q => ?_) fun out ho hl => ?_
  · walk_at "pv"
    refine ⟨by decide, fun r2 a b => ?_⟩
    walk_at "pv"
    obtain ⟨c, e, ok⟩ := at_sign (z := " !\"#$&'()*+,-./0123456789:;<=>?@ABCDEFGHIJKLMNOPQRSTUVWXYZ[\\]^_`abcdefghijklmnopqrstuvwxyz{|}~") (n := 94) ⟨by decide +kernel, by decide +kernel⟩ (by decide +kernel) a (by omega)
    exact ⟨by decide +kernel, c, e, q _ ⟨_, rfl, ok⟩⟩
  · obtain ⟨ys, rfl, hy⟩ := data_map PyData.str (okS 1) out ho
    have ly : ys.length ≤ 100 := by
      rw [List.length_map, List.length_range] at hl; omega
    have sl := sumS_le hy
    walk_at "pv"
    refine ⟨ys, .inl rfl, ?_, ?_⟩
    · have : ("" : Str).length = 0 := by decide +kernel
      rw [this]; omega
    · walk_at "pv"
      have eg : Txt.join "" ys = Str.join "" ys := by
        unfold Txt.join
        exact PySem.StrLaws.glued_eq_join "" ys
      rw [eg]
      exact h _ ((okS_joined hy).mono ly)
def cellOkB : L2.Key → Bool
  | .inl i => decide (-10000 < i) && decide (i < 10000)
  | .inr s => Nat.ble s.cps.toList.length 2000 && s.cps.toList.all (fun c => Nat.blt c 0x110000)
theorem cellOk_of {c : L2.Key} (h : cellOkB c = true) : cellOk c := by
  cases c with
  | inl i =>
    unfold cellOkB at h
    rw [Bool.and_eq_true] at h
    exact ⟨of_decide_eq_true h.1, of_decide_eq_true h.2⟩
  | inr s =>
    unfold cellOkB at h
    rw [Bool.and_eq_true] at h
    exact okS_of h.1 h.2
theorem cells_of {cs : Row} (h : cs.all cellOkB = true) : ∀ c, c ∈ cs → cellOk c := fun c hc => cellOk_of (List.all_eq_true.mp h c hc)
theorem pick_cells {cs : Row} {ds : List PyData} (he : cs.map cd = ds) (h : cs.all cellOkB = true) {d : PyData} (hd : d ∈ ds) : ∃ c, d = cd c ∧ cellOk c := by
  rw [← he] at hd
  obtain ⟨c, hc, rfl⟩ := List.mem_map.mp hd
  exact ⟨c, rfl, cells_of h c hc⟩
theorem f_value_of {P : Av → Prop} (h : ∀ c, cellOk c → P (.v (cd c))) : F__law_value_of [.tp] P := by
  unfold F__law_value_of defV B__law_value_of
  walk_at "pv"
  refine ⟨by decide, fun r r0 r1 => ?_⟩
  walk_at "pv"
  by_cases c1 : r < 3
  · rw [decide_eq_true c1]
    walk_at "pv"
    refine ⟨by decide, fun r2 a b => ?_⟩
    walk_at "pv"
    exact h (.inl r2) ⟨by omega, by omega⟩
  rw [decide_eq_false c1]
  walk_at "pv"
  by_cases c2 : r = 3
  · rw [decide_eq_true c2]
    walk_at "pv"
    refine f_pick (.inl rfl) (by decide) (by decide) fun x hx => ?_
    obtain ⟨c, rfl, ok⟩ := pick_cells (cs := [.inl (-9999), .inl 9999, .inl 10, .inl 9, .inl (-1), .inl 17, .inl 40]) rfl (by decide +kernel) hx
    walk_at "pv"
    exact h c ok
  rw [decide_eq_false c2]
  walk_at "pv"
  by_cases c3 : r = 4
  · rw [decide_eq_true c3]
    walk_at "pv"
    refine ⟨by decide, fun r2 a b => ?_⟩
    walk_at "pv"
    exact h (.inl (r2 - 9999)) ⟨by omega, by omega⟩
  rw [decide_eq_false c3]
  walk_at "pv"
  by_cases c4 : r < 7
  · rw [decide_eq_true c4]
    walk_at "pv"
    refine f_pick (.inl rfl) (by decide) (by decide) fun x hx => ?_
    obtain ⟨c, rfl, ok⟩ := pick_cells (cs := [.inr "", .inr "a", .inr "b", .inr "ab", .inr "1", .inr "10", .inr "9", .inr "B", .inr "it's", .inr " ", .inr "-1"]) rfl (by decide +kernel) hx
    walk_at "pv"
    exact h c ok
  rw [decide_eq_false c4]
  walk_at "pv"
  refine f_text (by decide) (by decide) fun s ok => ?_
  walk_at "pv"
  exact h (.inr s) (ok.mono (by decide))
theorem cut_upto {ds : List PyData} {m : Int} (h : 0 ≤ m) : cutD ds none (some m) = ds.take (min m.toNat ds.length) := by
  have e : HT.sIx ds.length ds.length (some m) = min m.toNat ds.length := by
    unfold HT.sIx
    exact if_neg (by omega)
  unfold cutD
  rw [e, HT.sIx_none, Nat.sub_zero, List.drop_zero]
theorem f_pool {P : Av → Prop} (h : ∀ cs : Row, 0 < cs.length → cs.length ≤ 10 → (∀ c, c ∈ cs → cellOk c) → P (.n (.list (cs.map cd)))) : F__law_pool [.tp] P := by
  unfold F__law_pool defV B__law_pool
  walk_at "pv"
  refine ⟨by decide, fun r r0 r1 => ?_⟩
  walk_at "pv"
  refine ⟨by decide, fun r2 a b => ?_⟩
  walk_at "pv"
  by_cases c : r2 = 0
  · rw [decide_eq_true c]
    walk_at "pv"
    refine f_pick (.inl rfl) (by decide) (by decide) fun x hx => ?_
    have : ∃ cs : Row, x = .list (cs.map cd) ∧ cs.length = 5 ∧ cs.all cellOkB = true := by
      simp only [List.mem_cons, List.not_mem_nil, or_false] at hx
      rcases hx with rfl | rfl | rfl
      · exact ⟨[.inl 1, .inl 2, .inl 3, .inl 4, .inl 5], rfl, rfl, by decide +kernel⟩
      · exact ⟨[.inl 0, .inl 1, .inr "1", .inl 10, .inl 9], rfl, rfl, by decide +kernel⟩
      · exact ⟨[.inr "a", .inr "b", .inr "ab", .inl 3, .inr ""], rfl, rfl, by decide +kernel⟩
    obtain ⟨cs, rfl, l5, ok⟩ := this
    walk_at "pv"
    rw [cut_upto (by omega), List.length_map, ← List.map_take]
    refine h _ (by rw [List.length_take]; omega) (by rw [List.length_take]; omega) fun c hc => cells_of ok c (List.mem_of_mem_take hc)
  · rw [decide_eq_false c]
    walk_at "pv"
    refine ⟨by unfold small62; omega, by unfold rngD; rw [List.length_map, List.length_range]; omega, ?_⟩
    rw [rng_map]
    refine lc_any (fun (i : Nat) => PyData.int (i : Int)) (fun d => ∃ c, d = cd c ∧ cellOk c) trivial (List.range (2 + r).toNat) _ (fun i _ k1 q => ?_) fun out ho hl => ?_
    · walk_at "pv"
      refine f_value_of fun c ok => ?_
      walk_at "pv"
      exact q _ ⟨c, rfl, ok⟩
    · obtain ⟨cs, rfl, hc⟩ := data_map cd cellOk out ho
      rw [List.length_map, List.length_range] at hl
      walk_at "pv"
      exact h cs (by omega) (by omega) hc
theorem f_reserved {P : Av → Prop} (h : ∀ ws : List Str, P (.n (.list (ws.map .str)))) : F__law_reserved [] P := by
  unfold F__law_reserved defV B__law_reserved
  walk_at "pv"
  refine ⟨by decide +kernel, by decide +kernel, by decide +kernel, by decide +kernel, ?_⟩
  exact h _
/-- stem + str(k), k < 99, are 99 different texts -/
theorem toStr_inj {a b : Nat} (h : (Str.ofString (toString (a : Int))) = Str.ofString (toString (b : Int))) (ha : a < 1000000) (hb : b < 1000000) : a = b := by
  have e1 := lnum_lname (k := (a : Int)) (by omega) (by omega)
  have e2 := lnum_lname (k := (b : Int)) (by omega) (by omega)
  have : lname (a : Int) = lname (b : Int) := by unfold lname; rw [h]
  rw [this] at e1
  omega
theorem app_inj {s a b : Str} (h : s ++ a = s ++ b) : a = b := by
  have e : (s ++ a).cps.toList = (s ++ b).cps.toList := by rw [h]
  have e1 : ∀ x : Str, (s ++ x).cps.toList = s.cps.toList ++ x.cps.toList := fun x => by
    show (s.cps ++ x.cps).toList = _
    rw [Array.toList_append]
  rw [e1, e1] at e
  exact PySem.W.str_of_cps (List.append_cancel_left e)
theorem nodup_le {α : Type} [BEq α] [LawfulBEq α] : ∀ {xs ys : List α}, xs.Nodup → (∀ x, x ∈ xs → x ∈ ys) → xs.length ≤ ys.length
  | [], _, _, _ => Nat.zero_le _
  | x :: xs, ys, n, h => by
    have hx := h x List.mem_cons_self
    have n2 := List.nodup_cons.mp n
    have := nodup_le (xs := xs) (ys := ys.erase x) n2.2 fun z hz => by
      refine (List.mem_erase_of_ne ?_).mpr (h z (List.mem_cons_of_mem _ hz))
      rintro rfl
      exact n2.1 hz
    rw [List.length_erase_of_mem hx] at this
    have lp : 0 < ys.length := List.length_pos_of_mem hx
    rw [List.length_cons]; omega

/-! ### drawn names, shapes, terms, simple members -/
/-- a loop by what stands ahead of each turn -/
theorem for_inv {β : Type} {g : GF} {body : SV} {dead : List Nat} {D : EndsV} (f : β → PyData) (I : List β → En → Prop)
    (h : ∀ x xs ρ k, I (x :: xs) ρ → (∀ ρ', I xs ρ' → k ρ') → turnV g body dead D (f x) k ρ) : ∀ (xs : List β) (ρ : En), I xs ρ → (∀ ρ', I [] ρ' → D.nx ρ') → forV g body dead D (xs.map f) ρ
  | [], ρ, hi, q => q ρ hi
  | x :: xs, ρ, hi, q => h x xs ρ (fun ρ' => forV g body dead D (xs.map f) ρ') hi fun ρ' hi' => for_inv f I h xs ρ' hi' q
theorem f_name {ts : List Str} (ht : ts.length ≤ 50) {P : Av → Prop} (h : ∀ s, sOk s → s ∉ ts → P (.v (.str s))) : F__law_name [.tp, .v (.list (ts.map .str))] P := by
  unfold F__law_name defV B__law_name
  walk_at "pv"
  refine f_pick (.inl rfl) (by decide) (by decide) fun x hx => ?_
  have : ∃ s, x = .str s ∧ okS 7 s := by
    simp only [List.mem_cons, List.not_mem_nil, or_false] at hx
    rcases hx with rfl | rfl | rfl | rfl | rfl | rfl <;> exact ⟨_, rfl, okS_of (by decide +kernel) (by decide +kernel)⟩
  obtain ⟨s0, rfl, o0⟩ := this
  walk_at "pv"
  refine ⟨by decide, fun r r0 r1 => ?_⟩
  have sign : ∀ r : Int, 0 ≤ r → r < 37 → ∃ c, atI ("abcdefghijklmnopqrstuvwxyz0123456789_" : Str).cps.toList r = some c ∧ okS 1 (chS c) := fun r a b => at_sign (n := 37) ⟨by decide +kernel, by decide +kernel⟩ (by decide +kernel) a (by omega)
  have sl : ("abcdefghijklmnopqrstuvwxyz0123456789_" : Str).length ≤ 16777216 := by decide +kernel
  obtain ⟨c, e, oc⟩ := sign r r0 (by omega)
  walk_at "pv"
  have os := okS_app o0 oc
  refine ⟨sl, c, e, by have := o0.1; have := oc.1; omega, ?_⟩
  refine f_pick (.inl rfl) (by decide) (by decide) fun x hx => ?_
  have : ∃ n : Int, x = .int n ∧ 0 ≤ n ∧ n ≤ 4 := by
    simp only [List.mem_cons, List.not_mem_nil, or_false] at hx
    rcases hx with rfl | rfl | rfl | rfl | rfl <;> exact ⟨_, rfl, by decide, by decide⟩
  obtain ⟨n, rfl, n0, n1⟩ := this
  walk_at "pv"
  refine ⟨by unfold small62; omega, ?_⟩
  rw [rng_map n.toNat]
  generalize hst : s0 ++ chS c = stem at os ⊢
  refine for_inv (fun (i : Nat) => PyData.int (i : Int)) (fun is ρ => is.length ≤ 4 ∧ ∃ s, okS (12 - is.length) s ∧ ρ = [some .tp, some (.v (.list (ts.map .str))), some (.v (.str "abcdefghijklmnopqrstuvwxyz0123456789_")), some (.v (.str stem)), some (.v (.str s)), none]) ?_ (List.range n.toNat) _ ⟨by rw [List.length_range]; omega, stem, os.mono (by rw [List.length_range]; omega), rfl⟩ ?_
  · rintro i is ρ k ⟨hl, s, ok, rfl⟩ q
    walk_at "pv"
    refine ⟨by decide, fun r r0 r1 => ?_⟩
    obtain ⟨c, e, oc⟩ := sign r r0 (by omega)
    walk_at "pv"
    rw [List.length_cons] at hl ok
    refine ⟨sl, c, e, by have := ok.1; have := oc.1; omega, q _ ⟨by omega, _, (okS_app ok oc).mono (by omega), rfl⟩⟩
  rintro ρ ⟨_, s, ok, rfl⟩
  walk_at "pv"
  refine f_reserved fun ws => ?_
  walk_at "pv"
  refine ⟨.inl ⟨rfl, flat_strs ws⟩, ?_⟩
  have fin : ∀ D : EndsV, (∀ s, sOk s → s ∉ ts → D.nx [some .tp, some (.v (.list (ts.map .str))), some (.v (.str "abcdefghijklmnopqrstuvwxyz0123456789_")), some (.v (.str stem)), some (.v (.str s)), none]) → ∀ s : Str, okS 13 s → forV (fN 5) (sIf (asT (e2 opIn (eV 4) (eV 1))) (sSetF 4 (e2 opAdd (eV 3) (eB bStr (aC (eV 5) aN)))) sNext) [5] D (rngD 0 99) [some .tp, some (.v (.list (ts.map .str))), some (.v (.str "abcdefghijklmnopqrstuvwxyz0123456789_")), some (.v (.str stem)), some (.v (.str s)), none] := by
    intro D hD s ok
    rw [rng_map]
    refine for_inv (fun (i : Nat) => PyData.int (i : Int)) (fun is ρ => ∃ s done, sOk s ∧ done ++ is = List.range 99 ∧ (s ∈ ts → ∀ j, j ∈ done → stem ++ Str.ofString (toString ((j : Nat) : Int)) ∈ ts) ∧ ρ = [some .tp, some (.v (.list (ts.map .str))), some (.v (.str "abcdefghijklmnopqrstuvwxyz0123456789_")), some (.v (.str stem)), some (.v (.str s)), none]) ?_ (List.range 99) _ ⟨s, [], ok.mono (by decide), rfl, fun _ _ h => (nomatch h), rfl⟩ ?_
    · rintro i is ρ k ⟨s, done, ok, hd, hj, rfl⟩ q
      have hi : i < 99 := List.mem_range.mp (by rw [← hd]; exact List.mem_append_right _ List.mem_cons_self)
      walk_at "pv"
      refine ⟨.inl ⟨rfl, flat_strs ts⟩, ?_⟩
      rw [any_str]
      cases c : ts.any (· == s) with
      | true =>
        have hs : s ∈ ts := by
          obtain ⟨y, h1, h2⟩ := List.any_eq_true.mp c
          rw [← beq_iff_eq.mp h2]; exact h1
        walk_at "pv"
        have oi := okS_int (i : Int) (by omega)
        refine ⟨Nat.lt_of_lt_of_le (show (i : Int).natAbs < 2 ^ 7 by omega) (Nat.pow_le_pow_right (by decide) (by decide)), by have := os.1; have := oi.1; omega, q _ ⟨_, done ++ [i], (okS_app os oi).mono (by decide), by rw [List.append_assoc]; exact hd, fun hn j hj2 => ?_, rfl⟩⟩
        rcases List.mem_append.mp hj2 with hj2 | hj2
        · exact hj hs j hj2
        · rw [List.mem_singleton.mp hj2]; exact hn
      | false =>
        walk_at "pv"
        refine q _ ⟨s, done ++ [i], ok, by rw [List.append_assoc]; exact hd, fun hn => ?_, rfl⟩
        rw [List.any_eq_false] at c
        exact absurd (beq_iff_eq.mpr rfl) (c s hn)
    · rintro ρ ⟨s, done, ok, hd, hj, rfl⟩
      rw [List.append_nil] at hd
      subst hd
      refine hD s ok fun hn => ?_
      have nd : ((List.range 99).map fun (j : Nat) => stem ++ Str.ofString (toString (j : Int))).Nodup := by
        have key : ∀ l : List Nat, (∀ x, x ∈ l → x < 99) → l.Nodup → (l.map fun (j : Nat) => stem ++ Str.ofString (toString (j : Int))).Nodup := by
          intro l
          induction l with
          | nil => intro _ _; exact List.nodup_nil
          | cons x l ih =>
            intro hl nd
            rw [List.map_cons]
            have nd2 := List.nodup_cons.mp nd
            refine List.nodup_cons.mpr ⟨fun hx => ?_, ih (fun y hy => hl y (List.mem_cons_of_mem _ hy)) nd2.2⟩
            obtain ⟨y, hy, ey⟩ := List.mem_map.mp hx
            have l1 := hl x List.mem_cons_self
            have l2 := hl y (List.mem_cons_of_mem _ hy)
            have := toStr_inj (app_inj ey) (by omega) (by omega)
            subst this
            exact nd2.1 hy
        exact key _ (fun x hx => List.mem_range.mp hx) List.nodup_range
      have := nodup_le nd (ys := ts) fun x hx => by
        obtain ⟨j, hj2, rfl⟩ := List.mem_map.mp hx
        exact hj hn j hj2
      rw [List.length_map, List.length_range] at this
      omega
  cases c : (ws.map PyData.str).any fun z => PyData.eqv z (.str s) with
  | true =>
    walk_at "pv"
    have o1 := okS_of (n := 1) (x := "0") (by decide +kernel) (by decide +kernel)
    refine ⟨by have := ok.1; have := o1.1; simp only [List.length_nil] at *; omega, by unfold small62; decide, fin _ (fun s o n => ?_) _ ((okS_app ok o1).mono (by decide))⟩
    walk_at "pv"
    exact h s o n
  | false =>
    walk_at "pv"
    refine ⟨by unfold small62; decide, fin _ (fun s o n => ?_) _ (ok.mono (by decide))⟩
    walk_at "pv"
    exact h s o n

/-! ### drawn shapes, terms, members -/
theorem pick_strs {ks : List Str} {x : PyData} (h : x ∈ ks.map PyData.str) : ∃ s, x = .str s ∧ s ∈ ks := by
  obtain ⟨s, hs, rfl⟩ := List.mem_map.mp h
  exact ⟨s, rfl, hs⟩
theorem pick_int {ns : List Int} {x : PyData} (h : x ∈ ns.map PyData.int) : ∃ n, x = .int n ∧ n ∈ ns := by
  obtain ⟨s, hs, rfl⟩ := List.mem_map.mp h
  exact ⟨s, rfl, hs⟩
structure ShpOk (s : Shp) : Prop where
  name : sOk s.name
  lo : 1 ≤ s.cols
  hi : s.cols ≤ 4
  klo : 0 ≤ s.keys
  khi : s.keys ≤ s.cols
theorem f_shapes {n : Nat} {ks : List Str} (hn : n ≤ 50) (hk : 0 < ks.length) (hk2 : ks.length ≤ 100) {P : Av → Prop} (h : ∀ fs : List Shp, (fs.map (·.name)).Nodup → fs.length = n → (∀ s, s ∈ fs → ShpOk s ∧ s.kind ∈ ks) → P (.v (formsD fs))) : F__law_shapes [.tp, .v (.int n), .v (.list (ks.map .str))] P := by
  unfold F__law_shapes defV B__law_shapes
  walk_at "pv"
  refine ⟨by unfold small62; omega, ?_⟩
  rw [Int.toNat_natCast, rng_map]
  refine for_inv (fun (i : Nat) => PyData.int (i : Int)) (fun is ρ => ∃ ns : List Str, ns.Nodup ∧ (∀ s, s ∈ ns → sOk s) ∧ ns.length + is.length = n ∧ ρ = [some .tp, some (.v (.int n)), some (.v (.list (ks.map .str))), some (.w (.list (ns.map .str))), none, none, none, none, none, none]) ?_ (List.range n) _ ⟨[], List.nodup_nil, fun _ h => (nomatch h), by rw [List.length_range]; simp, rfl⟩ ?_
  · rintro i is ρ k ⟨ns, nd, ok, hl, rfl⟩ q
    rw [List.length_cons] at hl
    walk_at "pv"
    refine f_name (by omega) fun s os hs => ?_
    walk_at "pv"
    refine ⟨by unfold noL; rfl, by rw [List.length_map]; omega, q _ ⟨ns ++ [s], ?_, ?_, by rw [List.length_append, List.length_singleton]; omega, ?_⟩⟩
    · rw [List.nodup_append]
      exact ⟨nd, List.nodup_cons.mpr ⟨List.not_mem_nil, List.nodup_nil⟩, fun a ha b hb => by rw [List.mem_singleton.mp hb]; rintro rfl; exact hs ha⟩
    · intro x hx
      rcases List.mem_append.mp hx with hx | hx
      · exact ok x hx
      · rw [List.mem_singleton.mp hx]; exact os
    · rw [List.map_append]; rfl
  rintro ρ ⟨ns, nd, ok, hl, rfl⟩
  rw [List.length_nil, Nat.add_zero] at hl
  walk_at "pv"
  refine ⟨noL_strs ns, kok_strs ok, ?_⟩
  obtain ⟨ns', e', p'⟩ : ∃ ns' : List Str, (ns.map PyData.str).mergeSort (PySem.W.dataLe false id) = ns'.map PyData.str ∧ ns'.Perm ns := by
    obtain ⟨ys, p, e⟩ := perm_map_of PyData.str (List.mergeSort_perm (ns.map PyData.str) (PySem.W.dataLe false id))
    exact ⟨ys, e, p⟩
  rw [e']
  refine for_inv PyData.str (fun rs ρ => ∃ fs : List Shp, fs.map (·.name) ++ rs = ns' ∧ (∀ s, s ∈ fs → ShpOk s ∧ s.kind ∈ ks) ∧ ρ = [some .tp, some (.v (.int n)), some (.v (.list (ks.map .str))), some (.w (.list (ns.map .str))), none, some (.w (.list (fs.map shapeD))), none, none, none, none]) ?_ ns' _ ⟨[], rfl, fun _ h => (nomatch h), rfl⟩ ?_
  · rintro nm rs ρ k ⟨fs, hn2, hf, rfl⟩ q
    have lf : fs.length ≤ 50 := by
      have := congrArg List.length hn2
      rw [List.length_append, List.length_map, p'.length_eq] at this
      omega
    have onm : sOk nm := ok nm (p'.mem_iff.mp (by rw [← hn2]; exact List.mem_append_right _ List.mem_cons_self))
    have fin : ∀ (kd : Str) (c y : Int), kd ∈ ks → 1 ≤ c → c ≤ 4 → 0 ≤ y → y ≤ c → k [some .tp, some (.v (.int n)), some (.v (.list (ks.map .str))), some (.w (.list (ns.map .str))), none, some (.w (.list (fs.map shapeD ++ [.tuple [.str nm, .str kd, .int c, .int y]]))), none, none, none, none] := fun kd c y h1 h2 h3 h4 h5 => by
      refine q _ ⟨fs ++ [⟨nm, kd, c, y⟩], ?_, fun s hs => ?_, ?_⟩
      · rw [List.map_append, List.append_assoc]; exact hn2
      · rcases List.mem_append.mp hs with hs | hs
        · exact hf s hs
        · rw [List.mem_singleton.mp hs]; exact ⟨⟨onm, h2, h3, h4, h5⟩, h1⟩
      · rw [List.map_append]; rfl
    walk_at "pv"
    refine f_pick (.inl rfl) (by rw [List.length_map]; exact hk) (by rw [List.length_map]; omega) fun x hx => ?_
    obtain ⟨kd, rfl, hkd⟩ := pick_strs hx
    walk_at "pv"
    refine ⟨by decide, fun r r0 r1 => ?_⟩
    obtain ⟨x, hx, e⟩ := dix_mem (ds := [.int 1, .int 2, .int 2, .int 3, .int 2, .int 4]) r0 (by simp only [List.length_cons, List.length_nil]; omega)
    obtain ⟨c, rfl, hc⟩ := pick_int (ns := [1, 2, 2, 3, 2, 4]) hx
    have hc2 : 1 ≤ c ∧ c ≤ 4 := by
      simp only [List.mem_cons, List.not_mem_nil, or_false] at hc
      omega
    walk_at "pv"
    refine ⟨_, e, ?_⟩
    walk_at "pv"
    by_cases cb : kd = "block"
    · rw [decide_eq_true cb]
      walk_at "pv"
      refine ⟨by decide, fun r2 a b => ?_⟩
      walk_at "pv"
      refine ⟨by omega, fun r3 a3 b3 => ?_⟩
      walk_at "pv"
      exact ⟨by rw [List.length_map]; omega, fin kd c r3 hkd hc2.1 hc2.2 a3 (by omega)⟩
    · rw [decide_eq_false cb]
      walk_at "pv"
      exact ⟨by rw [List.length_map]; omega, fin kd c c hkd hc2.1 hc2.2 (by omega) (by omega)⟩
  · rintro ρ ⟨fs, hn2, hf, rfl⟩
    rw [List.append_nil] at hn2
    walk_at "pv"
    refine h fs (by rw [hn2]; exact p'.nodup_iff.mpr nd) ?_ hf
    have := congrArg List.length hn2
    rw [List.length_map, p'.length_eq] at this
    omega
theorem f_term_of {ls : List Str} {cs : Row} (hl : ∀ s, s ∈ ls → isLet s) (hz : ls.length ≤ 100000) (hc : ∀ c, c ∈ cs → cellOk c) (h0 : 0 < cs.length) (h1 : cs.length ≤ 100) {P : Av → Prop} (h : ∀ t : Term, tOk t → P (.v (termD t))) : F__law_term_of [.tp, .v (.list (ls.map .str)), .v (.list (cs.map cd))] P := by
  have fin : ∀ Q : Av → En → Prop, (∀ c, cellOk c → Q (.v (cd c)) [some .tp, some (.v (.list (ls.map .str))), some (.v (.list (cs.map cd)))]) → F__law_pick [.tp, .v (.list (cs.map cd))] fun z => Q z [some .tp, some (.v (.list (ls.map .str))), some (.v (.list (cs.map cd)))] := fun Q hQ => by
    refine f_pick (.inl rfl) (by rw [List.length_map]; exact h0) (by rw [List.length_map]; omega) fun x hx => ?_
    obtain ⟨c, hcc, rfl⟩ := List.mem_map.mp hx
    exact hQ c (hc c hcc)
  unfold F__law_term_of defV B__law_term_of
  walk_at "pv"
  rw [List.length_map]
  by_cases c : (ls.length : Int) = 0
  · rw [decide_eq_true c]
    walk_at "pv"
    refine f_pick (.inl rfl) (by rw [List.length_map]; exact h0) (by rw [List.length_map]; omega) fun x hx => ?_
    obtain ⟨c, hcc, rfl⟩ := List.mem_map.mp hx
    walk_at "pv"
    exact h (.c c) (hc c hcc)
  · rw [decide_eq_false c]
    walk_at "pv"
    refine ⟨by decide, fun r r0 r1 => ?_⟩
    walk_at "pv"
    by_cases c2 : r = 0
    · rw [decide_eq_true c2]
      walk_at "pv"
      refine f_pick (.inl rfl) (by rw [List.length_map]; exact h0) (by rw [List.length_map]; omega) fun x hx => ?_
      obtain ⟨c, hcc, rfl⟩ := List.mem_map.mp hx
      walk_at "pv"
      exact h (.c c) (hc c hcc)
    · rw [decide_eq_false c2]
      walk_at "pv"
      refine f_pick (.inl rfl) (by rw [List.length_map]; omega) (by rw [List.length_map]; omega) fun x hx => ?_
      obtain ⟨s, rfl, hs⟩ := pick_strs hx
      walk_at "pv"
      exact h (.l s) (hl s hs)
theorem isLet_n {k : Int} (h0 : 0 ≤ k) (h1 : k < 1000000) : isLet (lname k) := ⟨k, h0, h1, rfl⟩
theorem f_terms {n : Nat} {cs : Row} {met most new : Int} (hn : n ≤ 100) (hm : 0 ≤ met) (hm2 : met ≤ 10000) (hc : ∀ c, c ∈ cs → cellOk c) (h0 : 0 < cs.length) (h1 : cs.length ≤ 100) {P : Av → Prop} (h : ∀ ts : List Term, ts.length = n → (∀ t, t ∈ ts → tOk t) → P (.v (.tuple (ts.map termD)))) : F__law_terms [.tp, .v (.int n), .v (.list (cs.map cd)), .v (.int met), .v (.int most), .v (.int new)] P := by
  unfold F__law_terms defV B__law_terms
  walk_at "pv"
  refine ⟨by unfold small62; omega, ?_⟩
  rw [Int.toNat_natCast, rng_map]
  refine for_inv (fun (i : Nat) => PyData.int (i : Int)) (fun is ρ => ∃ (ts : List Term) (m : Int), (∀ t, t ∈ ts → tOk t) ∧ ts.length + is.length = n ∧ 0 ≤ m ∧ m ≤ met + ts.length ∧ ρ = [some .tp, some (.v (.int n)), some (.v (.list (cs.map cd))), some (.v (.int m)), some (.v (.int most)), some (.v (.int new)), some (.w (.list (ts.map termD))), none, none]) ?_ (List.range n) _ ⟨[], met, fun _ h => (nomatch h), by rw [List.length_range]; simp, hm, by simp, rfl⟩ ?_
  · rintro i is ρ k ⟨ts, m, ht, hl, m0, m1, rfl⟩ q
    rw [List.length_cons] at hl
    have fin : ∀ (t : Term) (m' : Int), tOk t → 0 ≤ m' → m' ≤ m + 1 → k [some .tp, some (.v (.int n)), some (.v (.list (cs.map cd))), some (.v (.int m')), some (.v (.int most)), some (.v (.int new)), some (.w (.list (ts.map termD ++ [termD t]))), none, none] := fun t m' ot a b => by
      refine q _ ⟨ts ++ [t], m', fun x hx => ?_, by rw [List.length_append, List.length_singleton]; omega, a, by rw [List.length_append, List.length_singleton]; omega, by rw [List.map_append]; rfl⟩
      rcases List.mem_append.mp hx with hx | hx
      · exact ht x hx
      · rw [List.mem_singleton.mp hx]; exact ot
    have lx : ∀ j : Int, 0 ≤ j → j < 1000000 → ("x" : Str).length + (Str.ofString (toString j)).length ≤ 16777216 := fun j a b => by
      have o1 := okS_int j (by omega)
      have o2 := okS_of (n := 1) (x := "x") (by decide +kernel) (by decide +kernel)
      have := o1.1
      have := o2.1
      omega
    have lp : ∀ j : Int, 0 ≤ j → j < 1000000 → j.natAbs < 2 ^ 1900 := fun j a b => Nat.lt_of_lt_of_le (show j.natAbs < 2 ^ 20 by omega) (Nat.pow_le_pow_right (by decide) (by decide))
    walk_at "pv"
    refine ⟨by decide, fun r r0 r1 => ?_⟩
    walk_at "pv"
    have pk : ∀ (C : Bool), C = true → F__law_pick [.tp, .v (.list (cs.map cd))] fun z => z.stoK fun d => (ts.map termD).length < 16777216 ∧ k [some .tp, some (.v (.int n)), some (.v (.list (cs.map cd))), some (.v (.int m)), some (.v (.int most)), some (.v (.int new)), some (.w (.list (ts.map termD ++ [.tuple [d]]))), none, none] := fun _ _ => by
      refine f_pick (.inl rfl) (by rw [List.length_map]; exact h0) (by rw [List.length_map]; omega) fun x hx => ?_
      obtain ⟨c, hcc, rfl⟩ := List.mem_map.mp hx
      walk_at "pv"
      exact ⟨by rw [List.length_map]; omega, fin (.c c) m (hc c hcc) m0 (by omega)⟩
    by_cases c1 : r = 0
    · rw [decide_eq_true c1]
      walk_at "pv"
      exact pk true rfl
    rw [decide_eq_false c1]
    walk_at "pv"
    by_cases c2 : most = 0
    · rw [decide_eq_true c2]
      walk_at "pv"
      exact pk true rfl
    rw [decide_eq_false c2]
    walk_at "pv"
    have new1 : m.natAbs < 2 ^ 1900 ∧ ("x" : Str).length + (Str.ofString (toString m)).length ≤ 16777216 ∧ (ts.map termD).length < 16777216 ∧ k [some .tp, some (.v (.int n)), some (.v (.list (cs.map cd))), some (.v (.int (m + 1))), some (.v (.int most)), some (.v (.int new)), some (.w (.list (ts.map termD ++ [.str ("x" ++ Str.ofString (toString m))]))), none, none] :=
      ⟨lp m m0 (by omega), lx m m0 (by omega), by rw [List.length_map]; omega, fin (.l (lname m)) (m + 1) (isLet_n m0 (by omega)) (by omega) (by omega)⟩
    have old1 : 0 < m → m.natAbs < 2 ^ 62 ∧ ∀ j : Int, 0 ≤ j → j < max m 1 → j.natAbs < 2 ^ 1900 ∧ ("x" : Str).length + (Str.ofString (toString j)).length ≤ 16777216 ∧ (ts.map termD).length < 16777216 ∧ k [some .tp, some (.v (.int n)), some (.v (.list (cs.map cd))), some (.v (.int m)), some (.v (.int most)), some (.v (.int new)), some (.w (.list (ts.map termD ++ [.str ("x" ++ Str.ofString (toString j))]))), none, none] := fun _ =>
      ⟨by omega, fun j a b => ⟨lp j a (by omega), lx j a (by omega), by rw [List.length_map]; omega, fin (.l (lname j)) m (isLet_n a (by omega)) m0 (by omega)⟩⟩
    by_cases c3 : m = 0
    · rw [decide_eq_true c3]
      walk_at "pv"
      exact new1
    rw [decide_eq_false c3]
    walk_at "pv"
    by_cases c4 : r ≤ new
    · rw [decide_eq_true c4]
      walk_at "pv"
      by_cases c5 : m < most
      · rw [decide_eq_true c5]
        walk_at "pv"
        exact new1
      · rw [decide_eq_false c5]
        walk_at "pv"
        obtain ⟨a, b⟩ := old1 (by omega)
        refine ⟨a, fun j j0 j1 => ?_⟩
        walk_at "pv"
        exact b j j0 j1
    · rw [decide_eq_false c4]
      walk_at "pv"
      obtain ⟨a, b⟩ := old1 (by omega)
      refine ⟨a, fun j j0 j1 => ?_⟩
      walk_at "pv"
      exact b j j0 j1
  · rintro ρ ⟨ts, m, ht, hl, m0, m1, rfl⟩
    walk_at "pv"
    exact h ts (by rw [List.length_nil] at hl; omega) ht

/-! ### drawn members; plans joined -/
theorem f_simple {fs : List Shp} {cs : Row} {n : Nat} {most : Int} (hl0 : 0 < fs.length) (hl : fs.length ≤ 5) (hf : ∀ s, s ∈ fs → ShpOk s) (hn : n ≤ 10) (hc : ∀ c, c ∈ cs → cellOk c) (h0 : 0 < cs.length) (h1 : cs.length ≤ 100) {P : Av → Prop}
    (h : ∀ m : Mem, mOk m → 0 < m.atoms.length → m.atoms.length ≤ 5 → (∀ a, a ∈ m.atoms → a.2.length ≤ 4) → (∀ t, t ∈ tabs m → t ∈ fs.map (·.name)) → m.head.length = n → P (.v (memD m))) : F__law_simple [.tp, .v (formsD fs), .v (.int most), .v (.list (cs.map cd)), .v (.int n)] P := by
  unfold F__law_simple defV B__law_simple formsD
  walk_at "pv"
  refine f_pick (.inl rfl) (by decide) (by decide) fun x hx => ?_
  obtain ⟨nw, rfl, _⟩ := pick_int (ns := [1, 2, 3, 6]) hx
  walk_at "pv"
  refine f_shuffled (.inr rfl) (by rw [List.length_map]; omega) fun es p => ?_
  obtain ⟨gs, pg, rfl⟩ := perm_map_of shapeD p
  walk_at "pv"
  rw [List.length_map]
  refine ⟨by omega, fun r r0 r1 => ?_⟩
  walk_at "pv"
  rw [cut_upto (by omega), List.length_map, ← List.map_take]
  have lg := pg.length_eq
  have lt : (gs.take (min (1 + r).toNat gs.length)).length = min (1 + r).toNat gs.length := by rw [List.length_take]; omega
  have lt0 : 0 < (gs.take (min (1 + r).toNat gs.length)).length := by omega
  have lt5 : (gs.take (min (1 + r).toNat gs.length)).length ≤ 5 := by omega
  have hg : ∀ s, s ∈ gs.take (min (1 + r).toNat gs.length) → s ∈ fs := fun s hs => pg.mem_iff.mp (List.mem_of_mem_take hs)
  generalize gs.take (min (1 + r).toNat gs.length) = hs at lt0 lt5 hg
  refine for_inv shapeD (fun rs ρ => (∀ s, s ∈ rs → s ∈ fs) ∧ ∃ as : List Atom, (∀ a, a ∈ as → aOk a ∧ a.2.length ≤ 4 ∧ a.1 ∈ fs.map (·.name)) ∧ as.length + rs.length = hs.length ∧ ρ = [some .tp, some (.v (.tuple (fs.map shapeD))), some (.v (.int most)), some (.v (.list (cs.map cd))), some (.v (.int n)), some (.w (.list (as.map atomD))), some (.v (.int nw)), none, none, none]) ?_ hs _ ⟨hg, [], fun _ h => (nomatch h), by simp, rfl⟩ ?_
  · rintro s rs ρ k ⟨hr, as, ha, hz, rfl⟩ q
    rw [List.length_cons] at hz
    have so := hf s (hr s List.mem_cons_self)
    have aso : asOk as := ⟨fun a h => (ha a h).1, by omega⟩
    unfold shapeD
    walk_at "pv"
    refine f_law_letters_in (.inl rfl) aso ?_
    walk_at "pv"
    refine ⟨noL_strs _, ?_⟩
    have ll := letters_len aso
    rw [List.length_map]
    have ec : s.cols = ((s.cols.toNat : Nat) : Int) := by have := so.lo; omega
    rw [ec]
    have l4 := so.hi
    refine f_terms (by omega) (by omega) (by omega) hc h0 h1 fun ts htl hto => ?_
    walk_at "pv"
    refine ⟨by rw [List.length_map]; omega, q _ ⟨fun x hx => hr x (List.mem_cons_of_mem _ hx), as ++ [(s.name, ts)], fun a h => ?_, by rw [List.length_append, List.length_singleton]; omega, by rw [List.map_append]; rfl⟩⟩
    rcases List.mem_append.mp h with h | h
    · exact ha a h
    · rw [List.mem_singleton.mp h]
      exact ⟨⟨so.name, hto, by rw [htl]; omega⟩, by show ts.length ≤ 4; rw [htl]; omega, List.mem_map.mpr ⟨s, hr s List.mem_cons_self, rfl⟩⟩
  · rintro ρ ⟨_, as, ha, hz, rfl⟩
    rw [List.length_nil, Nat.add_zero] at hz
    have aso : asOk as := ⟨fun a h => (ha a h).1, by omega⟩
    walk_at "pv"
    refine f_law_letters_in (.inl rfl) aso ?_
    walk_at "pv"
    have ll := letters_len aso
    refine ⟨noL_strs _, by unfold small62; omega, by unfold rngD; rw [List.length_map, List.length_range]; omega, ?_⟩
    rw [Int.toNat_natCast, rng_map]
    refine lc_any (fun (i : Nat) => PyData.int (i : Int)) (fun d => ∃ t, d = termD t ∧ tOk t) trivial (List.range n) _ (fun i _ k1 q => ?_) fun out ho hol => ?_
    · walk_at "pv"
      refine f_term_of (fun s hs => letters_ok aso hs) (by omega) hc h0 h1 fun t ot => ?_
      walk_at "pv"
      exact q _ ⟨t, rfl, ot⟩
    · obtain ⟨ts, rfl, ht⟩ := data_map termD tOk out ho
      rw [List.length_map, List.length_range] at hol
      walk_at "pv"
      refine h ⟨ts, as⟩ ⟨ht, by show ts.length ≤ 100; omega, aso⟩ (by show 0 < as.length; omega) (by show as.length ≤ 5; omega) (fun a h => (ha a h).2.1) (fun t htm => ?_) hol
      obtain ⟨a, h, rfl⟩ := List.mem_map.mp htm
      exact (ha a h).2.2
/-! plans and their depth -/
theorem depth_all : ∀ (ds : List PyData) (D : Nat), PyData.depthAll ds ≤ D ↔ ∀ d, d ∈ ds → d.depth ≤ D
  | [], D => by simp [PyData.depthAll]
  | d :: ds, D => by
    unfold PyData.depthAll
    rw [Nat.max_le, depth_all ds D]
    simp
theorem dep_tab (s : Str) : (planD (.tab s)).depth = 0 := by rw [planD_tab]; simp [PyData.depth]
theorem dep_join (ps : List Plan) (D : Nat) : (planD (.join ps)).depth ≤ D + 2 ↔ ∀ p, p ∈ ps → (planD p).depth ≤ D := by
  rw [planD_join]
  simp only [PyData.depth, PyData.depthAll, Nat.max_zero, Nat.zero_max]
  have := depth_all (ps.map planD) D
  constructor
  · intro h p hp
    exact (this.mp (by omega)) _ (List.mem_map.mpr ⟨p, hp, rfl⟩)
  · intro h
    have := this.mpr fun d hd => by
      obtain ⟨p, hp, rfl⟩ := List.mem_map.mp hd
      exact h p hp
    omega
theorem dep_proj (k x : Str) (p : Plan) : (planD (.proj k x p)).depth = (planD p).depth + 1 := by
  rw [planD_proj]
  simp only [PyData.depth, PyData.depthAll, Nat.max_zero, Nat.zero_max]
mutual
/-- no join of nothing -/
def jne : Plan → Bool
  | .tab _ => true
  | .join ps => !ps.isEmpty && jneL ps
  | .proj _ _ p => jne p
def jneL : List Plan → Bool
  | [] => true
  | p :: ps => jne p && jneL ps
end
theorem jneL_iff {ps : List Plan} : jneL ps = true ↔ ∀ p, p ∈ ps → jne p = true := by
  induction ps with
  | nil => unfold jneL; simp
  | cons p ps ih =>
    unfold jneL
    rw [Bool.and_eq_true, ih]
    simp
structure PB (D : Nat) (p : Plan) : Prop where
  ok : ∃ n, pOk n p
  dep : (planD p).depth ≤ D
  ne : jne p = true
theorem PB.up {D E : Nat} {p : Plan} (h : PB D p) (l : D ≤ E) : PB E p := ⟨h.ok, Nat.le_trans h.dep l, h.ne⟩
theorem pOk_all {ps : List Plan} (h : ∀ p, p ∈ ps → ∃ n, pOk n p) : ∃ n, ∀ p, p ∈ ps → pOk n p := by
  induction ps with
  | nil => exact ⟨0, fun _ h => nomatch h⟩
  | cons p ps ih =>
    obtain ⟨n, hn⟩ := h p List.mem_cons_self
    obtain ⟨m, hm⟩ := ih fun q hq => h q (List.mem_cons_of_mem _ hq)
    refine ⟨max n m, fun q hq => ?_⟩
    rcases List.mem_cons.mp hq with rfl | hq
    · exact pOk_le hn (Nat.le_max_left _ _)
    · exact pOk_le (hm q hq) (Nat.le_max_right _ _)
theorem PB.join {D : Nat} {ps : List Plan} (h0 : 0 < ps.length) (h : ∀ p, p ∈ ps → PB D p) : PB (D + 2) (.join ps) := by
  obtain ⟨n, hn⟩ := pOk_all fun p hp => (h p hp).ok
  refine ⟨⟨n + 1, by unfold pOk; exact pOkL_iff.mpr hn⟩, (dep_join ps D).mpr fun p hp => (h p hp).dep, ?_⟩
  unfold jne
  rw [Bool.and_eq_true]
  refine ⟨?_, jneL_iff.mpr fun p hp => (h p hp).ne⟩
  cases ps with
  | nil => cases h0
  | cons _ _ => rfl
theorem PB.proj {D : Nat} {k x : Str} {p : Plan} (hk : k = "independent" ∨ k = "exclusive") (hx : sOk x) (h : PB D p) : PB (D + 1) (.proj k x p) := by
  obtain ⟨n, hn⟩ := h.ok
  exact ⟨⟨n + 1, by unfold pOk; exact ⟨hk, hx, hn⟩⟩, by rw [dep_proj]; have := h.dep; omega, by unfold jne; exact h.ne⟩
theorem pOk_dep : ∀ (n k : Nat) (p : Plan), pOk n p → (planD p).depth < k → pOk k p
  | 0, _, p, h, _ => by cases p <;> exact absurd h (by unfold pOk; exact id)
  | n + 1, 0, p, _, l => by omega
  | n + 1, k + 1, .tab s, h, _ => by unfold pOk at h ⊢; exact h
  | n + 1, k + 1, .join ps, h, l => by
    have hp := pOk_join h
    unfold pOk
    refine pOkL_iff.mpr fun q hq => ?_
    cases k with
    | zero =>
      have := (planD (.join ps)).depth
      have e : (planD (.join ps)).depth = PyData.depthAll (ps.map planD) + 1 + 1 := by
        rw [planD_join]; simp only [PyData.depth, PyData.depthAll, Nat.max_zero, Nat.zero_max]
      omega
    | succ k =>
      refine pOk_up (pOk_dep n k q (hp q hq) ?_)
      cases k with
      | zero =>
        have e : (planD (.join ps)).depth = PyData.depthAll (ps.map planD) + 1 + 1 := by
          rw [planD_join]; simp only [PyData.depth, PyData.depthAll, Nat.max_zero, Nat.zero_max]
        omega
      | succ k =>
        have := (dep_join ps k).mp (by omega) q hq
        omega
  | n + 1, k + 1, .proj kd x p, h, l => by
    have hp := pOk_proj h
    rw [dep_proj] at l
    unfold pOk
    exact ⟨hp.1, hp.2.1, pOk_dep n k p hp.2.2 (by omega)⟩
theorem PB.at130 {D : Nat} {p : Plan} (h : PB D p) (l : D < 130) : pOk 130 p := by
  obtain ⟨n, hn⟩ := h.ok
  exact pOk_dep n 130 p hn (Nat.lt_of_le_of_lt h.dep l)
theorem psizeL_perm {ps qs : List Plan} (h : ps.Perm qs) : psizeL ps = psizeL qs := by
  induction h with
  | nil => rfl
  | cons x _ ih => rw [psizeL_cons, psizeL_cons, ih]
  | swap x y l => rw [psizeL_cons, psizeL_cons, psizeL_cons, psizeL_cons]; omega
  | trans _ _ h1 h2 => rw [h1, h2]
theorem psizeL_append (ps qs : List Plan) : psizeL (ps ++ qs) = psizeL ps + psizeL qs := by
  induction ps with
  | nil => rw [List.nil_append]; unfold psizeL; cases qs <;> simp [psizeL]
  | cons p ps ih => rw [List.cons_append, psizeL_cons, psizeL_cons, ih]; omega
theorem mem_namesL {t : Str} {ps : List Plan} : t ∈ namesL ps ↔ ∃ p, p ∈ ps ∧ t ∈ names p := by
  induction ps with
  | nil => rw [namesL_nil]; simp
  | cons p ps ih => rw [namesL_cons, List.mem_append, ih]; simp
def je (n : Nat) : Nat := if n = 1 then 0 else if n ≤ 2 then 2 else 4
theorem f_joined {ps : List Plan} {D : Nat} (hl0 : 0 < ps.length) (hl : ps.length ≤ 1000) (hp : ∀ p, p ∈ ps → PB D p) {P : Av → Prop} (h : ∀ q, PB (D + je ps.length) q → psize q ≤ psizeL ps + 2 → (∀ t, t ∈ namesL ps → t ∈ names q) → P (.v (planD q))) : F__law_joined [.tp, .v (.list (ps.map planD))] P := by
  unfold F__law_joined defV B__law_joined
  walk_at "pv"
  refine f_shuffled (.inl rfl) (by rw [List.length_map]; omega) fun es p => ?_
  obtain ⟨qs, pq, rfl⟩ := perm_map_of planD p
  have lq := pq.length_eq
  have sq := psizeL_perm pq
  have hq : ∀ q, q ∈ qs → PB D q := fun q hq => hp q (pq.mem_iff.mp hq)
  have nm : ∀ t, t ∈ namesL ps → t ∈ namesL qs := fun t ht => by
    obtain ⟨p, h1, h2⟩ := mem_namesL.mp ht
    exact mem_namesL.mpr ⟨p, pq.mem_iff.mpr h1, h2⟩
  walk_at "pv"
  rw [List.length_map]
  have fin : ps.length ≠ 1 → P (.v (.tuple [.str "join", .tuple (qs.map planD)])) := fun n1 => by
    have := h (.join qs) ((PB.join (by omega) hq).up (by unfold je; rw [if_neg n1]; split <;> omega)) (by rw [psize_join, sq]; omega) fun t ht => by rw [names_join]; exact nm t ht
    rw [planD_join] at this
    exact this
  by_cases c1 : (qs.length : Int) = 1
  · rw [decide_eq_true c1]
    walk_at "pv"
    obtain ⟨q, rfl⟩ : ∃ q, qs = [q] := List.length_eq_one_iff.mp (by omega)
    walk_at "pv"
    refine h q ((hq q List.mem_cons_self).up (by omega)) ?_ fun t ht => ?_
    · rw [← sq, psizeL_cons]; omega
    · have := nm t ht
      rw [namesL_cons, namesL_nil, List.append_nil] at this
      exact this
  rw [decide_eq_false c1]
  walk_at "pv"
  by_cases c2 : (2 : Int) < qs.length
  · rw [decide_eq_true c2]
    walk_at "pv"
    refine ⟨by decide, fun r r0 r1 => ?_⟩
    walk_at "pv"
    by_cases c3 : r = 0
    · rw [decide_eq_true c3]
      walk_at "pv"
      refine ⟨by omega, fun r2 a b => ?_⟩
      walk_at "pv"
      rw [cut_upto (by omega), List.length_map, ← List.map_take]
      have ed : cutD (qs.map planD) (some (2 + r2)) none = (qs.drop (min (2 + r2).toNat qs.length)).map planD := by
        have e : HT.sIx (qs.map planD).length 0 (some (2 + r2)) = min (2 + r2).toNat qs.length := by
          unfold HT.sIx
          rw [List.length_map]
          exact if_neg (by omega)
        unfold cutD
        rw [e, HT.sIx_none, ← List.map_drop, List.take_of_length_le (by rw [List.length_map, List.length_drop, List.length_map]; omega)]
      rw [ed]
      have k0 : 0 < min (2 + r2).toNat qs.length := by omega
      generalize min (2 + r2).toNat qs.length = k at k0
      have n1 : ps.length ≠ 1 := by omega
      have := h (.join (.join (qs.take k) :: qs.drop k)) ?_ ?_ ?_
      · rw [planD_join, List.map_cons, planD_join] at this
        exact ⟨by rw [List.length_map, List.length_drop]; omega, this⟩
      · refine (PB.join (D := D + 2) (by rw [List.length_cons]; omega) fun p hp2 => ?_).up (by unfold je; rw [if_neg n1, if_neg (by omega)]; omega)
        rcases List.mem_cons.mp hp2 with rfl | hp2
        · exact PB.join (by rw [List.length_take]; omega) fun p hp3 => hq p (List.mem_of_mem_take hp3)
        · exact (hq p (List.mem_of_mem_drop hp2)).up (by omega)
      · have e := psizeL_append (qs.take k) (qs.drop k)
        rw [List.take_append_drop] at e
        rw [psize_join, psizeL_cons, psize_join]
        omega
      · intro t ht
        have := nm t ht
        rw [names_join, namesL_cons, names_join, ← namesL_append, List.take_append_drop]
        exact this
    · rw [decide_eq_false c3]
      walk_at "pv"
      exact fin (by omega)
  · rw [decide_eq_false c2]
    walk_at "pv"
    exact fin (by omega)

/-! ### drawn plans -/
theorem f_atoms_below {m : Mem} {p : Plan} (ho : mOk m) (hp : pOk 130 p) (hz : psize p ≤ 2000) {P : Av → Prop} (h : P (.n (.list ((below m p).map atomD)))) : F__law_atoms_below [.v (memD m), .v (planD p)] P := by
  have ha := ho.2.2.2
  have em : memD m = .tuple [.str "select", .tuple (m.head.map termD), .tuple (m.atoms.map atomD), .tuple []] := rfl
  unfold F__law_atoms_below defV B__law_atoms_below
  rw [em]
  walk_at "pv"
  refine f_law_plan_names 130 p hp hz _ ?_
  walk_at "pv"
  refine ⟨by rw [List.length_map]; omega, ?_⟩
  refine lc_map atomD (fun a => (names p).any (· == a.1)) atomD trivial m.atoms _ (fun a _ k1 k2 q1 q2 => ?_) ?_
  · unfold atomD at q1 ⊢
    walk_at "pv"
    refine ⟨.inl ⟨rfl, flat_strs _⟩, ?_⟩
    rw [any_str]
    cases c : (names p).any (· == a.1) with
    | true =>
      walk_at "pv"
      exact q1 c
    | false =>
      walk_at "pv"
      exact q2 c
  · walk_at "pv"
    exact h
mutual
/-- equal data, equal tables -/
theorem eqv_names : ∀ (p q : Plan) (n m : Nat), pOk n p → pOk m q → PyData.eqv (planD p) (planD q) = true → names p = names q
  | p, q, 0, _, h, _, _ => by cases p <;> exact absurd h (by unfold pOk; exact id)
  | p, q, _ + 1, 0, _, h, _ => by cases q <;> exact absurd h (by unfold pOk; exact id)
  | .tab s, .tab t, n + 1, m + 1, _, _, e => by
    rw [planD_tab, planD_tab] at e
    simp only [PyData.eqv, beq_iff_eq] at e
    rw [e]
  | .tab s, .join ps, n + 1, m + 1, _, _, e => by
    rw [planD_tab, planD_join] at e
    simp [PyData.eqv] at e
  | .tab s, .proj k x p, n + 1, m + 1, _, _, e => by
    rw [planD_tab, planD_proj] at e
    simp [PyData.eqv] at e
  | .join ps, .tab s, n + 1, m + 1, _, _, e => by
    rw [planD_tab, planD_join] at e
    simp [PyData.eqv] at e
  | .proj k x p, .tab s, n + 1, m + 1, _, _, e => by
    rw [planD_tab, planD_proj] at e
    simp [PyData.eqv] at e
  | .join ps, .proj k x p, n + 1, m + 1, _, hq, e => by
    rw [planD_join, planD_proj] at e
    simp only [PyData.eqv, PyData.eqvAll, Bool.and_eq_true, beq_iff_eq] at e
    exact absurd e.1.symm (not_join hq)
  | .proj k x p, .join ps, n + 1, m + 1, hp, _, e => by
    rw [planD_join, planD_proj] at e
    simp only [PyData.eqv, PyData.eqvAll, Bool.and_eq_true, beq_iff_eq] at e
    exact absurd e.1 (not_join hp)
  | .proj k x p, .proj k' x' p', n + 1, m + 1, hp, hq, e => by
    rw [planD_proj, planD_proj] at e
    simp only [PyData.eqv, PyData.eqvAll, Bool.and_eq_true, beq_iff_eq] at e
    rw [names_proj, names_proj]
    exact eqv_names p p' n m (pOk_proj hp).2.2 (pOk_proj hq).2.2 e.2.2.1
  | .join ps, .join qs, n + 1, m + 1, hp, hq, e => by
    rw [planD_join, planD_join] at e
    simp only [PyData.eqv, PyData.eqvAll, Bool.and_eq_true] at e
    rw [names_join, names_join]
    exact eqv_namesL ps qs n m (pOk_join hp) (pOk_join hq) e.2.1
theorem eqv_namesL : ∀ (ps qs : List Plan) (n m : Nat), (∀ p, p ∈ ps → pOk n p) → (∀ q, q ∈ qs → pOk m q) → PyData.eqvAll (ps.map planD) (qs.map planD) = true → namesL ps = namesL qs
  | [], [], _, _, _, _, _ => rfl
  | [], _ :: _, _, _, _, _, e => by simp [PyData.eqvAll] at e
  | _ :: _, [], _, _, _, _, e => by simp [PyData.eqvAll] at e
  | p :: ps, q :: qs, n, m, hp, hq, e => by
    simp only [List.map_cons, PyData.eqvAll, Bool.and_eq_true] at e
    rw [namesL_cons, namesL_cons, eqv_names p q n m (hp p List.mem_cons_self) (hq q List.mem_cons_self) e.1, eqv_namesL ps qs n m (fun x hx => hp x (List.mem_cons_of_mem _ hx)) (fun x hx => hq x (List.mem_cons_of_mem _ hx)) e.2]
end
mutual
theorem lay_plan : ∀ (n : Nat) (p : Plan), pOk n p → (planD p).canLay0 = true
  | 0, p, h => by cases p <;> exact absurd h (by unfold pOk; exact id)
  | n + 1, .tab s, h => by
    unfold pOk at h
    rw [planD_tab]
    simp only [PyData.canLay0]
    exact okS.strOk (n := 2000) h
  | n + 1, .proj k x p, h => by
    have hp := pOk_proj h
    have e := lay_plan n p hp.2.2
    rw [planD_proj]
    have ok : PyData.strOk k = true := by
      rcases hp.1 with rfl | rfl <;> decide +kernel
    simp only [PyData.canLay0, PyData.canLayAll0, e, ok, okS.strOk (n := 2000) hp.2.1, Bool.and_self]
  | n + 1, .join ps, h => by
    have e := lay_plans n ps (pOk_join h)
    rw [planD_join]
    have ok : PyData.strOk "join" = true := by decide +kernel
    simp only [PyData.canLay0, PyData.canLayAll0, e, ok, Bool.and_self]
theorem lay_plans : ∀ (n : Nat) (ps : List Plan), (∀ p, p ∈ ps → pOk n p) → PyData.canLayAll0 (ps.map planD) = true
  | _, [], _ => by simp [PyData.canLayAll0]
  | n, p :: ps, h => by
    simp only [List.map_cons, PyData.canLayAll0, Bool.and_eq_true]
    exact ⟨lay_plan n p (h p List.mem_cons_self), lay_plans n ps fun q hq => h q (List.mem_cons_of_mem _ hq)⟩
end
theorem shp_plan {D : Nat} {p : Plan} (h : PB D p) (l : D ≤ 60) : SeqAt.shaped (planD p) = true := by
  obtain ⟨n, hn⟩ := h.ok
  unfold SeqAt.shaped
  rw [Bool.and_eq_true]
  exact ⟨lay_plan n p hn, decide_eq_true (by have := h.dep; omega)⟩
theorem shp_plans {D : Nat} {ps : List Plan} (h : ∀ p, p ∈ ps → PB D p) (l : D ≤ 60) : SeqAt.shaped (.list (ps.map planD)) = true := by
  obtain ⟨n, hn⟩ := pOk_all fun p hp => (h p hp).ok
  unfold SeqAt.shaped
  rw [Bool.and_eq_true]
  refine ⟨by simp only [PyData.canLay0]; exact lay_plans n ps hn, decide_eq_true ?_⟩
  simp only [PyData.depth]
  have := (depth_all (ps.map planD) D).mpr fun d hd => by
    obtain ⟨p, hp, rfl⟩ := List.mem_map.mp hd
    exact (h p hp).dep
  omega
theorem filter2 {α : Type} (f g : α → Bool) (xs : List α) (h : ∀ x, x ∈ xs → f x = true → g x = false) : (xs.filter f).length + (xs.filter g).length ≤ xs.length := by
  induction xs with
  | nil => exact Nat.le_refl _
  | cons x xs ih =>
    have i := ih fun y hy => h y (List.mem_cons_of_mem _ hy)
    cases e : f x with
    | true =>
      rw [List.filter_cons_of_pos e, List.filter_cons_of_neg (by rw [h x List.mem_cons_self e]; decide), List.length_cons, List.length_cons]
      omega
    | false =>
      rw [List.filter_cons_of_neg (by rw [e]; decide)]
      cases e2 : g x with
      | true => rw [List.filter_cons_of_pos e2, List.length_cons, List.length_cons]; omega
      | false => rw [List.filter_cons_of_neg (by rw [e2]; decide), List.length_cons]; omega
theorem psizeL_filter2 (f g : Plan → Bool) (xs : List Plan) (h : ∀ x, x ∈ xs → f x = true → g x = false) : psizeL (xs.filter f) + psizeL (xs.filter g) ≤ psizeL xs := by
  induction xs with
  | nil => exact Nat.le_of_eq (by rw [List.filter_nil, List.filter_nil]; unfold psizeL; rfl)
  | cons x xs ih =>
    have i := ih fun y hy => h y (List.mem_cons_of_mem _ hy)
    rw [psizeL_cons]
    cases e : f x with
    | true =>
      rw [List.filter_cons_of_pos e, List.filter_cons_of_neg (by rw [h x List.mem_cons_self e]; decide), psizeL_cons]
      omega
    | false =>
      rw [List.filter_cons_of_neg (by rw [e]; decide)]
      cases e2 : g x with
      | true => rw [List.filter_cons_of_pos e2, psizeL_cons]; omega
      | false => rw [List.filter_cons_of_neg (by rw [e2]; decide)]; omega
/-- a letter stands below a part -/
def under (m : Mem) (l : Str) (p : Plan) : Bool := (letters (below m p)).any (· == l)
def inP (ms : List Plan) (p : Plan) : Bool := (ms.map planD).any fun z => PyData.eqv z (planD p)
/-- what the parts are, n letters done -/
structure PI5 (m : Mem) (n : Nat) (ps : List Plan) : Prop where
  pb : ∀ p, p ∈ ps → ∃ D, PB D p ∧ D + 2 * ps.length ≤ n + 2 * m.atoms.length
  sz : psizeL ps ≤ m.atoms.length + 3 * n
  len : ps.length ≤ m.atoms.length
  cov : ∀ a, a ∈ m.atoms → a.1 ∈ namesL ps
/-- one letter more: mine is joined -/
theorem step5 {m : Mem} {n : Nat} {ps ms rs : List Plan} {q : Plan} {k x : Str} (I : PI5 m n ps) (hms : 0 < ms.length) (hc : ms.length + rs.length ≤ ps.length) (hs : psizeL ms + psizeL rs ≤ psizeL ps) (hm : ∀ p, p ∈ ms → p ∈ ps) (hr : ∀ p, p ∈ rs → p ∈ ps)
    (cov : ∀ t, t ∈ namesL ps → t ∈ namesL ms ∨ t ∈ namesL rs) (hk : k = "independent" ∨ k = "exclusive") (hx : sOk x) {D : Nat} (hD : D + 2 * ps.length = n + 2 * m.atoms.length) (hq : PB (D + je ms.length) q) (hz : psize q ≤ psizeL ms + 2) (hn : ∀ t, t ∈ namesL ms → t ∈ names q) : PI5 m (n + 1) (rs ++ [.proj k x q]) := by
  refine ⟨fun p hp => ?_, ?_, ?_, fun a ha => ?_⟩
  · rw [List.length_append, List.length_singleton]
    rcases List.mem_append.mp hp with hp | hp
    · obtain ⟨D2, h1, h2⟩ := I.pb p (hr p hp)
      exact ⟨D2, h1, by omega⟩
    · rw [List.mem_singleton.mp hp]
      refine ⟨_, hq.proj hk hx, ?_⟩
      unfold je
      split
      · omega
      · split <;> omega
  · rw [psizeL_append, psizeL_cons, psize_proj]
    have e : psizeL [] = 0 := by unfold psizeL; rfl
    rw [e]
    have := I.sz
    omega
  · rw [List.length_append, List.length_singleton]
    have := I.len
    omega
  · rw [namesL_append]
    rcases cov _ (I.cov a ha) with h | h
    · refine List.mem_append_right _ ?_
      rw [namesL_cons, namesL_nil, List.append_nil, names_proj]
      exact hn _ h
    · exact List.mem_append_left _ h

/-! ### the plan that is drawn -/
theorem fold_any (k : Str) : ∀ (xs σ : List Str), (xs.foldl metS σ).any (· == k) = (σ.any (· == k) || xs.any (· == k))
  | [], σ => by simp
  | x :: xs, σ => by
    rw [List.foldl_cons, fold_any k xs, metS_any, List.any_cons, Bool.or_assoc]
    have : decide (k = x) = (x == k) := by
      by_cases e : x = k
      · rw [beq_iff_eq.mpr e, decide_eq_true e.symm]
      · rw [beq_eq_false_iff_ne.mpr e, decide_eq_false fun h => e h.symm]
    rw [this]
theorem je_le (n : Nat) : je n ≤ 4 := by
  unfold je
  split
  · omega
  · split <;> omega
theorem lets_of {s : Str} : ∀ {ts : List Term}, .l s ∈ ts → s ∈ lets ts
  | .l r :: ts, h => by
    rcases List.mem_cons.mp h with h | h
    · cases h; exact List.mem_cons_self
    · exact List.mem_cons_of_mem _ (lets_of h)
  | .c _ :: ts, h => by
    rcases List.mem_cons.mp h with h | h
    · cases h
    · exact lets_of (ts := ts) h
theorem allLets_of {s : Str} {a : Atom} : ∀ {as : List Atom}, a ∈ as → .l s ∈ a.2 → s ∈ allLets as
  | b :: as, h, ht => by
    show s ∈ lets b.2 ++ allLets as
    rcases List.mem_cons.mp h with rfl | h
    · exact List.mem_append_left _ (lets_of ht)
    · exact List.mem_append_right _ (allLets_of h ht)
theorem letters_any {as : List Atom} {s : Str} : (letters as).any (· == s) = (allLets as).any (· == s) := by
  unfold letters ddS
  rw [fold_any]
  simp
theorem any_iff {xs : List Str} {s : Str} : xs.any (· == s) = true ↔ s ∈ xs := by
  rw [List.any_eq_true]
  exact ⟨fun ⟨y, h1, h2⟩ => beq_iff_eq.mp h2 ▸ h1, fun h => ⟨s, h, beq_iff_eq.mpr rfl⟩⟩
theorem under_of {m : Mem} {n : Nat} {ps : List Plan} {l : Str} (I : PI5 m n ps) (h : l ∈ bound m) : ∃ p, p ∈ ps ∧ under m l p = true := by
  have h1 : l ∈ allLets m.atoms := by
    have := (List.mem_filter.mp h).1
    exact any_iff.mp (letters_any ▸ any_iff.mpr this)
  obtain ⟨a, ha, hl⟩ := allLets_mem h1
  obtain ⟨p, hp, hn⟩ := mem_namesL.mp (I.cov a ha)
  refine ⟨p, hp, ?_⟩
  unfold under
  rw [letters_any]
  refine any_iff.mpr (allLets_of (a := a) (List.mem_filter.mpr ⟨ha, any_iff.mpr hn⟩) hl)
theorem inP_self {D : Nat} {ms : List Plan} {p : Plan} (hp : PB D p) (h : p ∈ ms) : inP ms p = true := by
  unfold inP
  rw [List.any_eq_true]
  obtain ⟨n, hn⟩ := hp.ok
  exact ⟨planD p, List.mem_map.mpr ⟨p, h, rfl⟩, SeqAt.eqv_refl (planD p) (lay_plan n p hn)⟩
theorem cov5 {m : Mem} {n : Nat} {ps : List Plan} (I : PI5 m n ps) (l : Str) : ∀ t, t ∈ namesL ps → t ∈ namesL (ps.filter (under m l)) ∨ t ∈ namesL (ps.filter fun p => !inP (ps.filter (under m l)) p) := by
  intro t ht
  obtain ⟨p, hp, hn⟩ := mem_namesL.mp ht
  cases c : inP (ps.filter (under m l)) p with
  | false => exact .inr (mem_namesL.mpr ⟨p, List.mem_filter.mpr ⟨hp, by rw [c]; rfl⟩, hn⟩)
  | true =>
    unfold inP at c
    obtain ⟨d, hd, e⟩ := List.any_eq_true.mp c
    obtain ⟨z, hz, rfl⟩ := List.mem_map.mp hd
    obtain ⟨D1, b1, _⟩ := I.pb z (List.mem_filter.mp hz).1
    obtain ⟨D2, b2, _⟩ := I.pb p hp
    obtain ⟨n1, o1⟩ := b1.ok
    obtain ⟨n2, o2⟩ := b2.ok
    rw [← eqv_names z p n1 n2 o1 o2 e] at hn
    exact .inl (mem_namesL.mpr ⟨z, hz, hn⟩)
theorem allLets_le4 {as : List Atom} (h : ∀ a, a ∈ as → a.2.length ≤ 4) : (allLets as).length ≤ 4 * as.length := by
  induction as with
  | nil => exact Nat.le_refl _
  | cons a as ih =>
    have h1 := lets_len a.2
    have h2 := h a List.mem_cons_self
    have h3 := ih fun b hb => h b (List.mem_cons_of_mem _ hb)
    show (lets a.2 ++ allLets as).length ≤ _
    rw [List.length_append, List.length_cons]
    omega
theorem map_erase (ps : List Plan) (j : Nat) : (ps.map planD).eraseIdx j = (ps.eraseIdx j).map planD := by
  induction ps generalizing j with
  | nil => rfl
  | cons p ps ih =>
    cases j with
    | zero => rfl
    | succ j => exact congrArg _ (ih j)
theorem f_plan {m : Mem} (ho : mOk m) (h0 : 0 < m.atoms.length) (h5 : m.atoms.length ≤ 5) (h4 : ∀ a, a ∈ m.atoms → a.2.length ≤ 4) {P : Av → Prop} (h : ∀ q, PB 40 q → psize q ≤ 100 → P (.v (planD q))) : F__law_plan [.tp, .v (memD m)] P := by
  have ha := ho.2.2.2
  have em : memD m = .tuple [.str "select", .tuple (m.head.map termD), .tuple (m.atoms.map atomD), .tuple []] := rfl
  have lb : (bound m).length ≤ 20 := by
    have e1 := List.length_filter_le (fun s => !inTs m.head s) (letters m.atoms)
    have e2 := ddS_le (allLets m.atoms)
    have e3 := allLets_le4 h4
    unfold bound letters at *
    omega
  unfold F__law_plan defV B__law_plan
  rw [em]
  walk_at "pv"
  refine ⟨by rw [List.length_map]; omega, ?_⟩
  refine lc_all atomD (fun a => planD (.tab a.1)) trivial m.atoms _ (fun a _ k1 q => ?_) ?_
  · rw [planD_tab] at q
    unfold atomD
    walk_at "pv"
    exact q
  rw [show m.atoms.map (fun a => planD (.tab a.1)) = (m.atoms.map fun a => Plan.tab a.1).map planD from by rw [List.map_map]; rfl]
  walk_at "pv"
  rw [← em]
  refine f_law_bound ho ?_
  walk_at "pv"
  refine f_shuffled (.inl rfl) (by rw [List.length_map]; omega) fun es p => ?_
  obtain ⟨ls, pl, rfl⟩ := perm_map_of PyData.str p
  have ll := pl.length_eq
  walk_at "pv"
  have I0 : PI5 m 0 (m.atoms.map fun a => Plan.tab a.1) := by
    refine ⟨fun p hp => ?_, ?_, by rw [List.length_map]; exact Nat.le_refl _, fun a haa => mem_namesL.mpr ⟨.tab a.1, List.mem_map.mpr ⟨a, haa, rfl⟩, by rw [names_tab]; exact List.mem_cons_self⟩⟩
    · obtain ⟨a, haa, rfl⟩ := List.mem_map.mp hp
      exact ⟨0, ⟨⟨1, by unfold pOk; exact (ho.2.2.1 a haa).1⟩, Nat.le_of_eq (dep_tab _), by unfold jne; rfl⟩, by rw [List.length_map]; omega⟩
    · have : ∀ as : List Atom, psizeL (as.map fun a => Plan.tab a.1) = as.length := by
        intro as
        induction as with
        | nil => rw [List.map_nil]; unfold psizeL; rfl
        | cons a as ih =>
          rw [List.map_cons, psizeL_cons, ih, List.length_cons]
          have : psize (.tab a.1) = 1 := by unfold psize; rfl
          omega
      rw [this]; omega
  refine for_inv PyData.str (fun rs ρ => (∀ l, l ∈ rs → l ∈ bound m) ∧ ∃ n ps, n + rs.length = ls.length ∧ PI5 m n ps ∧ ρ = [some .tp, some (.v (memD m)), some (.v (.list (ps.map planD))), none, none, none, none, none]) ?_ ls _ ⟨fun l hl => pl.mem_iff.mp hl, 0, _, by omega, I0, rfl⟩ ?_
  · rintro l rs ρ k ⟨hb, n, ps, hn, I, rfl⟩ q
    rw [List.length_cons] at hn
    have hlb := hb l List.mem_cons_self
    have ol := isLet_sOk (bound_ok ho hlb)
    have lp := I.len
    have sp := I.sz
    have pok : ∀ p, p ∈ ps → pOk 130 p ∧ psize p ≤ 2000 := fun p hp => by
      obtain ⟨D, b, hD⟩ := I.pb p hp
      have := psizeL_mem hp
      exact ⟨b.at130 (by omega), by omega⟩
    have ipos : 0 < ps.length := by
      obtain ⟨p, hp, _⟩ := under_of I hlb
      exact List.length_pos_of_mem hp
    obtain ⟨D, hD⟩ : ∃ D, D + 2 * ps.length = n + 2 * m.atoms.length := ⟨n + 2 * m.atoms.length - 2 * ps.length, by omega⟩
    have pbD : ∀ p, p ∈ ps → PB D p := fun p hp => by
      obtain ⟨D2, b, h2⟩ := I.pb p hp
      exact b.up (by omega)
    have D60 : D ≤ 60 := by omega
    walk_at "pv"
    refine ⟨by rw [List.length_map]; omega, ?_⟩
    refine lc_map planD (under m l) planD trivial ps _ (fun p hp k1 k2 q1 q2 => ?_) ?_
    · walk_at "pv"
      refine f_atoms_below ho (pok p hp).1 (pok p hp).2 ?_
      walk_at "pv"
      refine f_law_letters_in (.inl rfl) (below_ok ho p) ?_
      walk_at "pv"
      refine ⟨.inl ⟨rfl, flat_strs _⟩, ?_⟩
      rw [any_str]
      show if under m l p = true then _ else _
      cases c : under m l p with
      | true =>
        walk_at "pv"
        exact q1 c
      | false =>
        walk_at "pv"
        exact q2 c
    walk_at "pv"
    refine ⟨by rw [List.length_map]; omega, ?_⟩
    have hms : ∀ p, p ∈ ps.filter (under m l) → p ∈ ps := fun p hp => (List.mem_filter.mp hp).1
    have m0 : 0 < (ps.filter (under m l)).length := by
      obtain ⟨p, hp, hu⟩ := under_of I hlb
      exact List.length_pos_of_mem (List.mem_filter.mpr ⟨hp, hu⟩)
    have dj : ∀ p, p ∈ ps → under m l p = true → (!inP (ps.filter (under m l)) p) = false := fun p hp hu => by
      rw [inP_self (pbD p hp) (List.mem_filter.mpr ⟨hp, hu⟩)]; rfl
    have c2 := filter2 (under m l) (fun p => !inP (ps.filter (under m l)) p) ps dj
    have s2 := psizeL_filter2 (under m l) (fun p => !inP (ps.filter (under m l)) p) ps dj
    have cv := cov5 I l
    refine lc_map planD (fun p => !inP (ps.filter (under m l)) p) planD trivial ps _ (fun p hp k1 k2 q1 q2 => ?_) ?_
    · walk_at "pv"
      refine ⟨.inr ⟨shp_plan (pbD p hp) D60, shp_plans (fun q hq => pbD q (hms q hq)) D60⟩, ?_⟩
      show if (!inP (ps.filter (under m l)) p) = true then _ else _
      cases c : inP (ps.filter (under m l)) p with
      | true =>
        walk_at "pv"
        exact q2 (by rw [c]; rfl)
      | false =>
        walk_at "pv"
        exact q1 (by rw [c]; rfl)
    have hrs : ∀ p, p ∈ ps.filter (fun p => !inP (ps.filter (under m l)) p) → p ∈ ps := fun p hp => (List.mem_filter.mp hp).1
    generalize ps.filter (fun p => !inP (ps.filter (under m l)) p) = qs at c2 s2 cv hrs ⊢
    generalize ps.filter (under m l) = ms at m0 c2 s2 cv hms ⊢
    walk_at "pv"
    rw [List.length_map]
    have ml : ms.length ≤ 1000 := by omega
    have nxt : ∀ (ms' rs' : List Plan) (kk : Str) (qq : Plan), (kk = "independent" ∨ kk = "exclusive") → 0 < ms'.length → ms'.length + rs'.length ≤ ps.length → psizeL ms' + psizeL rs' ≤ psizeL ps → (∀ p, p ∈ ms' → p ∈ ps) → (∀ p, p ∈ rs' → p ∈ ps) → (∀ t, t ∈ namesL ps → t ∈ namesL ms' ∨ t ∈ namesL rs') → PB (D + je ms'.length) qq → psize qq ≤ psizeL ms' + 2 → (∀ t, t ∈ namesL ms' → t ∈ names qq) →
        k [some .tp, some (.v (memD m)), some (.v (.list (rs'.map planD ++ [.tuple [.str kk, .str l, planD qq]]))), none, none, none, none, none] := by
      intro ms' rs' kk qq hk2 a1 a2 a3 a4 a5 a6 b1 b2 b3
      refine q _ ⟨fun x hx => hb x (List.mem_cons_of_mem _ hx), n + 1, rs' ++ [.proj kk l qq], by omega, step5 I a1 a2 a3 a4 a5 a6 hk2 ol hD b1 b2 b3, ?_⟩
      rw [List.map_append, List.map_cons, List.map_nil, planD_proj]
    have kinds : ∀ kd : PyData, kd ∈ [PyData.str "independent", .str "exclusive"] → ∃ kk : Str, kd = .str kk ∧ (kk = "independent" ∨ kk = "exclusive") := fun kd hkd => by
      simp only [List.mem_cons, List.not_mem_nil, or_false] at hkd
      rcases hkd with rfl | rfl
      · exact ⟨_, rfl, .inl rfl⟩
      · exact ⟨_, rfl, .inr rfl⟩
    by_cases e1 : (0 : Int) < qs.length
    · rw [decide_eq_true e1]
      walk_at "pv"
      refine ⟨by decide, fun r r0 r1 => ?_⟩
      by_cases e2 : r = 0
      · rw [decide_eq_true e2]
        walk_at "pv"
        refine ⟨by omega, fun r2 a b => ?_⟩
        have rl : r2.toNat < qs.length := by omega
        have pp := perm_pop (List.getElem?_eq_getElem rl)
        have sz := psizeL_perm pp
        have sz2 := psizeL_append (qs.eraseIdx r2.toNat) [qs[r2.toNat]]
        have sz3 := psizeL_append ms [qs[r2.toNat]]
        have e0 : psizeL [qs[r2.toNat]] = psize qs[r2.toNat] := by rw [psizeL_cons]; have : psizeL [] = 0 := (by unfold psizeL; rfl); omega
        have le := List.length_eraseIdx_of_lt rl
        refine ⟨a, by omega, by omega, planD qs[r2.toNat], by rw [List.getElem?_map, List.getElem?_eq_getElem rl]; rfl, by rw [List.length_map]; omega, ?_⟩
        refine f_pick (.inl rfl) (by decide) (by decide) fun kd hkd => ?_
        obtain ⟨kk, rfl, hk2⟩ := kinds kd hkd
        walk_at "pv"
        rw [show ms.map planD ++ [planD qs[r2.toNat]] = (ms ++ [qs[r2.toNat]]).map planD from by rw [List.map_append]; rfl]
        have hm2 : ∀ p, p ∈ ms ++ [qs[r2.toNat]] → p ∈ ps := fun p hp => by
          rcases List.mem_append.mp hp with hp | hp
          · exact hms p hp
          · rw [List.mem_singleton.mp hp]; exact hrs _ (List.getElem_mem rl)
        refine f_joined (D := D) (by rw [List.length_append, List.length_singleton]; omega) (by rw [List.length_append, List.length_singleton]; omega) (fun p hp => pbD p (hm2 p hp)) fun qq b1 b2 b3 => ?_
        walk_at "pv"
        rw [map_erase]
        refine ⟨noL_planD qq, by rw [List.length_map]; omega, nxt _ _ kk qq hk2 (by rw [List.length_append, List.length_singleton]; omega) (by rw [List.length_append, List.length_singleton]; omega) (by omega) hm2 (fun p hp => hrs p (List.mem_of_mem_eraseIdx hp)) (fun t ht => ?_) b1 b2 b3⟩
        rcases cv t ht with h | h
        · exact .inl (by rw [namesL_append]; exact List.mem_append_left _ h)
        · obtain ⟨z, hz, hz2⟩ := mem_namesL.mp h
          rcases List.mem_append.mp (pp.mem_iff.mpr hz) with hz | hz
          · exact .inr (mem_namesL.mpr ⟨z, hz, hz2⟩)
          · exact .inl (mem_namesL.mpr ⟨z, List.mem_append_right _ hz, hz2⟩)
      · rw [decide_eq_false e2]
        walk_at "pv"
        refine f_pick (.inl rfl) (by decide) (by decide) fun kd hkd => ?_
        obtain ⟨kk, rfl, hk2⟩ := kinds kd hkd
        refine f_joined (D := D) m0 ml (fun p hp => pbD p (hms p hp)) fun qq b1 b2 b3 => ?_
        walk_at "pv"
        exact ⟨noL_planD qq, by omega, nxt _ _ kk qq hk2 m0 c2 s2 hms hrs cv b1 b2 b3⟩
    · rw [decide_eq_false e1]
      walk_at "pv"
      refine f_pick (.inl rfl) (by decide) (by decide) fun kd hkd => ?_
      obtain ⟨kk, rfl, hk2⟩ := kinds kd hkd
      refine f_joined (D := D) m0 ml (fun p hp => pbD p (hms p hp)) fun qq b1 b2 b3 => ?_
      walk_at "pv"
      exact ⟨noL_planD qq, by omega, nxt _ _ kk qq hk2 m0 c2 s2 hms hrs cv b1 b2 b3⟩
  · rintro ρ ⟨_, n, ps, hn, I, rfl⟩
    rw [List.length_nil, Nat.add_zero] at hn
    have lp := I.len
    have sp := I.sz
    walk_at "pv"
    have p0 : 0 < ps.length := by
      obtain ⟨a, haa⟩ : ∃ a, a ∈ m.atoms := List.exists_mem_of_length_pos h0
      obtain ⟨p, hp, _⟩ := mem_namesL.mp (I.cov a haa)
      exact List.length_pos_of_mem hp
    refine f_joined (D := 30) p0 (by omega) (fun p hp => ?_) fun q b1 b2 b3 => ?_
    · obtain ⟨D, b, hD⟩ := I.pb p hp
      exact b.up (by omega)
    · walk_at "pv"
      exact h q (b1.up (by have := je_le ps.length; omega)) (by omega)

/-! ### the letters of a plan's projections -/
theorem plet_d {q : Plan} (h : isProj q) : ∃ a c, planD q = .tuple [a, .str (plet q), c] := by
  cases q with
  | tab s => exact h.elim
  | join ps => exact h.elim
  | proj k x p => exact ⟨_, _, planD_proj k x p⟩
theorem f_law_projected {p : Plan} (hp : pOk 130 p) (hz : psize p ≤ 2000) {P : Av → Prop} (h : P (.n (.list ((plets p).map .str)))) : F__law_projected [.v (planD p)] P := by
  have lp := projs_le p
  unfold F__law_projected defV B__law_projected
  walk_at "pv"
  refine f_law_projections 130 p hp hz _ ?_
  walk_at "pv"
  refine ⟨by rw [List.length_map]; omega, ?_⟩
  refine lc_all planD (fun q => .str (plet q)) trivial (projs p) _ (fun q hq k1 qk => ?_) ?_
  · obtain ⟨a, c, e⟩ := plet_d (projs_are p q hq)
    rw [e]
    walk_at "pv"
    exact qk
  rw [show (projs p).map (fun q => PyData.str (plet q)) = (plets p).map PyData.str from by unfold plets; rw [List.map_map]; rfl]
  walk_at "pv"
  exact h

/-! ### helpers of the laws -/
theorem nat_of {x : PyData} {ns : List Nat} (h : x ∈ ns.map fun (n : Nat) => PyData.int (n : Int)) : ∃ n : Nat, x = .int n ∧ n ∈ ns := by
  obtain ⟨n, hn, rfl⟩ := List.mem_map.mp h
  exact ⟨n, rfl, hn⟩
theorem parts_pos : ∀ p : Plan, 0 < (parts p).length
  | .tab s => by rw [parts_tab]; exact Nat.one_pos
  | .join ps => by rw [parts_join, List.length_cons]; omega
  | .proj k x p => by rw [parts_proj, List.length_append, List.length_singleton]; omega
theorem mem_partsL {t : Plan} {ps : List Plan} : t ∈ partsL ps ↔ ∃ p, p ∈ ps ∧ t ∈ parts p := by
  induction ps with
  | nil => rw [partsL_nil]; simp
  | cons p ps ih => rw [partsL_cons, List.mem_append, ih]; simp
theorem parts_ok : ∀ (n : Nat) (p : Plan), pOk n p → ∀ b, b ∈ parts p → pOk n b ∧ psize b ≤ psize p
  | 0, p, h, _, _ => by cases p <;> exact absurd h (by unfold pOk; exact id)
  | n + 1, .tab s, h, b, hb => by
    rw [parts_tab] at hb
    rw [List.mem_singleton.mp hb]
    exact ⟨h, Nat.le_refl _⟩
  | n + 1, .join ps, h, b, hb => by
    rw [parts_join] at hb
    rcases List.mem_cons.mp hb with rfl | hb
    · exact ⟨h, Nat.le_refl _⟩
    · obtain ⟨p, hp, hb⟩ := mem_partsL.mp hb
      have i := parts_ok n p (pOk_join h p hp) b hb
      have := psizeL_mem hp
      exact ⟨pOk_up i.1, by rw [psize_join]; omega⟩
  | n + 1, .proj k x p, h, b, hb => by
    rw [parts_proj] at hb
    rcases List.mem_append.mp hb with hb | hb
    · have i := parts_ok n p (pOk_proj h).2.2 b hb
      exact ⟨pOk_up i.1, by rw [psize_proj]; omega⟩
    · rw [List.mem_singleton.mp hb]
      exact ⟨h, Nat.le_refl _⟩
theorem cut_map {α : Type} (f : α → PyData) (xs : List α) (lo hi : Option Int) : ∃ ys : List α, cutD (xs.map f) lo hi = ys.map f ∧ (∀ y, y ∈ ys → y ∈ xs) ∧ ys.length ≤ xs.length := by
  unfold cutD
  rw [← List.map_drop, ← List.map_take]
  refine ⟨_, rfl, fun y hy => List.mem_of_mem_drop (List.mem_of_mem_take hy), ?_⟩
  rw [List.length_take, List.length_drop]
  omega

/-! ### shapes by name; letters that are determined, plainly -/
theorem dc_map {β : Type} {G : En → Prop} {g : GF} {tt : TV} {ek e : EV} {vs : List Nat} {ρ : En} (f : β → PyData) (keep : β → Bool) (kf : β → L2.Key) (vf : β → PyData) (hG : G ρ) : ∀ (xs : List β) (acc : Dct) (k : Dct → En → Prop)
    (_ : ∀ x, x ∈ xs → ∀ (k1 : L2.Key → PyData → En → Prop) (k2 : En → Prop), (keep x = true → k1 (kf x) (vf x) ρ) → (keep x = false → k2 ρ) → g (f x) ρ fun ρ1 => tt ρ1 fun b ρ2 => if b = true then ek ρ2 fun x ρ3 => e ρ3 fun y ρ4 => x.getK ρ4 fun kd => keyK kd fun q => y.stoK fun z => k1 q z (kill vs ρ4) else k2 (kill vs ρ2)),
    k ((xs.filter keep).foldl (fun acc x => dPut acc (kf x) (vf x)) acc) ρ → dcV G g tt ek e vs (xs.map f) acc ρ k
  | [], acc, k, _, q => ⟨hG, q⟩
  | x :: xs, acc, k, h, q => by
    refine ⟨hG, h x List.mem_cons_self (fun q z ρ4 => dcV G g tt ek e vs (xs.map f) (dPut acc q z) ρ4 k) (fun ρ2 => dcV G g tt ek e vs (xs.map f) acc ρ2 k) (fun c => ?_) fun c => ?_⟩
    · refine dc_map f keep kf vf hG xs _ _ (fun y hy => h y (List.mem_cons_of_mem _ hy)) ?_
      rw [List.filter_cons_of_pos c] at q
      exact q
    · refine dc_map f keep kf vf hG xs _ _ (fun y hy => h y (List.mem_cons_of_mem _ hy)) ?_
      rw [List.filter_cons_of_neg (by rw [c]; decide)] at q
      exact q
/-- a comprehension that keeps some, whichever -/
theorem lc_some {β : Type} {G : En → Prop} {g : GF} {tt : TV} {e : EV} {vs : List Nat} {ρ : En} (f : β → PyData) (hG : G ρ) : ∀ (xs : List β) (k : List PyData → En → Prop)
    (_ : ∀ x, x ∈ xs → ∀ (k1 : PyData → En → Prop) (k2 : En → Prop), k1 (f x) ρ → k2 ρ → g (f x) ρ fun ρ1 => tt ρ1 fun b ρ2 => if b = true then e ρ2 fun x ρ3 => x.stoK fun y => k1 y (kill vs ρ3) else k2 (kill vs ρ2)),
    (∀ ys : List β, ys.Sublist xs → k (ys.map f) ρ) → lcV G g tt e vs (xs.map f) ρ k
  | [], k, _, q => ⟨hG, q [] (List.Sublist.refl _)⟩
  | x :: xs, k, h, q => by
    refine ⟨hG, h x List.mem_cons_self (fun y ρ3 => lcV G g tt e vs (xs.map f) ρ3 fun out ρ' => k (y :: out) ρ') (fun ρ2 => lcV G g tt e vs (xs.map f) ρ2 k) ?_ ?_⟩
    · exact lc_some f hG xs _ (fun y hy => h y (List.mem_cons_of_mem _ hy)) fun ys hs => q (x :: ys) (hs.cons_cons x)
    · exact lc_some f hG xs _ (fun y hy => h y (List.mem_cons_of_mem _ hy)) fun ys hs => q ys (hs.cons x)
/-! shapes -/
def shp0 : Shp := ⟨Str.empty, Str.empty, 0, 0⟩
def shpOf (fs : List Shp) (t : Str) : Shp := (fs.find? fun s => s.name == t).getD shp0
theorem shpOf_mem {fs : List Shp} {t : Str} (h : t ∈ fs.map (·.name)) : shpOf fs t ∈ fs ∧ (shpOf fs t).name = t := by
  obtain ⟨s, hs, e⟩ := List.mem_map.mp h
  unfold shpOf
  cases c : fs.find? fun s => s.name == t with
  | none =>
    have := List.find?_eq_none.mp c s hs
    exact absurd (beq_iff_eq.mpr e) this
  | some r => exact ⟨List.mem_of_find?_eq_some c, by have := List.find?_some c; exact beq_iff_eq.mp this⟩
theorem shpOf_cons_eq {s : Shp} {fs : List Shp} {t : Str} (h : s.name = t) : shpOf (s :: fs) t = s := by
  unfold shpOf
  rw [List.find?_cons, beq_iff_eq.mpr h]
  rfl
theorem shpOf_cons_ne {s : Shp} {fs : List Shp} {t : Str} (h : s.name ≠ t) : shpOf (s :: fs) t = shpOf fs t := by
  unfold shpOf
  rw [List.find?_cons, beq_eq_false_iff_ne.mpr h]
theorem shpOf_of {fs : List Shp} (nd : (fs.map (·.name)).Nodup) {s : Shp} (h : s ∈ fs) : shpOf fs s.name = s := by
  induction fs with
  | nil => cases h
  | cons r fs ih =>
    rw [List.map_cons, List.nodup_cons] at nd
    rcases List.mem_cons.mp h with rfl | h
    · exact shpOf_cons_eq rfl
    · rw [shpOf_cons_ne fun e => nd.1 (e ▸ List.mem_map.mpr ⟨s, h, rfl⟩)]
      exact ih nd.2 h
def dsh (v : Shp → PyData) (fs : List Shp) : Dct := fs.map fun s => (.str s.name, v s)
theorem dsh_any (v : Shp → PyData) (fs : List Shp) (t : Str) : ((dsh v fs).any fun p => keyEq p.1 (.inr t)) = (fs.map (·.name)).any (· == t) := by
  induction fs with
  | nil => rfl
  | cons s fs ih =>
    show (decide (s.name = t) || (dsh v fs).any fun p => keyEq p.1 (.inr t)) = _
    rw [ih]; rfl
theorem dsh_fold (v : Shp → PyData) (gs : List Shp) : ∀ fs : List Shp, ((fs ++ gs).map (·.name)).Nodup → gs.foldl (fun acc (s : Shp) => dPut acc (.inr s.name) (v s)) (dsh v fs) = dsh v (fs ++ gs) := by
  induction gs with
  | nil => intro fs _; rw [List.append_nil]; rfl
  | cons s gs ih =>
    intro fs h
    have e : dPut (dsh v fs) (.inr s.name) (v s) = dsh v (fs ++ [s]) := by
      have no : (fs.map (·.name)).any (· == s.name) = false := by
        rw [List.any_eq_false]
        intro x hx
        rw [List.map_append, List.map_cons] at h
        have := (List.nodup_append.mp h).2.2 x hx s.name List.mem_cons_self
        simpa using this
      unfold dPut
      rw [dsh_any, no, if_neg (by decide)]
      unfold dsh
      rw [List.map_append]
      rfl
    rw [List.foldl_cons, e, ih (fs ++ [s]) (by rw [List.append_assoc]; exact h), List.append_assoc]
    rfl
theorem dsh_fold0 (v : Shp → PyData) {fs : List Shp} (p : Shp → Bool) (nd : (fs.map (·.name)).Nodup) : (fs.filter p).foldl (fun acc (s : Shp) => dPut acc (.inr s.name) (v s)) [] = dsh v (fs.filter p) := by
  have := dsh_fold v (fs.filter p) [] (by rw [List.nil_append]; exact nd.sublist (List.filter_sublist.map _))
  rw [List.nil_append] at this
  exact this
theorem dsh_none (v : Shp → PyData) {fs : List Shp} {t : Str} (h : t ∉ fs.map (·.name)) : dGet (dsh v fs) (.inr t) = none := by
  induction fs with
  | nil => rfl
  | cons s fs ih =>
    rw [List.map_cons, List.mem_cons, not_or] at h
    have g : dGet (dsh v (s :: fs)) (.inr t) = dGet (dsh v fs) (.inr t) := by simp [dGet, dsh, keyEq, Ne.symm h.1]
    rw [g, ih h.2]
theorem dsh_get (v : Shp → PyData) (p : Shp → Bool) {fs : List Shp} (nd : (fs.map (·.name)).Nodup) {t : Str} (h : t ∈ fs.map (·.name)) : dGet (dsh v (fs.filter p)) (.inr t) = if p (shpOf fs t) = true then some (v (shpOf fs t)) else none := by
  induction fs with
  | nil => cases h
  | cons s fs ih =>
    rw [List.map_cons, List.nodup_cons] at nd
    by_cases e : s.name = t
    · rw [shpOf_cons_eq e]
      cases c : p s with
      | true =>
        rw [List.filter_cons_of_pos c, if_pos rfl]
        simp [dGet, dsh, keyEq, e]
      | false =>
        rw [List.filter_cons_of_neg (by rw [c]; decide), if_neg (by decide)]
        refine dsh_none v fun hm => nd.1 ?_
        rw [e]
        exact (List.filter_sublist.map _).subset hm
    · rw [shpOf_cons_ne e]
      have h2 : t ∈ fs.map (·.name) := by
        rw [List.map_cons] at h
        rcases List.mem_cons.mp h with z | z
        · exact absurd z.symm e
        · exact z
      rw [← ih nd.2 h2]
      cases c : p s with
      | true =>
        rw [List.filter_cons_of_pos c]
        simp [dGet, dsh, keyEq, e]
      | false => rw [List.filter_cons_of_neg (by rw [c]; decide)]
/-! letters among terms -/
theorem inTs_iff {ts : List Term} {s : Str} : inTs ts s = true ↔ .l s ∈ ts := by
  unfold inTs
  induction ts with
  | nil => simp
  | cons t ts ih =>
    rw [List.map_cons, List.any_cons, Bool.or_eq_true, ih, List.mem_cons]
    refine or_congr ?_ Iff.rfl
    cases t with
    | l x =>
      unfold termD
      simp only [PyData.eqv, beq_iff_eq, Term.l.injEq]
      exact eq_comm
    | c x =>
      unfold termD
      simp [PyData.eqv]
theorem lets_iff {s : Str} : ∀ {ts : List Term}, s ∈ lets ts ↔ .l s ∈ ts
  | [] => by unfold lets; simp
  | .l x :: ts => by unfold lets; rw [List.mem_cons, List.mem_cons, lets_iff]; simp
  | .c x :: ts => by unfold lets; rw [List.mem_cons, lets_iff]; simp
def hasS (xs : List Str) (s : Str) : Bool := xs.any (· == s)
theorem hasS_iff {xs : List Str} {s : Str} : hasS xs s = true ↔ s ∈ xs := by
  unfold hasS
  rw [List.any_eq_true]
  exact ⟨fun ⟨x, h1, h2⟩ => beq_iff_eq.mp h2 ▸ h1, fun h => ⟨s, h, beq_iff_eq.mpr rfl⟩⟩
theorem hasS_false {xs : List Str} {s : Str} : hasS xs s = false ↔ s ∉ xs := by
  rw [← hasS_iff, Bool.not_eq_true]
theorem mem_letters {as : List Atom} {s : Str} : s ∈ letters as ↔ ∃ a, a ∈ as ∧ .l s ∈ a.2 := by
  have h1 : s ∈ letters as ↔ s ∈ allLets as := by
    have e : hasS (letters as) s = hasS (allLets as) s := letters_any
    rw [← hasS_iff, ← hasS_iff, e]
  rw [h1]
  clear h1
  induction as with
  | nil => unfold allLets; simp
  | cons a as ih =>
    unfold allLets
    constructor
    · intro h
      rcases List.mem_append.mp h with h | h
      · exact ⟨a, List.mem_cons_self, lets_iff.mp h⟩
      · obtain ⟨b, hb, e⟩ := ih.mp h
        exact ⟨b, List.mem_cons_of_mem _ hb, e⟩
    · rintro ⟨b, hb, e⟩
      rcases List.mem_cons.mp hb with rfl | hb
      · exact List.mem_append_left _ (lets_iff.mpr e)
      · exact List.mem_append_right _ (ih.mpr ⟨b, hb, e⟩)
theorem letters_nodup (as : List Atom) : (letters as).Nodup := by
  have : ∀ xs σ : List Str, σ.Nodup → (xs.foldl metS σ).Nodup := by
    intro xs
    induction xs with
    | nil => exact fun σ h => h
    | cons x xs ih =>
      intro σ h
      refine ih _ ?_
      unfold metS
      split
      · exact h
      · rename_i c
        rw [List.nodup_append]
        exact ⟨h, by simp, fun a ha b hb e => c (by rw [List.mem_singleton] at hb; subst hb; subst e; exact any_iff.mpr ha)⟩
  exact this _ [] List.nodup_nil
/-! what is determined -/
def blkB (s : Shp) : Bool := decide (s.kind = "block")
def added (σ : List Str) (a : Atom) : List Str := (letters [a]).filter fun s => !hasS σ s
def kpre (fs : List Shp) (a : Atom) : List Term := a.2.take (min (shpOf fs a.1).keys.toNat a.2.length)
def missing (fs : List Shp) (σ : List Str) (a : Atom) : List Str := (added σ a).filter fun s => inTs (kpre fs a) s
def stp (fs : List Shp) (σ : List Str) (a : Atom) : List Str := if (blkB (shpOf fs a.1) && (missing fs σ a).isEmpty) = true then σ ++ added σ a else σ
def rnd (fs : List Shp) (as : List Atom) (σ : List Str) : List Str := as.foldl (stp fs) σ
def itr {α : Type} (f : α → α) : Nat → α → α
  | 0, a => a
  | n + 1, a => itr f n (f a)
def detS (fs : List Shp) (as : List Atom) (p : Str → Bool) : List Str := itr (rnd fs as) as.length ((letters as).filter p)
def lackP (σ : List Str) (t : Term) : Bool := match t with
  | .l s => !hasS σ s
  | .c _ => false
def lackT (fs : List Shp) (σ : List Str) (a : Atom) : List Term := (kpre fs a).filter (lackP σ)
theorem kpre_sub {fs : List Shp} {a : Atom} {t : Term} (h : t ∈ kpre fs a) : t ∈ a.2 := List.mem_of_mem_take h
theorem lack_missing (fs : List Shp) (σ : List Str) (a : Atom) : (lackT fs σ a).isEmpty = (missing fs σ a).isEmpty := by
  rw [Bool.eq_iff_iff, List.isEmpty_iff, List.isEmpty_iff]
  unfold lackT missing added
  rw [List.filter_eq_nil_iff, List.filter_eq_nil_iff]
  refine ⟨fun h s hs c => ?_, fun h t ht c => ?_⟩
  · have m := inTs_iff.mp c
    exact h (.l s) m (List.mem_filter.mp hs).2
  · cases t with
    | c x => exact absurd c (by unfold lackP; simp)
    | l s => exact h s (List.mem_filter.mpr ⟨mem_letters.mpr ⟨a, List.mem_singleton.mpr rfl, kpre_sub ht⟩, c⟩) (inTs_iff.mpr ht)
theorem stp_sub {fs : List Shp} {σ : List Str} {a : Atom} {s : Str} (h : s ∈ σ) : s ∈ stp fs σ a := by
  unfold stp
  split
  · exact List.mem_append_left _ h
  · exact h
theorem rnd_sub {fs : List Shp} : ∀ {as : List Atom} {σ : List Str} {s : Str}, s ∈ σ → s ∈ rnd fs as σ
  | [], _, _, h => h
  | _ :: as, _, _, h => rnd_sub (as := as) (stp_sub h)
theorem stp_len (fs : List Shp) (σ : List Str) (a : Atom) : σ.length ≤ (stp fs σ a).length := by
  unfold stp
  split
  · rw [List.length_append]; omega
  · exact Nat.le_refl _
theorem rnd_len (fs : List Shp) : ∀ (as : List Atom) (σ : List Str), σ.length ≤ (rnd fs as σ).length
  | [], _ => Nat.le_refl _
  | a :: as, σ => Nat.le_trans (stp_len fs σ a) (rnd_len fs as _)
theorem stp_in {fs : List Shp} {σ : List Str} {a : Atom} {as : List Atom} (ha : a ∈ as) (h : ∀ s, s ∈ σ → s ∈ letters as) : ∀ s, s ∈ stp fs σ a → s ∈ letters as := by
  intro s hs
  unfold stp at hs
  split at hs
  · rcases List.mem_append.mp hs with hs | hs
    · exact h s hs
    · have := (List.mem_filter.mp hs).1
      obtain ⟨b, hb, m⟩ := mem_letters.mp this
      rw [List.mem_singleton.mp hb] at m
      exact mem_letters.mpr ⟨a, ha, m⟩
  · exact h s hs
theorem stp_nd {fs : List Shp} {σ : List Str} {a : Atom} (h : σ.Nodup) : (stp fs σ a).Nodup := by
  unfold stp
  split
  · rw [List.nodup_append]
    refine ⟨h, (letters_nodup [a]).sublist List.filter_sublist, fun x hx y hy e => ?_⟩
    subst e
    have := (List.mem_filter.mp hy).2
    rw [hasS_iff.mpr hx] at this
    cases this
  · exact h
/-- what stands ahead of each step -/
structure DI (as : List Atom) (σ : List Str) : Prop where
  nd : σ.Nodup
  sub : ∀ s, s ∈ σ → s ∈ letters as
theorem DI.stp {fs : List Shp} {as : List Atom} {σ : List Str} (h : DI as σ) {a : Atom} (ha : a ∈ as) : DI as (stp fs σ a) := ⟨stp_nd h.nd, stp_in ha h.sub⟩
theorem DI.len {as : List Atom} {σ : List Str} (h : DI as σ) : σ.length ≤ (letters as).length := nodup_le h.nd h.sub
theorem DI.rnd1 {fs : List Shp} {as : List Atom} : ∀ {bs : List Atom} {σ : List Str}, DI as σ → (∀ b, b ∈ bs → b ∈ as) → DI as (rnd fs bs σ)
  | [], _, h, _ => h
  | b :: bs, σ, h, hb => DI.rnd1 (bs := bs) (h.stp (hb b List.mem_cons_self)) fun x hx => hb x (List.mem_cons_of_mem _ hx)
theorem DI.rnd {fs : List Shp} {as : List Atom} {σ : List Str} (h : DI as σ) : DI as (rnd fs as σ) := h.rnd1 fun _ h => h
theorem DI.itr {fs : List Shp} {as : List Atom} : ∀ {n : Nat} {σ : List Str}, DI as σ → DI as (itr (WB.rnd fs as) n σ)
  | 0, _, h => h
  | n + 1, _, h => DI.itr (n := n) h.rnd
theorem DI.start (as : List Atom) (p : Str → Bool) : DI as ((letters as).filter p) := ⟨(letters_nodup as).sublist List.filter_sublist, fun _ h => (List.mem_filter.mp h).1⟩
def doneB (σ : List Str) (a : Atom) : Bool := (letters [a]).all fun s => hasS σ s
theorem done_added {σ : List Str} {a : Atom} : doneB σ a = true ↔ added σ a = [] := by
  unfold doneB added
  rw [List.all_eq_true, List.filter_eq_nil_iff]
  exact ⟨fun h s hs => by rw [h s hs]; decide, fun h s hs => by have := h s hs; cases c : hasS σ s with
    | true => rfl
    | false => rw [c] at this; exact absurd rfl this⟩
theorem done_mono {σ τ : List Str} {a : Atom} (h : ∀ s, s ∈ σ → s ∈ τ) (d : doneB σ a = true) : doneB τ a = true := by
  unfold doneB at d ⊢
  rw [List.all_eq_true] at d ⊢
  exact fun s hs => hasS_iff.mpr (h s (hasS_iff.mp (d s hs)))
theorem stp_done {fs : List Shp} {σ : List Str} {a : Atom} (h : doneB σ a = true) : stp fs σ a = σ := by
  unfold stp
  rw [done_added.mp h, List.append_nil, ite_self]
theorem stp_moves {fs : List Shp} {σ : List Str} {a : Atom} (h : stp fs σ a ≠ σ) : doneB (stp fs σ a) a = true := by
  unfold stp at h ⊢
  split
  · unfold doneB
    rw [List.all_eq_true]
    intro s hs
    rw [hasS_iff, List.mem_append]
    cases c : hasS σ s with
    | true => exact .inl (hasS_iff.mp c)
    | false => exact .inr (List.mem_filter.mpr ⟨hs, by rw [c]; rfl⟩)
  · rename_i c
    rw [if_neg c] at h
    exact absurd rfl h
theorem rnd_moves {fs : List Shp} : ∀ {as : List Atom} {σ : List Str}, rnd fs as σ ≠ σ → ∃ a, a ∈ as ∧ doneB σ a = false ∧ doneB (rnd fs as σ) a = true
  | [], _, h => absurd rfl h
  | a :: as, σ, h => by
    by_cases e : stp fs σ a = σ
    · have h2 : rnd fs as σ ≠ σ := by
        intro z
        apply h
        show rnd fs as (stp fs σ a) = σ
        rw [e, z]
      obtain ⟨b, hb, h3, h4⟩ := rnd_moves h2
      refine ⟨b, List.mem_cons_of_mem _ hb, h3, ?_⟩
      show doneB (rnd fs as (stp fs σ a)) b = true
      rw [e]; exact h4
    · refine ⟨a, List.mem_cons_self, ?_, done_mono (fun s hs => rnd_sub (as := as) hs) (stp_moves e)⟩
      cases c : doneB σ a with
      | false => rfl
      | true => exact absurd (stp_done c) e
theorem rnd_all {fs : List Shp} : ∀ {as : List Atom} {σ : List Str}, (∀ a, a ∈ as → doneB σ a = true) → rnd fs as σ = σ
  | [], _, _ => rfl
  | a :: as, σ, h => by
    show rnd fs as (stp fs σ a) = σ
    rw [stp_done (h a List.mem_cons_self)]
    exact rnd_all fun b hb => h b (List.mem_cons_of_mem _ hb)
theorem filter_less {α : Type} {f g : α → Bool} : ∀ {xs : List α}, (∀ x, x ∈ xs → f x = true → g x = true) → (xs.filter f).length ≤ (xs.filter g).length ∧ ((∃ x, x ∈ xs ∧ f x = false ∧ g x = true) → (xs.filter f).length < (xs.filter g).length)
  | [], _ => ⟨Nat.le_refl _, fun ⟨_, h, _⟩ => nomatch h⟩
  | x :: xs, h => by
    have ⟨i1, i2⟩ := filter_less (xs := xs) fun y hy => h y (List.mem_cons_of_mem _ hy)
    cases c : f x with
    | true =>
      rw [List.filter_cons_of_pos c, List.filter_cons_of_pos (h x List.mem_cons_self c), List.length_cons, List.length_cons]
      refine ⟨by omega, fun ⟨y, hy, h1, h2⟩ => ?_⟩
      rcases List.mem_cons.mp hy with rfl | hy
      · rw [c] at h1; cases h1
      · have := i2 ⟨y, hy, h1, h2⟩; omega
    | false =>
      rw [List.filter_cons_of_neg (by rw [c]; decide)]
      cases d : g x with
      | true =>
        rw [List.filter_cons_of_pos d, List.length_cons]
        exact ⟨by omega, fun _ => by omega⟩
      | false =>
        rw [List.filter_cons_of_neg (by rw [d]; decide)]
        refine ⟨i1, fun ⟨y, hy, h1, h2⟩ => ?_⟩
        rcases List.mem_cons.mp hy with rfl | hy
        · rw [d] at h2; cases h2
        · exact i2 ⟨y, hy, h1, h2⟩
def cnt (as : List Atom) (σ : List Str) : Nat := (as.filter (doneB σ)).length
theorem itr_fix {α : Type} {f : α → α} {a : α} (h : f a = a) : ∀ n, itr f n a = a
  | 0 => rfl
  | n + 1 => by unfold itr; rw [h]; exact itr_fix h n
theorem det_fix {fs : List Shp} {as : List Atom} : ∀ (n : Nat) (σ : List Str), as.length ≤ cnt as σ + n → rnd fs as (itr (rnd fs as) n σ) = itr (rnd fs as) n σ
  | 0, σ, h => by
    unfold itr
    refine rnd_all fun a ha => ?_
    have l := List.length_filter_eq_length_iff.mp (Nat.le_antisymm (List.length_filter_le (doneB σ) as) h)
    exact l a ha
  | n + 1, σ, h => by
    by_cases e : rnd fs as σ = σ
    · rw [itr_fix e]; exact e
    · unfold itr
      refine det_fix n _ ?_
      have := (filter_less (xs := as) (f := doneB σ) (g := doneB (rnd fs as σ)) fun a _ d => done_mono (fun s hs => rnd_sub hs) d).2 (rnd_moves e)
      unfold cnt at h ⊢
      omega
theorem itr_add {α : Type} (f : α → α) : ∀ (n m : Nat) (a : α), itr f (n + m) a = itr f m (itr f n a)
  | 0, m, a => by rw [Nat.zero_add]; rfl
  | n + 1, m, a => by
    rw [Nat.succ_add]
    show itr f (n + m) (f a) = itr f m (itr f n (f a))
    exact itr_add f n m (f a)
theorem itr_meet {α : Type} {f : α → α} {a : α} {n m : Nat} (hn : f (itr f n a) = itr f n a) (hm : f (itr f m a) = itr f m a) : itr f n a = itr f m a := by
  rcases Nat.le_total n m with l | l
  · obtain ⟨d, rfl⟩ := Nat.exists_eq_add_of_le l
    rw [itr_add, itr_fix hn]
  · obtain ⟨d, rfl⟩ := Nat.exists_eq_add_of_le l
    rw [itr_add, itr_fix hm]
theorem det_is {fs : List Shp} {as : List Atom} {p : Str → Bool} {m : Nat} (h : rnd fs as (itr (rnd fs as) m ((letters as).filter p)) = itr (rnd fs as) m ((letters as).filter p)) : itr (rnd fs as) m ((letters as).filter p) = detS fs as p := itr_meet h (det_fix as.length _ (by omega))
theorem DI.det (fs : List Shp) (as : List Atom) (p : Str → Bool) : DI as (detS fs as p) := (DI.start as p).itr
/-! the program's turn, with its mark -/
def pst (fs : List Shp) (z : List Str × Bool) (a : Atom) : List Str × Bool := if (blkB (shpOf fs a.1) && (!(added z.1 a).isEmpty && (missing fs z.1 a).isEmpty)) = true then (z.1 ++ added z.1 a, true) else z
theorem pst_fst (fs : List Shp) (z : List Str × Bool) (a : Atom) : (pst fs z a).1 = stp fs z.1 a := by
  unfold pst stp
  cases blkB (shpOf fs a.1) with
  | false => rfl
  | true =>
    cases c : (missing fs z.1 a).isEmpty with
    | false => rw [Bool.and_false]; rfl
    | true =>
      cases d : (added z.1 a).isEmpty with
      | true => rw [List.isEmpty_iff.mp d, List.append_nil]; rfl
      | false => rfl
theorem pst_snd (fs : List Shp) (z : List Str × Bool) (a : Atom) : (pst fs z a = z) ∨ ((pst fs z a).2 = true ∧ z.1.length < (stp fs z.1 a).length) := by
  unfold pst
  split
  · rename_i c
    refine .inr ⟨rfl, ?_⟩
    rw [Bool.and_eq_true, Bool.and_eq_true] at c
    unfold stp
    rw [c.1, c.2.2, if_pos (by rfl), List.length_append]
    have := c.2.1
    cases e : added z.1 a with
    | nil => rw [e] at this; cases this
    | cons x xs => rw [List.length_cons]; omega
  · exact .inl rfl
theorem prnd (fs : List Shp) : ∀ (as : List Atom) (z : List Str × Bool), (as.foldl (pst fs) z).1 = rnd fs as z.1 ∧ (as.foldl (pst fs) z = z ∨ (as.foldl (pst fs) z).2 = true ∧ z.1.length < (rnd fs as z.1).length)
  | [], z => ⟨rfl, .inl rfl⟩
  | a :: as, z => by
    have ⟨i1, i2⟩ := prnd fs as (pst fs z a)
    rw [pst_fst] at i1 i2
    refine ⟨i1, ?_⟩
    have l1 := stp_len fs z.1 a
    have l2 : (stp fs z.1 a).length ≤ (rnd fs (a :: as) z.1).length := rnd_len fs as _
    rcases pst_snd fs z a with e | ⟨e1, e2⟩
    · rw [List.foldl_cons, e]
      rw [e] at i2
      have e3 : stp fs z.1 a = z.1 := by rw [← pst_fst, e]
      rw [e3] at i2
      rcases i2 with i2 | i2
      · exact .inl i2
      · refine .inr ⟨i2.1, ?_⟩
        show z.1.length < (rnd fs as (stp fs z.1 a)).length
        rw [e3]; exact i2.2
    · right
      rw [List.foldl_cons]
      refine ⟨?_, Nat.lt_of_lt_of_le e2 l2⟩
      rcases i2 with i2 | i2
      · rw [i2]; exact e1
      · exact i2.1

/-! ### determined letters, demands: the program -/
theorem rng_fold {α : Type} (f : α → α) : ∀ (n : Nat) (xs : List Nat) (a : α), xs.length = n → xs.foldl (fun a _ => f a) a = itr f n a
  | 0, [], _, _ => rfl
  | n + 1, x :: xs, a, h => rng_fold f n xs (f a) (Nat.succ.inj h)
theorem hasS_perm {xs ys : List Str} (h : xs.Perm ys) (s : Str) : hasS xs s = hasS ys s := by
  rw [Bool.eq_iff_iff, hasS_iff, hasS_iff, h.mem_iff]
def wturnV (c : TV) (body : SV) (dead : List Nat) (D : EndsV) (k : En → Prop) (ρ : En) : Prop :=
  c ρ fun t ρ1 => if t = true then body ⟨fun ρ2 => killK dead ρ2 k, D.rt, fun ρ2 => killK dead ρ2 D.nx, fun ρ2 => killK dead ρ2 k⟩ ρ1 else D.nx ρ1
theorem whileV_by {α : Type} {c : TV} {body : SV} {dead : List Nat} {D : EndsV} (S : α → En) (I : α → Prop) (μ : α → Nat)
    (h : ∀ (a : α) (k : En → Prop), I a → (∀ b, I b → μ b < μ a → k (S b)) → wturnV c body dead D k (S a)) : ∀ (n : Nat) (a : α), I a → μ a < n → whileV c body dead D n (S a)
  | 0, _, _, l => absurd l (Nat.not_lt_zero _)
  | n + 1, a, ha, l => by
    have t := h a (whileV c body dead D n) ha fun b hb lb => whileV_by S I μ h n b hb (by omega)
    unfold wturnV at t
    simp only [killK_eq] at t
    exact t
theorem sWhile_by {α : Type} {c : TV} {body : SV} {dead : List Nat} {D : EndsV} {ρ : En} (S : α → En) (I : α → Prop) (μ : α → Nat) {a : α} (e : kill dead ρ = S a) (ha : I a)
    (h : ∀ (a : α) (k : En → Prop), I a → (∀ b, I b → μ b < μ a → k (S b)) → wturnV c body dead D k (S a)) : sWhile c body dead D ρ := by
  refine ⟨μ a + 1, ?_⟩
  rw [e]
  exact whileV_by S I μ h _ a ha (Nat.lt_succ_self _)
theorem atomD_eq (a : Atom) : atomD a = .tuple [.str a.1, .tuple (a.2.map termD)] := rfl
theorem cut_terms {ts : List Term} {k : Int} (h : 0 ≤ k) : cutD (ts.map termD) none (some k) = (ts.take (min k.toNat ts.length)).map termD := by
  rw [cut_upto h, List.length_map, List.map_take]
structure Cx1 (fs : List Shp) (as : List Atom) : Prop where
  fok : FsOk fs
  klo : ∀ s, s ∈ fs → 0 ≤ s.keys
  ho : asOk as
  hin : ∀ a, a ∈ as → a.1 ∈ fs.map (·.name)
theorem Cx1.keys {fs : List Shp} {as : List Atom} (c : Cx1 fs as) {a : Atom} (ha : a ∈ as) : 0 ≤ (shpOf fs a.1).keys := c.klo _ (shpOf_mem (c.hin a ha)).1
theorem f_block_keys {fs : List Shp} (hf : FsOk fs) {P : Av → Prop} (h : P (.n (.dict (dsh (fun s => .int s.keys) (fs.filter blkB))))) : F_block_keys [.v (formsD fs)] P := by
  have l := hf.len
  unfold F_block_keys defV B_block_keys formsD
  walk_at "pv"
  refine ⟨by rw [List.length_map]; omega, ?_⟩
  refine dc_map shapeD blkB (fun s => .inr s.name) (fun s => .int s.keys) trivial fs _ _ (fun s hs k1 k2 q1 q2 => ?_) ?_
  · unfold shapeD
    walk_at "pv"
    cases c : decide (s.kind = "block") with
    | true =>
      walk_at "pv"
      exact q1 c
    | false =>
      walk_at "pv"
      exact q2 c
  · rw [dsh_fold0 _ _ hf.nd]
    walk_at "pv"
    exact h
theorem kpre_ok {fs : List Shp} {as : List Atom} (c : Cx1 fs as) {a : Atom} (ha : a ∈ as) : ∀ t, t ∈ kpre fs a → tOk t := fun t ht => (c.ho.1 a ha).2.1 t (kpre_sub ht)
theorem one_ok {as : List Atom} (h : asOk as) {a : Atom} (ha : a ∈ as) : asOk [a] := ⟨fun b hb => by rw [List.mem_singleton.mp hb]; exact h.1 a ha, by show 1 ≤ 100; omega⟩
theorem mem_let {as : List Atom} (h : asOk as) {a : Atom} (ha : a ∈ as) {s : Str} (hs : s ∈ letters [a]) : isLet s := letters_ok (one_ok h ha) hs
theorem one_len {as : List Atom} (h : asOk as) {a : Atom} (ha : a ∈ as) : (letters [a]).length ≤ 10000 := letters_len (one_ok h ha)
def detEn (fs : List Shp) (as : List Atom) (ls : List Str) (z : List Str × Bool) : En :=
  [some (.v (formsD fs)), some (.v (.tuple (as.map atomD))), some (.v (.tuple (ls.map .str))), some (.v (.dict (dsh (fun s => .int s.keys) (fs.filter blkB)))), some (.v (.list (z.1.map .str))), none, some (.v (.bool z.2)), none, none, none, none]
theorem f_determined {fs : List Shp} {as : List Atom} (c : Cx1 fs as) {ls : List Str} {P : Av → Prop} (h : P (.v (.tuple ((byNum (detS fs as (hasS ls))).map .str)))) : F_determined [.v (formsD fs), .v (.tuple (as.map atomD)), .v (.tuple (ls.map .str))] P := by
  have ll := letters_len c.ho
  unfold F_determined defV B_determined
  walk_at "pv"
  refine f_block_keys c.fok ?_
  walk_at "pv"
  refine f_letters_in c.ho ?_
  walk_at "pv"
  refine ⟨by rw [List.length_map]; omega, ?_⟩
  refine lc_map PyData.str (hasS ls) PyData.str trivial (letters as) _ (fun s hs k1 k2 q1 q2 => ?_) ?_
  · walk_at "pv"
    refine ⟨.inl ⟨rfl, flat_strs _⟩, ?_⟩
    rw [any_str]
    cases e : ls.any (· == s) with
    | true => exact q1 e
    | false => exact q2 e
  walk_at "pv"
  refine sWhile_by (detEn fs as ls) (fun z => DI as z.1 ∧ (∃ m, z.1 = itr (rnd fs as) m ((letters as).filter (hasS ls))) ∧ (z.2 = false → rnd fs as z.1 = z.1)) (fun z => if z.2 = true then (letters as).length - z.1.length + 1 else 0) (a := ((letters as).filter (hasS ls), true)) rfl ⟨DI.start as _, ⟨0, rfl⟩, fun e => nomatch e⟩ ?_
  rintro ⟨σ, g⟩ k ⟨hI, ⟨m, hm⟩, hx⟩ q
  unfold wturnV detEn
  cases g with
  | false =>
    have hI : DI as σ := hI
    have hm : σ = itr (rnd fs as) m ((letters as).filter (hasS ls)) := hm
    have z : rnd fs as σ = σ := hx rfl
    walk_at "pv"
    have e1 : σ = detS fs as (hasS ls) := by
      rw [hm] at z ⊢
      exact det_is z
    refine f_by_number (.inl rfl) (fun s hs => letters_ok c.ho (hI.sub s hs)) (by have := hI.len; omega) ?_
    rw [e1]
    walk_at "pv"
    exact h
  | true =>
    have hI : DI as σ := hI
    have hm : σ = itr (rnd fs as) m ((letters as).filter (hasS ls)) := hm
    walk_at "pv"
    refine for_fold (detEn fs as ls) atomD (pst fs) (fun z xs => DI as z.1 ∧ ∀ x, x ∈ xs → x ∈ as) ?_ as (σ, false) ⟨hI, fun x hx => hx⟩ ?_
    · rintro ⟨τ, b⟩ a xs k2 ⟨hJ, hs⟩
      have ha : a ∈ as := hs a List.mem_cons_self
      have hJ : DI as τ := hJ
      refine ⟨⟨by rw [pst_fst]; exact hJ.stp ha, fun x hx => hs x (List.mem_cons_of_mem _ hx)⟩, fun q2 => ?_⟩
      have hn := c.hin a ha
      have g := dsh_get (fun s => .int s.keys) blkB c.fok.nd hn
      unfold turnV detEn
      rw [atomD_eq a]
      walk_at "pv"
      rw [g]
      cases e1 : blkB (shpOf fs a.1) with
      | false =>
        have e2 : pst fs (τ, b) a = (τ, b) := by unfold pst; rw [e1]; rfl
        rw [e2] at q2
        walk_at "pv"
        exact q2
      | true =>
        walk_at "pv"
        refine f_letters_in (as := [a]) (one_ok c.ho ha) ?_
        walk_at "pv"
        have l1 := one_len c.ho ha
        refine ⟨by rw [List.length_map]; omega, ?_⟩
        refine lc_map PyData.str (fun s => !hasS τ s) PyData.str trivial (letters [a]) _ (fun s hs k1 k2 q1 q2 => ?_) ?_
        · walk_at "pv"
          refine ⟨.inl ⟨rfl, flat_strs _⟩, ?_⟩
          rw [any_str]
          cases e : τ.any (· == s) with
          | true => exact q2 (by unfold hasS; rw [e]; rfl)
          | false => exact q1 (by unfold hasS; rw [e]; rfl)
        walk_at "pv"
        have l2 : (added τ a).length ≤ (letters [a]).length := List.length_filter_le _ _
        refine ⟨by rw [List.length_map]; unfold added at l2; omega, ?_⟩
        refine lc_map PyData.str (fun s => inTs (kpre fs a) s) PyData.str trivial (added τ a) _ (fun s hs k1 k2 q1 q2 => ?_) ?_
        · walk_at "pv"
          rw [g, e1]
          refine ⟨_, rfl, ?_⟩
          walk_at "pv"
          rw [cut_terms (c.keys ha)]
          refine ⟨.inr ⟨shp_str (isLet_ok (mem_let c.ho ha (List.mem_filter.mp hs).1)), shp_terms (kpre_ok c ha)⟩, ?_⟩
          cases e : inTs (kpre fs a) s with
          | true => 
            have e2 : (((a.2.take (min (shpOf fs a.1).keys.toNat a.2.length)).map termD).any fun z => PyData.eqv z (.str s)) = true := e
            rw [e2]
            exact q1 e
          | false =>
            have e2 : (((a.2.take (min (shpOf fs a.1).keys.toNat a.2.length)).map termD).any fun z => PyData.eqv z (.str s)) = false := e
            rw [e2]
            exact q2 e
        walk_at "pv"
        have m1 : ((added τ a).map PyData.str).isEmpty = (added τ a).isEmpty := by cases added τ a <;> rfl
        have m2 : ((missing fs τ a).map PyData.str).isEmpty = (missing fs τ a).isEmpty := by cases missing fs τ a <;> rfl
        rw [show ((((letters [a]).filter fun s => !hasS τ s).map PyData.str).isEmpty) = (added τ a).isEmpty from m1]
        rw [show ((((added τ a).filter fun s => inTs (kpre fs a) s).map PyData.str).isEmpty) = (missing fs τ a).isEmpty from m2]
        cases ca : (added τ a).isEmpty with
        | true =>
          have e2 : pst fs (τ, b) a = (τ, b) := by unfold pst; rw [e1, ca]; rfl
          rw [e2] at q2
          exact q2
        | false =>
          cases cm : (missing fs τ a).isEmpty with
          | false =>
            have e2 : pst fs (τ, b) a = (τ, b) := by unfold pst; rw [e1, ca, cm]; rfl
            rw [e2] at q2
            exact q2
          | true =>
            have e2 : pst fs (τ, b) a = (τ ++ added τ a, true) := by unfold pst; rw [e1, ca, cm]; rfl
            rw [e2] at q2
            have l3 := hJ.len
            refine ⟨by rw [List.length_map, List.length_map]; unfold added at l2; omega, ?_⟩
            rw [← List.map_append]
            exact q2
    · obtain ⟨p1, p2⟩ := prnd fs as (σ, false)
      have hR : DI as (rnd fs as σ) := hI.rnd
      have l1 := hI.len
      have l2 := hR.len
      walk_at "pv"
      refine q (as.foldl (pst fs) (σ, false)) ⟨by rw [p1]; exact hR, ⟨m + 1, ?_⟩, fun e => ?_⟩ ?_
      · rw [p1, itr_add]
        show rnd fs as σ = rnd fs as (itr (rnd fs as) m _)
        rw [← hm]
      · rcases p2 with p2 | ⟨p2, _⟩
        · have : rnd fs as σ = σ := by rw [← p1, p2]
          rw [p1]
          show rnd fs as (rnd fs as σ) = rnd fs as σ
          rw [this, this]
        · rw [p2] at e; cases e
      · rcases p2 with p2 | ⟨p2, p3⟩
        · rw [p2]
          simp
        · rw [p2, p1, if_pos rfl, if_pos rfl]
          have p3 : σ.length < (rnd fs as σ).length := p3
          show (letters as).length - (rnd fs as σ).length + 1 < (letters as).length - σ.length + 1
          omega
def nocB (s : Shp) : Bool := !decide (s.kind = "certain")
/-- is the demand of a projection of x met, above these atoms -/
def metB (fs : List Shp) (as : List Atom) (p : Str → Bool) (k x : Str) : Bool :=
  if k = "exclusive" then hasS (detS fs as p) x else !(as.any fun a => nocB (shpOf fs a.1) && !inTs (kpre fs a) x)
theorem f_meets_demand {fs : List Shp} {as : List Atom} (c : Cx1 fs as) {ls : List Str} {k x : Str} (hx : sOk x) {P : Av → Prop} (h : P (.v (.bool (metB fs as (hasS ls) k x)))) : F_meets_demand [.v (formsD fs), .v (.str k), .v (.str x), .v (.tuple (as.map atomD)), .v (.tuple (ls.map .str))] P := by
  have lf := c.fok.len
  unfold F_meets_demand defV B_meets_demand
  walk_at "pv"
  unfold metB at h
  by_cases e : k = "exclusive"
  · rw [if_pos e] at h
    rw [decide_eq_true e]
    walk_at "pv"
    refine f_determined c ?_
    walk_at "pv"
    refine ⟨.inl ⟨rfl, flat_strs _⟩, ?_⟩
    rw [any_str]
    have e2 : ((byNum (detS fs as (hasS ls))).any fun z => z == x) = hasS (detS fs as (hasS ls)) x := hasS_perm (byNum_perm _) x
    rw [e2]
    exact h
  · rw [if_neg e] at h
    rw [decide_eq_false e]
    walk_at "pv"
    unfold formsD
    walk_at "pv"
    refine ⟨by rw [List.length_map]; omega, ?_⟩
    refine dc_map shapeD nocB (fun s => .inr s.name) (fun s => .int s.keys) trivial fs _ _ (fun s hs k1 k2 q1 q2 => ?_) ?_
    · unfold shapeD
      walk_at "pv"
      cases c2 : decide (s.kind = "certain") with
      | true =>
        walk_at "pv"
        exact q2 (by unfold nocB; rw [c2]; rfl)
      | false =>
        walk_at "pv"
        exact q1 (by unfold nocB; rw [c2]; rfl)
    rw [dsh_fold0 _ _ c.fok.nd]
    walk_at "pv"
    refine for_find (Q0 := P (.v (.bool false))) atomD (fun a => nocB (shpOf fs a.1) && !inTs (kpre fs a) x) as (fun a k ha qk q0 => ?_) (fun e => by rw [e] at h; exact h) fun e => ?_
    · unfold turnV
      have g := dsh_get (fun s => .int s.keys) nocB c.fok.nd (c.hin a ha)
      rw [atomD_eq a]
      walk_at "pv"
      rw [g]
      cases e1 : nocB (shpOf fs a.1) with
      | false =>
        walk_at "pv"
        exact qk (by rw [e1]; rfl)
      | true =>
        walk_at "pv"
        rw [if_pos (show (some (PyData.int (shpOf fs a.1).keys)).isSome = true from rfl)]
        rw [cut_terms (c.keys ha)]
        refine ⟨.inr ⟨shp_str hx, shp_terms (kpre_ok c ha)⟩, ?_⟩
        rw [show (((a.2.take (min (shpOf fs a.1).keys.toNat a.2.length)).map termD).any fun z => PyData.eqv z (.str x)) = inTs (kpre fs a) x from rfl]
        cases e2 : inTs (kpre fs a) x with
        | true =>
          walk_at "pv"
          exact qk (by rw [e1, e2]; rfl)
        | false =>
          walk_at "pv"
          exact q0 (by rw [e1, e2]; rfl)
    · rw [e] at h
      walk_at "pv"
      exact h

/-! ### determined letters, demands: the law's own -/
theorem f_shape {fs : List Shp} (hf : FsOk fs) {t : Str} (h : t ∈ fs.map (·.name)) {P : Av → Prop} (q : P (.v (shapeD (shpOf fs t)))) : F__law_shape [.v (formsD fs), .v (.str t)] P :=
  f_law_shape (by have := hf.len; omega) h fun s hs e _ => by
    have e2 : shpOf fs t = s := by rw [← e]; exact shpOf_of hf.nd hs
    rw [e2] at q; exact q
theorem f_key_letters {fs : List Shp} {as : List Atom} (c : Cx1 fs as) {a : Atom} (ha : a ∈ as) {P : Av → Prop} (q : P (.v (.tuple ((kpre fs a).map termD)))) : F__law_key_letters [.v (formsD fs), .v (atomD a)] P := by
  unfold F__law_key_letters defV B__law_key_letters atomD
  walk_at "pv"
  refine f_shape c.fok (c.hin a ha) ?_
  unfold shapeD
  walk_at "pv"
  rw [cut_terms (c.keys ha)]
  exact q
def isL (t : Term) : Bool := match t with
  | .l _ => true
  | .c _ => false
theorem f_law_letter_number {s : Str} (hs : isLet s) {P : Av → Prop} (h : P (.v (.int (lnum s)))) : F__law_letter_number [.v (.str s)] P := f_number_of hs h
theorem smq_strs {ss : List Str} (h : ∀ s, s ∈ ss → okS 1922 s) (hz : ss.length ≤ 100000) {n : Nat} : smq (n + 2) (.tuple (ss.map .str)) = true := by
  unfold smq
  rw [Bool.and_eq_true]
  refine ⟨Nat.ble_eq.mpr (by rw [List.length_map]; exact hz), ?_⟩
  rw [List.all_eq_true]
  intro d hd
  obtain ⟨s, hs, rfl⟩ := List.mem_map.mp hd
  unfold smq
  exact (h s hs).strOk
theorem f_law_determined {fs : List Shp} {as : List Atom} (c : Cx1 fs as) {ls : List Str} {dA dL : PyData} (hd : dA = .tuple (as.map atomD) ∧ dL = .tuple (ls.map .str) ∨ dA = .list (as.map atomD) ∧ dL = .list (ls.map .str)) {P : Av → Prop} (h : P (.n (.list ((detS fs as (hasS ls)).map .str)))) : F__law_determined [.v (formsD fs), .v dA, .v dL] P := by
  have ll := letters_len c.ho
  have la := c.ho.2
  unfold F__law_determined defV B__law_determined
  rcases hd with ⟨rfl, rfl⟩ | ⟨rfl, rfl⟩
  all_goals
    walk_at "pv"
    refine f_law_letters_in (by first | exact .inl rfl | exact .inr rfl) c.ho ?_
    walk_at "pv"
    refine ⟨by rw [List.length_map]; omega, ?_⟩
    refine lc_map PyData.str (hasS ls) PyData.str trivial (letters as) _ (fun s hs k1 k2 q1 q2 => ?_) ?_
    · walk_at "pv"
      refine ⟨.inl ⟨rfl, flat_strs _⟩, ?_⟩
      rw [any_str]
      cases e : ls.any (· == s) with
      | true => exact q1 e
      | false => exact q2 e
    walk_at "pv"
    rw [List.length_map]
    refine ⟨by unfold small62; omega, ?_⟩
    rw [show ((as.length : Int)).toNat = as.length from rfl, rng_map]
    refine for_fold (fun σ => [some (.v (formsD fs)), some (.v _), some (.v _), some (.w (.list (σ.map .str))), none, none, none, none, none]) (fun (i : Nat) => PyData.int (i : Int)) (fun σ _ => rnd fs as σ) (fun σ _ => DI as σ) ?_ (List.range as.length) _ (DI.start as _) ?_
    · intro σ i is k hI
      refine ⟨hI.rnd, fun q => ?_⟩
      unfold turnV
      walk_at "pv"
      refine for_fold (fun σ => [some (.v (formsD fs)), some (.v _), some (.v _), some (.w (.list (σ.map .str))), none, some (.v (.int (i : Int))), none, none, none]) atomD (stp fs) (fun σ xs => DI as σ ∧ ∀ x, x ∈ xs → x ∈ as) ?_ as σ ⟨hI, fun x hx => hx⟩ ?_
      · rintro τ a xs k2 ⟨hJ, hs⟩
        have ha : a ∈ as := hs a List.mem_cons_self
        refine ⟨⟨hJ.stp ha, fun x hx => hs x (List.mem_cons_of_mem _ hx)⟩, fun q2 => ?_⟩
        unfold turnV
        walk_at "pv"
        refine f_key_letters c ha ?_
        walk_at "pv"
        have lk : (kpre fs a).length ≤ 100 := Nat.le_trans (by unfold kpre; rw [List.length_take]; omega) (c.ho.1 a ha).2.2
        refine ⟨by rw [List.length_map]; omega, ?_⟩
        refine lc_map termD (lackP τ) termD trivial (kpre fs a) _ (fun t ht k1 k2 q1 q2 => ?_) ?_
        · cases t with
          | c x =>
            unfold termD
            walk_at "pv"
            exact q2 rfl
          | l s =>
            unfold termD at q1 ⊢
            walk_at "pv"
            refine ⟨.inl ⟨rfl, flat_strs _⟩, ?_⟩
            rw [any_str]
            cases e : τ.any (· == s) with
            | true =>
              walk_at "pv"
              exact q2 (by show (!hasS τ s) = false; unfold hasS; rw [e]; rfl)
            | false =>
              walk_at "pv"
              exact q1 (by show (!hasS τ s) = true; unfold hasS; rw [e]; rfl)
        rw [atomD_eq a]
        walk_at "pv"
        refine f_shape c.fok (c.hin a ha) ?_
        unfold shapeD
        walk_at "pv"
        have en : decide (((((kpre fs a).filter (lackP τ)).map termD).length : Int) = 0) = (missing fs τ a).isEmpty := by
          rw [List.length_map, ← lack_missing, Bool.eq_iff_iff, decide_eq_true_iff, List.isEmpty_iff]
          show ((lackT fs τ a).length : Int) = 0 ↔ _
          cases lackT fs τ a with
          | nil => simp
          | cons x y => simp; omega
        rw [en]
        cases e1 : blkB (shpOf fs a.1) with
        | false =>
          have e2 : stp fs τ a = τ := by unfold stp; rw [e1]; rfl
          rw [show decide ((shpOf fs a.1).kind = Str.ofString "block") = false from e1]
          rw [e2] at q2
          exact q2
        | true =>
          rw [show decide ((shpOf fs a.1).kind = Str.ofString "block") = true from e1]
          cases cm : (missing fs τ a).isEmpty with
          | false =>
            have e2 : stp fs τ a = τ := by unfold stp; rw [e1, cm]; rfl
            rw [e2] at q2
            exact q2
          | true =>
            have e2 : stp fs τ a = τ ++ added τ a := by unfold stp; rw [e1, cm]; rfl
            rw [e2] at q2
            walk_at "pv"
            refine f_law_letters_in (as := [a]) (.inl rfl) (one_ok c.ho ha) ?_
            walk_at "pv"
            have l1 := one_len c.ho ha
            refine ⟨by rw [List.length_map]; omega, ?_⟩
            refine lc_map PyData.str (fun s => !hasS τ s) PyData.str trivial (letters [a]) _ (fun s hs k1 k2 q1 q2 => ?_) ?_
            · walk_at "pv"
              refine ⟨.inl ⟨rfl, flat_strs _⟩, ?_⟩
              rw [any_str]
              cases e : τ.any (· == s) with
              | true => exact q2 (by unfold hasS; rw [e]; rfl)
              | false => exact q1 (by unfold hasS; rw [e]; rfl)
            walk_at "pv"
            have l2 : (added τ a).length ≤ (letters [a]).length := List.length_filter_le _ _
            have l3 := hJ.len
            refine ⟨by rw [List.length_map, List.length_map]; unfold added at l2; omega, ?_⟩
            rw [← List.map_append]
            exact q2
      · walk_at "pv"
        exact q
    · walk_at "pv"
      rw [rng_fold (rnd fs as) as.length _ _ List.length_range]
      exact h
theorem f_law_in_order {xs : List Str} (hl : ∀ s, s ∈ xs → isLet s) (hz : xs.length ≤ 100000) {P : Av → Prop} (h : P (.n (.list ((byNum xs).map .str)))) : F__law_in_order [.v (.list (xs.map .str))] P := by
  have key : bSortBy F__law_letter_number [.list (xs.map .str)] fun z => z.retK [some (Av.v (.list (xs.map .str)))] P := by
    refine ⟨lkey, noL_strs xs, by rw [List.length_map]; omega, ?_, fun d hd => ?_, ?_⟩
    · have e : (xs.map PyData.str).map lkey = xs.map fun s => .int (lnum s) := by rw [List.map_map]; rfl
      rw [e]
      exact kok_ints lnum xs
    · obtain ⟨s, hs, rfl⟩ := List.mem_map.mp hd
      exact ⟨by unfold lkey noK; rfl, fun P' q => f_law_letter_number (hl s hs) q⟩
    · rw [sort_lkey]
      exact h
  unfold F__law_in_order defV B__law_in_order
  walk_at "pv"
  exact key
theorem f_law_determined_right {fs : List Shp} {as : List Atom} (c : Cx1 fs as) {ls : List Str} {P : Av → Prop} (h : P (.v (.bool true))) : F__law_determined_right [.v (formsD fs), .v (.tuple (as.map atomD)), .v (.tuple (ls.map .str))] P := by
  have hI := DI.det fs as (hasS ls)
  have ll := letters_len c.ho
  have l1 := hI.len
  unfold F__law_determined_right defV B__law_determined_right
  walk_at "pv"
  refine f_law_determined c (.inl ⟨rfl, rfl⟩) ?_
  walk_at "pv"
  refine f_law_in_order (fun s hs => letters_ok c.ho (hI.sub s hs)) (by omega) ?_
  walk_at "pv"
  refine f_determined c ?_
  walk_at "pv"
  refine f_same 130 _ (smq_strs (fun s hs => isLet_ok (letters_ok c.ho (hI.sub s ((byNum_perm _).mem_iff.mp hs)))) (by rw [(byNum_perm _).length_eq]; omega)) _ ?_
  walk_at "pv"
  exact h

/-! ### demands: both -/
def freeOf (m : Mem) (q : Plan) : List Str := (letters (below m q)).filter fun s => !hasS (plets q) s
def kindP : Plan → Str
  | .proj k _ _ => k
  | _ => Str.empty
def metP (fs : List Shp) (m : Mem) (q : Plan) : Bool := metB fs (below m q) (hasS (freeOf m q)) (kindP q) (plet q)
structure Cx2 (fs : List Shp) (m : Mem) : Prop where
  c : Cx1 fs m.atoms
  ho : mOk m
theorem Cx2.low {fs : List Shp} {m : Mem} (c : Cx2 fs m) (q : Plan) : Cx1 fs (below m q) := ⟨c.c.fok, c.c.klo, below_ok c.ho q, fun a ha => c.c.hin a (List.mem_filter.mp ha).1⟩
theorem f_below {m : Mem} {p : Plan} (ho : mOk m) (hp : pOk 130 p) (hz : psize p ≤ 2000) {P : Av → Prop} (h : P (.v (.tuple ((below m p).map atomD)))) : F_atoms_below [.v (memD m), .v (planD p)] P := by
  have ha := ho.2.2.2
  have em : memD m = .tuple [.str "select", .tuple (m.head.map termD), .tuple (m.atoms.map atomD), .tuple []] := rfl
  unfold F_atoms_below defV B_atoms_below
  rw [em]
  walk_at "pv"
  refine f_tables_in 130 p hp hz _ ?_
  walk_at "pv"
  refine ⟨by rw [List.length_map]; omega, ?_⟩
  refine lc_map atomD (fun a => (names p).any (· == a.1)) atomD trivial m.atoms _ (fun a _ k1 k2 q1 q2 => ?_) ?_
  · unfold atomD at q1 ⊢
    walk_at "pv"
    refine ⟨.inl ⟨rfl, flat_strs _⟩, ?_⟩
    rw [any_str]
    cases c : (names p).any (· == a.1) with
    | true =>
      walk_at "pv"
      exact q1 c
    | false =>
      walk_at "pv"
      exact q2 c
  · walk_at "pv"
    exact h
theorem f_free_letters {m : Mem} {p : Plan} (ho : mOk m) (hp : pOk 130 p) (hz : psize p ≤ 2000) {P : Av → Prop} (h : P (.v (.tuple ((byNum (freeOf m p)).map .str)))) : F_free_letters [.v (memD m), .v (planD p)] P := by
  have lp := projs_le p
  have bo := below_ok ho p
  have ll := letters_len bo
  unfold F_free_letters defV B_free_letters
  walk_at "pv"
  refine f_projections 130 p hp hz _ ?_
  walk_at "pv"
  refine ⟨by rw [List.length_map]; omega, ?_⟩
  refine lc_all planD (fun q => .str (plet q)) trivial (projs p) _ (fun q hq k1 qk => ?_) ?_
  · obtain ⟨a, c, e⟩ := plet_d (projs_are p q hq)
    rw [e]
    walk_at "pv"
    exact qk
  rw [show (projs p).map (fun q => PyData.str (plet q)) = (plets p).map PyData.str from by unfold plets; rw [List.map_map]; rfl]
  walk_at "pv"
  refine f_below ho hp hz ?_
  walk_at "pv"
  refine f_letters_in bo ?_
  walk_at "pv"
  refine ⟨by rw [List.length_map]; omega, ?_⟩
  refine lc_map PyData.str (fun s => !hasS (plets p) s) PyData.str trivial (letters (below m p)) _ (fun s hs k1 k2 q1 q2 => ?_) ?_
  · walk_at "pv"
    refine ⟨.inl ⟨rfl, flat_strs _⟩, ?_⟩
    rw [any_str]
    cases e : (plets p).any (· == s) with
    | true => exact q2 (by unfold hasS; rw [e]; rfl)
    | false => exact q1 (by unfold hasS; rw [e]; rfl)
  walk_at "pv"
  refine f_by_number (.inl rfl) (fun s hs => letters_ok bo (List.mem_filter.mp hs).1) ?_ ?_
  · exact Nat.le_trans (List.length_filter_le _ _) (by omega)
  walk_at "pv"
  exact h
theorem f_is_met {fs : List Shp} {m : Mem} (c : Cx2 fs m) {k x : Str} {p : Plan} (hp : pOk 130 (.proj k x p)) (hz : psize (.proj k x p) ≤ 2000) {P : Av → Prop} (h : P (.v (.bool (metP fs m (.proj k x p))))) : F_is_met [.v (formsD fs), .v (memD m), .v (planD (.proj k x p))] P := by
  unfold F_is_met defV B_is_met
  walk_at "pv"
  rw [show opIx (planD (.proj k x p)) (.int 0) = fun ka => ka (.v (.str k)) from by funext ka; rw [planD_proj, ix_t0], show opIx (planD (.proj k x p)) (.int 1) = fun ka => ka (.v (.str x)) from by funext ka; rw [planD_proj, ix_t1]]
  walk_at "pv"
  refine f_below c.ho hp hz ?_
  walk_at "pv"
  refine f_free_letters c.ho hp hz ?_
  walk_at "pv"
  refine f_meets_demand (c.low _) (pOk_proj hp).2.1 ?_
  walk_at "pv"
  have e : hasS (byNum (freeOf m (.proj k x p))) = hasS (freeOf m (.proj k x p)) := funext fun s => hasS_perm (byNum_perm _) s
  rw [e]
  exact h
def demD (fs : List Shp) (m : Mem) (q : Plan) : PyData := .tuple [.str (plet q), .bool (metP fs m q)]
theorem proj_of {p q : Plan} (h : q ∈ projs p) : ∃ k x r, q = .proj k x r := by
  have := projs_are p q h
  cases q with
  | tab s => exact this.elim
  | join ps => exact this.elim
  | proj k x r => exact ⟨k, x, r, rfl⟩
theorem f_demands {fs : List Shp} {m : Mem} (c : Cx2 fs m) {p : Plan} (hp : pOk 130 p) (hz : psize p ≤ 2000) {P : Av → Prop} (h : P (.v (.tuple ((projs p).map (demD fs m))))) : F_demands [.v (formsD fs), .v (memD m), .v (planD p)] P := by
  have lp := projs_le p
  unfold F_demands defV B_demands
  walk_at "pv"
  refine f_projections 130 p hp hz _ ?_
  walk_at "pv"
  refine ⟨by rw [List.length_map]; omega, ?_⟩
  refine lc_all planD (demD fs m) trivial (projs p) _ (fun q hq k1 qk => ?_) ?_
  · obtain ⟨k, x, r, rfl⟩ := proj_of hq
    obtain ⟨o1, o2⟩ := projs_ok 130 p _ hp hq
    walk_at "pv"
    rw [show opIx (planD (.proj k x r)) (.int 1) = fun ka => ka (.v (.str x)) from by funext ka; rw [planD_proj, ix_t1]]
    walk_at "pv"
    refine f_is_met c o1 (by omega) ?_
    walk_at "pv"
    exact qk
  walk_at "pv"
  exact h
theorem f_is_safe {fs : List Shp} {m : Mem} (c : Cx2 fs m) {p : Plan} (hp : pOk 130 p) (hz : psize p ≤ 2000) {P : Av → Prop} (h : P (.v (.bool ((projs p).all (metP fs m))))) : F_is_safe [.v (formsD fs), .v (memD m), .v (planD p)] P := by
  have lp := projs_le p
  unfold F_is_safe defV B_is_safe
  walk_at "pv"
  refine f_demands c hp hz ?_
  walk_at "pv"
  refine ⟨by rw [List.length_map]; omega, ?_⟩
  refine lc_all (demD fs m) (fun q => .bool (metP fs m q)) trivial (projs p) _ (fun q hq k1 qk => ?_) ?_
  · unfold demD
    walk_at "pv"
    exact qk
  walk_at "pv"
  refine ⟨(projs p).map (metP fs m), by rw [List.map_map]; rfl, ?_⟩
  walk_at "pv"
  rw [List.all_map]
  exact h
theorem f_law_demand_met {fs : List Shp} {m : Mem} (c : Cx2 fs m) {k x : Str} {p : Plan} (hp : pOk 130 (.proj k x p)) (hz : psize (.proj k x p) ≤ 2000) {P : Av → Prop} (h : P (.v (.bool (metP fs m (.proj k x p))))) : F__law_demand_met [.v (formsD fs), .v (memD m), .v (planD (.proj k x p))] P := by
  have c1 := c.low (.proj k x p)
  have lb := c1.ho.2
  have ll := letters_len c1.ho
  have i0 : opIx (planD (.proj k x p)) (.int 0) = fun ka => ka (.v (.str k)) := by funext ka; rw [planD_proj, ix_t0]
  have i1 : opIx (planD (.proj k x p)) (.int 1) = fun ka => ka (.v (.str x)) := by funext ka; rw [planD_proj, ix_t1]
  unfold F__law_demand_met defV B__law_demand_met
  walk_at "pv"
  refine f_atoms_below c.ho hp hz ?_
  walk_at "pv"
  rw [i0]
  walk_at "pv"
  have hm : metP fs m (.proj k x p) = metB fs (below m (.proj k x p)) (hasS (freeOf m (.proj k x p))) k x := rfl
  rw [hm] at h
  unfold metB at h
  by_cases e : k = "independent"
  · rw [if_neg (by rw [e]; decide)] at h
    rw [decide_eq_true e]
    walk_at "pv"
    refine ⟨by rw [List.length_map]; omega, ?_⟩
    refine lc_map atomD (fun a => !inTs (kpre fs a) x) atomD trivial (below m (.proj k x p)) _ (fun a ha k1 k2 q1 q2 => ?_) ?_
    · walk_at "pv"
      rw [i1]
      walk_at "pv"
      refine f_key_letters c1 ha ?_
      walk_at "pv"
      refine ⟨.inr ⟨shp_str (pOk_proj hp).2.1, shp_terms (kpre_ok c1 ha)⟩, ?_⟩
      rw [show (((kpre fs a).map termD).any fun z => PyData.eqv z (.str x)) = inTs (kpre fs a) x from rfl]
      cases e2 : inTs (kpre fs a) x with
      | true => exact q2 (by rw [e2]; rfl)
      | false => exact q1 (by rw [e2]; rfl)
    walk_at "pv"
    refine ⟨by rw [List.length_map]; exact Nat.le_trans (List.length_filter_le _ _) (by omega), ?_⟩
    refine lc_map atomD (fun a => nocB (shpOf fs a.1)) atomD trivial _ _ (fun a ha k1 k2 q1 q2 => ?_) ?_
    · have ha2 := (List.mem_filter.mp ha).1
      rw [atomD_eq a] at q1 ⊢
      walk_at "pv"
      refine f_shape c1.fok (c1.hin a ha2) ?_
      unfold shapeD
      walk_at "pv"
      cases c2 : decide ((shpOf fs a.1).kind = "certain") with
      | true =>
        walk_at "pv"
        exact q2 (by unfold nocB; rw [c2]; rfl)
      | false =>
        walk_at "pv"
        exact q1 (by unfold nocB; rw [c2]; rfl)
    walk_at "pv"
    rw [List.length_map, List.filter_filter]
    have e3 : decide ((((below m (.proj k x p)).filter fun a => nocB (shpOf fs a.1) && !inTs (kpre fs a) x).length : Int) = 0) = !((below m (.proj k x p)).any fun a => nocB (shpOf fs a.1) && !inTs (kpre fs a) x) := by
      generalize below m (.proj k x p) = bs
      rw [Bool.eq_iff_iff, decide_eq_true_iff, Bool.not_eq_true', List.any_eq_false]
      constructor
      · intro z a ha hc
        have : a ∈ bs.filter fun a => nocB (shpOf fs a.1) && !inTs (kpre fs a) x := List.mem_filter.mpr ⟨ha, hc⟩
        have l := List.length_pos_of_mem this
        omega
      · intro z
        rw [List.filter_eq_nil_iff.mpr z]
        rfl
    rw [e3]
    exact h
  · have ek : k = "exclusive" := by
      rcases (pOk_proj hp).1 with z | z
      · exact absurd z e
      · exact z
    rw [if_pos ek] at h
    rw [decide_eq_false e]
    walk_at "pv"
    refine f_law_projected hp hz ?_
    walk_at "pv"
    refine f_law_letters_in (.inl rfl) c1.ho ?_
    walk_at "pv"
    refine ⟨by rw [List.length_map]; omega, ?_⟩
    refine lc_map PyData.str (fun s => !hasS (plets (.proj k x p)) s) PyData.str trivial (letters (below m (.proj k x p))) _ (fun s hs k1 k2 q1 q2 => ?_) ?_
    · walk_at "pv"
      refine ⟨.inl ⟨rfl, flat_strs _⟩, ?_⟩
      rw [any_str]
      cases e : (plets (.proj k x p)).any (· == s) with
      | true => exact q2 (by unfold hasS; rw [e]; rfl)
      | false => exact q1 (by unfold hasS; rw [e]; rfl)
    walk_at "pv"
    rw [i1]
    walk_at "pv"
    refine f_law_determined c1 (.inr ⟨rfl, rfl⟩) ?_
    walk_at "pv"
    refine ⟨.inl ⟨rfl, flat_strs _⟩, ?_⟩
    rw [any_str]
    exact h
theorem f_law_demands_right {fs : List Shp} {m : Mem} (c : Cx2 fs m) {p : Plan} (hp : pOk 130 p) (hz : psize p ≤ 2000) {P : Av → Prop} (h : P (.v (.bool true))) : F__law_demands_right [.v (formsD fs), .v (memD m), .v (planD p)] P := by
  have lp := projs_le p
  unfold F__law_demands_right defV B__law_demands_right
  walk_at "pv"
  refine f_law_projections 130 p hp hz _ ?_
  walk_at "pv"
  refine ⟨by rw [List.length_map]; omega, ?_⟩
  refine lc_all planD (demD fs m) trivial (projs p) _ (fun q hq k1 qk => ?_) ?_
  · obtain ⟨k, x, r, rfl⟩ := proj_of hq
    obtain ⟨o1, o2⟩ := projs_ok 130 p _ hp hq
    walk_at "pv"
    rw [show opIx (planD (.proj k x r)) (.int 1) = fun ka => ka (.v (.str x)) from by funext ka; rw [planD_proj, ix_t1]]
    walk_at "pv"
    refine f_law_demand_met c o1 (by omega) ?_
    walk_at "pv"
    exact qk
  walk_at "pv"
  refine f_demands c hp hz ?_
  walk_at "pv"
  refine f_same 130 _ ?_ _ ?_
  · unfold smq
    rw [Bool.and_eq_true]
    refine ⟨Nat.ble_eq.mpr (by rw [List.length_map]; omega), ?_⟩
    rw [List.all_eq_true]
    intro d hd
    obtain ⟨q, hq, rfl⟩ := List.mem_map.mp hd
    obtain ⟨k, x, r, rfl⟩ := proj_of hq
    have o1 := (projs_ok 130 p _ hp hq).1
    have := ((pOk_proj o1).2.1).strOk
    unfold demD smq
    simp only [List.all_cons, List.all_nil]
    unfold smq
    show (Nat.ble 2 100000 && (PyData.strOk x && (true && true))) = true
    rw [this]
    rfl
  walk_at "pv"
  exact h
theorem f_law_safe_right {fs : List Shp} {m : Mem} (c : Cx2 fs m) {p : Plan} (hp : pOk 130 p) (hz : psize p ≤ 2000) {P : Av → Prop} (h : P (.v (.bool true))) : F__law_safe_right [.v (formsD fs), .v (memD m), .v (planD p)] P := by
  have lp := projs_le p
  unfold F__law_safe_right defV B__law_safe_right
  walk_at "pv"
  refine f_law_projections 130 p hp hz _ ?_
  walk_at "pv"
  refine ⟨by rw [List.length_map]; omega, ?_⟩
  refine lc_map planD (fun q => !metP fs m q) planD trivial (projs p) _ (fun q hq k1 k2 q1 q2 => ?_) ?_
  · obtain ⟨k, x, r, rfl⟩ := proj_of hq
    obtain ⟨o1, o2⟩ := projs_ok 130 p _ hp hq
    walk_at "pv"
    refine f_law_demand_met c o1 (by omega) ?_
    walk_at "pv"
    cases e : metP fs m (.proj k x r) with
    | true => exact q2 (by rw [e]; rfl)
    | false => exact q1 (by rw [e]; rfl)
  walk_at "pv"
  refine f_is_safe c hp hz ?_
  walk_at "pv"
  have e3 : decide (((((projs p).filter fun q => !metP fs m q).map planD).length : Int) = 0) = (projs p).all (metP fs m) := by
    rw [List.length_map]
    generalize projs p = bs
    rw [Bool.eq_iff_iff, decide_eq_true_iff, List.all_eq_true]
    constructor
    · intro z a ha
      cases e : metP fs m a with
      | true => rfl
      | false =>
        have : a ∈ bs.filter fun q => !metP fs m q := List.mem_filter.mpr ⟨ha, by rw [e]; rfl⟩
        have l := List.length_pos_of_mem this
        omega
    · intro z
      rw [List.filter_eq_nil_iff.mpr fun a ha => by rw [z a ha]; decide]
      rfl
  rw [e3]
  refine f_same 130 _ (by unfold smq; rfl) _ ?_
  walk_at "pv"
  exact h

/-! ### what the law draws -/
theorem cut_from {α : Type} (f : α → PyData) (xs : List α) {r : Int} (a : 0 ≤ r) (b : r < xs.length) : cutD (xs.map f) (some (r + 1)) none = (xs.drop (r.toNat + 1)).map f := by
  have e : r + 1 = ((r.toNat + 1 : Nat) : Int) := by omega
  unfold cutD
  rw [e, HT.sIx_nat, HT.sIx_none, List.length_map, List.map_drop, List.take_of_length_le (by rw [List.length_drop, List.length_map]; omega)]
  congr 1
  omega
theorem cut_to {α : Type} (f : α → PyData) (xs : List α) {r : Int} (a : 0 ≤ r) (b : r ≤ xs.length) : cutD (xs.map f) none (some r) = (xs.take r.toNat).map f := by
  rw [cut_upto a, List.length_map, ← List.map_take]
  congr 2
  omega
theorem f_some {ls : List Str} (hz : ls.length ≤ 100000) {P : Av → Prop} (h : ∀ rs : List Str, (∀ s, s ∈ rs → s ∈ ls) → P (.v (.tuple (rs.map .str)))) : F__law_some [.tp, .v (.list (ls.map .str))] P := by
  unfold F__law_some defV B__law_some
  walk_at "pv"
  refine ⟨by decide, fun r r0 r1 => ?_⟩
  walk_at "pv"
  refine ⟨by rw [List.length_map]; omega, ?_⟩
  refine lc_some PyData.str trivial ls _ (fun s hs k1 k2 q1 q2 => ?_) fun ys hy => ?_
  · walk_at "pv"
    refine ⟨by decide, fun z z0 z1 => ?_⟩
    walk_at "pv"
    split
    · exact q1
    · exact q2
  walk_at "pv"
  refine f_shuffled (.inl rfl) (by rw [List.length_map]; have := hy.length_le; omega) fun es he => ?_
  walk_at "pv"
  obtain ⟨rs, rfl, hr⟩ := data_map PyData.str (fun s => s ∈ ls) es fun y hm => by
    obtain ⟨x, hx, rfl⟩ := List.mem_map.mp (he.mem_iff.mp hm)
    exact ⟨x, rfl, hy.subset hx⟩
  exact h rs hr
theorem f_other_kind {fs : List Shp} (hf : FsOk fs) (h0 : 0 < fs.length) (hs : ∀ s, s ∈ fs → ShpOk s) {P : Av → Prop} (h : ∀ gs, FsOk gs → gs.map (·.name) = fs.map (·.name) → (∀ s, s ∈ gs → ShpOk s) → P (.v (formsD gs))) : F__law_other_kind [.tp, .v (formsD fs)] P := by
  have hl := hf.len
  unfold F__law_other_kind defV B__law_other_kind formsD
  walk_at "pv"
  rw [List.length_map]
  refine ⟨by omega, fun r r0 r1 => ?_⟩
  walk_at "pv"
  have rl : r < (fs.length : Int) := by omega
  have hr : r.toNat < fs.length := by omega
  refine ⟨shapeD fs[r.toNat], by rw [dix_atN r0 (by rw [List.length_map]; exact rl), List.getElem?_map, List.getElem?_eq_getElem hr]; rfl, ?_⟩
  obtain ⟨s, es⟩ : ∃ s, s = fs[r.toNat] := ⟨_, rfl⟩
  have hm : s ∈ fs := by rw [es]; exact List.getElem_mem hr
  rw [← es]
  have so := hs s hm
  rw [show shapeD s = .tuple [.str s.name, .str s.kind, .int s.cols, .int s.keys] from rfl]
  walk_at "pv"
  refine f_pick (ds := (["independent", "certain", "block", "block", "block"] : List Str).map PyData.str) (.inl rfl) (by decide) (by decide) fun x hx => ?_
  obtain ⟨nk, rfl, _⟩ := pick_strs hx
  have fin : ∀ kk : Int, 0 ≤ kk → kk ≤ s.cols → FsOk (fs.take r.toNat ++ [(⟨s.name, nk, s.cols, kk⟩ : Shp)] ++ fs.drop (r.toNat + 1)) ∧ (fs.take r.toNat ++ [(⟨s.name, nk, s.cols, kk⟩ : Shp)] ++ fs.drop (r.toNat + 1)).map (·.name) = fs.map (·.name) ∧ ∀ g, g ∈ fs.take r.toNat ++ [(⟨s.name, nk, s.cols, kk⟩ : Shp)] ++ fs.drop (r.toNat + 1) → ShpOk g := by
    intro kk k0 k1
    have en : (fs.take r.toNat ++ [(⟨s.name, nk, s.cols, kk⟩ : Shp)] ++ fs.drop (r.toNat + 1)).map (·.name) = fs.map (·.name) := by
      have e2 : fs = fs.take r.toNat ++ [s] ++ fs.drop (r.toNat + 1) := by
        rw [es, List.append_assoc, List.singleton_append, ← List.drop_eq_getElem_cons hr, List.take_append_drop]
      conv => rhs; rw [e2]
      rw [List.map_append, List.map_append, List.map_append, List.map_append]
      rfl
    refine ⟨⟨by rw [en]; exact hf.nd, ?_⟩, en, fun g hg => ?_⟩
    · have := congrArg List.length en
      rw [List.length_map, List.length_map] at this
      rw [this]; exact hl
    · rcases List.mem_append.mp hg with hg | hg
      · rcases List.mem_append.mp hg with hg | hg
        · exact hs g (List.mem_of_mem_take hg)
        · rw [List.mem_singleton.mp hg]
          exact ⟨so.name, so.lo, so.hi, k0, k1⟩
      · exact hs g (List.mem_of_mem_drop hg)
  have c1 := so.lo
  have c4 := so.hi
  have done : ∀ kk : Int, 0 ≤ kk → kk ≤ s.cols → P (.v (.tuple (cutD (fs.map shapeD) none (some r) ++ [.tuple [.str s.name, .str nk, .int s.cols, .int kk]] ++ cutD (fs.map shapeD) (some (r + 1)) none))) := by
    intro kk k0 k1
    rw [cut_from shapeD fs r0 rl, cut_to shapeD fs r0 (by omega)]
    obtain ⟨a, b, c⟩ := fin kk k0 k1
    have := h _ a b c
    unfold formsD at this
    rw [List.map_append, List.map_append] at this
    exact this
  have len1 : (cutD (fs.map shapeD) none (some r)).length ≤ 100 := by rw [cut_to shapeD fs r0 (by omega), List.length_map, List.length_take]; omega
  have len2 : (cutD (fs.map shapeD) (some (r + 1)) none).length ≤ 100 := by rw [cut_from shapeD fs r0 rl, List.length_map, List.length_drop]; omega
  walk_at "pv"
  split
  · refine ⟨by omega, fun q q0 q1 => ?_⟩
    walk_at "pv"
    refine ⟨by omega, by rw [List.length_append, List.length_singleton]; omega, ?_⟩
    exact done q q0 (by omega)
  · refine ⟨by omega, by rw [List.length_append, List.length_singleton]; omega, ?_⟩
    exact done s.cols (by omega) (Int.le_refl _)
def twF (kind : Str) (keys : Int) : List Shp := [⟨"a", kind, 4, keys⟩, ⟨"b", kind, 4, keys⟩, ⟨"c", kind, 4, keys⟩]
def twA : List Atom := [("a", [.l (lname 0), .l (lname 1), .l (lname 2), .l (lname 3)]), ("b", [.l (lname 4), .l (lname 5), .l (lname 6), .l (lname 7)]), ("c", [.l (lname 8), .l (lname 9), .l (lname 10), .l (lname 11)])]
theorem f_twelve {kind : Str} {keys : Int} {P : Av → Prop} (h : P (.v (.tuple [formsD (twF kind keys), memD ⟨[], twA⟩]))) : F__law_twelve [.v (.str kind), .v (.int keys)] P := by
  unfold F__law_twelve defV B__law_twelve
  walk_at "pv"
  refine lc_all PyData.str (fun s => .tuple [.str s, .str kind, .int 4, .int keys]) trivial (["a", "b", "c"] : List Str) _ (fun s _ k1 q => ?_) ?_
  · walk_at "pv"
    exact q
  walk_at "pv"
  refine ⟨by unfold small62; decide, by decide +kernel, ?_⟩
  rw [rng_map]
  refine lc_all (fun (i : Nat) => PyData.int (i : Int)) (fun i => .str (lname (i : Int))) trivial (List.range 12) _ (fun i hi k1 q => ?_) ?_
  · have hi := List.mem_range.mp hi
    have ok := okS_int (i : Int) (by omega)
    walk_at "pv"
    refine ⟨Nat.lt_of_lt_of_le (show (i : Int).natAbs < 2 ^ 20 by omega) (Nat.pow_le_pow_right (by decide) (by decide)), ?_, q⟩
    have := ok.1
    have e1 : ("x" : Str).length = 1 := by decide +kernel
    omega
  rw [show List.range 12 = [0, 1, 2, 3, 4, 5, 6, 7, 8, 9, 10, 11] from by decide]
  walk_at "pv"
  exact h
theorem tw_ok : mOk ⟨[], twA⟩ := by
  have l : ∀ k : Int, 0 ≤ k → k < 12 → tOk (.l (lname k)) := fun k h0 h1 => ⟨k, h0, by omega, rfl⟩
  have nm : ∀ s : Str, Nat.ble s.cps.toList.length 1 = true ∧ s.cps.toList.all (fun c => Nat.blt c 0x110000) = true → sOk s := fun s h => (okS_of (n := 1) (x := s) h.1 h.2).mono (by decide)
  refine ⟨fun _ h => (nomatch h), by show 0 ≤ 100; omega, fun a h => ?_, by show 3 ≤ 100; omega⟩
  simp only [twA, List.mem_cons, List.not_mem_nil, or_false] at h
  rcases h with rfl | rfl | rfl
  · refine ⟨nm _ (by decide +kernel), fun t ht => ?_, by show 4 ≤ 100; omega⟩
    simp only [List.mem_cons, List.not_mem_nil, or_false] at ht
    rcases ht with rfl | rfl | rfl | rfl <;> exact l _ (by decide) (by decide)
  · refine ⟨nm _ (by decide +kernel), fun t ht => ?_, by show 4 ≤ 100; omega⟩
    simp only [List.mem_cons, List.not_mem_nil, or_false] at ht
    rcases ht with rfl | rfl | rfl | rfl <;> exact l _ (by decide) (by decide)
  · refine ⟨nm _ (by decide +kernel), fun t ht => ?_, by show 4 ≤ 100; omega⟩
    simp only [List.mem_cons, List.not_mem_nil, or_false] at ht
    rcases ht with rfl | rfl | rfl | rfl <;> exact l _ (by decide) (by decide)

/-! ### k47: the law's own statements -/
theorem shp_cx {fs gs : List Shp} {m : Mem} (hf : FsOk gs) (e : gs.map (·.name) = fs.map (·.name)) (hs : ∀ s, s ∈ gs → ShpOk s) (ho : mOk m) (hin : ∀ t, t ∈ tabs m → t ∈ fs.map (·.name)) : Cx2 gs m :=
  ⟨⟨hf, fun s h => (hs s h).klo, ho.2.2, fun a ha => by rw [e]; exact hin _ (List.mem_map.mpr ⟨a, ha, rfl⟩)⟩, ho⟩
theorem Cx1.sub {fs : List Shp} {as bs : List Atom} (c : Cx1 fs as) (h : bs.Sublist as) : Cx1 fs bs := ⟨c.fok, c.klo, ⟨fun a ha => c.ho.1 a (h.subset ha), Nat.le_trans h.length_le c.ho.2⟩, fun a ha => c.hin a (h.subset ha)⟩
def seatF : List Shp := [⟨"t", "block", 2, 1⟩]
def oneM : Mem := ⟨[], [("t", [.l "x0", .l "x1"])]⟩
def keyF : List Shp := [⟨"a", "block", 2, 1⟩, ⟨"b", "block", 2, 1⟩, ⟨"c", "independent", 2, 2⟩]
def chainA : List Atom := [("b", [.l "x0", .l "x1"]), ("c", [.l "x1", .l "x2"]), ("a", [.l "x3", .l "x0"])]
theorem lt_let (k : Int) (h0 : 0 ≤ k) (h1 : k < 1000000) : isLet (lname k) := ⟨k, h0, h1, rfl⟩
theorem x0_let : isLet "x0" := ⟨0, by decide, by decide, by decide +kernel⟩
theorem x1_let : isLet "x1" := ⟨1, by decide, by decide, by decide +kernel⟩
theorem x2_let : isLet "x2" := ⟨2, by decide, by decide, by decide +kernel⟩
theorem x3_let : isLet "x3" := ⟨3, by decide, by decide, by decide +kernel⟩
theorem nm1 (s : Str) (h : Nat.ble s.cps.toList.length 1 = true ∧ Nat.ble 1 s.cps.toList.length = true) (h2 : s.cps.toList.all (fun c => Nat.blt c 0x110000) = true) : sOk s := (okS_of (n := 1) (x := s) h.1 h2).mono (by decide)
theorem tw_cx : Cx1 (twF "block" 0) twA := by
  refine ⟨⟨by show (["a", "b", "c"] : List Str).Nodup; decide +kernel, by decide⟩, fun s h => ?_, tw_ok.2.2, fun a h => ?_⟩
  · simp only [twF, List.mem_cons, List.not_mem_nil, or_false] at h
    rcases h with rfl | rfl | rfl <;> decide
  · show a.1 ∈ (["a", "b", "c"] : List Str)
    have : a.1 ∈ twA.map (·.1) := List.mem_map.mpr ⟨a, h, rfl⟩
    exact this
theorem one_okM : mOk oneM := by
  refine ⟨fun _ h => (nomatch h), by show 0 ≤ 100; omega, fun a h => ?_, by show 1 ≤ 100; omega⟩
  simp only [oneM, List.mem_cons, List.not_mem_nil, or_false] at h
  rcases h with rfl
  refine ⟨nm1 _ (by decide +kernel) (by decide +kernel), fun t ht => ?_, by show 2 ≤ 100; omega⟩
  simp only [List.mem_cons, List.not_mem_nil, or_false] at ht
  rcases ht with rfl | rfl
  · exact x0_let
  · exact x1_let
theorem seat_cx : Cx2 seatF oneM := by
  refine ⟨⟨⟨by show (["t"] : List Str).Nodup; decide +kernel, by decide⟩, fun s h => ?_, one_okM.2.2, fun a h => ?_⟩, one_okM⟩
  · simp only [seatF, List.mem_cons, List.not_mem_nil, or_false] at h
    rcases h with rfl
    decide
  · show a.1 ∈ (["t"] : List Str)
    have : a.1 ∈ oneM.atoms.map (·.1) := List.mem_map.mpr ⟨a, h, rfl⟩
    exact this
theorem chain_cx : Cx1 keyF chainA := by
  refine ⟨⟨by show (["a", "b", "c"] : List Str).Nodup; decide +kernel, by decide⟩, fun s h => ?_, ⟨fun a h => ?_, by decide⟩, fun a h => ?_⟩
  · simp only [keyF, List.mem_cons, List.not_mem_nil, or_false] at h
    rcases h with rfl | rfl | rfl <;> decide
  · simp only [chainA, List.mem_cons, List.not_mem_nil, or_false] at h
    rcases h with rfl | rfl | rfl
    · refine ⟨nm1 _ (by decide +kernel) (by decide +kernel), fun t ht => ?_, by show 2 ≤ 100; omega⟩
      simp only [List.mem_cons, List.not_mem_nil, or_false] at ht
      rcases ht with rfl | rfl
      · exact x0_let
      · exact x1_let
    · refine ⟨nm1 _ (by decide +kernel) (by decide +kernel), fun t ht => ?_, by show 2 ≤ 100; omega⟩
      simp only [List.mem_cons, List.not_mem_nil, or_false] at ht
      rcases ht with rfl | rfl
      · exact x1_let
      · exact x2_let
    · refine ⟨nm1 _ (by decide +kernel) (by decide +kernel), fun t ht => ?_, by show 2 ≤ 100; omega⟩
      simp only [List.mem_cons, List.not_mem_nil, or_false] at ht
      rcases ht with rfl | rfl
      · exact x3_let
      · exact x0_let
  · show a.1 ∈ (["a", "b", "c"] : List Str)
    have : a.1 ∈ chainA.map (·.1) := List.mem_map.mpr ⟨a, h, rfl⟩
    have e : ∀ s : Str, s ∈ (["b", "c", "a"] : List Str) → s ∈ (["a", "b", "c"] : List Str) := by decide +kernel
    exact e _ this
theorem two_ok (k x l y : Str) (hk : k = "independent" ∨ k = "exclusive") (hl : l = "independent" ∨ l = "exclusive") (hx : isLet x) (hy : isLet y) : pOk 130 (.proj k x (.proj l y (.tab "t"))) := by
  have t : PB 0 (.tab "t") := ⟨⟨1, by unfold pOk; exact nm1 _ (by decide +kernel) (by decide +kernel)⟩, by rw [dep_tab]; exact Nat.le_refl _, by unfold jne; rfl⟩
  exact ((t.proj hl (isLet_sOk hy)).proj hk (isLet_sOk hx)).at130 (by decide)
theorem two_sz (k x l y : Str) : psize (.proj k x (.proj l y (.tab "t"))) ≤ 2000 := by
  rw [psize_proj, psize_proj]
  unfold psize
  decide
theorem safeD : PyData.tuple [.str "independent", .str "x0", .tuple [.str "exclusive", .str "x1", .str "t"]] = planD (.proj "independent" "x0" (.proj "exclusive" "x1" (.tab "t"))) := by simp only [planD_proj, planD_tab]
theorem secD : PyData.tuple [.str "exclusive", .str "x1", .tuple [.str "independent", .str "x0", .str "t"]] = planD (.proj "exclusive" "x1" (.proj "independent" "x0" (.tab "t"))) := by simp only [planD_proj, planD_tab]
theorem badD : PyData.tuple [.str "independent", .str "x1", .tuple [.str "independent", .str "x0", .str "t"]] = planD (.proj "independent" "x1" (.proj "independent" "x0" (.tab "t"))) := by simp only [planD_proj, planD_tab]
theorem firD : PyData.tuple [.str "exclusive", .str "x0", .tuple [.str "exclusive", .str "x1", .str "t"]] = planD (.proj "exclusive" "x0" (.proj "exclusive" "x1" (.tab "t"))) := by simp only [planD_proj, planD_tab]
theorem t2 : opIx (memD ⟨[], twA⟩) (.int 2) = fun ka => ka (.v (.tuple (twA.map atomD))) := by
  funext ka
  rw [show memD ⟨[], twA⟩ = .tuple [.str "select", .tuple [], .tuple (twA.map atomD), .tuple []] from rfl, ix_t2]
theorem law_rest : B_law_rest ⟨fun _ => False, fun z => z = .v (.bool true), fun _ => False, fun _ => False⟩ (none :: some .tp :: List.replicate 20 none) := by
  unfold B_law_rest
  walk_at "pv"
  refine f_pick (.inl rfl) (by decide) (by decide) fun x hx => ?_
  obtain ⟨n, rfl, hn⟩ := nat_of (ns := [1, 2, 3, 3, 4, 5]) hx
  have hn5 : 1 ≤ n ∧ n ≤ 5 := by
    simp only [List.mem_cons, List.not_mem_nil, or_false] at hn
    omega
  walk_at "pv"
  refine f_shapes (ks := ["independent", "certain", "block", "block", "block"]) (by omega) (by decide) (by decide) fun fs nd lf hfs => ?_
  have hf : FsOk fs := ⟨nd, by omega⟩
  have hs : ∀ s, s ∈ fs → ShpOk s := fun s h => (hfs s h).1
  walk_at "pv"
  refine f_pool fun cs c0 c1 hc => ?_
  walk_at "pv"
  refine ⟨by decide, fun r r0 r1 => ?_⟩
  obtain ⟨z, hz, ez⟩ := dix_mem (ds := [PyData.int 2, PyData.int 3, PyData.int 4, PyData.int 6, PyData.int 20]) r0 (by simp only [List.length_cons, List.length_nil]; omega)
  obtain ⟨most, rfl, _⟩ := pick_int (ns := [2, 3, 4, 6, 20]) hz
  refine ⟨_, ez, ?_⟩
  refine f_pick (.inl rfl) (by decide) (by decide) fun x hx => ?_
  obtain ⟨wid, rfl, hw⟩ := nat_of (ns := [0, 0, 1, 2, 6]) hx
  have hw6 : wid ≤ 6 := by
    simp only [List.mem_cons, List.not_mem_nil, or_false] at hw
    omega
  walk_at "pv"
  refine f_simple (by omega) (by omega) hs (by omega) hc c0 (by omega) fun m ho a0 a5 a4 hin lh => ?_
  have ha := ho.2.2
  have em : memD m = .tuple [.str "select", .tuple (m.head.map termD), .tuple (m.atoms.map atomD), .tuple []] := rfl
  have i2 : opIx (memD m) (.int 2) = fun ka => ka (.v (.tuple (m.atoms.map atomD))) := by funext ka; rw [em, ix_t2]
  walk_at "pv"
  rw [i2]
  walk_at "pv"
  refine f_law_letters_in (.inr rfl) ha ?_
  have ll := letters_len ha
  have c2 : Cx2 fs m := shp_cx hf rfl hs ho hin
  walk_at "pv"
  refine f_plan ho a0 a5 a4 fun p hp sp => ?_
  walk_at "pv"
  refine f_plan ho a0 a5 a4 fun p2 hp2 sp2 => ?_
  walk_at "pv"
  refine f_other_kind hf (by omega) hs fun gs hg eg hgs => ?_
  have d2 : Cx2 gs m := shp_cx hg eg hgs ho hin
  walk_at "pv"
  refine ⟨by rw [List.length_map]; omega, ?_⟩
  refine lc_some atomD trivial m.atoms _ (fun a ha k1 k2 q1 q2 => ?_) fun bs hb => ?_
  · walk_at "pv"
    refine ⟨by decide, fun z z0 z1 => ?_⟩
    walk_at "pv"
    split
    · exact q1
    · exact q2
  have c3 : Cx1 fs bs := c2.c.sub hb
  walk_at "pv"
  refine f_some (by omega) fun rs hrs => ?_
  have p130 := hp.at130 (by decide)
  have q130 := hp2.at130 (by decide)
  walk_at "pv"
  refine f_law_demands_right c2 p130 (by omega) ?_
  walk_at "pv"
  rw [i2]
  walk_at "pv"
  refine f_law_determined_right c2.c ?_
  walk_at "pv"
  refine f_turns (n := 8) (by decide) fun is his _ => ?_
  walk_at "pv"
  refine for_each (fun (i : Nat) => PyData.int (i : Int)) is (fun i k hi q => ?_) ?_
  · have i8 := his i hi
    unfold turnV
    obtain ⟨j, hj⟩ : ∃ j : Int, j = (i : Int) := ⟨_, rfl⟩
    rw [← hj]
    have j8 : j = 0 ∨ j = 1 ∨ j = 2 ∨ j = 3 ∨ j = 4 ∨ j = 5 ∨ j = 6 ∨ j = 7 := by omega
    clear hj
    rcases j8 with rfl | rfl | rfl | rfl | rfl | rfl | rfl | rfl
    · walk_at "pv"
      refine f_law_safe_right c2 p130 (by omega) ?_
      walk_at "pv"
      exact q
    · walk_at "pv"
      refine f_law_determined_right c3 ?_
      walk_at "pv"
      exact q
    · walk_at "pv"
      rw [i2]
      walk_at "pv"
      refine f_law_determined_right d2.c ?_
      walk_at "pv"
      exact q
    · walk_at "pv"
      refine f_law_demands_right d2 p130 (by omega) ?_
      walk_at "pv"
      exact q
    · walk_at "pv"
      refine f_law_demands_right c2 q130 (by omega) ?_
      walk_at "pv"
      exact q
    · walk_at "pv"
      refine f_law_safe_right d2 q130 (by omega) ?_
      walk_at "pv"
      exact q
    · walk_at "pv"
      rw [i2]
      walk_at "pv"
      refine f_some (by omega) fun rs2 hrs2 => ?_
      walk_at "pv"
      refine f_law_determined_right c2.c ?_
      walk_at "pv"
      exact q
    · walk_at "pv"
      rw [i2]
      walk_at "pv"
      refine f_pick (.inl rfl) (by rw [List.length_cons]; omega) (by rw [List.length_cons, List.length_singleton]; omega) fun x hx => ?_
      have ex : x = .tuple (([] : List Str).map .str) ∨ x = .tuple ((letters m.atoms).map .str) := by
        simp only [List.mem_cons, List.not_mem_nil, or_false] at hx
        exact hx
      rcases ex with rfl | rfl
      · refine f_law_determined_right c2.c ?_
        walk_at "pv"
        exact q
      · refine f_law_determined_right c2.c ?_
        walk_at "pv"
        exact q
  · walk_at "pv"
    refine f_law_demands_right c2 p130 (by omega) ?_
    walk_at "pv"
    rw [i2]
    walk_at "pv"
    refine f_law_determined_right c2.c ?_
    walk_at "pv"
    refine f_twelve ?_
    walk_at "pv"
    rw [t2]
    walk_at "pv"
    refine f_law_determined_right (fs := twF "block" 0) (as := twA) (ls := []) tw_cx ?_
    walk_at "pv"
    rw [show cutD (twA.map atomD) (some 1) none = (twA.drop 1).map atomD from cut_from atomD twA (r := 0) (by decide) (by decide)]
    refine f_law_determined_right (fs := twF "block" 0) (as := twA.drop 1) (ls := ["x0"]) (tw_cx.sub (List.drop_sublist 1 twA)) ?_
    walk_at "pv"
    refine f_law_determined_right (fs := seatF) (as := oneM.atoms) (ls := ["x0"]) seat_cx.c ?_
    walk_at "pv"
    refine f_law_determined_right (fs := seatF) (as := oneM.atoms) (ls := ["x1"]) seat_cx.c ?_
    walk_at "pv"
    rw [safeD, secD]
    refine f_law_safe_right (fs := seatF) (m := oneM) seat_cx (two_ok _ _ _ _ (.inl rfl) (.inr rfl) x0_let x1_let) (two_sz _ _ _ _) ?_
    walk_at "pv"
    refine f_law_safe_right (fs := seatF) (m := oneM) seat_cx (two_ok _ _ _ _ (.inr rfl) (.inl rfl) x1_let x0_let) (two_sz _ _ _ _) ?_
    walk_at "pv"
    rw [badD]
    refine f_law_demands_right (fs := seatF) (m := oneM) seat_cx (two_ok _ _ _ _ (.inl rfl) (.inl rfl) x1_let x0_let) (two_sz _ _ _ _) ?_
    walk_at "pv"
    refine f_law_determined_right (fs := keyF) (as := chainA) (ls := ["x3"]) chain_cx ?_
    walk_at "pv"
    refine f_law_determined_right (fs := keyF) (as := chainA) (ls := ["x1"]) chain_cx ?_
    walk_at "pv"
    rw [firD]
    refine f_law_demands_right (fs := seatF) (m := oneM) seat_cx (two_ok _ _ _ _ (.inr rfl) (.inr rfl) x0_let x1_let) (two_sz _ _ _ _) ?_
    walk_at "pv"
    refine f_law_demands_right (fs := seatF) (m := oneM) seat_cx (two_ok _ _ _ _ (.inr rfl) (.inl rfl) x1_let x0_let) (two_sz _ _ _ _) ?_
    walk_at "pv"

theorem map_int_at {ns : List Int} {i : Nat} {x : V} (h : (ns.map V.int)[i]? = some x) : ∃ n, ns[i]? = some n ∧ x = V.int n := by
  rw [List.getElem?_map] at h
  cases e : ns[i]? with
  | none => rw [e] at h; cases h
  | some n => rw [e] at h; exact ⟨n, rfl, (Option.some.inj h).symm⟩
section
variable {P : Program} {w : World} {K : Fg} {mg : Str → Option Value} {base : Heap}
theorem ok__law_tape (T : Txt K mg) : FnOk P w K mg base CX0 1 T.a__law_tape T.d__law_tape ["script"] (sp__law_tape K) := by
  refine T.F__law_tape.ok sc__law_tape (fun vs H Q E h => ?_) (fun cdv A outer s H vs Q E hr h => ?_)
  · obtain ⟨_, _, rfl, _⟩ := h
    rfl
  obtain ⟨a, ns, rfl, ha, hl, k⟩ := h
  refine ⟨_, (pss_cons (ps_set (i := 1) sc__law_tape.nd rfl (Or.inl rfl) pe_int) (pss_cons (ps_for PassesOwn.never rfl (pi_listK (K := K) (pv 0)) (pg_name (i := 2) sc__law_tape.nd rfl (Or.inl rfl)) (pss_one (ps_set (i := 1) sc__law_tape.nd rfl (Or.inl rfl) (pe_op op_modU (pe_callTy call_intU (by rfl) T.z_int rfl (pa_cons (pe_op (op_addK (K := K)) (pe_op (op_mulK (K := K)) (pv 1) pe_int) (pe_callB call_absU (by rfl) T.z_abs rfl (pa_cons (pe_callTy call_intU (by rfl) T.z_int rfl (pa_cons (pv 2) pa_nil)) pa_nil))) pa_nil)) pe_int)))) (pss_one (ps_ret (pe_lst (pa_cons (pe_callTy (call_listK (K := K)) (by rfl) T.z_list rfl (pa_cons (pv 0) pa_nil)) (pa_cons pe_int (pa_cons pe_int (pa_cons (pv 1) pa_nil))))))))), ?_⟩
  walk_at "nz"
  refine r_forL rfl ha (fun i σ' H' => H' = H ∧ ∃ m c, σ' = [some (.ref a), some (.int m), c] ∧ 0 ≤ m ∧ m < 2147483647) ⟨rfl, 7, none, rfl, by decide, by decide⟩ (fun i σ' H' _ ⟨e, _⟩ => e ▸ ha) ?_ ?_
  · rintro i x σ' H' hi ⟨rfl, m, c, rfl, hm, hm2⟩
    obtain ⟨n, hn, rfl⟩ := map_int_at hi
    walk_at "nz"
    refine r_mulR (by decide) (r_int (r_abs (r_addI (r_int (r_modP (by decide) ?_)))))
    exact ⟨rfl, _, _, rfl, by omega, by omega⟩
  · rintro σ' H' ⟨rfl, m, c, rfl, hm, _⟩
    walk_at "nz"
    refine r_listV (.inl ha) fun l H1 s1 n1 e1 => ?_
    refine r_lst fun p H2 s2 hp e2 => k _ _ (s1.trans s2) ?_
    have nlp : l ≠ p := by rintro rfl; rw [e1] at hp; cases hp
    exact ⟨l, ns, 0, 0, m, e2, s2 _ _ e1, nlp, by decide, by decide, hm, hl⟩
theorem lt64 {n : Nat} (h : n < 2 ^ 64) : n < 2 ^ 8999 := Nat.lt_of_lt_of_le h (Nat.pow_le_pow_right (by decide) (by decide))
theorem atI0 {a b c d : V} : atI [a, b, c, d] 0 = some a := rfl
theorem atI1 {a b c d : V} : atI [a, b, c, d] 1 = some b := rfl
theorem atI2 {a b c d : V} : atI [a, b, c, d] 2 = some c := rfl
theorem atI3 {a b c d : V} : atI [a, b, c, d] 3 = some d := rfl
theorem r_setL {Q : Hp → Prop} {H : Hp} {p : Addr} {xs : List V} {k : Int} {j : Nat} {v : V} (h : H p = some (.lst xs)) (hj : ixN xs.length k = some j)
    (q : ∀ H', (∀ b o, b ≠ p → H b = some o → H' b = some o) → H' p = some (.lst (xs.set j v)) → Q H') : rSetL (.ref p) (.int k) v H Q :=
  ⟨p, xs, k, j, rfl, rfl, h, hj, q _ (fun b o hb e => by rw [upd_ne hb]; exact e) upd_same⟩
theorem tape_set {H H' : Hp} {t l : Addr} {ns : List Int} {a b c : Int} (hl : H l = some (.lst (ns.map V.int))) (n : l ≠ t) (ha : 0 ≤ a) (hb : 0 ≤ b) (hc : 0 ≤ c) (hz : ns.length ≤ 63)
    (h : ∀ b o, b ≠ t → H b = some o → H' b = some o) (e : H' t = some (.lst [.ref l, .int a, .int b, .int c])) : TapeL H' t l :=
  ⟨ns, a, b, c, e, h _ _ n hl, n, ha, hb, hc, hz⟩
theorem ext_set {H H' : Hp} {t l : Addr} (h0 : TapeL H t l) (h : ∀ b o, b ≠ t → H b = some o → H' b = some o) (h1 : TapeL H' t l) : Ext K t H H' := by
  obtain ⟨xs, hx⟩ := Tape.get ⟨l, h0⟩
  exact ⟨h, tsameL hx h, l, h0, h1⟩
theorem modr {i many : Int} : 0 ≤ i % max many 1 ∧ i % max many 1 < max many 1 := ⟨Int.emod_nonneg _ (by omega), Int.emod_lt_of_pos _ (by omega)⟩
theorem ok0__law_draw (T : Txt K mg) : FnOk P w K mg base CX0 1 T.a__law_draw T.d__law_draw ["tape", "many"] (sp__law_draw K) := by
  refine T.F__law_draw.ok sc__law_draw (fun vs H Q E h => ?_) (fun cdv A outer s H vs Q E hr h => ?_)
  · obtain ⟨_, _, rfl, _⟩ := h
    rfl
  obtain ⟨t, many, rfl, ⟨l, hT⟩, hmany, k⟩ := h
  refine ⟨_, (pss_cons (ps_if (pt_cmpR (op_eqK (K := K) (hu64 hr)) (pe_ix (ixK (K := K)) (pv 0) pe_int (fun _ _ => rfl)) pe_int (nomark _)) (pss_cons (ps_set (i := 2) sc__law_draw.nd rfl (Or.inl rfl) (pe_ix (ixK (K := K)) (pv 0) pe_int (fun _ _ => rfl))) (pss_cons (ps_set (i := 3) sc__law_draw.nd rfl (Or.inl rfl) pe_int) (pss_cons (ps_if (pt_cmpR op_lt (pv 2) (pe_callB (call_lenK (K := K)) (by rfl) T.z_len rfl (pa_cons (pe_ix (ixK (K := K)) (pv 0) pe_int (fun _ _ => rfl)) pa_nil)) (nomark _)) (pss_one (ps_set (i := 3) sc__law_draw.nd rfl (Or.inl rfl) (pe_callB call_absU (by rfl) T.z_abs rfl (pa_cons (pe_callTy call_intU (by rfl) T.z_int rfl (pa_cons (pe_ix (ixK (K := K)) (pe_ix (ixK (K := K)) (pv 0) pe_int (fun _ _ => rfl)) (pv 2) (fun _ _ => rfl)) pa_nil)) pa_nil)))) (pss_cons (ps_asg (pe_op op_modU (pe_callTy call_intU (by rfl) T.z_int rfl (pa_cons (pe_op (op_addK (K := K)) (pe_op (op_addK (K := K)) (pe_op (op_mulK (K := K)) (pe_ix (ixK (K := K)) (pv 0) pe_int (fun _ _ => rfl)) pe_int) (pv 2)) pe_int) pa_nil)) pe_int) (pg_sub (pv 0) pe_int set_list)) (pss_one (ps_set (i := 3) sc__law_draw.nd rfl (Or.inl rfl) (pe_ix (ixK (K := K)) (pv 0) pe_int (fun _ _ => rfl)))))) (pss_cons (ps_asg (pe_op (op_addK (K := K)) (pv 2) pe_int) (pg_sub (pv 0) pe_int set_list)) (pss_cons (ps_if (pt_cmpR op_lt (pv 3) (pe_op op_pow pe_int pe_int) (nomark _)) (pss_cons (ps_set (i := 3) sc__law_draw.nd rfl (Or.inl rfl) (pe_op op_modU (pe_callTy call_intU (by rfl) T.z_int rfl (pa_cons (pe_op (op_addK (K := K)) (pe_op (op_addK (K := K)) (pe_op (op_mulK (K := K)) (pv 3) pe_int) (pe_op (op_mulK (K := K)) (pv 2) pe_int)) pe_int) pa_nil)) pe_int)) (pss_cons (ps_set (i := 3) sc__law_draw.nd rfl (Or.inl rfl) (pe_op op_modU (pe_callTy call_intU (by rfl) T.z_int rfl (pa_cons (pe_op (op_mulK (K := K)) (pv 3) pe_int) pa_nil)) pe_int)) (pss_one (ps_ret (pe_op op_modU (pe_callTy call_intU (by rfl) T.z_int rfl (pa_cons (pv 3) pa_nil)) (pe_callB (call_max2U rfl) (by rfl) T.z_max rfl (pa_cons (pv 1) (pa_cons pe_int pa_nil)))))))) pss_nil) (pss_one (ps_asg (pv 3) (pg_sub (pv 0) pe_int set_list)))))))) pss_nil) (pss_cons (ps_set (i := 3) sc__law_draw.nd rfl (Or.inl rfl) (pe_ix (ixK (K := K)) (pv 0) pe_int (fun _ _ => rfl))) (pss_cons (ps_asg (pe_op op_fdivU (pv 3) (pe_callB (call_max2U rfl) (by rfl) T.z_max rfl (pa_cons (pv 1) (pa_cons pe_int pa_nil)))) (pg_sub (pv 0) pe_int set_list)) (pss_one (ps_ret (pe_op op_modU (pe_callTy call_intU (by rfl) T.z_int rfl (pa_cons (pv 3) pa_nil)) (pe_callB (call_max2U rfl) (by rfl) T.z_max rfl (pa_cons (pv 1) (pa_cons pe_int pa_nil))))))))), ?_⟩
  walk_at "nz"
  have hT0 := hT
  obtain ⟨ns, place, left, mixed, e1, e2, nlt, p0, l0, m0, hz⟩ := hT
  have s1 : SqL K H t _ := SqL.of e1
  -- the tail, from a heap where number is known
  have tail2 : ∀ (number : Int) (H1 : Hp), 0 ≤ number → (∃ pl lf mx, H1 t = some (.lst [.ref l, .int pl, .int lf, .int mx]) ∧ 0 ≤ pl ∧ 0 ≤ mx) → (∀ b o, b ≠ t → H b = some o → H1 b = some o) →
      rMaxU [.int many, .int 2] H1 fun x H2 => rFdU (.int number) x H2 fun x H3 => rSetL (.ref t) (.int 2) x H3 fun H4 => rIntU [.int number] H4 fun x H5 => rMaxU [.int many, .int 1] H5 fun y H6 => rModU x y H6 Q := by
    rintro number H1 hn ⟨pl, lf, mx, f1, fp, fm⟩ f2
    refine r_max (r_fdW (by omega) (lt64 (by omega)) (r_setL f1 rfl fun H2 g1 g2 => r_int (r_max (r_modP (by omega) ?_))))
    refine k _ _ (ext_set hT0 (fun b o n q => g1 b o n (f2 b o n q)) (tape_set (f2 _ _ nlt e2) nlt fp (Int.ediv_nonneg hn (by omega)) fm hz g1 g2)) modr.1 modr.2
  have tail1 : ∀ (number place : Int) (H1 : Hp), 0 ≤ number → 0 ≤ place → (∃ pl lf mx, H1 t = some (.lst [.ref l, .int pl, .int lf, .int mx]) ∧ 0 ≤ lf ∧ 0 ≤ mx) → (∀ b o, b ≠ t → H b = some o → H1 b = some o) →
      rAddU K (V.int place) (V.int 1) H1 fun x_1 H1 => rSetL (V.ref t) (V.int 1) x_1 H1 fun H3 => rI CPow (fun i j => V.int (i ^ j.toNat)) (V.int 10) (V.int 18) H3 fun y H2 => rI0 (fun i j => V.bl (decide (i < j))) (.int number) y H2 fun x_2 H' =>
        ∃ k, x_2 = V.bl k ∧ if k = true then
            rMulU K (.int number) (V.int 48271) H' fun x H1 => rMulU K (V.int place) (V.int 69621) H1 fun y H2 => rAddU K x y H2 fun x H1 => rAddU K x (V.int 5) H1 fun x H1 => rIntU [x] H1 fun x H1 => rModU x (V.int 2147483647) H1 fun x H1 =>
              rMulU K x (V.int 69621) H1 fun x H1 => rIntU [x] H1 fun x H1 => rModU x (V.int 2147483629) H1 fun x H1 => rIntU [x] H1 fun x H1 => rMaxU [V.int many, V.int 1] H1 fun y H2 => rModU x y H2 Q
          else rSetL (V.ref t) (V.int 2) (.int number) H' fun H3 => rIx K (V.ref t) (V.int 2) H3 fun x H1 => rMaxU [V.int many, V.int 2] H1 fun y H2 => rFdU x y H2 fun x_3 H1 => rSetL (V.ref t) (V.int 2) x_3 H1 fun H3 =>
            rIntU [x] H3 fun x H1 => rMaxU [V.int many, V.int 1] H1 fun y H2 => rModU x y H2 Q := by
    rintro number place H1 hn hp ⟨pl, lf, mx, f1, fl, fm⟩ f2
    refine r_addI (r_setL f1 rfl fun H2 g1 g2 => r_I ⟨by decide, by decide, by decide⟩ (r_I0 (r_bl (r_if (fun c => ?_) (fun c => ?_)))))
    · refine r_mulR (by decide) (r_mulR (by decide) (r_addI (r_addI (r_int (r_modP (by decide) (r_mulR (by decide) (r_int (r_modP (by decide) (r_int (r_max (r_modP (by omega) ?_)))))))))))
      exact k _ _ (ext_set hT0 (fun b o n q => g1 b o n (f2 b o n q)) (tape_set (f2 _ _ nlt e2) nlt (by omega) fl fm hz g1 g2)) modr.1 modr.2
    · refine r_setL g2 rfl fun H3 g3 g4 => r_ixLV (SqL.of g4) atI2 ?_
      exact tail2 number H3 hn ⟨_, _, _, g4, by omega, fm⟩ fun b o n q => g3 b o n (g1 b o n (f2 b o n q))
  refine r_ixLV s1 atI2 (r_eqI (r_bl (r_if (fun c => ?_) (fun c => ?_))))
  · refine r_ixLV s1 atI1 (r_ixLV s1 atI0 (r_lenL (SqL.of e2) (r_I0 (r_bl (r_if (fun c2 => ?_) (fun c2 => ?_))))))
    · have hi : place.toNat < ns.length := by rw [List.length_map] at c2; omega
      have hat : atI (ns.map V.int) place = some (.int ns[place.toNat]) := at_of (j := place.toNat) (by omega) (by rw [List.getElem?_map, List.getElem?_eq_getElem hi]; rfl)
      refine r_ixLV s1 atI0 (r_ixLV (SqL.of e2) hat (r_int (r_abs ?_)))
      exact tail1 _ place H (by omega) p0 ⟨_, _, _, e1, l0, m0⟩ fun _ _ _ q => q
    · refine r_ixLV s1 atI3 (r_mulR (by decide) (r_addI (r_addI (r_int (r_modP (by decide) (r_setL e1 rfl fun H2 g1 g2 => r_ixLV (SqL.of g2) atI3 ?_))))))
      exact tail1 _ place H2 (by omega) p0 ⟨_, _, _, g2, l0, by omega⟩ g1
  · refine r_ixLV s1 atI2 ?_
    exact tail2 left H l0 ⟨_, _, _, e1, p0, m0⟩ fun _ _ _ q => q
theorem ok__law_draw (T : Txt K mg) : FnOk P w K mg base CX0 1 T.a__law_draw T.d__law_draw ["tape", "many"] (spV K F__law_draw) := (ok0__law_draw T).imp fun _ _ _ _ => sp_draw
end

section
variable {P : Program} {w : World} {K : Fg} {mg : Str → Option Value} {base : Heap}
theorem ok_letters_in (T : Txt K mg) : FnOk P w K mg base CX0 1 T.a_letters_in T.d_letters_in ["atoms"] (spV K F_letters_in) := by
  refine T.F_letters_in.ok sc_letters_in (fun vs H Q E h => spV_len (F := F_letters_in) (body := B_letters_in) (len := 1) (n := 5) rfl h) (fun cdv A outer s H vs Q E hr h => ?_)
  obtain ⟨t, h⟩ := def_of (N := ["atoms", "found", "table", "terms", "term"]) (len := 1) (n := 5) (body := B_letters_in) (F := F_letters_in) rfl rfl h
  exact ⟨tSV ⟨K, t⟩ B_letters_in, (xSeq (pss_cons (xSetO (ps_set (i := 1) sc_letters_in.nd rfl (Or.inl rfl) (xDn pe_dnewK)) fun _ _ _ h => h) (xSeq (pss_cons (xFor (dead := [2, 3, 4]) (ps_for PassesOwn.never rfl (pi_seq2 (K := K) (xv (pv 0))) (xgT (pg_tupK (K := K) (n := 2) rfl (xgsC (pgs_cons (xgN (pg_name (i := 2) sc_letters_in.nd rfl (Or.inl rfl))) (xgsC (pgs_cons (xgN (pg_name (i := 3) sc_letters_in.nd rfl (Or.inl rfl))) (xgsN pgs_nil)))))) (gsC gfN (gsC gfN gsN))) (pss_one (xFor (dead := [4]) (ps_for PassesOwn.never rfl (pi_seq2 (K := K) (xv (pv 3))) (xgN (pg_name (i := 4) sc_letters_in.nd rfl (Or.inl rfl))) (pss_one (xIfS (ps_if (xTr (pt_truthK (K := K) (xIsi .str (pe_callB (call_isiK1 (K := K)) (by rfl) T.z_isinstance rfl (pa_cons (xv (pv 4)) (pa_cons (pe_bltn (by rfl) T.z_str rfl (v := .ty "str") rfl) pa_nil)))) (fun _ => rfl))) (pss_one (xDput (ps_dput (hu_of hr) (pv 1) (xv (pv 4)) (xb pe_bl) rfl))) (xNexts pss_nil))))) (fun _ _ _ h => iE_of h)))) (fun _ _ _ h => iE_of h)) (pss_one (xRet (ps_ret (xB (pe_callTy (call_tupleK (K := K)) (by rfl) T.z_tuple rfl (xA (pa_cons (xLstD (pe_callTy (L2.call_list_dK rfl) (by rfl) T.z_list rfl (pa_cons (pv 1) pa_nil))) (xN pa_nil)))) bs_tup)))))))), h⟩
theorem ok_number_of (T : Txt K mg) : FnOk P w K mg base CX0 1 T.a_number_of T.d_number_of ["letter"] (spV K F_number_of) := by
  refine T.F_number_of.ok sc_number_of (fun vs H Q E h => spV_len (F := F_number_of) (body := B_number_of) (len := 1) (n := 1) rfl h) (fun cdv A outer s H vs Q E hr h => ?_)
  obtain ⟨t, h⟩ := def_of (N := ["letter"]) (len := 1) (n := 1) (body := B_number_of) (F := F_number_of) rfl rfl h
  exact ⟨tSV ⟨K, t⟩ B_number_of, (pss_one (xRet (ps_ret (xB (pe_callTy call_intW (by rfl) T.z_int rfl (xA (pa_cons (xSl (pe_slice (sl_K (K := K)) (xv (pv 0)) (xPe (po_some (xi pe_int))) (xPn po_none))) (xN pa_nil)))) bs_int)))), h⟩
theorem ok_by_number (T : Txt K mg) : FnOk P w K mg base CX0 4 T.a_by_number T.d_by_number ["letters"] (spV K F_by_number) := by
  have G_number_of := ok_number_of (P := P) (w := w) (base := base) T
  refine T.F_by_number.ok sc_by_number (fun vs H Q E h => spV_len (F := F_by_number) (body := B_by_number) (len := 1) (n := 1) rfl h) (fun cdv A outer s H vs Q E hr h => ?_)
  obtain ⟨t, h⟩ := def_of (N := ["letters"]) (len := 1) (n := 1) (body := B_by_number) (F := F_by_number) rfl rfl h
  exact ⟨tSV ⟨K, t⟩ B_by_number, (pss_one (xRet (ps_ret (xB (pe_callTy (call_tupleK (K := K)) (by rfl) T.z_tuple rfl (xA (pa_cons (xSortBy (pe_callBK (ks := ["key"]) (cr_sortByK (K := K) G_number_of (hr.mono (by omega)) T.b_number_of) (by rfl) T.z_sorted rfl (xA (pa_cons (xB (pe_callTy (call_listK (K := K)) (by rfl) T.z_list rfl (xA (pa_cons (xv (pv 0)) (xN pa_nil)))) bs_lst) (xN pa_nil))) (pk_cons (pe_glob (v := .ref T.a_number_of) (by rfl) T.m_number_of rfl) pk_nil))) (xN pa_nil)))) bs_tup)))), h⟩
theorem ok_block_keys (T : Txt K mg) : FnOk P w K mg base CX0 1 T.a_block_keys T.d_block_keys ["shapes"] (spV K F_block_keys) := by
  refine T.F_block_keys.ok sc_block_keys (fun vs H Q E h => spV_len (F := F_block_keys) (body := B_block_keys) (len := 1) (n := 2) rfl h) (fun cdv A outer s H vs Q E hr h => ?_)
  obtain ⟨t, h⟩ := def_of (N := ["shapes", "shape"]) (len := 1) (n := 2) (body := B_block_keys) (F := F_block_keys) rfl rfl h
  exact ⟨tSV ⟨K, t⟩ B_block_keys, (pss_one (xRet (ps_ret (xDc (pe_dc (own := [("shape", 1)]) rfl sc_block_keys.nd (pi_seq2 (K := K) (xv (pv 0))) (blkOk_by (N := ["shapes", "shape"]) (sc := defScope s_block_keys) (by decide +kernel)) (fun _ _ _ _ _ => (xgN (pg_name (i := 1) sc_block_keys.nd rfl (Or.inl rfl)))) (fun _ _ _ _ _ => (pts_one (xT (pt_cmpR (op_eqK (K := K) (hu64 hr)) (xE (pe_ix (ixK (K := K)) (xv (pv 1)) (xi pe_int) (fun _ _ => rfl)) os_ix) (xs pe_str) (nomark _)) os_eq))) (fun _ _ _ _ _ => (xE (pe_ix (ixK (K := K)) (xv (pv 1)) (xi pe_int) (fun _ _ => rfl)) os_ix)) (fun _ _ _ _ _ => (xE (pe_ix (ixK (K := K)) (xv (pv 1)) (xi pe_int) (fun _ _ => rfl)) os_ix))) (fun _ _ _ h => icE_of h))))), h⟩
theorem ok_parts_within (T : Txt K mg) : FnOk P w K mg base CX0 1 T.a_parts_within T.d_parts_within ["plan"] (spV K F_parts_within) := by
  refine T.F_parts_within.ok sc_parts_within (fun vs H Q E h => spV_len (F := F_parts_within) (body := B_parts_within) (len := 1) (n := 1) rfl h) (fun cdv A outer s H vs Q E hr h => ?_)
  obtain ⟨t, h⟩ := def_of (N := ["plan"]) (len := 1) (n := 1) (body := B_parts_within) (F := F_parts_within) rfl rfl h
  exact ⟨tSV ⟨K, t⟩ B_parts_within, (xSeq (pss_cons (xIfS (ps_if (xTr (pt_truthK (K := K) (xIsi .str (pe_callB (call_isiK1 (K := K)) (by rfl) T.z_isinstance rfl (pa_cons (xv (pv 0)) (pa_cons (pe_bltn (by rfl) T.z_str rfl (v := .ty "str") rfl) pa_nil)))) (fun _ => rfl))) (pss_one (xRet (ps_ret (xTup (pe_tup (xN pa_nil)))))) (xNexts pss_nil))) (xSeq (pss_cons (xIfS (ps_if (xT (pt_cmpR (op_eqK (K := K) (hu64 hr)) (xE (pe_ix (ixK (K := K)) (xv (pv 0)) (xi pe_int) (fun _ _ => rfl)) os_ix) (xs pe_str) (nomark _)) os_eq) (pss_one (xRet (ps_ret (xE (pe_ix (ixK (K := K)) (xv (pv 0)) (xi pe_int) (fun _ _ => rfl)) os_ix)))) (xNexts pss_nil))) (pss_one (xRet (ps_ret (xTup (pe_tup (xA (pa_cons (xE (pe_ix (ixK (K := K)) (xv (pv 0)) (xi pe_int) (fun _ _ => rfl)) os_ix) (xN pa_nil)))))))))))), h⟩
theorem okR_tables_in (T : Txt K mg) : ∀ n : Nat, (FnOk P w K mg base CX0 (2 + n) T.a_tables_in T.d_tables_in ["plan"] (spV K (R_tables_in n))) := by
  have G_parts_within := ok_parts_within (P := P) (w := w) (base := base) T
  intro n
  induction n with
  | zero => exact fn_false fun _ _ h => h
  | succ n ih =>
    have G_tables_in := ih
    refine T.F_tables_in.ok (k := 2 + n) sc_tables_in (fun vs H Q E h => spV_len (F := R_tables_in (n + 1)) (len := 1) (n := 3) rfl h) (fun cdv A outer s H vs Q E hr h => ?_)
    obtain ⟨t, h⟩ := def_of (N := ["plan", "found", "part"]) (n := 3) (len := 1) (F := R_tables_in (n + 1)) rfl rfl h
    exact ⟨tSV ⟨K, t⟩ _, (xSeq (pss_cons (xIfS (ps_if (xTr (pt_truthK (K := K) (xIsi .str (pe_callB (call_isiK1 (K := K)) (by rfl) T.z_isinstance rfl (pa_cons (xv (pv 0)) (pa_cons (pe_bltn (by rfl) T.z_str rfl (v := .ty "str") rfl) pa_nil)))) (fun _ => rfl))) (pss_one (xRet (ps_ret (xTup (pe_tup (xA (pa_cons (xv (pv 0)) (xN pa_nil)))))))) (xNexts pss_nil))) (xSeq (pss_cons (xSetF (ps_set (i := 1) sc_tables_in.nd rfl (Or.inl rfl) (xTup (pe_tup (xN pa_nil)))) fun _ _ _ h => h) (xSeq (pss_cons (xFor (dead := [2]) (ps_for PassesOwn.never rfl (pi_seq2 (K := K) (xCall (pe_call G_parts_within (hr.mono (by omega)) rfl T.m_parts_within T.F_parts_within.kp T.b_parts_within .nil pass0 (xA (pa_cons (xv (pv 0)) (xN pa_nil)))))) (xgN (pg_name (i := 2) sc_tables_in.nd rfl (Or.inl rfl))) (pss_one (xSetF (ps_set (i := 1) sc_tables_in.nd rfl (Or.inl rfl) (xE (pe_op (op_addK (K := K)) (xv (pv 1)) (xCall (pe_call G_tables_in (hr.mono (by omega)) rfl T.m_tables_in T.F_tables_in.kp T.b_tables_in .nil pass0 (xA (pa_cons (xv (pv 2)) (xN pa_nil)))))) os_add)) fun _ _ _ h => h))) (fun _ _ _ h => iE_of h)) (pss_one (xRet (ps_ret (xv (pv 1))))))))))), h⟩
theorem ok_tables_in (T : Txt K mg) : FnOk P w K mg base CX0 132 T.a_tables_in T.d_tables_in ["plan"] (spV K F_tables_in) := (okR_tables_in (P := P) (w := w) (base := base) T 130)
theorem okR_projections (T : Txt K mg) : ∀ n : Nat, (FnOk P w K mg base CX0 (2 + n) T.a_projections T.d_projections ["plan"] (spV K (R_projections n))) := by
  have G_parts_within := ok_parts_within (P := P) (w := w) (base := base) T
  intro n
  induction n with
  | zero => exact fn_false fun _ _ h => h
  | succ n ih =>
    have G_projections := ih
    refine T.F_projections.ok (k := 2 + n) sc_projections (fun vs H Q E h => spV_len (F := R_projections (n + 1)) (len := 1) (n := 3) rfl h) (fun cdv A outer s H vs Q E hr h => ?_)
    obtain ⟨t, h⟩ := def_of (N := ["plan", "found", "part"]) (n := 3) (len := 1) (F := R_projections (n + 1)) rfl rfl h
    exact ⟨tSV ⟨K, t⟩ _, (xSeq (pss_cons (xSetF (ps_set (i := 1) sc_projections.nd rfl (Or.inl rfl) (xTup (pe_tup (xN pa_nil)))) fun _ _ _ h => h) (xSeq (pss_cons (xFor (dead := [2]) (ps_for PassesOwn.never rfl (pi_seq2 (K := K) (xCall (pe_call G_parts_within (hr.mono (by omega)) rfl T.m_parts_within T.F_parts_within.kp T.b_parts_within .nil pass0 (xA (pa_cons (xv (pv 0)) (xN pa_nil)))))) (xgN (pg_name (i := 2) sc_projections.nd rfl (Or.inl rfl))) (pss_one (xSetF (ps_set (i := 1) sc_projections.nd rfl (Or.inl rfl) (xE (pe_op (op_addK (K := K)) (xv (pv 1)) (xCall (pe_call G_projections (hr.mono (by omega)) rfl T.m_projections T.F_projections.kp T.b_projections .nil pass0 (xA (pa_cons (xv (pv 2)) (xN pa_nil)))))) os_add)) fun _ _ _ h => h))) (fun _ _ _ h => iE_of h)) (xSeq (pss_cons (xIfS (ps_if (PW.pt (xAnd (pw_and (xNot (pt_not (xTr (pt_truthK (K := K) (xIsi .str (pe_callB (call_isiK1 (K := K)) (by rfl) T.z_isinstance rfl (pa_cons (xv (pv 0)) (pa_cons (pe_bltn (by rfl) T.z_str rfl (v := .ty "str") rfl) pa_nil)))) (fun _ => rfl))))) (pw_and1 (xT (pt_cmpR (op_neK (K := K) (hu64 hr)) (xE (pe_ix (ixK (K := K)) (xv (pv 0)) (xi pe_int) (fun _ _ => rfl)) os_ix) (xs pe_str) (nomark _)) os_ne))))) (pss_one (xSetF (ps_set (i := 1) sc_projections.nd rfl (Or.inl rfl) (xE (pe_op (op_addK (K := K)) (xv (pv 1)) (xTup (pe_tup (xA (pa_cons (xv (pv 0)) (xN pa_nil)))))) os_add)) fun _ _ _ h => h)) (xNexts pss_nil))) (pss_one (xRet (ps_ret (xv (pv 1))))))))))), h⟩
theorem ok_projections (T : Txt K mg) : FnOk P w K mg base CX0 132 T.a_projections T.d_projections ["plan"] (spV K F_projections) := (okR_projections (P := P) (w := w) (base := base) T 130)
theorem ok_determined (T : Txt K mg) : FnOk P w K mg base CX0 5 T.a_determined T.d_determined ["shapes", "atoms", "letters"] (spV K F_determined) := by
  have G_block_keys := ok_block_keys (P := P) (w := w) (base := base) T
  have G_by_number := ok_by_number (P := P) (w := w) (base := base) T
  have G_letters_in := ok_letters_in (P := P) (w := w) (base := base) T
  refine T.F_determined.ok sc_determined (fun vs H Q E h => spV_len (F := F_determined) (body := B_determined) (len := 3) (n := 11) rfl h) (fun cdv A outer s H vs Q E hr h => ?_)
  obtain ⟨t, h⟩ := def_of (N := ["shapes", "atoms", "letters", "keys", "found", "letter", "grown", "table", "terms", "added", "missing"]) (len := 3) (n := 11) (body := B_determined) (F := F_determined) rfl rfl h
  exact ⟨tSV ⟨K, t⟩ B_determined, (xSeq (pss_cons (xSetF (ps_set (i := 3) sc_determined.nd rfl (Or.inr rfl) (xCall (pe_call G_block_keys (hr.mono (by omega)) rfl T.m_block_keys T.F_block_keys.kp T.b_block_keys .nil pass0 (xA (pa_cons (xv (pv 0)) (xN pa_nil)))))) fun _ _ _ h => h) (xSeq (pss_cons (xSetF (ps_set (i := 4) sc_determined.nd rfl (Or.inr rfl) (xLc (pe_lc (own := [("letter", 5)]) rfl sc_determined.nd (pi_seq2 (K := K) (xCall (pe_call G_letters_in (hr.mono (by omega)) rfl T.m_letters_in T.F_letters_in.kp T.b_letters_in .nil pass0 (xA (pa_cons (xv (pv 1)) (xN pa_nil)))))) (blkOk_by (N := ["shapes", "atoms", "letters", "keys", "found", "letter", "grown", "table", "terms", "added", "missing"]) (sc := defScope s_determined) (by decide +kernel)) (fun _ _ _ _ _ => (xgN (pg_name (i := 5) sc_determined.nd rfl (Or.inl rfl)))) (fun _ _ _ _ _ => (pts_one (xT (pt_cmpR (op_inW (K := K) (hu65 hr)) (xv (pv 5)) (xv (pv 2)) rfl) os_in))) (fun _ _ _ _ _ => (xv (pv 5)))) (fun _ _ _ h => icE_of h))) fun _ _ _ h => h) (xSeq (pss_cons (xSetF (ps_set (i := 6) sc_determined.nd rfl (Or.inl rfl) (xb pe_bl)) fun _ _ _ h => h) (xSeq (pss_cons (xWhile (dead := [7, 8, 9, 10]) (ps_while PassesOwn.never (xTr (pt_truthK (K := K) (xv (pv 6)) (fun _ => rfl))) (xSeq (pss_cons (xSetF (ps_set (i := 6) sc_determined.nd rfl (Or.inl rfl) (xb pe_bl)) fun _ _ _ h => h) (pss_one (xFor (dead := [7, 8, 9, 10]) (ps_for PassesOwn.never rfl (pi_seq2 (K := K) (xv (pv 1))) (xgT (pg_tupK (K := K) (n := 2) rfl (xgsC (pgs_cons (xgN (pg_name (i := 7) sc_determined.nd rfl (Or.inr rfl))) (xgsC (pgs_cons (xgN (pg_name (i := 8) sc_determined.nd rfl (Or.inr rfl))) (xgsN pgs_nil)))))) (gsC gfN (gsC gfN gsN))) (pss_one (xIfS (ps_if (xTDin (pt_cmp (pc_din (hu_of hr) (xv (pv 7)) (xv (pv 3))))) (xSeq (pss_cons (xSetF (ps_setLc (i := 9) (own := [("letter", 5)]) rfl sc_determined.nd rfl rfl (sw_true rfl rfl rfl (by decide +kernel)) (pi_seq2 (K := K) (xCall (pe_call G_letters_in (hr.mono (by omega)) rfl T.m_letters_in T.F_letters_in.kp T.b_letters_in .nil pass0 (xA (pa_cons (xTup (pe_tup (xA (pa_cons (xTup (pe_tup (xA (pa_cons (xv (pv 7)) (xA (pa_cons (xv (pv 8)) (xN pa_nil))))))) (xN pa_nil))))) (xN pa_nil)))))) (blkOk_by (N := ["shapes", "atoms", "letters", "keys", "found", "letter", "grown", "table", "terms", "added", "missing"]) (sc := defScope s_determined) (by decide +kernel)) (fun _ _ _ _ _ => (xgN (pg_name (i := 5) sc_determined.nd rfl (Or.inl rfl)))) (fun _ _ _ _ _ => (pts_one (xT (pt_cmpR (op_ninW (K := K) (hu65 hr)) (xv (pv 5)) (xv (pv 4)) rfl) os_nin))) (fun _ _ _ _ _ => (xv (pv 5)))) fun _ _ _ => tLc_of (fun _ _ _ h => icE_of h) (by decide)) (xSeq (pss_cons (xSetF (ps_setLc (i := 10) (own := [("letter", 5)]) rfl sc_determined.nd rfl rfl (sw_true rfl rfl rfl (by decide +kernel)) (pi_seq2 (K := K) (xv (pv 9))) (blkOk_by (N := ["shapes", "atoms", "letters", "keys", "found", "letter", "grown", "table", "terms", "added", "missing"]) (sc := defScope s_determined) (by decide +kernel)) (fun _ _ _ _ _ => (xgN (pg_name (i := 5) sc_determined.nd rfl (Or.inl rfl)))) (fun _ _ _ _ _ => (pts_one (xT (pt_cmpR (op_inW (K := K) (hu65 hr)) (xv (pv 5)) (xSl (pe_slice (sl_K (K := K)) (xv (pv 8)) (xPn po_none) (xPe (po_some (xDg (pe_dget (hu_of hr) (xv (pv 3)) (xv (pv 7)) (fun _ _ => rfl))))))) rfl) os_in))) (fun _ _ _ _ _ => (xv (pv 5)))) fun _ _ _ => tLc_of (fun _ _ _ h => icE_of h) (by decide)) (pss_one (xIfS (ps_if (PW.pt (xAnd (pw_and (xTr (pt_truthK (K := K) (xv (pv 9)) (fun _ => rfl))) (pw_and1 (xNot (pt_not (xTr (pt_truthK (K := K) (xv (pv 10)) (fun _ => rfl))))))))) (xSeq (pss_cons (xSetF (ps_set (i := 4) sc_determined.nd rfl (Or.inr rfl) (xE (pe_op (op_addK (K := K)) (xv (pv 4)) (xv (pv 9))) os_add)) fun _ _ _ h => h) (pss_one (xSetF (ps_set (i := 6) sc_determined.nd rfl (Or.inl rfl) (xb pe_bl)) fun _ _ _ h => h)))) (xNexts pss_nil)))))))) (xNexts pss_nil))))) (fun _ _ _ h => iE_of h))))))) (pss_one (xRet (ps_ret (xCall (pe_call G_by_number (hr.mono (by omega)) rfl T.m_by_number T.F_by_number.kp T.b_by_number .nil pass0 (xA (pa_cons (xv (pv 4)) (xN pa_nil)))))))))))))))), h⟩
theorem ok_meets_demand (T : Txt K mg) : FnOk P w K mg base CX0 6 T.a_meets_demand T.d_meets_demand ["shapes", "kind", "letter", "atoms", "free"] (spV K F_meets_demand) := by
  have G_determined := ok_determined (P := P) (w := w) (base := base) T
  refine T.F_meets_demand.ok sc_meets_demand (fun vs H Q E h => spV_len (F := F_meets_demand) (body := B_meets_demand) (len := 5) (n := 12) rfl h) (fun cdv A outer s H vs Q E hr h => ?_)
  obtain ⟨t, h⟩ := def_of (N := ["shapes", "kind", "letter", "atoms", "free", "keys", "name", "form", "width", "many", "table", "terms"]) (len := 5) (n := 12) (body := B_meets_demand) (F := F_meets_demand) rfl rfl h
  exact ⟨tSV ⟨K, t⟩ B_meets_demand, (xSeq (pss_cons (xIfS (ps_if (xT (pt_cmpR (op_eqK (K := K) (hu64 hr)) (xv (pv 1)) (xs pe_str) (nomark _)) os_eq) (pss_one (xRet (ps_ret (xE (pe_cmpR (op_inW (K := K) (hu65 hr)) (xv (pv 2)) (xCall (pe_call G_determined (hr.mono (by omega)) rfl T.m_determined T.F_determined.kp T.b_determined .nil pass0 (xA (pa_cons (xv (pv 0)) (xA (pa_cons (xv (pv 3)) (xA (pa_cons (xv (pv 4)) (xN pa_nil))))))))) rfl) os_in)))) (xNexts pss_nil))) (xSeq (pss_cons (xSetF (ps_setDc (i := 5) (own := [("name", 6), ("form", 7), ("width", 8), ("many", 9)]) rfl sc_meets_demand.nd rfl rfl (sw_dict rfl rfl rfl (by decide +kernel)) (pi_seq2 (K := K) (xv (pv 0))) (blkOk_by (N := ["shapes", "kind", "letter", "atoms", "free", "keys", "name", "form", "width", "many", "table", "terms"]) (sc := defScope s_meets_demand) (by decide +kernel)) (fun _ _ _ _ _ => (xgT (pg_tupK (K := K) (n := 4) rfl (xgsC (pgs_cons (xgN (pg_name (i := 6) sc_meets_demand.nd rfl (Or.inl rfl))) (xgsC (pgs_cons (xgN (pg_name (i := 7) sc_meets_demand.nd rfl (Or.inl rfl))) (xgsC (pgs_cons (xgN (pg_name (i := 8) sc_meets_demand.nd rfl (Or.inl rfl))) (xgsC (pgs_cons (xgN (pg_name (i := 9) sc_meets_demand.nd rfl (Or.inl rfl))) (xgsN pgs_nil)))))))))) (gsC gfN (gsC gfN (gsC gfN (gsC gfN gsN)))))) (fun _ _ _ _ _ => (pts_one (xT (pt_cmpR (op_neK (K := K) (hu64 hr)) (xv (pv 7)) (xs pe_str) (nomark _)) os_ne))) (fun _ _ _ _ _ => (xv (pv 6))) (fun _ _ _ _ _ => (xv (pv 9)))) fun _ _ _ => tDc_of (fun _ _ _ h => icE_of h) (by decide)) (xSeq (pss_cons (xFor (dead := [10, 11]) (ps_for PassesOwn.never rfl (pi_seq2 (K := K) (xv (pv 3))) (xgT (pg_tupK (K := K) (n := 2) rfl (xgsC (pgs_cons (xgN (pg_name (i := 10) sc_meets_demand.nd rfl (Or.inl rfl))) (xgsC (pgs_cons (xgN (pg_name (i := 11) sc_meets_demand.nd rfl (Or.inl rfl))) (xgsN pgs_nil)))))) (gsC gfN (gsC gfN gsN))) (pss_one (xIfS (ps_if (PW.pt (xAnd (pw_and (xTDin (pt_cmp (pc_din (hu_of hr) (xv (pv 10)) (xv (pv 5))))) (pw_and1 (xT (pt_cmpR (op_ninW (K := K) (hu65 hr)) (xv (pv 2)) (xSl (pe_slice (sl_K (K := K)) (xv (pv 11)) (xPn po_none) (xPe (po_some (xDg (pe_dget (hu_of hr) (xv (pv 5)) (xv (pv 10)) (fun _ _ => rfl))))))) rfl) os_nin))))) (pss_one (xRet (ps_ret (xb pe_bl)))) (xNexts pss_nil))))) (fun _ _ _ h => iE_of h)) (pss_one (xRet (ps_ret (xb pe_bl)))))))))), h⟩
theorem ok_atoms_below (T : Txt K mg) : FnOk P w K mg base CX0 133 T.a_atoms_below T.d_atoms_below ["member", "part"] (spV K F_atoms_below) := by
  have G_tables_in := ok_tables_in (P := P) (w := w) (base := base) T
  refine T.F_atoms_below.ok sc_atoms_below (fun vs H Q E h => spV_len (F := F_atoms_below) (body := B_atoms_below) (len := 2) (n := 4) rfl h) (fun cdv A outer s H vs Q E hr h => ?_)
  obtain ⟨t, h⟩ := def_of (N := ["member", "part", "tables", "atom"]) (len := 2) (n := 4) (body := B_atoms_below) (F := F_atoms_below) rfl rfl h
  exact ⟨tSV ⟨K, t⟩ B_atoms_below, (xSeq (pss_cons (xSetF (ps_set (i := 2) sc_atoms_below.nd rfl (Or.inr rfl) (xCall (pe_call G_tables_in (hr.mono (by omega)) rfl T.m_tables_in T.F_tables_in.kp T.b_tables_in .nil pass0 (xA (pa_cons (xv (pv 1)) (xN pa_nil)))))) fun _ _ _ h => h) (pss_one (xRet (ps_ret (xB (pe_callTy (call_tupleK (K := K)) (by rfl) T.z_tuple rfl (xA (pa_cons (xLc (pe_lc (own := [("atom", 3)]) rfl sc_atoms_below.nd (pi_seq2 (K := K) (xE (pe_ix (ixK (K := K)) (xv (pv 0)) (xi pe_int) (fun _ _ => rfl)) os_ix)) (blkOk_by (N := ["member", "part", "tables", "atom"]) (sc := defScope s_atoms_below) (by decide +kernel)) (fun _ _ _ _ _ => (xgN (pg_name (i := 3) sc_atoms_below.nd rfl (Or.inl rfl)))) (fun _ _ _ _ _ => (pts_one (xT (pt_cmpR (op_inW (K := K) (hu65 hr)) (xE (pe_ix (ixK (K := K)) (xv (pv 3)) (xi pe_int) (fun _ _ => rfl)) os_ix) (xv (pv 2)) rfl) os_in))) (fun _ _ _ _ _ => (xv (pv 3)))) (fun _ _ _ h => icE_of h)) (xN pa_nil)))) bs_tup)))))), h⟩
theorem ok_free_letters (T : Txt K mg) : FnOk P w K mg base CX0 134 T.a_free_letters T.d_free_letters ["member", "part"] (spV K F_free_letters) := by
  have G_by_number := ok_by_number (P := P) (w := w) (base := base) T
  have G_projections := ok_projections (P := P) (w := w) (base := base) T
  have G_letters_in := ok_letters_in (P := P) (w := w) (base := base) T
  have G_atoms_below := ok_atoms_below (P := P) (w := w) (base := base) T
  refine T.F_free_letters.ok sc_free_letters (fun vs H Q E h => spV_len (F := F_free_letters) (body := B_free_letters) (len := 2) (n := 5) rfl h) (fun cdv A outer s H vs Q E hr h => ?_)
  obtain ⟨t, h⟩ := def_of (N := ["member", "part", "projected", "other", "letter"]) (len := 2) (n := 5) (body := B_free_letters) (F := F_free_letters) rfl rfl h
  exact ⟨tSV ⟨K, t⟩ B_free_letters, (xSeq (pss_cons (xSetF (ps_set (i := 2) sc_free_letters.nd rfl (Or.inr rfl) (xLc (pe_lc (own := [("other", 3)]) rfl sc_free_letters.nd (pi_seq2 (K := K) (xCall (pe_call G_projections (hr.mono (by omega)) rfl T.m_projections T.F_projections.kp T.b_projections .nil pass0 (xA (pa_cons (xv (pv 1)) (xN pa_nil)))))) (blkOk_by (N := ["member", "part", "projected", "other", "letter"]) (sc := defScope s_free_letters) (by decide +kernel)) (fun _ _ _ _ _ => (xgN (pg_name (i := 3) sc_free_letters.nd rfl (Or.inl rfl)))) (fun _ _ _ _ _ => (xYes pts_nil)) (fun _ _ _ _ _ => (xE (pe_ix (ixK (K := K)) (xv (pv 3)) (xi pe_int) (fun _ _ => rfl)) os_ix))) (fun _ _ _ h => icE_of h))) fun _ _ _ h => h) (pss_one (xRet (ps_ret (xCall (pe_call G_by_number (hr.mono (by omega)) rfl T.m_by_number T.F_by_number.kp T.b_by_number .nil pass0 (xA (pa_cons (xLc (pe_lc (own := [("letter", 4)]) rfl sc_free_letters.nd (pi_seq2 (K := K) (xCall (pe_call G_letters_in (hr.mono (by omega)) rfl T.m_letters_in T.F_letters_in.kp T.b_letters_in .nil pass0 (xA (pa_cons (xCall (pe_call G_atoms_below (hr.mono (by omega)) rfl T.m_atoms_below T.F_atoms_below.kp T.b_atoms_below .nil pass0 (xA (pa_cons (xv (pv 0)) (xA (pa_cons (xv (pv 1)) (xN pa_nil))))))) (xN pa_nil)))))) (blkOk_by (N := ["member", "part", "projected", "other", "letter"]) (sc := defScope s_free_letters) (by decide +kernel)) (fun _ _ _ _ _ => (xgN (pg_name (i := 4) sc_free_letters.nd rfl (Or.inl rfl)))) (fun _ _ _ _ _ => (pts_one (xT (pt_cmpR (op_ninW (K := K) (hu65 hr)) (xv (pv 4)) (xv (pv 2)) rfl) os_nin))) (fun _ _ _ _ _ => (xv (pv 4)))) (fun _ _ _ h => icE_of h)) (xN pa_nil)))))))))), h⟩
theorem ok_is_met (T : Txt K mg) : FnOk P w K mg base CX0 135 T.a_is_met T.d_is_met ["shapes", "member", "part"] (spV K F_is_met) := by
  have G_meets_demand := ok_meets_demand (P := P) (w := w) (base := base) T
  have G_atoms_below := ok_atoms_below (P := P) (w := w) (base := base) T
  have G_free_letters := ok_free_letters (P := P) (w := w) (base := base) T
  refine T.F_is_met.ok sc_is_met (fun vs H Q E h => spV_len (F := F_is_met) (body := B_is_met) (len := 3) (n := 3) rfl h) (fun cdv A outer s H vs Q E hr h => ?_)
  obtain ⟨t, h⟩ := def_of (N := ["shapes", "member", "part"]) (len := 3) (n := 3) (body := B_is_met) (F := F_is_met) rfl rfl h
  exact ⟨tSV ⟨K, t⟩ B_is_met, (pss_one (xRet (ps_ret (xCall (pe_call G_meets_demand (hr.mono (by omega)) rfl T.m_meets_demand T.F_meets_demand.kp T.b_meets_demand .nil pass0 (xA (pa_cons (xv (pv 0)) (xA (pa_cons (xE (pe_ix (ixK (K := K)) (xv (pv 2)) (xi pe_int) (fun _ _ => rfl)) os_ix) (xA (pa_cons (xE (pe_ix (ixK (K := K)) (xv (pv 2)) (xi pe_int) (fun _ _ => rfl)) os_ix) (xA (pa_cons (xCall (pe_call G_atoms_below (hr.mono (by omega)) rfl T.m_atoms_below T.F_atoms_below.kp T.b_atoms_below .nil pass0 (xA (pa_cons (xv (pv 1)) (xA (pa_cons (xv (pv 2)) (xN pa_nil))))))) (xA (pa_cons (xCall (pe_call G_free_letters (hr.mono (by omega)) rfl T.m_free_letters T.F_free_letters.kp T.b_free_letters .nil pass0 (xA (pa_cons (xv (pv 1)) (xA (pa_cons (xv (pv 2)) (xN pa_nil))))))) (xN pa_nil)))))))))))))))), h⟩
theorem ok_demands (T : Txt K mg) : FnOk P w K mg base CX0 136 T.a_demands T.d_demands ["shapes", "member", "plan"] (spV K F_demands) := by
  have G_is_met := ok_is_met (P := P) (w := w) (base := base) T
  have G_projections := ok_projections (P := P) (w := w) (base := base) T
  refine T.F_demands.ok sc_demands (fun vs H Q E h => spV_len (F := F_demands) (body := B_demands) (len := 3) (n := 4) rfl h) (fun cdv A outer s H vs Q E hr h => ?_)
  obtain ⟨t, h⟩ := def_of (N := ["shapes", "member", "plan", "part"]) (len := 3) (n := 4) (body := B_demands) (F := F_demands) rfl rfl h
  exact ⟨tSV ⟨K, t⟩ B_demands, (pss_one (xRet (ps_ret (xB (pe_callTy (call_tupleK (K := K)) (by rfl) T.z_tuple rfl (xA (pa_cons (xLc (pe_lc (own := [("part", 3)]) rfl sc_demands.nd (pi_seq2 (K := K) (xCall (pe_call G_projections (hr.mono (by omega)) rfl T.m_projections T.F_projections.kp T.b_projections .nil pass0 (xA (pa_cons (xv (pv 2)) (xN pa_nil)))))) (blkOk_by (N := ["shapes", "member", "plan", "part"]) (sc := defScope s_demands) (by decide +kernel)) (fun _ _ _ _ _ => (xgN (pg_name (i := 3) sc_demands.nd rfl (Or.inl rfl)))) (fun _ _ _ _ _ => (xYes pts_nil)) (fun _ _ _ _ _ => (xTup (pe_tup (xA (pa_cons (xE (pe_ix (ixK (K := K)) (xv (pv 3)) (xi pe_int) (fun _ _ => rfl)) os_ix) (xA (pa_cons (xCall (pe_call G_is_met (hr.mono (by omega)) rfl T.m_is_met T.F_is_met.kp T.b_is_met .nil pass0 (xA (pa_cons (xv (pv 0)) (xA (pa_cons (xv (pv 1)) (xA (pa_cons (xv (pv 3)) (xN pa_nil))))))))) (xN pa_nil))))))))) (fun _ _ _ h => icE_of h)) (xN pa_nil)))) bs_tup)))), h⟩
theorem ok_is_safe (T : Txt K mg) : FnOk P w K mg base CX0 137 T.a_is_safe T.d_is_safe ["shapes", "member", "plan"] (spV K F_is_safe) := by
  have G_demands := ok_demands (P := P) (w := w) (base := base) T
  refine T.F_is_safe.ok sc_is_safe (fun vs H Q E h => spV_len (F := F_is_safe) (body := B_is_safe) (len := 3) (n := 5) rfl h) (fun cdv A outer s H vs Q E hr h => ?_)
  obtain ⟨t, h⟩ := def_of (N := ["shapes", "member", "plan", "letter", "met"]) (len := 3) (n := 5) (body := B_is_safe) (F := F_is_safe) rfl rfl h
  exact ⟨tSV ⟨K, t⟩ B_is_safe, (pss_one (xRet (ps_ret (xB (pe_callB (cr_allK (K := K) rfl) (by rfl) T.z_all rfl (xA (pa_cons (xLc (pe_lc (own := [("letter", 3), ("met", 4)]) rfl sc_is_safe.nd (pi_seq2 (K := K) (xCall (pe_call G_demands (hr.mono (by omega)) rfl T.m_demands T.F_demands.kp T.b_demands .nil pass0 (xA (pa_cons (xv (pv 0)) (xA (pa_cons (xv (pv 1)) (xA (pa_cons (xv (pv 2)) (xN pa_nil)))))))))) (blkOk_by (N := ["shapes", "member", "plan", "letter", "met"]) (sc := defScope s_is_safe) (by decide +kernel)) (fun _ _ _ _ _ => (xgT (pg_tupK (K := K) (n := 2) rfl (xgsC (pgs_cons (xgN (pg_name (i := 3) sc_is_safe.nd rfl (Or.inl rfl))) (xgsC (pgs_cons (xgN (pg_name (i := 4) sc_is_safe.nd rfl (Or.inl rfl))) (xgsN pgs_nil)))))) (gsC gfN (gsC gfN gsN)))) (fun _ _ _ _ _ => (xYes pts_nil)) (fun _ _ _ _ _ => (xv (pv 4)))) (fun _ _ _ h => icE_of h)) (xN pa_nil)))) bs_all)))), h⟩
theorem ok__law_pick (T : Txt K mg) : FnOk P w K mg base CX0 2 T.a__law_pick T.d__law_pick ["tape", "rows"] (spV K F__law_pick) := by
  have G__law_draw := ok__law_draw (P := P) (w := w) (base := base) T
  refine T.F__law_pick.ok sc__law_pick (fun vs H Q E h => spV_len (F := F__law_pick) (body := B__law_pick) (len := 2) (n := 2) rfl h) (fun cdv A outer s H vs Q E hr h => ?_)
  obtain ⟨t, h⟩ := def_of (N := ["tape", "rows"]) (len := 2) (n := 2) (body := B__law_pick) (F := F__law_pick) rfl rfl h
  exact ⟨tSV ⟨K, t⟩ B__law_pick, (pss_one (xRet (ps_ret (xE (pe_ix (ixK (K := K)) (xv (pv 1)) (xCall (pe_call G__law_draw (hr.mono (by omega)) rfl T.m__law_draw T.F__law_draw.kp T.b__law_draw .nil pass0 (xA (pa_cons (xv (pv 0)) (xA (pa_cons (xB (pe_callB (call_lenK (K := K)) (by rfl) T.z_len rfl (xA (pa_cons (xv (pv 1)) (xN pa_nil)))) bs_len) (xN pa_nil))))))) (fun _ _ => rfl)) os_ix)))), h⟩
theorem ok__law_turns (T : Txt K mg) : FnOk P w K mg base CX0 2 T.a__law_turns T.d__law_turns ["tape", "many"] (spV K F__law_turns) := by
  have G__law_draw := ok__law_draw (P := P) (w := w) (base := base) T
  refine T.F__law_turns.ok sc__law_turns (fun vs H Q E h => spV_len (F := F__law_turns) (body := B__law_turns) (len := 2) (n := 5) rfl h) (fun cdv A outer s H vs Q E hr h => ?_)
  obtain ⟨t, h⟩ := def_of (N := ["tape", "many", "left", "turns", "k"]) (len := 2) (n := 5) (body := B__law_turns) (F := F__law_turns) rfl rfl h
  exact ⟨tSV ⟨K, t⟩ B__law_turns, (xSeq (pss_cons (xSetO (ps_set (i := 2) sc__law_turns.nd rfl (Or.inl rfl) (xRg (pe_listRg rfl (by rfl) T.z_list (prg_1 (by rfl) T.z_range (xv (pv 1)))))) fun _ _ _ h => h) (xSeq (pss_cons (xSetO (ps_set (i := 3) sc__law_turns.nd rfl (Or.inl rfl) (xLst (pe_lst (xN pa_nil)))) fun _ _ _ h => h) (xSeq (pss_cons (xFor (dead := [4]) (ps_for PassesOwn.never rfl (pi_range1 (by rfl) T.z_range (xA (pa_cons (xv (pv 1)) (xN pa_nil)))) (xgN (pg_name (i := 4) sc__law_turns.nd rfl (Or.inl rfl))) (pss_one (xExpr (ps_expr (xApp (pe_bmK (K := K) PySem.F.plainAttrs_list PySem.F.slot_list_append PySem.F.type_list_append mt_append (pv 3) (xA (pa_cons (xPop (pe_bmK (K := K) PySem.F.plainAttrs_list PySem.F.slot_list_pop PySem.F.type_list_pop mt_popAt (pv 2) (xA (pa_cons (xCall (pe_call G__law_draw (hr.mono (by omega)) rfl T.m__law_draw T.F__law_draw.kp T.b__law_draw .nil pass0 (xA (pa_cons (xv (pv 0)) (xA (pa_cons (xB (pe_callB (call_lenK (K := K)) (by rfl) T.z_len rfl (xA (pa_cons (xv (pv 2)) (xN pa_nil)))) bs_len) (xN pa_nil))))))) (xN pa_nil))))) (xN pa_nil))))))))) (fun _ _ _ h => iR1_of (tIS_of h))) (pss_one (xRet (ps_ret (xSl (pe_slice (sl_K (K := K)) (xv (pv 3)) (xPn po_none) (xPe (po_some (xE (pe_ix (ixK (K := K)) (xLst (pe_lst (xA (pa_cons (xv (pv 1)) (xA (pa_cons (xv (pv 1)) (xA (pa_cons (xi pe_int) (xN pa_nil))))))))) (xCall (pe_call G__law_draw (hr.mono (by omega)) rfl T.m__law_draw T.F__law_draw.kp T.b__law_draw .nil pass0 (xA (pa_cons (xv (pv 0)) (xA (pa_cons (xi pe_int) (xN pa_nil))))))) (fun _ _ => rfl)) os_ix)))))))))))))), h⟩
theorem ok__law_shuffled (T : Txt K mg) : FnOk P w K mg base CX0 2 T.a__law_shuffled T.d__law_shuffled ["tape", "rows"] (spV K F__law_shuffled) := by
  have G__law_draw := ok__law_draw (P := P) (w := w) (base := base) T
  refine T.F__law_shuffled.ok sc__law_shuffled (fun vs H Q E h => spV_len (F := F__law_shuffled) (body := B__law_shuffled) (len := 2) (n := 5) rfl h) (fun cdv A outer s H vs Q E hr h => ?_)
  obtain ⟨t, h⟩ := def_of (N := ["tape", "rows", "left", "turned", "k"]) (len := 2) (n := 5) (body := B__law_shuffled) (F := F__law_shuffled) rfl rfl h
  exact ⟨tSV ⟨K, t⟩ B__law_shuffled, (xSeq (pss_cons (xSetO (ps_set (i := 2) sc__law_shuffled.nd rfl (Or.inl rfl) (xB (pe_callTy (call_listK (K := K)) (by rfl) T.z_list rfl (xA (pa_cons (xv (pv 1)) (xN pa_nil)))) bs_lst)) fun _ _ _ h => h) (xSeq (pss_cons (xSetO (ps_set (i := 3) sc__law_shuffled.nd rfl (Or.inl rfl) (xLst (pe_lst (xN pa_nil)))) fun _ _ _ h => h) (xSeq (pss_cons (xFor (dead := [4]) (ps_for PassesOwn.never rfl (pi_range1 (by rfl) T.z_range (xA (pa_cons (xB (pe_callB (call_lenK (K := K)) (by rfl) T.z_len rfl (xA (pa_cons (xv (pv 1)) (xN pa_nil)))) bs_len) (xN pa_nil)))) (xgN (pg_name (i := 4) sc__law_shuffled.nd rfl (Or.inl rfl))) (pss_one (xExpr (ps_expr (xApp (pe_bmK (K := K) PySem.F.plainAttrs_list PySem.F.slot_list_append PySem.F.type_list_append mt_append (pv 3) (xA (pa_cons (xPop (pe_bmK (K := K) PySem.F.plainAttrs_list PySem.F.slot_list_pop PySem.F.type_list_pop mt_popAt (pv 2) (xA (pa_cons (xCall (pe_call G__law_draw (hr.mono (by omega)) rfl T.m__law_draw T.F__law_draw.kp T.b__law_draw .nil pass0 (xA (pa_cons (xv (pv 0)) (xA (pa_cons (xB (pe_callB (call_lenK (K := K)) (by rfl) T.z_len rfl (xA (pa_cons (xv (pv 2)) (xN pa_nil)))) bs_len) (xN pa_nil))))))) (xN pa_nil))))) (xN pa_nil))))))))) (fun _ _ _ h => iR1_of (tIS_of h))) (pss_one (xRet (ps_ret (xv (pv 3))))))))))), h⟩
theorem okR__law_same (T : Txt K mg) : ∀ n : Nat, (FnOk P w K mg base CX0 (1 + n) T.a__law_same T.d__law_same ["told", "wanted"] (spV K (R__law_same n))) := by
  intro n
  induction n with
  | zero => exact fn_false fun _ _ h => h
  | succ n ih =>
    have G__law_same := ih
    refine T.F__law_same.ok (k := 1 + n) sc__law_same (fun vs H Q E h => spV_len (F := R__law_same (n + 1)) (len := 2) (n := 3) rfl h) (fun cdv A outer s H vs Q E hr h => ?_)
    obtain ⟨t, h⟩ := def_of (N := ["told", "wanted", "k"]) (n := 3) (len := 2) (F := R__law_same (n + 1)) rfl rfl h
    exact ⟨tSV ⟨K, t⟩ _, (xSeq (pss_cons (xIfS (ps_if (xTr (pt_truthK (K := K) (xIsi .tup (pe_callB (call_isiK1 (K := K)) (by rfl) T.z_isinstance rfl (pa_cons (xv (pv 1)) (pa_cons (pe_bltn (by rfl) T.z_tuple rfl (v := .ty "tuple") rfl) pa_nil)))) (fun _ => rfl))) (xSeq (pss_cons (xIfS (ps_if (PW.pt (xOr (pw_or (xNot (pt_not (xTr (pt_truthK (K := K) (xIsi .tup (pe_callB (call_isiK1 (K := K)) (by rfl) T.z_isinstance rfl (pa_cons (xv (pv 0)) (pa_cons (pe_bltn (by rfl) T.z_tuple rfl (v := .ty "tuple") rfl) pa_nil)))) (fun _ => rfl))))) (pw_or1 (xT (pt_cmpR (op_neK (K := K) (hu64 hr)) (xB (pe_callB (call_lenK (K := K)) (by rfl) T.z_len rfl (xA (pa_cons (xv (pv 0)) (xN pa_nil)))) bs_len) (xB (pe_callB (call_lenK (K := K)) (by rfl) T.z_len rfl (xA (pa_cons (xv (pv 1)) (xN pa_nil)))) bs_len) (nomark _)) os_ne))))) (pss_one (xRet (ps_ret (xb pe_bl)))) (xNexts pss_nil))) (pss_one (xRet (ps_ret (xE (pe_cmpR (op_ninW (K := K) (hu65 hr)) (xb pe_bl) (xLc (pe_lc (own := [("k", 2)]) rfl sc__law_same.nd (pi_range1 (by rfl) T.z_range (xA (pa_cons (xB (pe_callB (call_lenK (K := K)) (by rfl) T.z_len rfl (xA (pa_cons (xv (pv 1)) (xN pa_nil)))) bs_len) (xN pa_nil)))) (blkOk_by (N := ["told", "wanted", "k"]) (sc := defScope s__law_same) (by decide +kernel)) (fun _ _ _ _ _ => (xgN (pg_name (i := 2) sc__law_same.nd rfl (Or.inl rfl)))) (fun _ _ _ _ _ => (xYes pts_nil)) (fun _ _ _ _ _ => (xCall (pe_call G__law_same (hr.mono (by omega)) rfl T.m__law_same T.F__law_same.kp T.b__law_same .nil pass0 (xA (pa_cons (xE (pe_ix (ixK (K := K)) (xv (pv 0)) (xv (pv 2)) (fun _ _ => rfl)) os_ix) (xA (pa_cons (xE (pe_ix (ixK (K := K)) (xv (pv 1)) (xv (pv 2)) (fun _ _ => rfl)) os_ix) (xN pa_nil))))))))) (fun _ _ _ h => iR1_of (tICN_of h))) rfl) os_nin)))))) (xNexts pss_nil))) (xSeq (pss_cons (xIfS (ps_if (PW.pt (xOr (pw_or (xT (pt_cmpR op_isN (xv (pv 1)) (xn pe_non) (nomark _)) os_is) (pw_or1 (xT (pt_cmpR op_isN (xv (pv 0)) (xn pe_non) (nomark _)) os_is))))) (pss_one (xRet (ps_ret (xAndV (pe_and (xE (pe_cmpR op_isN (xv (pv 1)) (xn pe_non) (nomark _)) os_is) (pe_one (xE (pe_cmpR op_isN (xv (pv 0)) (xn pe_non) (nomark _)) os_is))))))) (xNexts pss_nil))) (xSeq (pss_cons (xIfS (ps_if (PW.pt (xOr (pw_or (xT (pt_cmpR (op_neK (K := K) (hu64 hr)) (xIsi .bool (pe_callB (call_isiK1 (K := K)) (by rfl) T.z_isinstance rfl (pa_cons (xv (pv 0)) (pa_cons (pe_bltn (by rfl) T.z_bool rfl (v := .ty "bool") rfl) pa_nil)))) (xIsi .bool (pe_callB (call_isiK1 (K := K)) (by rfl) T.z_isinstance rfl (pa_cons (xv (pv 1)) (pa_cons (pe_bltn (by rfl) T.z_bool rfl (v := .ty "bool") rfl) pa_nil)))) (nomark _)) os_ne) (pw_or1 (xT (pt_cmpR (op_neK (K := K) (hu64 hr)) (xIsi .str (pe_callB (call_isiK1 (K := K)) (by rfl) T.z_isinstance rfl (pa_cons (xv (pv 0)) (pa_cons (pe_bltn (by rfl) T.z_str rfl (v := .ty "str") rfl) pa_nil)))) (xIsi .str (pe_callB (call_isiK1 (K := K)) (by rfl) T.z_isinstance rfl (pa_cons (xv (pv 1)) (pa_cons (pe_bltn (by rfl) T.z_str rfl (v := .ty "str") rfl) pa_nil)))) (nomark _)) os_ne))))) (pss_one (xRet (ps_ret (xb pe_bl)))) (xNexts pss_nil))) (pss_one (xRet (ps_ret (xAndV (pe_and (xE (pe_cmpR (op_eqK (K := K) (hu64 hr)) (xIsi .int (pe_callB (call_isiK1 (K := K)) (by rfl) T.z_isinstance rfl (pa_cons (xv (pv 0)) (pa_cons (pe_bltn (by rfl) T.z_int rfl (v := .ty "int") rfl) pa_nil)))) (xIsi .int (pe_callB (call_isiK1 (K := K)) (by rfl) T.z_isinstance rfl (pa_cons (xv (pv 1)) (pa_cons (pe_bltn (by rfl) T.z_int rfl (v := .ty "int") rfl) pa_nil)))) (nomark _)) os_eq) (pe_one (xE (pe_cmpR (op_eqK (K := K) (hu64 hr)) (xv (pv 0)) (xv (pv 1)) (nomark _)) os_eq))))))))))))), h⟩
theorem ok__law_same (T : Txt K mg) : FnOk P w K mg base CX0 131 T.a__law_same T.d__law_same ["told", "wanted"] (spV K F__law_same) := (okR__law_same (P := P) (w := w) (base := base) T 130)
theorem ok__law_text (T : Txt K mg) : FnOk P w K mg base CX0 2 T.a__law_text T.d__law_text ["tape", "most"] (spV K F__law_text) := by
  have G__law_draw := ok__law_draw (P := P) (w := w) (base := base) T
  refine T.F__law_text.ok sc__law_text (fun vs H Q E h => spV_len (F := F__law_text) (body := B__law_text) (len := 2) (n := 4) rfl h) (fun cdv A outer s H vs Q E hr h => ?_)
  obtain ⟨t, h⟩ := def_of (N := ["tape", "most", "signs", "k"]) (len := 2) (n := 4) (body := B__law_text) (F := F__law_text) rfl rfl h
  exact ⟨tSV ⟨K, t⟩ B__law_text, (xSeq (pss_cons (xSetF (ps_set (i := 2) sc__law_text.nd rfl (Or.inr rfl) (xs pe_str)) fun _ _ _ h => h) (pss_one (xRet (ps_ret (xM1 (pe_joinK (K := K) (xs pe_str) (xLc (pe_lc (own := [("k", 3)]) rfl sc__law_text.nd (pi_range1 (by rfl) T.z_range (xA (pa_cons (xCall (pe_call G__law_draw (hr.mono (by omega)) rfl T.m__law_draw T.F__law_draw.kp T.b__law_draw .nil pass0 (xA (pa_cons (xv (pv 0)) (xA (pa_cons (xE (pe_op (op_addK (K := K)) (xv (pv 1)) (xi pe_int)) os_add) (xN pa_nil))))))) (xN pa_nil)))) (blkOk_by (N := ["tape", "most", "signs", "k"]) (sc := defScope s__law_text) (by decide +kernel)) (fun _ _ _ _ _ => (xgN (pg_name (i := 3) sc__law_text.nd rfl (Or.inl rfl)))) (fun _ _ _ _ _ => (xYes pts_nil)) (fun _ _ _ _ _ => (xE (pe_ix (ixK (K := K)) (xv (pv 2)) (xCall (pe_call G__law_draw (hr.mono (by omega)) rfl T.m__law_draw T.F__law_draw.kp T.b__law_draw .nil pass0 (xA (pa_cons (xv (pv 0)) (xA (pa_cons (xi pe_int) (xN pa_nil))))))) (fun _ _ => rfl)) os_ix))) (fun _ _ _ h => iR1_of (tICN_of h)))) ms_join)))))), h⟩
theorem ok__law_value_of (T : Txt K mg) : FnOk P w K mg base CX0 3 T.a__law_value_of T.d__law_value_of ["tape"] (spV K F__law_value_of) := by
  have G__law_draw := ok__law_draw (P := P) (w := w) (base := base) T
  have G__law_text := ok__law_text (P := P) (w := w) (base := base) T
  have G__law_pick := ok__law_pick (P := P) (w := w) (base := base) T
  refine T.F__law_value_of.ok sc__law_value_of (fun vs H Q E h => spV_len (F := F__law_value_of) (body := B__law_value_of) (len := 1) (n := 2) rfl h) (fun cdv A outer s H vs Q E hr h => ?_)
  obtain ⟨t, h⟩ := def_of (N := ["tape", "choice"]) (len := 1) (n := 2) (body := B__law_value_of) (F := F__law_value_of) rfl rfl h
  exact ⟨tSV ⟨K, t⟩ B__law_value_of, (xSeq (pss_cons (xSetF (ps_set (i := 1) sc__law_value_of.nd rfl (Or.inl rfl) (xCall (pe_call G__law_draw (hr.mono (by omega)) rfl T.m__law_draw T.F__law_draw.kp T.b__law_draw .nil pass0 (xA (pa_cons (xv (pv 0)) (xA (pa_cons (xi pe_int) (xN pa_nil)))))))) fun _ _ _ h => h) (xSeq (pss_cons (xIfS (ps_if (xT (pt_cmpR op_lt (xv (pv 1)) (xi pe_int) (nomark _)) os_cmp) (pss_one (xRet (ps_ret (xCall (pe_call G__law_draw (hr.mono (by omega)) rfl T.m__law_draw T.F__law_draw.kp T.b__law_draw .nil pass0 (xA (pa_cons (xv (pv 0)) (xA (pa_cons (xi pe_int) (xN pa_nil)))))))))) (xNexts pss_nil))) (xSeq (pss_cons (xIfS (ps_if (xT (pt_cmpR (op_eqK (K := K) (hu64 hr)) (xv (pv 1)) (xi pe_int) (nomark _)) os_eq) (pss_one (xRet (ps_ret (xCall (pe_call G__law_pick (hr.mono (by omega)) rfl T.m__law_pick T.F__law_pick.kp T.b__law_pick .nil pass0 (xA (pa_cons (xv (pv 0)) (xA (pa_cons (xLst (pe_lst (xA (pa_cons (xU (pe_un un_neg (xi pe_int)) us_neg) (xA (pa_cons (xi pe_int) (xA (pa_cons (xi pe_int) (xA (pa_cons (xi pe_int) (xA (pa_cons (xU (pe_un un_neg (xi pe_int)) us_neg) (xA (pa_cons (xi pe_int) (xA (pa_cons (xi pe_int) (xN pa_nil))))))))))))))))) (xN pa_nil)))))))))) (xNexts pss_nil))) (xSeq (pss_cons (xIfS (ps_if (xT (pt_cmpR (op_eqK (K := K) (hu64 hr)) (xv (pv 1)) (xi pe_int) (nomark _)) os_eq) (pss_one (xRet (ps_ret (xE (pe_op op_sub (xCall (pe_call G__law_draw (hr.mono (by omega)) rfl T.m__law_draw T.F__law_draw.kp T.b__law_draw .nil pass0 (xA (pa_cons (xv (pv 0)) (xA (pa_cons (xi pe_int) (xN pa_nil))))))) (xi pe_int)) os_sub)))) (xNexts pss_nil))) (xSeq (pss_cons (xIfS (ps_if (xT (pt_cmpR op_lt (xv (pv 1)) (xi pe_int) (nomark _)) os_cmp) (pss_one (xRet (ps_ret (xCall (pe_call G__law_pick (hr.mono (by omega)) rfl T.m__law_pick T.F__law_pick.kp T.b__law_pick .nil pass0 (xA (pa_cons (xv (pv 0)) (xA (pa_cons (xLst (pe_lst (xA (pa_cons (xs pe_str) (xA (pa_cons (xs pe_str) (xA (pa_cons (xs pe_str) (xA (pa_cons (xs pe_str) (xA (pa_cons (xs pe_str) (xA (pa_cons (xs pe_str) (xA (pa_cons (xs pe_str) (xA (pa_cons (xs pe_str) (xA (pa_cons (xs pe_str) (xA (pa_cons (xs pe_str) (xA (pa_cons (xs pe_str) (xN pa_nil))))))))))))))))))))))))) (xN pa_nil)))))))))) (xNexts pss_nil))) (pss_one (xRet (ps_ret (xCall (pe_call G__law_text (hr.mono (by omega)) rfl T.m__law_text T.F__law_text.kp T.b__law_text .nil pass0 (xA (pa_cons (xv (pv 0)) (xA (pa_cons (xi pe_int) (xN pa_nil)))))))))))))))))))), h⟩
theorem ok__law_pool (T : Txt K mg) : FnOk P w K mg base CX0 4 T.a__law_pool T.d__law_pool ["tape"] (spV K F__law_pool) := by
  have G__law_draw := ok__law_draw (P := P) (w := w) (base := base) T
  have G__law_value_of := ok__law_value_of (P := P) (w := w) (base := base) T
  have G__law_pick := ok__law_pick (P := P) (w := w) (base := base) T
  refine T.F__law_pool.ok sc__law_pool (fun vs H Q E h => spV_len (F := F__law_pool) (body := B__law_pool) (len := 1) (n := 3) rfl h) (fun cdv A outer s H vs Q E hr h => ?_)
  obtain ⟨t, h⟩ := def_of (N := ["tape", "many", "k"]) (len := 1) (n := 3) (body := B__law_pool) (F := F__law_pool) rfl rfl h
  exact ⟨tSV ⟨K, t⟩ B__law_pool, (xSeq (pss_cons (xSetF (ps_set (i := 1) sc__law_pool.nd rfl (Or.inl rfl) (xE (pe_op (op_addK (K := K)) (xi pe_int) (xCall (pe_call G__law_draw (hr.mono (by omega)) rfl T.m__law_draw T.F__law_draw.kp T.b__law_draw .nil pass0 (xA (pa_cons (xv (pv 0)) (xA (pa_cons (xi pe_int) (xN pa_nil)))))))) os_add)) fun _ _ _ h => h) (xSeq (pss_cons (xIfS (ps_if (xT (pt_cmpR (op_eqK (K := K) (hu64 hr)) (xCall (pe_call G__law_draw (hr.mono (by omega)) rfl T.m__law_draw T.F__law_draw.kp T.b__law_draw .nil pass0 (xA (pa_cons (xv (pv 0)) (xA (pa_cons (xi pe_int) (xN pa_nil))))))) (xi pe_int) (nomark _)) os_eq) (pss_one (xRet (ps_ret (xSl (pe_slice (sl_K (K := K)) (xCall (pe_call G__law_pick (hr.mono (by omega)) rfl T.m__law_pick T.F__law_pick.kp T.b__law_pick .nil pass0 (xA (pa_cons (xv (pv 0)) (xA (pa_cons (xLst (pe_lst (xA (pa_cons (xLst (pe_lst (xA (pa_cons (xi pe_int) (xA (pa_cons (xi pe_int) (xA (pa_cons (xi pe_int) (xA (pa_cons (xi pe_int) (xA (pa_cons (xi pe_int) (xN pa_nil))))))))))))) (xA (pa_cons (xLst (pe_lst (xA (pa_cons (xi pe_int) (xA (pa_cons (xi pe_int) (xA (pa_cons (xs pe_str) (xA (pa_cons (xi pe_int) (xA (pa_cons (xi pe_int) (xN pa_nil))))))))))))) (xA (pa_cons (xLst (pe_lst (xA (pa_cons (xs pe_str) (xA (pa_cons (xs pe_str) (xA (pa_cons (xs pe_str) (xA (pa_cons (xi pe_int) (xA (pa_cons (xs pe_str) (xN pa_nil))))))))))))) (xN pa_nil))))))))) (xN pa_nil))))))) (xPn po_none) (xPe (po_some (xv (pv 1))))))))) (xNexts pss_nil))) (pss_one (xRet (ps_ret (xLc (pe_lc (own := [("k", 2)]) rfl sc__law_pool.nd (pi_range1 (by rfl) T.z_range (xA (pa_cons (xv (pv 1)) (xN pa_nil)))) (blkOk_by (N := ["tape", "many", "k"]) (sc := defScope s__law_pool) (by decide +kernel)) (fun _ _ _ _ _ => (xgN (pg_name (i := 2) sc__law_pool.nd rfl (Or.inl rfl)))) (fun _ _ _ _ _ => (xYes pts_nil)) (fun _ _ _ _ _ => (xCall (pe_call G__law_value_of (hr.mono (by omega)) rfl T.m__law_value_of T.F__law_value_of.kp T.b__law_value_of .nil pass0 (xA (pa_cons (xv (pv 0)) (xN pa_nil))))))) (fun _ _ _ h => iR1_of (tICN_of h)))))))))), h⟩
theorem ok__law_reserved (T : Txt K mg) : FnOk P w K mg base CX0 1 T.a__law_reserved T.d__law_reserved [] (spV K F__law_reserved) := by
  refine T.F__law_reserved.ok sc__law_reserved (fun vs H Q E h => spV_len (F := F__law_reserved) (body := B__law_reserved) (len := 0) (n := 1) rfl h) (fun cdv A outer s H vs Q E hr h => ?_)
  obtain ⟨t, h⟩ := def_of (N := ["words"]) (len := 0) (n := 1) (body := B__law_reserved) (F := F__law_reserved) rfl rfl h
  exact ⟨tSV ⟨K, t⟩ B__law_reserved, (xSeq (pss_cons (xSetF (ps_set (i := 0) sc__law_reserved.nd rfl (Or.inl rfl) (xs pe_str)) fun _ _ _ h => h) (xSeq (pss_cons (xSetF (ps_set (i := 0) sc__law_reserved.nd rfl (Or.inl rfl) (xE (pe_op (op_addK (K := K)) (xv (pv 0)) (xs pe_str)) os_add)) fun _ _ _ h => h) (xSeq (pss_cons (xSetF (ps_set (i := 0) sc__law_reserved.nd rfl (Or.inl rfl) (xE (pe_op (op_addK (K := K)) (xv (pv 0)) (xs pe_str)) os_add)) fun _ _ _ h => h) (pss_one (xRet (ps_ret (xM1 (pe_split (xv (pv 0)) (xs pe_str)) ms_split)))))))))), h⟩
theorem ok__law_name (T : Txt K mg) : FnOk P w K mg base CX0 3 T.a__law_name T.d__law_name ["tape", "taken"] (spV K F__law_name) := by
  have G__law_pick := ok__law_pick (P := P) (w := w) (base := base) T
  have G__law_reserved := ok__law_reserved (P := P) (w := w) (base := base) T
  have G__law_draw := ok__law_draw (P := P) (w := w) (base := base) T
  refine T.F__law_name.ok sc__law_name (fun vs H Q E h => spV_len (F := F__law_name) (body := B__law_name) (len := 2) (n := 6) rfl h) (fun cdv A outer s H vs Q E hr h => ?_)
  obtain ⟨t, h⟩ := def_of (N := ["tape", "taken", "signs", "stem", "name", "k"]) (len := 2) (n := 6) (body := B__law_name) (F := F__law_name) rfl rfl h
  exact ⟨tSV ⟨K, t⟩ B__law_name, (xSeq (pss_cons (xSetF (ps_set (i := 2) sc__law_name.nd rfl (Or.inl rfl) (xs pe_str)) fun _ _ _ h => h) (xSeq (pss_cons (xSetF (ps_set (i := 3) sc__law_name.nd rfl (Or.inl rfl) (xE (pe_op (op_addK (K := K)) (xCall (pe_call G__law_pick (hr.mono (by omega)) rfl T.m__law_pick T.F__law_pick.kp T.b__law_pick .nil pass0 (xA (pa_cons (xv (pv 0)) (xA (pa_cons (xLst (pe_lst (xA (pa_cons (xs pe_str) (xA (pa_cons (xs pe_str) (xA (pa_cons (xs pe_str) (xA (pa_cons (xs pe_str) (xA (pa_cons (xs pe_str) (xA (pa_cons (xs pe_str) (xN pa_nil))))))))))))))) (xN pa_nil))))))) (xE (pe_ix (ixK (K := K)) (xv (pv 2)) (xCall (pe_call G__law_draw (hr.mono (by omega)) rfl T.m__law_draw T.F__law_draw.kp T.b__law_draw .nil pass0 (xA (pa_cons (xv (pv 0)) (xA (pa_cons (xi pe_int) (xN pa_nil))))))) (fun _ _ => rfl)) os_ix)) os_add)) fun _ _ _ h => h) (xSeq (pss_cons (xSetF (ps_set (i := 4) sc__law_name.nd rfl (Or.inl rfl) (xv (pv 3))) fun _ _ _ h => h) (xSeq (pss_cons (xFor (dead := [5]) (ps_for PassesOwn.never rfl (pi_range1 (by rfl) T.z_range (xA (pa_cons (xCall (pe_call G__law_pick (hr.mono (by omega)) rfl T.m__law_pick T.F__law_pick.kp T.b__law_pick .nil pass0 (xA (pa_cons (xv (pv 0)) (xA (pa_cons (xLst (pe_lst (xA (pa_cons (xi pe_int) (xA (pa_cons (xi pe_int) (xA (pa_cons (xi pe_int) (xA (pa_cons (xi pe_int) (xA (pa_cons (xi pe_int) (xN pa_nil))))))))))))) (xN pa_nil))))))) (xN pa_nil)))) (xgN (pg_name (i := 5) sc__law_name.nd rfl (Or.inl rfl))) (pss_one (xSetF (ps_set (i := 4) sc__law_name.nd rfl (Or.inl rfl) (xE (pe_op (op_addK (K := K)) (xv (pv 4)) (xE (pe_ix (ixK (K := K)) (xv (pv 2)) (xCall (pe_call G__law_draw (hr.mono (by omega)) rfl T.m__law_draw T.F__law_draw.kp T.b__law_draw .nil pass0 (xA (pa_cons (xv (pv 0)) (xA (pa_cons (xi pe_int) (xN pa_nil))))))) (fun _ _ => rfl)) os_ix)) os_add)) fun _ _ _ h => h))) (fun _ _ _ h => iR1_of (tIS_of h))) (xSeq (pss_cons (xIfS (ps_if (xT (pt_cmpR (op_inW (K := K) (hu65 hr)) (xv (pv 4)) (xCall0 (pe_call0 G__law_reserved (hr.mono (by omega)) rfl T.m__law_reserved T.F__law_reserved.kp T.b__law_reserved .nil pass0)) rfl) os_in) (pss_one (xSetF (ps_set (i := 4) sc__law_name.nd rfl (Or.inl rfl) (xE (pe_op (op_addK (K := K)) (xv (pv 4)) (xs pe_str)) os_add)) fun _ _ _ h => h)) (xNexts pss_nil))) (xSeq (pss_cons (xFor (dead := [5]) (ps_for PassesOwn.never rfl (pi_range1 (by rfl) T.z_range (xA (pa_cons (xi pe_int) (xN pa_nil)))) (xgN (pg_name (i := 5) sc__law_name.nd rfl (Or.inl rfl))) (pss_one (xIfS (ps_if (xT (pt_cmpR (op_inW (K := K) (hu65 hr)) (xv (pv 4)) (xv (pv 1)) rfl) os_in) (pss_one (xSetF (ps_set (i := 4) sc__law_name.nd rfl (Or.inl rfl) (xE (pe_op (op_addK (K := K)) (xv (pv 3)) (xB (pe_callTy call_str_int (by rfl) T.z_str rfl (xA (pa_cons (xv (pv 5)) (xN pa_nil)))) bs_str)) os_add)) fun _ _ _ h => h)) (xNexts pss_nil))))) (fun _ _ _ h => iR1_of (tIS_of h))) (pss_one (xRet (ps_ret (xv (pv 4))))))))))))))))), h⟩
theorem ok__law_term_of (T : Txt K mg) : FnOk P w K mg base CX0 3 T.a__law_term_of T.d__law_term_of ["tape", "letters", "pool"] (spV K F__law_term_of) := by
  have G__law_pick := ok__law_pick (P := P) (w := w) (base := base) T
  have G__law_draw := ok__law_draw (P := P) (w := w) (base := base) T
  refine T.F__law_term_of.ok sc__law_term_of (fun vs H Q E h => spV_len (F := F__law_term_of) (body := B__law_term_of) (len := 3) (n := 3) rfl h) (fun cdv A outer s H vs Q E hr h => ?_)
  obtain ⟨t, h⟩ := def_of (N := ["tape", "letters", "pool"]) (len := 3) (n := 3) (body := B__law_term_of) (F := F__law_term_of) rfl rfl h
  exact ⟨tSV ⟨K, t⟩ B__law_term_of, (xSeq (pss_cons (xIfS (ps_if (PW.pt (xOr (pw_or (xT (pt_cmpR (op_eqK (K := K) (hu64 hr)) (xB (pe_callB (call_lenK (K := K)) (by rfl) T.z_len rfl (xA (pa_cons (xv (pv 1)) (xN pa_nil)))) bs_len) (xi pe_int) (nomark _)) os_eq) (pw_or1 (xT (pt_cmpR (op_eqK (K := K) (hu64 hr)) (xCall (pe_call G__law_draw (hr.mono (by omega)) rfl T.m__law_draw T.F__law_draw.kp T.b__law_draw .nil pass0 (xA (pa_cons (xv (pv 0)) (xA (pa_cons (xi pe_int) (xN pa_nil))))))) (xi pe_int) (nomark _)) os_eq))))) (pss_one (xRet (ps_ret (xTup (pe_tup (xA (pa_cons (xCall (pe_call G__law_pick (hr.mono (by omega)) rfl T.m__law_pick T.F__law_pick.kp T.b__law_pick .nil pass0 (xA (pa_cons (xv (pv 0)) (xA (pa_cons (xv (pv 2)) (xN pa_nil))))))) (xN pa_nil)))))))) (xNexts pss_nil))) (pss_one (xRet (ps_ret (xCall (pe_call G__law_pick (hr.mono (by omega)) rfl T.m__law_pick T.F__law_pick.kp T.b__law_pick .nil pass0 (xA (pa_cons (xv (pv 0)) (xA (pa_cons (xv (pv 1)) (xN pa_nil)))))))))))), h⟩
theorem ok__law_letters_in (T : Txt K mg) : FnOk P w K mg base CX0 1 T.a__law_letters_in T.d__law_letters_in ["atoms"] (spV K F__law_letters_in) := by
  refine T.F__law_letters_in.ok sc__law_letters_in (fun vs H Q E h => spV_len (F := F__law_letters_in) (body := B__law_letters_in) (len := 1) (n := 5) rfl h) (fun cdv A outer s H vs Q E hr h => ?_)
  obtain ⟨t, h⟩ := def_of (N := ["atoms", "found", "name", "terms", "term"]) (len := 1) (n := 5) (body := B__law_letters_in) (F := F__law_letters_in) rfl rfl h
  exact ⟨tSV ⟨K, t⟩ B__law_letters_in, (xSeq (pss_cons (xSetO (ps_set (i := 1) sc__law_letters_in.nd rfl (Or.inl rfl) (xLst (pe_lst (xN pa_nil)))) fun _ _ _ h => h) (xSeq (pss_cons (xFor (dead := [2, 3, 4]) (ps_for PassesOwn.never rfl (pi_seq2 (K := K) (xv (pv 0))) (xgT (pg_tupK (K := K) (n := 2) rfl (xgsC (pgs_cons (xgN (pg_name (i := 2) sc__law_letters_in.nd rfl (Or.inl rfl))) (xgsC (pgs_cons (xgN (pg_name (i := 3) sc__law_letters_in.nd rfl (Or.inl rfl))) (xgsN pgs_nil)))))) (gsC gfN (gsC gfN gsN))) (pss_one (xFor (dead := [4]) (ps_for PassesOwn.never rfl (pi_seq2 (K := K) (xv (pv 3))) (xgN (pg_name (i := 4) sc__law_letters_in.nd rfl (Or.inl rfl))) (pss_one (xIfS (ps_if (PW.pt (xAnd (pw_and (xTr (pt_truthK (K := K) (xIsi .str (pe_callB (call_isiK1 (K := K)) (by rfl) T.z_isinstance rfl (pa_cons (xv (pv 4)) (pa_cons (pe_bltn (by rfl) T.z_str rfl (v := .ty "str") rfl) pa_nil)))) (fun _ => rfl))) (pw_and1 (xT (pt_cmpR (op_ninW (K := K) (hu65 hr)) (xv (pv 4)) (xv (pv 1)) rfl) os_nin))))) (pss_one (xExpr (ps_expr (xApp (pe_bmK (K := K) PySem.F.plainAttrs_list PySem.F.slot_list_append PySem.F.type_list_append mt_append (pv 1) (xA (pa_cons (xv (pv 4)) (xN pa_nil)))))))) (xNexts pss_nil))))) (fun _ _ _ h => iE_of h)))) (fun _ _ _ h => iE_of h)) (pss_one (xRet (ps_ret (xv (pv 1))))))))), h⟩
theorem ok__law_shapes (T : Txt K mg) : FnOk P w K mg base CX0 4 T.a__law_shapes T.d__law_shapes ["tape", "many", "kinds"] (spV K F__law_shapes) := by
  have G__law_pick := ok__law_pick (P := P) (w := w) (base := base) T
  have G__law_name := ok__law_name (P := P) (w := w) (base := base) T
  have G__law_draw := ok__law_draw (P := P) (w := w) (base := base) T
  refine T.F__law_shapes.ok sc__law_shapes (fun vs H Q E h => spV_len (F := F__law_shapes) (body := B__law_shapes) (len := 3) (n := 10) rfl h) (fun cdv A outer s H vs Q E hr h => ?_)
  obtain ⟨t, h⟩ := def_of (N := ["tape", "many", "kinds", "names", "k", "told", "name", "kind", "columns", "keys"]) (len := 3) (n := 10) (body := B__law_shapes) (F := F__law_shapes) rfl rfl h
  exact ⟨tSV ⟨K, t⟩ B__law_shapes, (xSeq (pss_cons (xSetO (ps_set (i := 3) sc__law_shapes.nd rfl (Or.inl rfl) (xLst (pe_lst (xN pa_nil)))) fun _ _ _ h => h) (xSeq (pss_cons (xFor (dead := [4]) (ps_for PassesOwn.never rfl (pi_range1 (by rfl) T.z_range (xA (pa_cons (xv (pv 1)) (xN pa_nil)))) (xgN (pg_name (i := 4) sc__law_shapes.nd rfl (Or.inl rfl))) (pss_one (xExpr (ps_expr (xApp (pe_bmK (K := K) PySem.F.plainAttrs_list PySem.F.slot_list_append PySem.F.type_list_append mt_append (pv 3) (xA (pa_cons (xCall (pe_call G__law_name (hr.mono (by omega)) rfl T.m__law_name T.F__law_name.kp T.b__law_name .nil pass0 (xA (pa_cons (xv (pv 0)) (xA (pa_cons (xv (pv 3)) (xN pa_nil))))))) (xN pa_nil))))))))) (fun _ _ _ h => iR1_of (tIS_of h))) (xSeq (pss_cons (xSetO (ps_set (i := 5) sc__law_shapes.nd rfl (Or.inl rfl) (xLst (pe_lst (xN pa_nil)))) fun _ _ _ h => h) (xSeq (pss_cons (xFor (dead := [6, 7, 8, 9]) (ps_for PassesOwn.never rfl (pi_seq2 (K := K) (xB (pe_callB (cr_sortDK (K := K) (hu70 hr)) (by rfl) T.z_sorted rfl (xA (pa_cons (xv (pv 3)) (xN pa_nil)))) bs_sort)) (xgN (pg_name (i := 6) sc__law_shapes.nd rfl (Or.inl rfl))) (xSeq (pss_cons (xSetF (ps_set (i := 7) sc__law_shapes.nd rfl (Or.inl rfl) (xCall (pe_call G__law_pick (hr.mono (by omega)) rfl T.m__law_pick T.F__law_pick.kp T.b__law_pick .nil pass0 (xA (pa_cons (xv (pv 0)) (xA (pa_cons (xv (pv 2)) (xN pa_nil)))))))) fun _ _ _ h => h) (xSeq (pss_cons (xSetF (ps_set (i := 8) sc__law_shapes.nd rfl (Or.inl rfl) (xE (pe_ix (ixK (K := K)) (xLst (pe_lst (xA (pa_cons (xi pe_int) (xA (pa_cons (xi pe_int) (xA (pa_cons (xi pe_int) (xA (pa_cons (xi pe_int) (xA (pa_cons (xi pe_int) (xA (pa_cons (xi pe_int) (xN pa_nil))))))))))))))) (xCall (pe_call G__law_draw (hr.mono (by omega)) rfl T.m__law_draw T.F__law_draw.kp T.b__law_draw .nil pass0 (xA (pa_cons (xv (pv 0)) (xA (pa_cons (xi pe_int) (xN pa_nil))))))) (fun _ _ => rfl)) os_ix)) fun _ _ _ h => h) (xSeq (pss_cons (xSetF (ps_set (i := 9) sc__law_shapes.nd rfl (Or.inl rfl) (xv (pv 8))) fun _ _ _ h => h) (xSeq (pss_cons (xIfS (ps_if (xT (pt_cmpR (op_eqK (K := K) (hu64 hr)) (xv (pv 7)) (xs pe_str) (nomark _)) os_eq) (pss_one (xSetF (ps_set (i := 9) sc__law_shapes.nd rfl (Or.inl rfl) (xCall (pe_call G__law_draw (hr.mono (by omega)) rfl T.m__law_draw T.F__law_draw.kp T.b__law_draw .nil pass0 (xA (pa_cons (xv (pv 0)) (xA (pa_cons (xE (pe_op (op_addK (K := K)) (xv (pv 8)) (xCall (pe_call G__law_draw (hr.mono (by omega)) rfl T.m__law_draw T.F__law_draw.kp T.b__law_draw .nil pass0 (xA (pa_cons (xv (pv 0)) (xA (pa_cons (xi pe_int) (xN pa_nil)))))))) os_add) (xN pa_nil)))))))) fun _ _ _ h => h)) (xNexts pss_nil))) (pss_one (xExpr (ps_expr (xApp (pe_bmK (K := K) PySem.F.plainAttrs_list PySem.F.slot_list_append PySem.F.type_list_append mt_append (pv 5) (xA (pa_cons (xTup (pe_tup (xA (pa_cons (xv (pv 6)) (xA (pa_cons (xv (pv 7)) (xA (pa_cons (xv (pv 8)) (xA (pa_cons (xv (pv 9)) (xN pa_nil))))))))))) (xN pa_nil))))))))))))))))) (fun _ _ _ h => iE_of h)) (pss_one (xRet (ps_ret (xB (pe_callTy (call_tupleK (K := K)) (by rfl) T.z_tuple rfl (xA (pa_cons (xv (pv 5)) (xN pa_nil)))) bs_tup)))))))))))), h⟩
theorem ok__law_shape (T : Txt K mg) : FnOk P w K mg base CX0 1 T.a__law_shape T.d__law_shape ["forms", "name"] (spV K F__law_shape) := by
  refine T.F__law_shape.ok sc__law_shape (fun vs H Q E h => spV_len (F := F__law_shape) (body := B__law_shape) (len := 2) (n := 3) rfl h) (fun cdv A outer s H vs Q E hr h => ?_)
  obtain ⟨t, h⟩ := def_of (N := ["forms", "name", "shape"]) (len := 2) (n := 3) (body := B__law_shape) (F := F__law_shape) rfl rfl h
  exact ⟨tSV ⟨K, t⟩ B__law_shape, (pss_one (xRet (ps_ret (xE (pe_ix (ixK (K := K)) (xLc (pe_lc (own := [("shape", 2)]) rfl sc__law_shape.nd (pi_seq2 (K := K) (xv (pv 0))) (blkOk_by (N := ["forms", "name", "shape"]) (sc := defScope s__law_shape) (by decide +kernel)) (fun _ _ _ _ _ => (xgN (pg_name (i := 2) sc__law_shape.nd rfl (Or.inl rfl)))) (fun _ _ _ _ _ => (pts_one (xT (pt_cmpR (op_eqK (K := K) (hu64 hr)) (xE (pe_ix (ixK (K := K)) (xv (pv 2)) (xi pe_int) (fun _ _ => rfl)) os_ix) (xv (pv 1)) (nomark _)) os_eq))) (fun _ _ _ _ _ => (xv (pv 2)))) (fun _ _ _ h => icE_of h)) (xi pe_int) (fun _ _ => rfl)) os_ix)))), h⟩
theorem ok__law_terms (T : Txt K mg) : FnOk P w K mg base CX0 3 T.a__law_terms T.d__law_terms ["tape", "columns", "pool", "met", "most", "new"] (spV K F__law_terms) := by
  have G__law_draw := ok__law_draw (P := P) (w := w) (base := base) T
  have G__law_pick := ok__law_pick (P := P) (w := w) (base := base) T
  refine T.F__law_terms.ok sc__law_terms (fun vs H Q E h => spV_len (F := F__law_terms) (body := B__law_terms) (len := 6) (n := 9) rfl h) (fun cdv A outer s H vs Q E hr h => ?_)
  obtain ⟨t, h⟩ := def_of (N := ["tape", "columns", "pool", "met", "most", "new", "terms", "k", "choice"]) (len := 6) (n := 9) (body := B__law_terms) (F := F__law_terms) rfl rfl h
  exact ⟨tSV ⟨K, t⟩ B__law_terms, (xSeq (pss_cons (xSetO (ps_set (i := 6) sc__law_terms.nd rfl (Or.inl rfl) (xLst (pe_lst (xN pa_nil)))) fun _ _ _ h => h) (xSeq (pss_cons (xFor (dead := [7, 8]) (ps_for PassesOwn.never rfl (pi_range1 (by rfl) T.z_range (xA (pa_cons (xv (pv 1)) (xN pa_nil)))) (xgN (pg_name (i := 7) sc__law_terms.nd rfl (Or.inl rfl))) (xSeq (pss_cons (xSetF (ps_set (i := 8) sc__law_terms.nd rfl (Or.inl rfl) (xCall (pe_call G__law_draw (hr.mono (by omega)) rfl T.m__law_draw T.F__law_draw.kp T.b__law_draw .nil pass0 (xA (pa_cons (xv (pv 0)) (xA (pa_cons (xi pe_int) (xN pa_nil)))))))) fun _ _ _ h => h) (pss_one (xIfS (ps_if (PW.pt (xOr (pw_or (xT (pt_cmpR (op_eqK (K := K) (hu64 hr)) (xv (pv 8)) (xi pe_int) (nomark _)) os_eq) (pw_or1 (xT (pt_cmpR (op_eqK (K := K) (hu64 hr)) (xv (pv 4)) (xi pe_int) (nomark _)) os_eq))))) (pss_one (xExpr (ps_expr (xApp (pe_bmK (K := K) PySem.F.plainAttrs_list PySem.F.slot_list_append PySem.F.type_list_append mt_append (pv 6) (xA (pa_cons (xTup (pe_tup (xA (pa_cons (xCall (pe_call G__law_pick (hr.mono (by omega)) rfl T.m__law_pick T.F__law_pick.kp T.b__law_pick .nil pass0 (xA (pa_cons (xv (pv 0)) (xA (pa_cons (xv (pv 2)) (xN pa_nil))))))) (xN pa_nil))))) (xN pa_nil)))))))) (pss_one (xIfS (ps_if (PW.pt (xOr (pw_or (xT (pt_cmpR (op_eqK (K := K) (hu64 hr)) (xv (pv 3)) (xi pe_int) (nomark _)) os_eq) (pw_or1 (PW.pt (xAnd (pw_and (xT (pt_cmpR op_le (xv (pv 8)) (xv (pv 5)) (nomark _)) os_cmp) (pw_and1 (xT (pt_cmpR op_lt (xv (pv 3)) (xv (pv 4)) (nomark _)) os_cmp))))))))) (xSeq (pss_cons (xExpr (ps_expr (xApp (pe_bmK (K := K) PySem.F.plainAttrs_list PySem.F.slot_list_append PySem.F.type_list_append mt_append (pv 6) (xA (pa_cons (xE (pe_op (op_addK (K := K)) (xs pe_str) (xB (pe_callTy call_str_int (by rfl) T.z_str rfl (xA (pa_cons (xv (pv 3)) (xN pa_nil)))) bs_str)) os_add) (xN pa_nil))))))) (pss_one (xSetF (ps_set (i := 3) sc__law_terms.nd rfl (Or.inl rfl) (xE (pe_op (op_addK (K := K)) (xv (pv 3)) (xi pe_int)) os_add)) fun _ _ _ h => h)))) (pss_one (xExpr (ps_expr (xApp (pe_bmK (K := K) PySem.F.plainAttrs_list PySem.F.slot_list_append PySem.F.type_list_append mt_append (pv 6) (xA (pa_cons (xE (pe_op (op_addK (K := K)) (xs pe_str) (xB (pe_callTy call_str_int (by rfl) T.z_str rfl (xA (pa_cons (xCall (pe_call G__law_draw (hr.mono (by omega)) rfl T.m__law_draw T.F__law_draw.kp T.b__law_draw .nil pass0 (xA (pa_cons (xv (pv 0)) (xA (pa_cons (xv (pv 3)) (xN pa_nil))))))) (xN pa_nil)))) bs_str)) os_add) (xN pa_nil))))))))))))))))) (fun _ _ _ h => iR1_of (tIS_of h))) (pss_one (xRet (ps_ret (xB (pe_callTy (call_tupleK (K := K)) (by rfl) T.z_tuple rfl (xA (pa_cons (xv (pv 6)) (xN pa_nil)))) bs_tup)))))))), h⟩
theorem ok__law_twelve (T : Txt K mg) : FnOk P w K mg base CX0 1 T.a__law_twelve T.d__law_twelve ["kind", "keys"] (spV K F__law_twelve) := by
  refine T.F__law_twelve.ok sc__law_twelve (fun vs H Q E h => spV_len (F := F__law_twelve) (body := B__law_twelve) (len := 2) (n := 7) rfl h) (fun cdv A outer s H vs Q E hr h => ?_)
  obtain ⟨t, h⟩ := def_of (N := ["kind", "keys", "forms", "name", "letters", "k", "atoms"]) (len := 2) (n := 7) (body := B__law_twelve) (F := F__law_twelve) rfl rfl h
  exact ⟨tSV ⟨K, t⟩ B__law_twelve, (xSeq (pss_cons (xSetF (ps_set (i := 2) sc__law_twelve.nd rfl (Or.inl rfl) (xB (pe_callTy (call_tupleK (K := K)) (by rfl) T.z_tuple rfl (xA (pa_cons (xLc (pe_lc (own := [("name", 3)]) rfl sc__law_twelve.nd (pi_seq2 (K := K) (xLst (pe_lst (xA (pa_cons (xs pe_str) (xA (pa_cons (xs pe_str) (xA (pa_cons (xs pe_str) (xN pa_nil)))))))))) (blkOk_by (N := ["kind", "keys", "forms", "name", "letters", "k", "atoms"]) (sc := defScope s__law_twelve) (by decide +kernel)) (fun _ _ _ _ _ => (xgN (pg_name (i := 3) sc__law_twelve.nd rfl (Or.inl rfl)))) (fun _ _ _ _ _ => (xYes pts_nil)) (fun _ _ _ _ _ => (xTup (pe_tup (xA (pa_cons (xv (pv 3)) (xA (pa_cons (xv (pv 0)) (xA (pa_cons (xi pe_int) (xA (pa_cons (xv (pv 1)) (xN pa_nil))))))))))))) (fun _ _ _ h => icE_of h)) (xN pa_nil)))) bs_tup)) fun _ _ _ h => h) (xSeq (pss_cons (xSetF (ps_setLc (i := 4) (own := [("k", 5)]) rfl sc__law_twelve.nd rfl rfl (sw_true rfl rfl rfl (by decide +kernel)) (pi_range1 (by rfl) T.z_range (xA (pa_cons (xi pe_int) (xN pa_nil)))) (blkOk_by (N := ["kind", "keys", "forms", "name", "letters", "k", "atoms"]) (sc := defScope s__law_twelve) (by decide +kernel)) (fun _ _ _ _ _ => (xgN (pg_name (i := 5) sc__law_twelve.nd rfl (Or.inl rfl)))) (fun _ _ _ _ _ => (xYes pts_nil)) (fun _ _ _ _ _ => (xE (pe_op (op_addK (K := K)) (xs pe_str) (xB (pe_callTy call_str_int (by rfl) T.z_str rfl (xA (pa_cons (xv (pv 5)) (xN pa_nil)))) bs_str)) os_add))) fun _ _ _ => tLc_of (fun _ _ _ h => iR1_of (tICN_of h)) (by decide)) (xSeq (pss_cons (xSetF (ps_set (i := 6) sc__law_twelve.nd rfl (Or.inl rfl) (xTup (pe_tup (xA (pa_cons (xTup (pe_tup (xA (pa_cons (xs pe_str) (xA (pa_cons (xB (pe_callTy (call_tupleK (K := K)) (by rfl) T.z_tuple rfl (xA (pa_cons (xSl (pe_slice (sl_K (K := K)) (xv (pv 4)) (xPn po_none) (xPe (po_some (xi pe_int))))) (xN pa_nil)))) bs_tup) (xN pa_nil))))))) (xA (pa_cons (xTup (pe_tup (xA (pa_cons (xs pe_str) (xA (pa_cons (xB (pe_callTy (call_tupleK (K := K)) (by rfl) T.z_tuple rfl (xA (pa_cons (xSl (pe_slice (sl_K (K := K)) (xv (pv 4)) (xPe (po_some (xi pe_int))) (xPe (po_some (xi pe_int))))) (xN pa_nil)))) bs_tup) (xN pa_nil))))))) (xA (pa_cons (xTup (pe_tup (xA (pa_cons (xs pe_str) (xA (pa_cons (xB (pe_callTy (call_tupleK (K := K)) (by rfl) T.z_tuple rfl (xA (pa_cons (xSl (pe_slice (sl_K (K := K)) (xv (pv 4)) (xPe (po_some (xi pe_int))) (xPn po_none))) (xN pa_nil)))) bs_tup) (xN pa_nil))))))) (xN pa_nil)))))))))) fun _ _ _ h => h) (pss_one (xRet (ps_ret (xTup (pe_tup (xA (pa_cons (xv (pv 2)) (xA (pa_cons (xTup (pe_tup (xA (pa_cons (xs pe_str) (xA (pa_cons (xTup (pe_tup (xN pa_nil))) (xA (pa_cons (xv (pv 6)) (xA (pa_cons (xTup (pe_tup (xN pa_nil))) (xN pa_nil))))))))))) (xN pa_nil)))))))))))))))), h⟩
theorem ok__law_letter_number (T : Txt K mg) : FnOk P w K mg base CX0 1 T.a__law_letter_number T.d__law_letter_number ["letter"] (spV K F__law_letter_number) := by
  refine T.F__law_letter_number.ok sc__law_letter_number (fun vs H Q E h => spV_len (F := F__law_letter_number) (body := B__law_letter_number) (len := 1) (n := 1) rfl h) (fun cdv A outer s H vs Q E hr h => ?_)
  obtain ⟨t, h⟩ := def_of (N := ["letter"]) (len := 1) (n := 1) (body := B__law_letter_number) (F := F__law_letter_number) rfl rfl h
  exact ⟨tSV ⟨K, t⟩ B__law_letter_number, (pss_one (xRet (ps_ret (xB (pe_callTy call_intW (by rfl) T.z_int rfl (xA (pa_cons (xSl (pe_slice (sl_K (K := K)) (xv (pv 0)) (xPe (po_some (xi pe_int))) (xPn po_none))) (xN pa_nil)))) bs_int)))), h⟩
theorem ok__law_in_order (T : Txt K mg) : FnOk P w K mg base CX0 4 T.a__law_in_order T.d__law_in_order ["letters"] (spV K F__law_in_order) := by
  have G__law_letter_number := ok__law_letter_number (P := P) (w := w) (base := base) T
  refine T.F__law_in_order.ok sc__law_in_order (fun vs H Q E h => spV_len (F := F__law_in_order) (body := B__law_in_order) (len := 1) (n := 1) rfl h) (fun cdv A outer s H vs Q E hr h => ?_)
  obtain ⟨t, h⟩ := def_of (N := ["letters"]) (len := 1) (n := 1) (body := B__law_in_order) (F := F__law_in_order) rfl rfl h
  exact ⟨tSV ⟨K, t⟩ B__law_in_order, (pss_one (xRet (ps_ret (xSortBy (pe_callBK (ks := ["key"]) (cr_sortByK (K := K) G__law_letter_number (hr.mono (by omega)) T.b__law_letter_number) (by rfl) T.z_sorted rfl (xA (pa_cons (xB (pe_callTy (call_listK (K := K)) (by rfl) T.z_list rfl (xA (pa_cons (xv (pv 0)) (xN pa_nil)))) bs_lst) (xN pa_nil))) (pk_cons (pe_glob (v := .ref T.a__law_letter_number) (by rfl) T.m__law_letter_number rfl) pk_nil)))))), h⟩
theorem ok__law_simple (T : Txt K mg) : FnOk P w K mg base CX0 4 T.a__law_simple T.d__law_simple ["tape", "forms", "most", "pool", "columns"] (spV K F__law_simple) := by
  have G__law_pick := ok__law_pick (P := P) (w := w) (base := base) T
  have G__law_letters_in := ok__law_letters_in (P := P) (w := w) (base := base) T
  have G__law_shuffled := ok__law_shuffled (P := P) (w := w) (base := base) T
  have G__law_draw := ok__law_draw (P := P) (w := w) (base := base) T
  have G__law_terms := ok__law_terms (P := P) (w := w) (base := base) T
  have G__law_term_of := ok__law_term_of (P := P) (w := w) (base := base) T
  refine T.F__law_simple.ok sc__law_simple (fun vs H Q E h => spV_len (F := F__law_simple) (body := B__law_simple) (len := 5) (n := 10) rfl h) (fun cdv A outer s H vs Q E hr h => ?_)
  obtain ⟨t, h⟩ := def_of (N := ["tape", "forms", "most", "pool", "columns", "atoms", "new", "shape", "letters", "k"]) (len := 5) (n := 10) (body := B__law_simple) (F := F__law_simple) rfl rfl h
  exact ⟨tSV ⟨K, t⟩ B__law_simple, (xSeq (pss_cons (xSetO (ps_set (i := 5) sc__law_simple.nd rfl (Or.inl rfl) (xLst (pe_lst (xN pa_nil)))) fun _ _ _ h => h) (xSeq (pss_cons (xSetF (ps_set (i := 6) sc__law_simple.nd rfl (Or.inl rfl) (xCall (pe_call G__law_pick (hr.mono (by omega)) rfl T.m__law_pick T.F__law_pick.kp T.b__law_pick .nil pass0 (xA (pa_cons (xv (pv 0)) (xA (pa_cons (xLst (pe_lst (xA (pa_cons (xi pe_int) (xA (pa_cons (xi pe_int) (xA (pa_cons (xi pe_int) (xA (pa_cons (xi pe_int) (xN pa_nil))))))))))) (xN pa_nil)))))))) fun _ _ _ h => h) (xSeq (pss_cons (xFor (dead := [7]) (ps_for PassesOwn.never rfl (pi_seq2 (K := K) (xSl (pe_slice (sl_K (K := K)) (xCall (pe_call G__law_shuffled (hr.mono (by omega)) rfl T.m__law_shuffled T.F__law_shuffled.kp T.b__law_shuffled .nil pass0 (xA (pa_cons (xv (pv 0)) (xA (pa_cons (xv (pv 1)) (xN pa_nil))))))) (xPn po_none) (xPe (po_some (xE (pe_op (op_addK (K := K)) (xi pe_int) (xCall (pe_call G__law_draw (hr.mono (by omega)) rfl T.m__law_draw T.F__law_draw.kp T.b__law_draw .nil pass0 (xA (pa_cons (xv (pv 0)) (xA (pa_cons (xB (pe_callB (call_lenK (K := K)) (by rfl) T.z_len rfl (xA (pa_cons (xv (pv 1)) (xN pa_nil)))) bs_len) (xN pa_nil)))))))) os_add)))))) (xgN (pg_name (i := 7) sc__law_simple.nd rfl (Or.inl rfl))) (pss_one (xExpr (ps_expr (xApp (pe_bmK (K := K) PySem.F.plainAttrs_list PySem.F.slot_list_append PySem.F.type_list_append mt_append (pv 5) (xA (pa_cons (xTup (pe_tup (xA (pa_cons (xE (pe_ix (ixK (K := K)) (xv (pv 7)) (xi pe_int) (fun _ _ => rfl)) os_ix) (xA (pa_cons (xCall (pe_call G__law_terms (hr.mono (by omega)) rfl T.m__law_terms T.F__law_terms.kp T.b__law_terms .nil pass0 (xA (pa_cons (xv (pv 0)) (xA (pa_cons (xE (pe_ix (ixK (K := K)) (xv (pv 7)) (xi pe_int) (fun _ _ => rfl)) os_ix) (xA (pa_cons (xv (pv 3)) (xA (pa_cons (xB (pe_callB (call_lenK (K := K)) (by rfl) T.z_len rfl (xA (pa_cons (xCall (pe_call G__law_letters_in (hr.mono (by omega)) rfl T.m__law_letters_in T.F__law_letters_in.kp T.b__law_letters_in .nil pass0 (xA (pa_cons (xv (pv 5)) (xN pa_nil))))) (xN pa_nil)))) bs_len) (xA (pa_cons (xv (pv 2)) (xA (pa_cons (xv (pv 6)) (xN pa_nil))))))))))))))) (xN pa_nil))))))) (xN pa_nil))))))))) (fun _ _ _ h => iE_of h)) (xSeq (pss_cons (xSetF (ps_set (i := 8) sc__law_simple.nd rfl (Or.inr rfl) (xCall (pe_call G__law_letters_in (hr.mono (by omega)) rfl T.m__law_letters_in T.F__law_letters_in.kp T.b__law_letters_in .nil pass0 (xA (pa_cons (xv (pv 5)) (xN pa_nil)))))) fun _ _ _ h => h) (pss_one (xRet (ps_ret (xTup (pe_tup (xA (pa_cons (xs pe_str) (xA (pa_cons (xB (pe_callTy (call_tupleK (K := K)) (by rfl) T.z_tuple rfl (xA (pa_cons (xLc (pe_lc (own := [("k", 9)]) rfl sc__law_simple.nd (pi_range1 (by rfl) T.z_range (xA (pa_cons (xv (pv 4)) (xN pa_nil)))) (blkOk_by (N := ["tape", "forms", "most", "pool", "columns", "atoms", "new", "shape", "letters", "k"]) (sc := defScope s__law_simple) (by decide +kernel)) (fun _ _ _ _ _ => (xgN (pg_name (i := 9) sc__law_simple.nd rfl (Or.inl rfl)))) (fun _ _ _ _ _ => (xYes pts_nil)) (fun _ _ _ _ _ => (xCall (pe_call G__law_term_of (hr.mono (by omega)) rfl T.m__law_term_of T.F__law_term_of.kp T.b__law_term_of .nil pass0 (xA (pa_cons (xv (pv 0)) (xA (pa_cons (xv (pv 8)) (xA (pa_cons (xv (pv 3)) (xN pa_nil))))))))))) (fun _ _ _ h => iR1_of (tICN_of h))) (xN pa_nil)))) bs_tup) (xA (pa_cons (xB (pe_callTy (call_tupleK (K := K)) (by rfl) T.z_tuple rfl (xA (pa_cons (xv (pv 5)) (xN pa_nil)))) bs_tup) (xA (pa_cons (xTup (pe_tup (xN pa_nil))) (xN pa_nil)))))))))))))))))))))), h⟩
theorem ok__law_bound (T : Txt K mg) : FnOk P w K mg base CX0 2 T.a__law_bound T.d__law_bound ["member"] (spV K F__law_bound) := by
  have G__law_letters_in := ok__law_letters_in (P := P) (w := w) (base := base) T
  refine T.F__law_bound.ok sc__law_bound (fun vs H Q E h => spV_len (F := F__law_bound) (body := B__law_bound) (len := 1) (n := 2) rfl h) (fun cdv A outer s H vs Q E hr h => ?_)
  obtain ⟨t, h⟩ := def_of (N := ["member", "letter"]) (len := 1) (n := 2) (body := B__law_bound) (F := F__law_bound) rfl rfl h
  exact ⟨tSV ⟨K, t⟩ B__law_bound, (pss_one (xRet (ps_ret (xLc (pe_lc (own := [("letter", 1)]) rfl sc__law_bound.nd (pi_seq2 (K := K) (xCall (pe_call G__law_letters_in (hr.mono (by omega)) rfl T.m__law_letters_in T.F__law_letters_in.kp T.b__law_letters_in .nil pass0 (xA (pa_cons (xE (pe_ix (ixK (K := K)) (xv (pv 0)) (xi pe_int) (fun _ _ => rfl)) os_ix) (xN pa_nil)))))) (blkOk_by (N := ["member", "letter"]) (sc := defScope s__law_bound) (by decide +kernel)) (fun _ _ _ _ _ => (xgN (pg_name (i := 1) sc__law_bound.nd rfl (Or.inl rfl)))) (fun _ _ _ _ _ => (pts_one (xT (pt_cmpR (op_ninW (K := K) (hu65 hr)) (xv (pv 1)) (xE (pe_ix (ixK (K := K)) (xv (pv 0)) (xi pe_int) (fun _ _ => rfl)) os_ix) rfl) os_nin))) (fun _ _ _ _ _ => (xv (pv 1)))) (fun _ _ _ h => icE_of h))))), h⟩
theorem ok__law_joined (T : Txt K mg) : FnOk P w K mg base CX0 3 T.a__law_joined T.d__law_joined ["tape", "parts"] (spV K F__law_joined) := by
  have G__law_shuffled := ok__law_shuffled (P := P) (w := w) (base := base) T
  have G__law_draw := ok__law_draw (P := P) (w := w) (base := base) T
  refine T.F__law_joined.ok sc__law_joined (fun vs H Q E h => spV_len (F := F__law_joined) (body := B__law_joined) (len := 2) (n := 3) rfl h) (fun cdv A outer s H vs Q E hr h => ?_)
  obtain ⟨t, h⟩ := def_of (N := ["tape", "parts", "k"]) (len := 2) (n := 3) (body := B__law_joined) (F := F__law_joined) rfl rfl h
  exact ⟨tSV ⟨K, t⟩ B__law_joined, (xSeq (pss_cons (xSetF (ps_set (i := 1) sc__law_joined.nd rfl (Or.inl rfl) (xCall (pe_call G__law_shuffled (hr.mono (by omega)) rfl T.m__law_shuffled T.F__law_shuffled.kp T.b__law_shuffled .nil pass0 (xA (pa_cons (xv (pv 0)) (xA (pa_cons (xv (pv 1)) (xN pa_nil)))))))) fun _ _ _ h => h) (xSeq (pss_cons (xIfS (ps_if (xT (pt_cmpR (op_eqK (K := K) (hu64 hr)) (xB (pe_callB (call_lenK (K := K)) (by rfl) T.z_len rfl (xA (pa_cons (xv (pv 1)) (xN pa_nil)))) bs_len) (xi pe_int) (nomark _)) os_eq) (pss_one (xRet (ps_ret (xE (pe_ix (ixK (K := K)) (xv (pv 1)) (xi pe_int) (fun _ _ => rfl)) os_ix)))) (xNexts pss_nil))) (xSeq (pss_cons (xIfS (ps_if (PW.pt (xAnd (pw_and (xT (pt_cmpR op_gt (xB (pe_callB (call_lenK (K := K)) (by rfl) T.z_len rfl (xA (pa_cons (xv (pv 1)) (xN pa_nil)))) bs_len) (xi pe_int) (nomark _)) os_cmp) (pw_and1 (xT (pt_cmpR (op_eqK (K := K) (hu64 hr)) (xCall (pe_call G__law_draw (hr.mono (by omega)) rfl T.m__law_draw T.F__law_draw.kp T.b__law_draw .nil pass0 (xA (pa_cons (xv (pv 0)) (xA (pa_cons (xi pe_int) (xN pa_nil))))))) (xi pe_int) (nomark _)) os_eq))))) (xSeq (pss_cons (xSetF (ps_set (i := 2) sc__law_joined.nd rfl (Or.inl rfl) (xE (pe_op (op_addK (K := K)) (xi pe_int) (xCall (pe_call G__law_draw (hr.mono (by omega)) rfl T.m__law_draw T.F__law_draw.kp T.b__law_draw .nil pass0 (xA (pa_cons (xv (pv 0)) (xA (pa_cons (xE (pe_op op_sub (xB (pe_callB (call_lenK (K := K)) (by rfl) T.z_len rfl (xA (pa_cons (xv (pv 1)) (xN pa_nil)))) bs_len) (xi pe_int)) os_sub) (xN pa_nil)))))))) os_add)) fun _ _ _ h => h) (pss_one (xRet (ps_ret (xTup (pe_tup (xA (pa_cons (xs pe_str) (xA (pa_cons (xB (pe_callTy (call_tupleK (K := K)) (by rfl) T.z_tuple rfl (xA (pa_cons (xE (pe_op (op_addK (K := K)) (xLst (pe_lst (xA (pa_cons (xTup (pe_tup (xA (pa_cons (xs pe_str) (xA (pa_cons (xB (pe_callTy (call_tupleK (K := K)) (by rfl) T.z_tuple rfl (xA (pa_cons (xSl (pe_slice (sl_K (K := K)) (xv (pv 1)) (xPn po_none) (xPe (po_some (xv (pv 2)))))) (xN pa_nil)))) bs_tup) (xN pa_nil))))))) (xN pa_nil))))) (xSl (pe_slice (sl_K (K := K)) (xv (pv 1)) (xPe (po_some (xv (pv 2)))) (xPn po_none)))) os_add) (xN pa_nil)))) bs_tup) (xN pa_nil)))))))))))) (xNexts pss_nil))) (pss_one (xRet (ps_ret (xTup (pe_tup (xA (pa_cons (xs pe_str) (xA (pa_cons (xB (pe_callTy (call_tupleK (K := K)) (by rfl) T.z_tuple rfl (xA (pa_cons (xv (pv 1)) (xN pa_nil)))) bs_tup) (xN pa_nil)))))))))))))))), h⟩
theorem okR__law_plan_names (T : Txt K mg) : ∀ n : Nat, (FnOk P w K mg base CX0 (1 + n) T.a__law_plan_names T.d__law_plan_names ["plan"] (spV K (R__law_plan_names n))) := by
  intro n
  induction n with
  | zero => exact fn_false fun _ _ h => h
  | succ n ih =>
    have G__law_plan_names := ih
    refine T.F__law_plan_names.ok (k := 1 + n) sc__law_plan_names (fun vs H Q E h => spV_len (F := R__law_plan_names (n + 1)) (len := 1) (n := 3) rfl h) (fun cdv A outer s H vs Q E hr h => ?_)
    obtain ⟨t, h⟩ := def_of (N := ["plan", "names", "part"]) (n := 3) (len := 1) (F := R__law_plan_names (n + 1)) rfl rfl h
    exact ⟨tSV ⟨K, t⟩ _, (xSeq (pss_cons (xIfS (ps_if (xTr (pt_truthK (K := K) (xIsi .str (pe_callB (call_isiK1 (K := K)) (by rfl) T.z_isinstance rfl (pa_cons (xv (pv 0)) (pa_cons (pe_bltn (by rfl) T.z_str rfl (v := .ty "str") rfl) pa_nil)))) (fun _ => rfl))) (pss_one (xRet (ps_ret (xLst (pe_lst (xA (pa_cons (xv (pv 0)) (xN pa_nil)))))))) (xNexts pss_nil))) (xSeq (pss_cons (xIfS (ps_if (xT (pt_cmpR (op_neK (K := K) (hu64 hr)) (xE (pe_ix (ixK (K := K)) (xv (pv 0)) (xi pe_int) (fun _ _ => rfl)) os_ix) (xs pe_str) (nomark _)) os_ne) (pss_one (xRet (ps_ret (xCall (pe_call G__law_plan_names (hr.mono (by omega)) rfl T.m__law_plan_names T.F__law_plan_names.kp T.b__law_plan_names .nil pass0 (xA (pa_cons (xE (pe_ix (ixK (K := K)) (xv (pv 0)) (xi pe_int) (fun _ _ => rfl)) os_ix) (xN pa_nil)))))))) (xNexts pss_nil))) (xSeq (pss_cons (xSetO (ps_set (i := 1) sc__law_plan_names.nd rfl (Or.inl rfl) (xLst (pe_lst (xN pa_nil)))) fun _ _ _ h => h) (xSeq (pss_cons (xFor (dead := [2]) (ps_for PassesOwn.never rfl (pi_seq2 (K := K) (xE (pe_ix (ixK (K := K)) (xv (pv 0)) (xi pe_int) (fun _ _ => rfl)) os_ix)) (xgN (pg_name (i := 2) sc__law_plan_names.nd rfl (Or.inl rfl))) (pss_one (xExpr (ps_expr (xExt (pe_bmK (K := K) PySem.F.plainAttrs_list PySem.F.slot_list_extend PySem.F.type_list_extend mt_extend (pv 1) (xA (pa_cons (xCall (pe_call G__law_plan_names (hr.mono (by omega)) rfl T.m__law_plan_names T.F__law_plan_names.kp T.b__law_plan_names .nil pass0 (xA (pa_cons (xv (pv 2)) (xN pa_nil))))) (xN pa_nil))))))))) (fun _ _ _ h => iE_of h)) (pss_one (xRet (ps_ret (xv (pv 1))))))))))))), h⟩
theorem ok__law_plan_names (T : Txt K mg) : FnOk P w K mg base CX0 131 T.a__law_plan_names T.d__law_plan_names ["plan"] (spV K F__law_plan_names) := (okR__law_plan_names (P := P) (w := w) (base := base) T 130)
theorem ok__law_atoms_below (T : Txt K mg) : FnOk P w K mg base CX0 132 T.a__law_atoms_below T.d__law_atoms_below ["member", "plan"] (spV K F__law_atoms_below) := by
  have G__law_plan_names := ok__law_plan_names (P := P) (w := w) (base := base) T
  refine T.F__law_atoms_below.ok sc__law_atoms_below (fun vs H Q E h => spV_len (F := F__law_atoms_below) (body := B__law_atoms_below) (len := 2) (n := 4) rfl h) (fun cdv A outer s H vs Q E hr h => ?_)
  obtain ⟨t, h⟩ := def_of (N := ["member", "plan", "names", "atom"]) (len := 2) (n := 4) (body := B__law_atoms_below) (F := F__law_atoms_below) rfl rfl h
  exact ⟨tSV ⟨K, t⟩ B__law_atoms_below, (xSeq (pss_cons (xSetF (ps_set (i := 2) sc__law_atoms_below.nd rfl (Or.inr rfl) (xCall (pe_call G__law_plan_names (hr.mono (by omega)) rfl T.m__law_plan_names T.F__law_plan_names.kp T.b__law_plan_names .nil pass0 (xA (pa_cons (xv (pv 1)) (xN pa_nil)))))) fun _ _ _ h => h) (pss_one (xRet (ps_ret (xLc (pe_lc (own := [("atom", 3)]) rfl sc__law_atoms_below.nd (pi_seq2 (K := K) (xE (pe_ix (ixK (K := K)) (xv (pv 0)) (xi pe_int) (fun _ _ => rfl)) os_ix)) (blkOk_by (N := ["member", "plan", "names", "atom"]) (sc := defScope s__law_atoms_below) (by decide +kernel)) (fun _ _ _ _ _ => (xgN (pg_name (i := 3) sc__law_atoms_below.nd rfl (Or.inl rfl)))) (fun _ _ _ _ _ => (pts_one (xT (pt_cmpR (op_inW (K := K) (hu65 hr)) (xE (pe_ix (ixK (K := K)) (xv (pv 3)) (xi pe_int) (fun _ _ => rfl)) os_ix) (xv (pv 2)) rfl) os_in))) (fun _ _ _ _ _ => (xv (pv 3)))) (fun _ _ _ h => icE_of h))))))), h⟩
theorem ok__law_plan (T : Txt K mg) : FnOk P w K mg base CX0 133 T.a__law_plan T.d__law_plan ["tape", "member"] (spV K F__law_plan) := by
  have G__law_shuffled := ok__law_shuffled (P := P) (w := w) (base := base) T
  have G__law_joined := ok__law_joined (P := P) (w := w) (base := base) T
  have G__law_bound := ok__law_bound (P := P) (w := w) (base := base) T
  have G__law_draw := ok__law_draw (P := P) (w := w) (base := base) T
  have G__law_letters_in := ok__law_letters_in (P := P) (w := w) (base := base) T
  have G__law_pick := ok__law_pick (P := P) (w := w) (base := base) T
  have G__law_atoms_below := ok__law_atoms_below (P := P) (w := w) (base := base) T
  refine T.F__law_plan.ok sc__law_plan (fun vs H Q E h => spV_len (F := F__law_plan) (body := B__law_plan) (len := 2) (n := 8) rfl h) (fun cdv A outer s H vs Q E hr h => ?_)
  obtain ⟨t, h⟩ := def_of (N := ["tape", "member", "parts", "atom", "letter", "mine", "part", "rest"]) (len := 2) (n := 8) (body := B__law_plan) (F := F__law_plan) rfl rfl h
  exact ⟨tSV ⟨K, t⟩ B__law_plan, (xSeq (pss_cons (xSetF (ps_setLc (i := 2) (own := [("atom", 3)]) rfl sc__law_plan.nd rfl rfl (sw_true rfl rfl rfl (by decide +kernel)) (pi_seq2 (K := K) (xE (pe_ix (ixK (K := K)) (xv (pv 1)) (xi pe_int) (fun _ _ => rfl)) os_ix)) (blkOk_by (N := ["tape", "member", "parts", "atom", "letter", "mine", "part", "rest"]) (sc := defScope s__law_plan) (by decide +kernel)) (fun _ _ _ _ _ => (xgN (pg_name (i := 3) sc__law_plan.nd rfl (Or.inl rfl)))) (fun _ _ _ _ _ => (xYes pts_nil)) (fun _ _ _ _ _ => (xE (pe_ix (ixK (K := K)) (xv (pv 3)) (xi pe_int) (fun _ _ => rfl)) os_ix))) fun _ _ _ => tLc_of (fun _ _ _ h => icE_of h) (by decide)) (xSeq (pss_cons (xFor (dead := [4, 5, 7]) (ps_for PassesOwn.never rfl (pi_seq2 (K := K) (xCall (pe_call G__law_shuffled (hr.mono (by omega)) rfl T.m__law_shuffled T.F__law_shuffled.kp T.b__law_shuffled .nil pass0 (xA (pa_cons (xv (pv 0)) (xA (pa_cons (xCall (pe_call G__law_bound (hr.mono (by omega)) rfl T.m__law_bound T.F__law_bound.kp T.b__law_bound .nil pass0 (xA (pa_cons (xv (pv 1)) (xN pa_nil))))) (xN pa_nil)))))))) (xgN (pg_name (i := 4) sc__law_plan.nd rfl (Or.inr rfl))) (xSeq (pss_cons (xSetO (ps_set (i := 5) sc__law_plan.nd rfl (Or.inr rfl) (xLc (pe_lc (own := [("part", 6)]) rfl sc__law_plan.nd (pi_seq2 (K := K) (xv (pv 2))) (blkOk_by (N := ["tape", "member", "parts", "atom", "letter", "mine", "part", "rest"]) (sc := defScope s__law_plan) (by decide +kernel)) (fun _ _ _ _ _ => (xgN (pg_name (i := 6) sc__law_plan.nd rfl (Or.inl rfl)))) (fun _ _ _ _ _ => (pts_one (xT (pt_cmpR (op_inW (K := K) (hu65 hr)) (xv (pv 4)) (xCall (pe_call G__law_letters_in (hr.mono (by omega)) rfl T.m__law_letters_in T.F__law_letters_in.kp T.b__law_letters_in .nil pass0 (xA (pa_cons (xCall (pe_call G__law_atoms_below (hr.mono (by omega)) rfl T.m__law_atoms_below T.F__law_atoms_below.kp T.b__law_atoms_below .nil pass0 (xA (pa_cons (xv (pv 1)) (xA (pa_cons (xv (pv 6)) (xN pa_nil))))))) (xN pa_nil))))) rfl) os_in))) (fun _ _ _ _ _ => (xv (pv 6)))) (fun _ _ _ h => icE_of h))) fun _ _ _ h => h) (xSeq (pss_cons (xSetO (ps_setLc (i := 7) (own := [("part", 6)]) rfl sc__law_plan.nd rfl rfl (sw_true rfl rfl rfl (by decide +kernel)) (pi_seq2 (K := K) (xv (pv 2))) (blkOk_by (N := ["tape", "member", "parts", "atom", "letter", "mine", "part", "rest"]) (sc := defScope s__law_plan) (by decide +kernel)) (fun _ _ _ _ _ => (xgN (pg_name (i := 6) sc__law_plan.nd rfl (Or.inl rfl)))) (fun _ _ _ _ _ => (pts_one (xT (pt_cmpR (op_ninW (K := K) (hu65 hr)) (xv (pv 6)) (xv (pv 5)) rfl) os_nin))) (fun _ _ _ _ _ => (xv (pv 6)))) fun _ _ _ => tLc_of (fun _ _ _ h => icE_of h) (by decide)) (xSeq (pss_cons (xIfS (ps_if (PW.pt (xAnd (pw_and (xT (pt_cmpR op_gt (xB (pe_callB (call_lenK (K := K)) (by rfl) T.z_len rfl (xA (pa_cons (xv (pv 7)) (xN pa_nil)))) bs_len) (xi pe_int) (nomark _)) os_cmp) (pw_and1 (xT (pt_cmpR (op_eqK (K := K) (hu64 hr)) (xCall (pe_call G__law_draw (hr.mono (by omega)) rfl T.m__law_draw T.F__law_draw.kp T.b__law_draw .nil pass0 (xA (pa_cons (xv (pv 0)) (xA (pa_cons (xi pe_int) (xN pa_nil))))))) (xi pe_int) (nomark _)) os_eq))))) (pss_one (xExpr (ps_expr (xApp (pe_bmK (K := K) PySem.F.plainAttrs_list PySem.F.slot_list_append PySem.F.type_list_append mt_append (pv 5) (xA (pa_cons (xPop (pe_bmK (K := K) PySem.F.plainAttrs_list PySem.F.slot_list_pop PySem.F.type_list_pop mt_popAt (pv 7) (xA (pa_cons (xCall (pe_call G__law_draw (hr.mono (by omega)) rfl T.m__law_draw T.F__law_draw.kp T.b__law_draw .nil pass0 (xA (pa_cons (xv (pv 0)) (xA (pa_cons (xB (pe_callB (call_lenK (K := K)) (by rfl) T.z_len rfl (xA (pa_cons (xv (pv 7)) (xN pa_nil)))) bs_len) (xN pa_nil))))))) (xN pa_nil))))) (xN pa_nil)))))))) (xNexts pss_nil))) (pss_one (xSetF (ps_set (i := 2) sc__law_plan.nd rfl (Or.inl rfl) (xE (pe_op (op_addK (K := K)) (xv (pv 7)) (xLst (pe_lst (xA (pa_cons (xTup (pe_tup (xA (pa_cons (xCall (pe_call G__law_pick (hr.mono (by omega)) rfl T.m__law_pick T.F__law_pick.kp T.b__law_pick .nil pass0 (xA (pa_cons (xv (pv 0)) (xA (pa_cons (xLst (pe_lst (xA (pa_cons (xs pe_str) (xA (pa_cons (xs pe_str) (xN pa_nil))))))) (xN pa_nil))))))) (xA (pa_cons (xv (pv 4)) (xA (pa_cons (xCall (pe_call G__law_joined (hr.mono (by omega)) rfl T.m__law_joined T.F__law_joined.kp T.b__law_joined .nil pass0 (xA (pa_cons (xv (pv 0)) (xA (pa_cons (xv (pv 5)) (xN pa_nil))))))) (xN pa_nil))))))))) (xN pa_nil)))))) os_add)) fun _ _ _ h => h))))))))) (fun _ _ _ h => iE_of h)) (pss_one (xRet (ps_ret (xCall (pe_call G__law_joined (hr.mono (by omega)) rfl T.m__law_joined T.F__law_joined.kp T.b__law_joined .nil pass0 (xA (pa_cons (xv (pv 0)) (xA (pa_cons (xv (pv 2)) (xN pa_nil)))))))))))))), h⟩
theorem okR__law_projections (T : Txt K mg) : ∀ n : Nat, (FnOk P w K mg base CX0 (1 + n) T.a__law_projections T.d__law_projections ["plan"] (spV K (R__law_projections n))) := by
  intro n
  induction n with
  | zero => exact fn_false fun _ _ h => h
  | succ n ih =>
    have G__law_projections := ih
    refine T.F__law_projections.ok (k := 1 + n) sc__law_projections (fun vs H Q E h => spV_len (F := R__law_projections (n + 1)) (len := 1) (n := 3) rfl h) (fun cdv A outer s H vs Q E hr h => ?_)
    obtain ⟨t, h⟩ := def_of (N := ["plan", "told", "part"]) (n := 3) (len := 1) (F := R__law_projections (n + 1)) rfl rfl h
    exact ⟨tSV ⟨K, t⟩ _, (xSeq (pss_cons (xIfS (ps_if (xTr (pt_truthK (K := K) (xIsi .str (pe_callB (call_isiK1 (K := K)) (by rfl) T.z_isinstance rfl (pa_cons (xv (pv 0)) (pa_cons (pe_bltn (by rfl) T.z_str rfl (v := .ty "str") rfl) pa_nil)))) (fun _ => rfl))) (pss_one (xRet (ps_ret (xLst (pe_lst (xN pa_nil)))))) (xNexts pss_nil))) (xSeq (pss_cons (xIfS (ps_if (xT (pt_cmpR (op_neK (K := K) (hu64 hr)) (xE (pe_ix (ixK (K := K)) (xv (pv 0)) (xi pe_int) (fun _ _ => rfl)) os_ix) (xs pe_str) (nomark _)) os_ne) (pss_one (xRet (ps_ret (xE (pe_op (op_addK (K := K)) (xCall (pe_call G__law_projections (hr.mono (by omega)) rfl T.m__law_projections T.F__law_projections.kp T.b__law_projections .nil pass0 (xA (pa_cons (xE (pe_ix (ixK (K := K)) (xv (pv 0)) (xi pe_int) (fun _ _ => rfl)) os_ix) (xN pa_nil))))) (xLst (pe_lst (xA (pa_cons (xv (pv 0)) (xN pa_nil)))))) os_add)))) (xNexts pss_nil))) (xSeq (pss_cons (xSetO (ps_set (i := 1) sc__law_projections.nd rfl (Or.inl rfl) (xLst (pe_lst (xN pa_nil)))) fun _ _ _ h => h) (xSeq (pss_cons (xFor (dead := [2]) (ps_for PassesOwn.never rfl (pi_seq2 (K := K) (xE (pe_ix (ixK (K := K)) (xv (pv 0)) (xi pe_int) (fun _ _ => rfl)) os_ix)) (xgN (pg_name (i := 2) sc__law_projections.nd rfl (Or.inl rfl))) (pss_one (xExpr (ps_expr (xExt (pe_bmK (K := K) PySem.F.plainAttrs_list PySem.F.slot_list_extend PySem.F.type_list_extend mt_extend (pv 1) (xA (pa_cons (xCall (pe_call G__law_projections (hr.mono (by omega)) rfl T.m__law_projections T.F__law_projections.kp T.b__law_projections .nil pass0 (xA (pa_cons (xv (pv 2)) (xN pa_nil))))) (xN pa_nil))))))))) (fun _ _ _ h => iE_of h)) (pss_one (xRet (ps_ret (xv (pv 1))))))))))))), h⟩
theorem ok__law_projections (T : Txt K mg) : FnOk P w K mg base CX0 131 T.a__law_projections T.d__law_projections ["plan"] (spV K F__law_projections) := (okR__law_projections (P := P) (w := w) (base := base) T 130)
theorem ok__law_projected (T : Txt K mg) : FnOk P w K mg base CX0 132 T.a__law_projected T.d__law_projected ["plan"] (spV K F__law_projected) := by
  have G__law_projections := ok__law_projections (P := P) (w := w) (base := base) T
  refine T.F__law_projected.ok sc__law_projected (fun vs H Q E h => spV_len (F := F__law_projected) (body := B__law_projected) (len := 1) (n := 2) rfl h) (fun cdv A outer s H vs Q E hr h => ?_)
  obtain ⟨t, h⟩ := def_of (N := ["plan", "part"]) (len := 1) (n := 2) (body := B__law_projected) (F := F__law_projected) rfl rfl h
  exact ⟨tSV ⟨K, t⟩ B__law_projected, (pss_one (xRet (ps_ret (xLc (pe_lc (own := [("part", 1)]) rfl sc__law_projected.nd (pi_seq2 (K := K) (xCall (pe_call G__law_projections (hr.mono (by omega)) rfl T.m__law_projections T.F__law_projections.kp T.b__law_projections .nil pass0 (xA (pa_cons (xv (pv 0)) (xN pa_nil)))))) (blkOk_by (N := ["plan", "part"]) (sc := defScope s__law_projected) (by decide +kernel)) (fun _ _ _ _ _ => (xgN (pg_name (i := 1) sc__law_projected.nd rfl (Or.inl rfl)))) (fun _ _ _ _ _ => (xYes pts_nil)) (fun _ _ _ _ _ => (xE (pe_ix (ixK (K := K)) (xv (pv 1)) (xi pe_int) (fun _ _ => rfl)) os_ix))) (fun _ _ _ h => icE_of h))))), h⟩
theorem ok__law_key_letters (T : Txt K mg) : FnOk P w K mg base CX0 2 T.a__law_key_letters T.d__law_key_letters ["forms", "atom"] (spV K F__law_key_letters) := by
  have G__law_shape := ok__law_shape (P := P) (w := w) (base := base) T
  refine T.F__law_key_letters.ok sc__law_key_letters (fun vs H Q E h => spV_len (F := F__law_key_letters) (body := B__law_key_letters) (len := 2) (n := 2) rfl h) (fun cdv A outer s H vs Q E hr h => ?_)
  obtain ⟨t, h⟩ := def_of (N := ["forms", "atom"]) (len := 2) (n := 2) (body := B__law_key_letters) (F := F__law_key_letters) rfl rfl h
  exact ⟨tSV ⟨K, t⟩ B__law_key_letters, (pss_one (xRet (ps_ret (xSl (pe_slice (sl_K (K := K)) (xE (pe_ix (ixK (K := K)) (xv (pv 1)) (xi pe_int) (fun _ _ => rfl)) os_ix) (xPn po_none) (xPe (po_some (xE (pe_ix (ixK (K := K)) (xCall (pe_call G__law_shape (hr.mono (by omega)) rfl T.m__law_shape T.F__law_shape.kp T.b__law_shape .nil pass0 (xA (pa_cons (xv (pv 0)) (xA (pa_cons (xE (pe_ix (ixK (K := K)) (xv (pv 1)) (xi pe_int) (fun _ _ => rfl)) os_ix) (xN pa_nil))))))) (xi pe_int) (fun _ _ => rfl)) os_ix)))))))), h⟩
theorem ok__law_determined (T : Txt K mg) : FnOk P w K mg base CX0 3 T.a__law_determined T.d__law_determined ["forms", "atoms", "letters"] (spV K F__law_determined) := by
  have G__law_letters_in := ok__law_letters_in (P := P) (w := w) (base := base) T
  have G__law_key_letters := ok__law_key_letters (P := P) (w := w) (base := base) T
  have G__law_shape := ok__law_shape (P := P) (w := w) (base := base) T
  refine T.F__law_determined.ok sc__law_determined (fun vs H Q E h => spV_len (F := F__law_determined) (body := B__law_determined) (len := 3) (n := 9) rfl h) (fun cdv A outer s H vs Q E hr h => ?_)
  obtain ⟨t, h⟩ := def_of (N := ["forms", "atoms", "letters", "known", "letter", "turn", "atom", "lacking", "term"]) (len := 3) (n := 9) (body := B__law_determined) (F := F__law_determined) rfl rfl h
  exact ⟨tSV ⟨K, t⟩ B__law_determined, (xSeq (pss_cons (xSetO (ps_set (i := 3) sc__law_determined.nd rfl (Or.inr rfl) (xLc (pe_lc (own := [("letter", 4)]) rfl sc__law_determined.nd (pi_seq2 (K := K) (xCall (pe_call G__law_letters_in (hr.mono (by omega)) rfl T.m__law_letters_in T.F__law_letters_in.kp T.b__law_letters_in .nil pass0 (xA (pa_cons (xv (pv 1)) (xN pa_nil)))))) (blkOk_by (N := ["forms", "atoms", "letters", "known", "letter", "turn", "atom", "lacking", "term"]) (sc := defScope s__law_determined) (by decide +kernel)) (fun _ _ _ _ _ => (xgN (pg_name (i := 4) sc__law_determined.nd rfl (Or.inl rfl)))) (fun _ _ _ _ _ => (pts_one (xT (pt_cmpR (op_inW (K := K) (hu65 hr)) (xv (pv 4)) (xv (pv 2)) rfl) os_in))) (fun _ _ _ _ _ => (xv (pv 4)))) (fun _ _ _ h => icE_of h))) fun _ _ _ h => h) (xSeq (pss_cons (xFor (dead := [5, 6, 7]) (ps_for PassesOwn.never rfl (pi_range1 (by rfl) T.z_range (xA (pa_cons (xB (pe_callB (call_lenK (K := K)) (by rfl) T.z_len rfl (xA (pa_cons (xv (pv 1)) (xN pa_nil)))) bs_len) (xN pa_nil)))) (xgN (pg_name (i := 5) sc__law_determined.nd rfl (Or.inl rfl))) (pss_one (xFor (dead := [6, 7]) (ps_for PassesOwn.never rfl (pi_seq2 (K := K) (xv (pv 1))) (xgN (pg_name (i := 6) sc__law_determined.nd rfl (Or.inl rfl))) (xSeq (pss_cons (xSetF (ps_setLc (i := 7) (own := [("term", 8)]) rfl sc__law_determined.nd rfl rfl (sw_true rfl rfl rfl (by decide +kernel)) (pi_seq2 (K := K) (xCall (pe_call G__law_key_letters (hr.mono (by omega)) rfl T.m__law_key_letters T.F__law_key_letters.kp T.b__law_key_letters .nil pass0 (xA (pa_cons (xv (pv 0)) (xA (pa_cons (xv (pv 6)) (xN pa_nil)))))))) (blkOk_by (N := ["forms", "atoms", "letters", "known", "letter", "turn", "atom", "lacking", "term"]) (sc := defScope s__law_determined) (by decide +kernel)) (fun _ _ _ _ _ => (xgN (pg_name (i := 8) sc__law_determined.nd rfl (Or.inl rfl)))) (fun _ _ _ _ _ => (pts_one (PW.pt (xAnd (pw_and (xTr (pt_truthK (K := K) (xIsi .str (pe_callB (call_isiK1 (K := K)) (by rfl) T.z_isinstance rfl (pa_cons (xv (pv 8)) (pa_cons (pe_bltn (by rfl) T.z_str rfl (v := .ty "str") rfl) pa_nil)))) (fun _ => rfl))) (pw_and1 (xT (pt_cmpR (op_ninW (K := K) (hu65 hr)) (xv (pv 8)) (xv (pv 3)) rfl) os_nin))))))) (fun _ _ _ _ _ => (xv (pv 8)))) fun _ _ _ => tLc_of (fun _ _ _ h => icE_of h) (by decide)) (pss_one (xIfS (ps_if (PW.pt (xAnd (pw_and (xT (pt_cmpR (op_eqK (K := K) (hu64 hr)) (xE (pe_ix (ixK (K := K)) (xCall (pe_call G__law_shape (hr.mono (by omega)) rfl T.m__law_shape T.F__law_shape.kp T.b__law_shape .nil pass0 (xA (pa_cons (xv (pv 0)) (xA (pa_cons (xE (pe_ix (ixK (K := K)) (xv (pv 6)) (xi pe_int) (fun _ _ => rfl)) os_ix) (xN pa_nil))))))) (xi pe_int) (fun _ _ => rfl)) os_ix) (xs pe_str) (nomark _)) os_eq) (pw_and1 (xT (pt_cmpR (op_eqK (K := K) (hu64 hr)) (xB (pe_callB (call_lenK (K := K)) (by rfl) T.z_len rfl (xA (pa_cons (xv (pv 7)) (xN pa_nil)))) bs_len) (xi pe_int) (nomark _)) os_eq))))) (pss_one (xExpr (ps_expr (xExt (pe_bmK (K := K) PySem.F.plainAttrs_list PySem.F.slot_list_extend PySem.F.type_list_extend mt_extend (pv 3) (xA (pa_cons (xLc (pe_lc (own := [("letter", 4)]) rfl sc__law_determined.nd (pi_seq2 (K := K) (xCall (pe_call G__law_letters_in (hr.mono (by omega)) rfl T.m__law_letters_in T.F__law_letters_in.kp T.b__law_letters_in .nil pass0 (xA (pa_cons (xLst (pe_lst (xA (pa_cons (xv (pv 6)) (xN pa_nil))))) (xN pa_nil)))))) (blkOk_by (N := ["forms", "atoms", "letters", "known", "letter", "turn", "atom", "lacking", "term"]) (sc := defScope s__law_determined) (by decide +kernel)) (fun _ _ _ _ _ => (xgN (pg_name (i := 4) sc__law_determined.nd rfl (Or.inl rfl)))) (fun _ _ _ _ _ => (pts_one (xT (pt_cmpR (op_ninW (K := K) (hu65 hr)) (xv (pv 4)) (xv (pv 3)) rfl) os_nin))) (fun _ _ _ _ _ => (xv (pv 4)))) (fun _ _ _ h => icE_of h)) (xN pa_nil)))))))) (xNexts pss_nil))))))) (fun _ _ _ h => iE_of h)))) (fun _ _ _ h => iR1_of (tIS_of h))) (pss_one (xRet (ps_ret (xv (pv 3))))))))), h⟩
theorem ok__law_demand_met (T : Txt K mg) : FnOk P w K mg base CX0 133 T.a__law_demand_met T.d__law_demand_met ["forms", "member", "plan"] (spV K F__law_demand_met) := by
  have G__law_atoms_below := ok__law_atoms_below (P := P) (w := w) (base := base) T
  have G__law_projected := ok__law_projected (P := P) (w := w) (base := base) T
  have G__law_determined := ok__law_determined (P := P) (w := w) (base := base) T
  have G__law_letters_in := ok__law_letters_in (P := P) (w := w) (base := base) T
  have G__law_key_letters := ok__law_key_letters (P := P) (w := w) (base := base) T
  have G__law_shape := ok__law_shape (P := P) (w := w) (base := base) T
  refine T.F__law_demand_met.ok sc__law_demand_met (fun vs H Q E h => spV_len (F := F__law_demand_met) (body := B__law_demand_met) (len := 3) (n := 9) rfl h) (fun cdv A outer s H vs Q E hr h => ?_)
  obtain ⟨t, h⟩ := def_of (N := ["forms", "member", "plan", "atoms", "bad", "atom", "inside", "free", "letter"]) (len := 3) (n := 9) (body := B__law_demand_met) (F := F__law_demand_met) rfl rfl h
  exact ⟨tSV ⟨K, t⟩ B__law_demand_met, (xSeq (pss_cons (xSetF (ps_set (i := 3) sc__law_demand_met.nd rfl (Or.inl rfl) (xCall (pe_call G__law_atoms_below (hr.mono (by omega)) rfl T.m__law_atoms_below T.F__law_atoms_below.kp T.b__law_atoms_below .nil pass0 (xA (pa_cons (xv (pv 1)) (xA (pa_cons (xv (pv 2)) (xN pa_nil)))))))) fun _ _ _ h => h) (xSeq (pss_cons (xIfS (ps_if (xT (pt_cmpR (op_eqK (K := K) (hu64 hr)) (xE (pe_ix (ixK (K := K)) (xv (pv 2)) (xi pe_int) (fun _ _ => rfl)) os_ix) (xs pe_str) (nomark _)) os_eq) (xSeq (pss_cons (xSetF (ps_setLc (i := 4) (own := [("atom", 5)]) rfl sc__law_demand_met.nd rfl rfl (sw_true rfl rfl rfl (by decide +kernel)) (pi_seq2 (K := K) (xv (pv 3))) (blkOk_by (N := ["forms", "member", "plan", "atoms", "bad", "atom", "inside", "free", "letter"]) (sc := defScope s__law_demand_met) (by decide +kernel)) (fun _ _ _ _ _ => (xgN (pg_name (i := 5) sc__law_demand_met.nd rfl (Or.inl rfl)))) (fun _ _ _ _ _ => (pts_one (xT (pt_cmpR (op_ninW (K := K) (hu65 hr)) (xE (pe_ix (ixK (K := K)) (xv (pv 2)) (xi pe_int) (fun _ _ => rfl)) os_ix) (xCall (pe_call G__law_key_letters (hr.mono (by omega)) rfl T.m__law_key_letters T.F__law_key_letters.kp T.b__law_key_letters .nil pass0 (xA (pa_cons (xv (pv 0)) (xA (pa_cons (xv (pv 5)) (xN pa_nil))))))) rfl) os_nin))) (fun _ _ _ _ _ => (xv (pv 5)))) fun _ _ _ => tLc_of (fun _ _ _ h => icE_of h) (by decide)) (pss_one (xRet (ps_ret (xE (pe_cmpR (op_eqK (K := K) (hu64 hr)) (xB (pe_callB (call_lenK (K := K)) (by rfl) T.z_len rfl (xA (pa_cons (xLc (pe_lc (own := [("atom", 5)]) rfl sc__law_demand_met.nd (pi_seq2 (K := K) (xv (pv 4))) (blkOk_by (N := ["forms", "member", "plan", "atoms", "bad", "atom", "inside", "free", "letter"]) (sc := defScope s__law_demand_met) (by decide +kernel)) (fun _ _ _ _ _ => (xgN (pg_name (i := 5) sc__law_demand_met.nd rfl (Or.inl rfl)))) (fun _ _ _ _ _ => (pts_one (xT (pt_cmpR (op_neK (K := K) (hu64 hr)) (xE (pe_ix (ixK (K := K)) (xCall (pe_call G__law_shape (hr.mono (by omega)) rfl T.m__law_shape T.F__law_shape.kp T.b__law_shape .nil pass0 (xA (pa_cons (xv (pv 0)) (xA (pa_cons (xE (pe_ix (ixK (K := K)) (xv (pv 5)) (xi pe_int) (fun _ _ => rfl)) os_ix) (xN pa_nil))))))) (xi pe_int) (fun _ _ => rfl)) os_ix) (xs pe_str) (nomark _)) os_ne))) (fun _ _ _ _ _ => (xv (pv 5)))) (fun _ _ _ h => icE_of h)) (xN pa_nil)))) bs_len) (xi pe_int) (nomark _)) os_eq)))))) (xNexts pss_nil))) (xSeq (pss_cons (xSetF (ps_set (i := 6) sc__law_demand_met.nd rfl (Or.inr rfl) (xCall (pe_call G__law_projected (hr.mono (by omega)) rfl T.m__law_projected T.F__law_projected.kp T.b__law_projected .nil pass0 (xA (pa_cons (xv (pv 2)) (xN pa_nil)))))) fun _ _ _ h => h) (xSeq (pss_cons (xSetF (ps_setLc (i := 7) (own := [("letter", 8)]) rfl sc__law_demand_met.nd rfl rfl (sw_true rfl rfl rfl (by decide +kernel)) (pi_seq2 (K := K) (xCall (pe_call G__law_letters_in (hr.mono (by omega)) rfl T.m__law_letters_in T.F__law_letters_in.kp T.b__law_letters_in .nil pass0 (xA (pa_cons (xv (pv 3)) (xN pa_nil)))))) (blkOk_by (N := ["forms", "member", "plan", "atoms", "bad", "atom", "inside", "free", "letter"]) (sc := defScope s__law_demand_met) (by decide +kernel)) (fun _ _ _ _ _ => (xgN (pg_name (i := 8) sc__law_demand_met.nd rfl (Or.inl rfl)))) (fun _ _ _ _ _ => (pts_one (xT (pt_cmpR (op_ninW (K := K) (hu65 hr)) (xv (pv 8)) (xv (pv 6)) rfl) os_nin))) (fun _ _ _ _ _ => (xv (pv 8)))) fun _ _ _ => tLc_of (fun _ _ _ h => icE_of h) (by decide)) (pss_one (xRet (ps_ret (xE (pe_cmpR (op_inW (K := K) (hu65 hr)) (xE (pe_ix (ixK (K := K)) (xv (pv 2)) (xi pe_int) (fun _ _ => rfl)) os_ix) (xCall (pe_call G__law_determined (hr.mono (by omega)) rfl T.m__law_determined T.F__law_determined.kp T.b__law_determined .nil pass0 (xA (pa_cons (xv (pv 0)) (xA (pa_cons (xv (pv 3)) (xA (pa_cons (xv (pv 7)) (xN pa_nil))))))))) rfl) os_in)))))))))))), h⟩
theorem ok__law_other_kind (T : Txt K mg) : FnOk P w K mg base CX0 3 T.a__law_other_kind T.d__law_other_kind ["tape", "forms"] (spV K F__law_other_kind) := by
  have G__law_draw := ok__law_draw (P := P) (w := w) (base := base) T
  have G__law_pick := ok__law_pick (P := P) (w := w) (base := base) T
  refine T.F__law_other_kind.ok sc__law_other_kind (fun vs H Q E h => spV_len (F := F__law_other_kind) (body := B__law_other_kind) (len := 2) (n := 8) rfl h) (fun cdv A outer s H vs Q E hr h => ?_)
  obtain ⟨t, h⟩ := def_of (N := ["tape", "forms", "at", "name", "kind", "columns", "keys", "new"]) (len := 2) (n := 8) (body := B__law_other_kind) (F := F__law_other_kind) rfl rfl h
  exact ⟨tSV ⟨K, t⟩ B__law_other_kind, (xSeq (pss_cons (xSetF (ps_set (i := 2) sc__law_other_kind.nd rfl (Or.inl rfl) (xCall (pe_call G__law_draw (hr.mono (by omega)) rfl T.m__law_draw T.F__law_draw.kp T.b__law_draw .nil pass0 (xA (pa_cons (xv (pv 0)) (xA (pa_cons (xB (pe_callB (call_lenK (K := K)) (by rfl) T.z_len rfl (xA (pa_cons (xv (pv 1)) (xN pa_nil)))) bs_len) (xN pa_nil)))))))) fun _ _ _ h => h) (xSeq (pss_cons (xSetG (ps_asg (xE (pe_ix (ixK (K := K)) (xv (pv 1)) (xv (pv 2)) (fun _ _ => rfl)) os_ix) (xgT (pg_tupK (K := K) (n := 4) rfl (xgsC (pgs_cons (xgN (pg_name (i := 3) sc__law_other_kind.nd rfl (Or.inl rfl))) (xgsC (pgs_cons (xgN (pg_name (i := 4) sc__law_other_kind.nd rfl (Or.inl rfl))) (xgsC (pgs_cons (xgN (pg_name (i := 5) sc__law_other_kind.nd rfl (Or.inl rfl))) (xgsC (pgs_cons (xgN (pg_name (i := 6) sc__law_other_kind.nd rfl (Or.inl rfl))) (xgsN pgs_nil)))))))))) (gsC gfN (gsC gfN (gsC gfN (gsC gfN gsN))))))) (xSeq (pss_cons (xSetF (ps_set (i := 7) sc__law_other_kind.nd rfl (Or.inl rfl) (xCall (pe_call G__law_pick (hr.mono (by omega)) rfl T.m__law_pick T.F__law_pick.kp T.b__law_pick .nil pass0 (xA (pa_cons (xv (pv 0)) (xA (pa_cons (xLst (pe_lst (xA (pa_cons (xs pe_str) (xA (pa_cons (xs pe_str) (xA (pa_cons (xs pe_str) (xA (pa_cons (xs pe_str) (xA (pa_cons (xs pe_str) (xN pa_nil))))))))))))) (xN pa_nil)))))))) fun _ _ _ h => h) (xSeq (pss_cons (xIfS (ps_if (xT (pt_cmpR (op_eqK (K := K) (hu64 hr)) (xv (pv 7)) (xs pe_str) (nomark _)) os_eq) (pss_one (xSetF (ps_set (i := 6) sc__law_other_kind.nd rfl (Or.inl rfl) (xCall (pe_call G__law_draw (hr.mono (by omega)) rfl T.m__law_draw T.F__law_draw.kp T.b__law_draw .nil pass0 (xA (pa_cons (xv (pv 0)) (xA (pa_cons (xE (pe_op (op_addK (K := K)) (xv (pv 5)) (xi pe_int)) os_add) (xN pa_nil)))))))) fun _ _ _ h => h)) (pss_one (xSetF (ps_set (i := 6) sc__law_other_kind.nd rfl (Or.inl rfl) (xv (pv 5))) fun _ _ _ h => h)))) (pss_one (xRet (ps_ret (xE (pe_op (op_addK (K := K)) (xE (pe_op (op_addK (K := K)) (xSl (pe_slice (sl_K (K := K)) (xv (pv 1)) (xPn po_none) (xPe (po_some (xv (pv 2)))))) (xTup (pe_tup (xA (pa_cons (xTup (pe_tup (xA (pa_cons (xv (pv 3)) (xA (pa_cons (xv (pv 7)) (xA (pa_cons (xv (pv 5)) (xA (pa_cons (xv (pv 6)) (xN pa_nil))))))))))) (xN pa_nil)))))) os_add) (xSl (pe_slice (sl_K (K := K)) (xv (pv 1)) (xPe (po_some (xE (pe_op (op_addK (K := K)) (xv (pv 2)) (xi pe_int)) os_add))) (xPn po_none)))) os_add)))))))))))), h⟩
theorem ok__law_demands_right (T : Txt K mg) : FnOk P w K mg base CX0 137 T.a__law_demands_right T.d__law_demands_right ["forms", "member", "plan"] (spV K F__law_demands_right) := by
  have G__law_same := ok__law_same (P := P) (w := w) (base := base) T
  have G_demands := ok_demands (P := P) (w := w) (base := base) T
  have G__law_demand_met := ok__law_demand_met (P := P) (w := w) (base := base) T
  have G__law_projections := ok__law_projections (P := P) (w := w) (base := base) T
  refine T.F__law_demands_right.ok sc__law_demands_right (fun vs H Q E h => spV_len (F := F__law_demands_right) (body := B__law_demands_right) (len := 3) (n := 5) rfl h) (fun cdv A outer s H vs Q E hr h => ?_)
  obtain ⟨t, h⟩ := def_of (N := ["forms", "member", "plan", "due", "part"]) (len := 3) (n := 5) (body := B__law_demands_right) (F := F__law_demands_right) rfl rfl h
  exact ⟨tSV ⟨K, t⟩ B__law_demands_right, (xSeq (pss_cons (xSetF (ps_setLc (i := 3) (own := [("part", 4)]) rfl sc__law_demands_right.nd rfl rfl (sw_true rfl rfl rfl (by decide +kernel)) (pi_seq2 (K := K) (xCall (pe_call G__law_projections (hr.mono (by omega)) rfl T.m__law_projections T.F__law_projections.kp T.b__law_projections .nil pass0 (xA (pa_cons (xv (pv 2)) (xN pa_nil)))))) (blkOk_by (N := ["forms", "member", "plan", "due", "part"]) (sc := defScope s__law_demands_right) (by decide +kernel)) (fun _ _ _ _ _ => (xgN (pg_name (i := 4) sc__law_demands_right.nd rfl (Or.inl rfl)))) (fun _ _ _ _ _ => (xYes pts_nil)) (fun _ _ _ _ _ => (xTup (pe_tup (xA (pa_cons (xE (pe_ix (ixK (K := K)) (xv (pv 4)) (xi pe_int) (fun _ _ => rfl)) os_ix) (xA (pa_cons (xCall (pe_call G__law_demand_met (hr.mono (by omega)) rfl T.m__law_demand_met T.F__law_demand_met.kp T.b__law_demand_met .nil pass0 (xA (pa_cons (xv (pv 0)) (xA (pa_cons (xv (pv 1)) (xA (pa_cons (xv (pv 4)) (xN pa_nil))))))))) (xN pa_nil))))))))) fun _ _ _ => tLc_of (fun _ _ _ h => icE_of h) (by decide)) (pss_one (xRet (ps_ret (xCall (pe_call G__law_same (hr.mono (by omega)) rfl T.m__law_same T.F__law_same.kp T.b__law_same .nil pass0 (xA (pa_cons (xCall (pe_call G_demands (hr.mono (by omega)) rfl T.m_demands T.F_demands.kp T.b_demands .nil pass0 (xA (pa_cons (xv (pv 0)) (xA (pa_cons (xv (pv 1)) (xA (pa_cons (xv (pv 2)) (xN pa_nil))))))))) (xA (pa_cons (xB (pe_callTy (call_tupleK (K := K)) (by rfl) T.z_tuple rfl (xA (pa_cons (xv (pv 3)) (xN pa_nil)))) bs_tup) (xN pa_nil)))))))))))), h⟩
theorem ok__law_safe_right (T : Txt K mg) : FnOk P w K mg base CX0 138 T.a__law_safe_right T.d__law_safe_right ["forms", "member", "plan"] (spV K F__law_safe_right) := by
  have G__law_same := ok__law_same (P := P) (w := w) (base := base) T
  have G_is_safe := ok_is_safe (P := P) (w := w) (base := base) T
  have G__law_projections := ok__law_projections (P := P) (w := w) (base := base) T
  have G__law_demand_met := ok__law_demand_met (P := P) (w := w) (base := base) T
  refine T.F__law_safe_right.ok sc__law_safe_right (fun vs H Q E h => spV_len (F := F__law_safe_right) (body := B__law_safe_right) (len := 3) (n := 5) rfl h) (fun cdv A outer s H vs Q E hr h => ?_)
  obtain ⟨t, h⟩ := def_of (N := ["forms", "member", "plan", "unmet", "part"]) (len := 3) (n := 5) (body := B__law_safe_right) (F := F__law_safe_right) rfl rfl h
  exact ⟨tSV ⟨K, t⟩ B__law_safe_right, (xSeq (pss_cons (xSetF (ps_setLc (i := 3) (own := [("part", 4)]) rfl sc__law_safe_right.nd rfl rfl (sw_true rfl rfl rfl (by decide +kernel)) (pi_seq2 (K := K) (xCall (pe_call G__law_projections (hr.mono (by omega)) rfl T.m__law_projections T.F__law_projections.kp T.b__law_projections .nil pass0 (xA (pa_cons (xv (pv 2)) (xN pa_nil)))))) (blkOk_by (N := ["forms", "member", "plan", "unmet", "part"]) (sc := defScope s__law_safe_right) (by decide +kernel)) (fun _ _ _ _ _ => (xgN (pg_name (i := 4) sc__law_safe_right.nd rfl (Or.inl rfl)))) (fun _ _ _ _ _ => (pts_one (xNot (pt_not (xTr (pt_truthK (K := K) (xCall (pe_call G__law_demand_met (hr.mono (by omega)) rfl T.m__law_demand_met T.F__law_demand_met.kp T.b__law_demand_met .nil pass0 (xA (pa_cons (xv (pv 0)) (xA (pa_cons (xv (pv 1)) (xA (pa_cons (xv (pv 4)) (xN pa_nil))))))))) (fun _ => rfl))))))) (fun _ _ _ _ _ => (xv (pv 4)))) fun _ _ _ => tLc_of (fun _ _ _ h => icE_of h) (by decide)) (pss_one (xRet (ps_ret (xCall (pe_call G__law_same (hr.mono (by omega)) rfl T.m__law_same T.F__law_same.kp T.b__law_same .nil pass0 (xA (pa_cons (xCall (pe_call G_is_safe (hr.mono (by omega)) rfl T.m_is_safe T.F_is_safe.kp T.b_is_safe .nil pass0 (xA (pa_cons (xv (pv 0)) (xA (pa_cons (xv (pv 1)) (xA (pa_cons (xv (pv 2)) (xN pa_nil))))))))) (xA (pa_cons (xE (pe_cmpR (op_eqK (K := K) (hu64 hr)) (xB (pe_callB (call_lenK (K := K)) (by rfl) T.z_len rfl (xA (pa_cons (xv (pv 3)) (xN pa_nil)))) bs_len) (xi pe_int) (nomark _)) os_eq) (xN pa_nil)))))))))))), h⟩
theorem ok__law_determined_right (T : Txt K mg) : FnOk P w K mg base CX0 132 T.a__law_determined_right T.d__law_determined_right ["forms", "atoms", "letters"] (spV K F__law_determined_right) := by
  have G__law_same := ok__law_same (P := P) (w := w) (base := base) T
  have G__law_in_order := ok__law_in_order (P := P) (w := w) (base := base) T
  have G_determined := ok_determined (P := P) (w := w) (base := base) T
  have G__law_determined := ok__law_determined (P := P) (w := w) (base := base) T
  refine T.F__law_determined_right.ok sc__law_determined_right (fun vs H Q E h => spV_len (F := F__law_determined_right) (body := B__law_determined_right) (len := 3) (n := 4) rfl h) (fun cdv A outer s H vs Q E hr h => ?_)
  obtain ⟨t, h⟩ := def_of (N := ["forms", "atoms", "letters", "due"]) (len := 3) (n := 4) (body := B__law_determined_right) (F := F__law_determined_right) rfl rfl h
  exact ⟨tSV ⟨K, t⟩ B__law_determined_right, (xSeq (pss_cons (xSetF (ps_set (i := 3) sc__law_determined_right.nd rfl (Or.inl rfl) (xB (pe_callTy (call_tupleK (K := K)) (by rfl) T.z_tuple rfl (xA (pa_cons (xCall (pe_call G__law_in_order (hr.mono (by omega)) rfl T.m__law_in_order T.F__law_in_order.kp T.b__law_in_order .nil pass0 (xA (pa_cons (xCall (pe_call G__law_determined (hr.mono (by omega)) rfl T.m__law_determined T.F__law_determined.kp T.b__law_determined .nil pass0 (xA (pa_cons (xv (pv 0)) (xA (pa_cons (xv (pv 1)) (xA (pa_cons (xv (pv 2)) (xN pa_nil))))))))) (xN pa_nil))))) (xN pa_nil)))) bs_tup)) fun _ _ _ h => h) (pss_one (xRet (ps_ret (xCall (pe_call G__law_same (hr.mono (by omega)) rfl T.m__law_same T.F__law_same.kp T.b__law_same .nil pass0 (xA (pa_cons (xCall (pe_call G_determined (hr.mono (by omega)) rfl T.m_determined T.F_determined.kp T.b_determined .nil pass0 (xA (pa_cons (xv (pv 0)) (xA (pa_cons (xv (pv 1)) (xA (pa_cons (xv (pv 2)) (xN pa_nil))))))))) (xA (pa_cons (xv (pv 3)) (xN pa_nil)))))))))))), h⟩
theorem ok__law_some (T : Txt K mg) : FnOk P w K mg base CX0 3 T.a__law_some T.d__law_some ["tape", "rows"] (spV K F__law_some) := by
  have G__law_draw := ok__law_draw (P := P) (w := w) (base := base) T
  have G__law_shuffled := ok__law_shuffled (P := P) (w := w) (base := base) T
  refine T.F__law_some.ok sc__law_some (fun vs H Q E h => spV_len (F := F__law_some) (body := B__law_some) (len := 2) (n := 4) rfl h) (fun cdv A outer s H vs Q E hr h => ?_)
  obtain ⟨t, h⟩ := def_of (N := ["tape", "rows", "share", "one"]) (len := 2) (n := 4) (body := B__law_some) (F := F__law_some) rfl rfl h
  exact ⟨tSV ⟨K, t⟩ B__law_some, (xSeq (pss_cons (xSetF (ps_set (i := 2) sc__law_some.nd rfl (Or.inr rfl) (xE (pe_op (op_addK (K := K)) (xi pe_int) (xCall (pe_call G__law_draw (hr.mono (by omega)) rfl T.m__law_draw T.F__law_draw.kp T.b__law_draw .nil pass0 (xA (pa_cons (xv (pv 0)) (xA (pa_cons (xi pe_int) (xN pa_nil)))))))) os_add)) fun _ _ _ h => h) (pss_one (xRet (ps_ret (xB (pe_callTy (call_tupleK (K := K)) (by rfl) T.z_tuple rfl (xA (pa_cons (xCall (pe_call G__law_shuffled (hr.mono (by omega)) rfl T.m__law_shuffled T.F__law_shuffled.kp T.b__law_shuffled .nil pass0 (xA (pa_cons (xv (pv 0)) (xA (pa_cons (xLc (pe_lc (own := [("one", 3)]) rfl sc__law_some.nd (pi_seq2 (K := K) (xv (pv 1))) (blkOk_by (N := ["tape", "rows", "share", "one"]) (sc := defScope s__law_some) (by decide +kernel)) (fun _ _ _ _ _ => (xgN (pg_name (i := 3) sc__law_some.nd rfl (Or.inl rfl)))) (fun _ _ _ _ _ => (pts_one (xT (pt_cmpR op_lt (xCall (pe_call G__law_draw (hr.mono (by omega)) rfl T.m__law_draw T.F__law_draw.kp T.b__law_draw .nil pass0 (xA (pa_cons (xv (pv 0)) (xA (pa_cons (xi pe_int) (xN pa_nil))))))) (xv (pv 2)) (nomark _)) os_cmp))) (fun _ _ _ _ _ => (xv (pv 3)))) (fun _ _ _ h => icE_of h)) (xN pa_nil))))))) (xN pa_nil)))) bs_tup)))))), h⟩
end

section
variable {P : Program} {w : World} {K : Fg} {mg : Str → Option Value} {base : Heap}
theorem ok_lawB (T : Txt K mg) (hB : B_law_rest ⟨fun _ => False, fun z => z = .v (.bool true), fun _ => False, fun _ => False⟩ (none :: some .tp :: List.replicate 20 none)) : FnOk P w K mg base CX0 139 T.a_law T.d_law ["script"] (sp_law K) := by
  have G__law_tape := ok__law_tape (P := P) (w := w) (base := base) T
  have G__law_shapes := ok__law_shapes (P := P) (w := w) (base := base) T
  have G__law_pool := ok__law_pool (P := P) (w := w) (base := base) T
  have G__law_simple := ok__law_simple (P := P) (w := w) (base := base) T
  have G__law_letters_in := ok__law_letters_in (P := P) (w := w) (base := base) T
  have G__law_plan := ok__law_plan (P := P) (w := w) (base := base) T
  have G__law_other_kind := ok__law_other_kind (P := P) (w := w) (base := base) T
  have G__law_some := ok__law_some (P := P) (w := w) (base := base) T
  have G__law_turns := ok__law_turns (P := P) (w := w) (base := base) T
  have G__law_twelve := ok__law_twelve (P := P) (w := w) (base := base) T
  have G__law_pick := ok__law_pick (P := P) (w := w) (base := base) T
  have G__law_demands_right := ok__law_demands_right (P := P) (w := w) (base := base) T
  have G__law_draw := ok__law_draw (P := P) (w := w) (base := base) T
  have G__law_determined_right := ok__law_determined_right (P := P) (w := w) (base := base) T
  have G__law_safe_right := ok__law_safe_right (P := P) (w := w) (base := base) T
  refine T.F_law.ok sc_law (fun vs H Q E h => ?_) (fun cdv A outer s H vs Q E hr h => ?_)
  · obtain ⟨_, _, rfl, _⟩ := h
    rfl
  obtain ⟨a, ns, rfl, ha, hl, k⟩ := h
  refine ⟨_, pss_cons (ps_set (i := 1) sc_law.nd rfl (Or.inr rfl) (pe_call G__law_tape (hr.mono (by omega)) rfl T.m__law_tape T.F__law_tape.kp T.b__law_tape .nil pass0 (pa_cons (pv 0) pa_nil))) (PSs.ex fun t => (show PSs _ _ (tSV ⟨K, some t⟩ B_law_rest) from (xSeq (pss_cons (xSetF (ps_set (i := 2) sc_law.nd rfl (Or.inl rfl) (xCall (pe_call G__law_shapes (hr.mono (by omega)) rfl T.m__law_shapes T.F__law_shapes.kp T.b__law_shapes .nil pass0 (xA (pa_cons (xv (pv 1)) (xA (pa_cons (xCall (pe_call G__law_pick (hr.mono (by omega)) rfl T.m__law_pick T.F__law_pick.kp T.b__law_pick .nil pass0 (xA (pa_cons (xv (pv 1)) (xA (pa_cons (xLst (pe_lst (xA (pa_cons (xi pe_int) (xA (pa_cons (xi pe_int) (xA (pa_cons (xi pe_int) (xA (pa_cons (xi pe_int) (xA (pa_cons (xi pe_int) (xA (pa_cons (xi pe_int) (xN pa_nil))))))))))))))) (xN pa_nil))))))) (xA (pa_cons (xLst (pe_lst (xA (pa_cons (xs pe_str) (xA (pa_cons (xs pe_str) (xA (pa_cons (xs pe_str) (xA (pa_cons (xs pe_str) (xA (pa_cons (xs pe_str) (xN pa_nil))))))))))))) (xN pa_nil)))))))))) fun _ _ _ h => h) (xSeq (pss_cons (xSetF (ps_set (i := 3) sc_law.nd rfl (Or.inl rfl) (xCall (pe_call G__law_pool (hr.mono (by omega)) rfl T.m__law_pool T.F__law_pool.kp T.b__law_pool .nil pass0 (xA (pa_cons (xv (pv 1)) (xN pa_nil)))))) fun _ _ _ h => h) (xSeq (pss_cons (xSetF (ps_set (i := 4) sc_law.nd rfl (Or.inl rfl) (xCall (pe_call G__law_simple (hr.mono (by omega)) rfl T.m__law_simple T.F__law_simple.kp T.b__law_simple .nil pass0 (xA (pa_cons (xv (pv 1)) (xA (pa_cons (xv (pv 2)) (xA (pa_cons (xE (pe_ix (ixK (K := K)) (xLst (pe_lst (xA (pa_cons (xi pe_int) (xA (pa_cons (xi pe_int) (xA (pa_cons (xi pe_int) (xA (pa_cons (xi pe_int) (xA (pa_cons (xi pe_int) (xN pa_nil))))))))))))) (xCall (pe_call G__law_draw (hr.mono (by omega)) rfl T.m__law_draw T.F__law_draw.kp T.b__law_draw .nil pass0 (xA (pa_cons (xv (pv 1)) (xA (pa_cons (xi pe_int) (xN pa_nil))))))) (fun _ _ => rfl)) os_ix) (xA (pa_cons (xv (pv 3)) (xA (pa_cons (xCall (pe_call G__law_pick (hr.mono (by omega)) rfl T.m__law_pick T.F__law_pick.kp T.b__law_pick .nil pass0 (xA (pa_cons (xv (pv 1)) (xA (pa_cons (xLst (pe_lst (xA (pa_cons (xi pe_int) (xA (pa_cons (xi pe_int) (xA (pa_cons (xi pe_int) (xA (pa_cons (xi pe_int) (xA (pa_cons (xi pe_int) (xN pa_nil))))))))))))) (xN pa_nil))))))) (xN pa_nil)))))))))))))) fun _ _ _ h => h) (xSeq (pss_cons (xSetF (ps_set (i := 5) sc_law.nd rfl (Or.inl rfl) (xCall (pe_call G__law_letters_in (hr.mono (by omega)) rfl T.m__law_letters_in T.F__law_letters_in.kp T.b__law_letters_in .nil pass0 (xA (pa_cons (xE (pe_ix (ixK (K := K)) (xv (pv 4)) (xi pe_int) (fun _ _ => rfl)) os_ix) (xN pa_nil)))))) fun _ _ _ h => h) (xSeq (pss_cons (xSetF (ps_set (i := 6) sc_law.nd rfl (Or.inl rfl) (xCall (pe_call G__law_plan (hr.mono (by omega)) rfl T.m__law_plan T.F__law_plan.kp T.b__law_plan .nil pass0 (xA (pa_cons (xv (pv 1)) (xA (pa_cons (xv (pv 4)) (xN pa_nil)))))))) fun _ _ _ h => h) (xSeq (pss_cons (xSetF (ps_set (i := 7) sc_law.nd rfl (Or.inl rfl) (xCall (pe_call G__law_plan (hr.mono (by omega)) rfl T.m__law_plan T.F__law_plan.kp T.b__law_plan .nil pass0 (xA (pa_cons (xv (pv 1)) (xA (pa_cons (xv (pv 4)) (xN pa_nil)))))))) fun _ _ _ h => h) (xSeq (pss_cons (xSetF (ps_set (i := 8) sc_law.nd rfl (Or.inl rfl) (xCall (pe_call G__law_other_kind (hr.mono (by omega)) rfl T.m__law_other_kind T.F__law_other_kind.kp T.b__law_other_kind .nil pass0 (xA (pa_cons (xv (pv 1)) (xA (pa_cons (xv (pv 2)) (xN pa_nil)))))))) fun _ _ _ h => h) (xSeq (pss_cons (xSetF (ps_set (i := 9) sc_law.nd rfl (Or.inl rfl) (xB (pe_callTy (call_tupleK (K := K)) (by rfl) T.z_tuple rfl (xA (pa_cons (xLc (pe_lc (own := [("atom", 10)]) rfl sc_law.nd (pi_seq2 (K := K) (xE (pe_ix (ixK (K := K)) (xv (pv 4)) (xi pe_int) (fun _ _ => rfl)) os_ix)) (blkOk_by (N := ["script", "tape", "forms", "pool", "member", "letters", "plan", "other", "near", "atoms", "atom", "some", "turn", "free", "great", "seat", "one", "first", "second", "safe", "keyed", "chain"]) (sc := defScope s_law) (by decide +kernel)) (fun _ _ _ _ _ => (xgN (pg_name (i := 10) sc_law.nd rfl (Or.inl rfl)))) (fun _ _ _ _ _ => (pts_one (xT (pt_cmpR op_gt (xCall (pe_call G__law_draw (hr.mono (by omega)) rfl T.m__law_draw T.F__law_draw.kp T.b__law_draw .nil pass0 (xA (pa_cons (xv (pv 1)) (xA (pa_cons (xi pe_int) (xN pa_nil))))))) (xi pe_int) (nomark _)) os_cmp))) (fun _ _ _ _ _ => (xv (pv 10)))) (fun _ _ _ h => icE_of h)) (xN pa_nil)))) bs_tup)) fun _ _ _ h => h) (xSeq (pss_cons (xSetF (ps_set (i := 11) sc_law.nd rfl (Or.inl rfl) (xCall (pe_call G__law_some (hr.mono (by omega)) rfl T.m__law_some T.F__law_some.kp T.b__law_some .nil pass0 (xA (pa_cons (xv (pv 1)) (xA (pa_cons (xv (pv 5)) (xN pa_nil)))))))) fun _ _ _ h => h) (xSeq (pss_cons (xIfS (ps_if (PW.pt (xOr (pw_or (xNot (pt_not (xTr (pt_truthK (K := K) (xCall (pe_call G__law_demands_right (hr.mono (by omega)) rfl T.m__law_demands_right T.F__law_demands_right.kp T.b__law_demands_right .nil pass0 (xA (pa_cons (xv (pv 2)) (xA (pa_cons (xv (pv 4)) (xA (pa_cons (xv (pv 6)) (xN pa_nil))))))))) (fun _ => rfl))))) (pw_or1 (xNot (pt_not (xTr (pt_truthK (K := K) (xCall (pe_call G__law_determined_right (hr.mono (by omega)) rfl T.m__law_determined_right T.F__law_determined_right.kp T.b__law_determined_right .nil pass0 (xA (pa_cons (xv (pv 2)) (xA (pa_cons (xE (pe_ix (ixK (K := K)) (xv (pv 4)) (xi pe_int) (fun _ _ => rfl)) os_ix) (xA (pa_cons (xv (pv 11)) (xN pa_nil))))))))) (fun _ => rfl))))))))) (pss_one (xRet (ps_ret (xb pe_bl)))) (xNexts pss_nil))) (xSeq (pss_cons (xFor (dead := [12]) (ps_for PassesOwn.never rfl (pi_seq2 (K := K) (xCall (pe_call G__law_turns (hr.mono (by omega)) rfl T.m__law_turns T.F__law_turns.kp T.b__law_turns .nil pass0 (xA (pa_cons (xv (pv 1)) (xA (pa_cons (xi pe_int) (xN pa_nil)))))))) (xgN (pg_name (i := 12) sc_law.nd rfl (Or.inl rfl))) (xSeq (pss_cons (xIfS (ps_if (PW.pt (xAnd (pw_and (xT (pt_cmpR (op_eqK (K := K) (hu64 hr)) (xv (pv 12)) (xi pe_int) (nomark _)) os_eq) (pw_and1 (xNot (pt_not (xTr (pt_truthK (K := K) (xCall (pe_call G__law_safe_right (hr.mono (by omega)) rfl T.m__law_safe_right T.F__law_safe_right.kp T.b__law_safe_right .nil pass0 (xA (pa_cons (xv (pv 2)) (xA (pa_cons (xv (pv 4)) (xA (pa_cons (xv (pv 6)) (xN pa_nil))))))))) (fun _ => rfl))))))))) (pss_one (xRet (ps_ret (xb pe_bl)))) (xNexts pss_nil))) (xSeq (pss_cons (xIfS (ps_if (PW.pt (xAnd (pw_and (xT (pt_cmpR (op_eqK (K := K) (hu64 hr)) (xv (pv 12)) (xi pe_int) (nomark _)) os_eq) (pw_and1 (xNot (pt_not (xTr (pt_truthK (K := K) (xCall (pe_call G__law_determined_right (hr.mono (by omega)) rfl T.m__law_determined_right T.F__law_determined_right.kp T.b__law_determined_right .nil pass0 (xA (pa_cons (xv (pv 2)) (xA (pa_cons (xv (pv 9)) (xA (pa_cons (xv (pv 11)) (xN pa_nil))))))))) (fun _ => rfl))))))))) (pss_one (xRet (ps_ret (xb pe_bl)))) (xNexts pss_nil))) (xSeq (pss_cons (xIfS (ps_if (PW.pt (xAnd (pw_and (xT (pt_cmpR (op_eqK (K := K) (hu64 hr)) (xv (pv 12)) (xi pe_int) (nomark _)) os_eq) (pw_and1 (xNot (pt_not (xTr (pt_truthK (K := K) (xCall (pe_call G__law_determined_right (hr.mono (by omega)) rfl T.m__law_determined_right T.F__law_determined_right.kp T.b__law_determined_right .nil pass0 (xA (pa_cons (xv (pv 8)) (xA (pa_cons (xE (pe_ix (ixK (K := K)) (xv (pv 4)) (xi pe_int) (fun _ _ => rfl)) os_ix) (xA (pa_cons (xv (pv 11)) (xN pa_nil))))))))) (fun _ => rfl))))))))) (pss_one (xRet (ps_ret (xb pe_bl)))) (xNexts pss_nil))) (xSeq (pss_cons (xIfS (ps_if (PW.pt (xAnd (pw_and (xT (pt_cmpR (op_eqK (K := K) (hu64 hr)) (xv (pv 12)) (xi pe_int) (nomark _)) os_eq) (pw_and1 (xNot (pt_not (xTr (pt_truthK (K := K) (xCall (pe_call G__law_demands_right (hr.mono (by omega)) rfl T.m__law_demands_right T.F__law_demands_right.kp T.b__law_demands_right .nil pass0 (xA (pa_cons (xv (pv 8)) (xA (pa_cons (xv (pv 4)) (xA (pa_cons (xv (pv 6)) (xN pa_nil))))))))) (fun _ => rfl))))))))) (pss_one (xRet (ps_ret (xb pe_bl)))) (xNexts pss_nil))) (xSeq (pss_cons (xIfS (ps_if (PW.pt (xAnd (pw_and (xT (pt_cmpR (op_eqK (K := K) (hu64 hr)) (xv (pv 12)) (xi pe_int) (nomark _)) os_eq) (pw_and1 (xNot (pt_not (xTr (pt_truthK (K := K) (xCall (pe_call G__law_demands_right (hr.mono (by omega)) rfl T.m__law_demands_right T.F__law_demands_right.kp T.b__law_demands_right .nil pass0 (xA (pa_cons (xv (pv 2)) (xA (pa_cons (xv (pv 4)) (xA (pa_cons (xv (pv 7)) (xN pa_nil))))))))) (fun _ => rfl))))))))) (pss_one (xRet (ps_ret (xb pe_bl)))) (xNexts pss_nil))) (xSeq (pss_cons (xIfS (ps_if (PW.pt (xAnd (pw_and (xT (pt_cmpR (op_eqK (K := K) (hu64 hr)) (xv (pv 12)) (xi pe_int) (nomark _)) os_eq) (pw_and1 (xNot (pt_not (xTr (pt_truthK (K := K) (xCall (pe_call G__law_safe_right (hr.mono (by omega)) rfl T.m__law_safe_right T.F__law_safe_right.kp T.b__law_safe_right .nil pass0 (xA (pa_cons (xv (pv 8)) (xA (pa_cons (xv (pv 4)) (xA (pa_cons (xv (pv 7)) (xN pa_nil))))))))) (fun _ => rfl))))))))) (pss_one (xRet (ps_ret (xb pe_bl)))) (xNexts pss_nil))) (xSeq (pss_cons (xIfS (ps_if (PW.pt (xAnd (pw_and (xT (pt_cmpR (op_eqK (K := K) (hu64 hr)) (xv (pv 12)) (xi pe_int) (nomark _)) os_eq) (pw_and1 (xNot (pt_not (xTr (pt_truthK (K := K) (xCall (pe_call G__law_determined_right (hr.mono (by omega)) rfl T.m__law_determined_right T.F__law_determined_right.kp T.b__law_determined_right .nil pass0 (xA (pa_cons (xv (pv 2)) (xA (pa_cons (xE (pe_ix (ixK (K := K)) (xv (pv 4)) (xi pe_int) (fun _ _ => rfl)) os_ix) (xA (pa_cons (xCall (pe_call G__law_some (hr.mono (by omega)) rfl T.m__law_some T.F__law_some.kp T.b__law_some .nil pass0 (xA (pa_cons (xv (pv 1)) (xA (pa_cons (xv (pv 5)) (xN pa_nil))))))) (xN pa_nil))))))))) (fun _ => rfl))))))))) (pss_one (xRet (ps_ret (xb pe_bl)))) (xNexts pss_nil))) (pss_one (xIfS (ps_if (PW.pt (xAnd (pw_and (xT (pt_cmpR (op_eqK (K := K) (hu64 hr)) (xv (pv 12)) (xi pe_int) (nomark _)) os_eq) (pw_and1 (xNot (pt_not (xTr (pt_truthK (K := K) (xCall (pe_call G__law_determined_right (hr.mono (by omega)) rfl T.m__law_determined_right T.F__law_determined_right.kp T.b__law_determined_right .nil pass0 (xA (pa_cons (xv (pv 2)) (xA (pa_cons (xE (pe_ix (ixK (K := K)) (xv (pv 4)) (xi pe_int) (fun _ _ => rfl)) os_ix) (xA (pa_cons (xCall (pe_call G__law_pick (hr.mono (by omega)) rfl T.m__law_pick T.F__law_pick.kp T.b__law_pick .nil pass0 (xA (pa_cons (xv (pv 1)) (xA (pa_cons (xLst (pe_lst (xA (pa_cons (xTup (pe_tup (xN pa_nil))) (xA (pa_cons (xB (pe_callTy (call_tupleK (K := K)) (by rfl) T.z_tuple rfl (xA (pa_cons (xv (pv 5)) (xN pa_nil)))) bs_tup) (xN pa_nil))))))) (xN pa_nil))))))) (xN pa_nil))))))))) (fun _ => rfl))))))))) (pss_one (xRet (ps_ret (xb pe_bl)))) (xNexts pss_nil))))))))))))))))))) (fun _ _ _ h => iE_of h)) (xSeq (pss_cons (xIfS (ps_if (PW.pt (xOr (pw_or (xNot (pt_not (xTr (pt_truthK (K := K) (xCall (pe_call G__law_demands_right (hr.mono (by omega)) rfl T.m__law_demands_right T.F__law_demands_right.kp T.b__law_demands_right .nil pass0 (xA (pa_cons (xv (pv 2)) (xA (pa_cons (xv (pv 4)) (xA (pa_cons (xv (pv 6)) (xN pa_nil))))))))) (fun _ => rfl))))) (pw_or1 (xNot (pt_not (xTr (pt_truthK (K := K) (xCall (pe_call G__law_determined_right (hr.mono (by omega)) rfl T.m__law_determined_right T.F__law_determined_right.kp T.b__law_determined_right .nil pass0 (xA (pa_cons (xv (pv 2)) (xA (pa_cons (xE (pe_ix (ixK (K := K)) (xv (pv 4)) (xi pe_int) (fun _ _ => rfl)) os_ix) (xA (pa_cons (xv (pv 11)) (xN pa_nil))))))))) (fun _ => rfl))))))))) (pss_one (xRet (ps_ret (xb pe_bl)))) (xNexts pss_nil))) (xSeq (pss_cons (xSetG (ps_asg (xCall (pe_call G__law_twelve (hr.mono (by omega)) rfl T.m__law_twelve T.F__law_twelve.kp T.b__law_twelve .nil pass0 (xA (pa_cons (xs pe_str) (xA (pa_cons (xi pe_int) (xN pa_nil))))))) (xgT (pg_tupK (K := K) (n := 2) rfl (xgsC (pgs_cons (xgN (pg_name (i := 13) sc_law.nd rfl (Or.inl rfl))) (xgsC (pgs_cons (xgN (pg_name (i := 14) sc_law.nd rfl (Or.inl rfl))) (xgsN pgs_nil)))))) (gsC gfN (gsC gfN gsN))))) (xSeq (pss_cons (xIfS (ps_if (PW.pt (xOr (pw_or (xNot (pt_not (xTr (pt_truthK (K := K) (xCall (pe_call G__law_determined_right (hr.mono (by omega)) rfl T.m__law_determined_right T.F__law_determined_right.kp T.b__law_determined_right .nil pass0 (xA (pa_cons (xv (pv 13)) (xA (pa_cons (xE (pe_ix (ixK (K := K)) (xv (pv 14)) (xi pe_int) (fun _ _ => rfl)) os_ix) (xA (pa_cons (xTup (pe_tup (xN pa_nil))) (xN pa_nil))))))))) (fun _ => rfl))))) (pw_or1 (xNot (pt_not (xTr (pt_truthK (K := K) (xCall (pe_call G__law_determined_right (hr.mono (by omega)) rfl T.m__law_determined_right T.F__law_determined_right.kp T.b__law_determined_right .nil pass0 (xA (pa_cons (xv (pv 13)) (xA (pa_cons (xSl (pe_slice (sl_K (K := K)) (xE (pe_ix (ixK (K := K)) (xv (pv 14)) (xi pe_int) (fun _ _ => rfl)) os_ix) (xPe (po_some (xi pe_int))) (xPn po_none))) (xA (pa_cons (xTup (pe_tup (xA (pa_cons (xs pe_str) (xN pa_nil))))) (xN pa_nil))))))))) (fun _ => rfl))))))))) (pss_one (xRet (ps_ret (xb pe_bl)))) (xNexts pss_nil))) (xSeq (pss_cons (xSetF (ps_set (i := 15) sc_law.nd rfl (Or.inl rfl) (xTup (pe_tup (xA (pa_cons (xTup (pe_tup (xA (pa_cons (xs pe_str) (xA (pa_cons (xs pe_str) (xA (pa_cons (xi pe_int) (xA (pa_cons (xi pe_int) (xN pa_nil))))))))))) (xN pa_nil)))))) fun _ _ _ h => h) (xSeq (pss_cons (xSetF (ps_set (i := 16) sc_law.nd rfl (Or.inl rfl) (xTup (pe_tup (xA (pa_cons (xs pe_str) (xA (pa_cons (xTup (pe_tup (xN pa_nil))) (xA (pa_cons (xTup (pe_tup (xA (pa_cons (xTup (pe_tup (xA (pa_cons (xs pe_str) (xA (pa_cons (xTup (pe_tup (xA (pa_cons (xs pe_str) (xA (pa_cons (xs pe_str) (xN pa_nil))))))) (xN pa_nil))))))) (xN pa_nil))))) (xA (pa_cons (xTup (pe_tup (xN pa_nil))) (xN pa_nil)))))))))))) fun _ _ _ h => h) (xSeq (pss_cons (xSetF (ps_set (i := 17) sc_law.nd rfl (Or.inl rfl) (xTup (pe_tup (xA (pa_cons (xs pe_str) (xA (pa_cons (xs pe_str) (xA (pa_cons (xTup (pe_tup (xA (pa_cons (xs pe_str) (xA (pa_cons (xs pe_str) (xA (pa_cons (xs pe_str) (xN pa_nil))))))))) (xN pa_nil)))))))))) fun _ _ _ h => h) (xSeq (pss_cons (xSetF (ps_set (i := 18) sc_law.nd rfl (Or.inl rfl) (xTup (pe_tup (xA (pa_cons (xs pe_str) (xA (pa_cons (xs pe_str) (xA (pa_cons (xTup (pe_tup (xA (pa_cons (xs pe_str) (xA (pa_cons (xs pe_str) (xA (pa_cons (xs pe_str) (xN pa_nil))))))))) (xN pa_nil)))))))))) fun _ _ _ h => h) (xSeq (pss_cons (xIfS (ps_if (PW.pt (xOr (pw_or (xNot (pt_not (xTr (pt_truthK (K := K) (xCall (pe_call G__law_determined_right (hr.mono (by omega)) rfl T.m__law_determined_right T.F__law_determined_right.kp T.b__law_determined_right .nil pass0 (xA (pa_cons (xv (pv 15)) (xA (pa_cons (xE (pe_ix (ixK (K := K)) (xv (pv 16)) (xi pe_int) (fun _ _ => rfl)) os_ix) (xA (pa_cons (xTup (pe_tup (xA (pa_cons (xs pe_str) (xN pa_nil))))) (xN pa_nil))))))))) (fun _ => rfl))))) (pw_or1 (xNot (pt_not (xTr (pt_truthK (K := K) (xCall (pe_call G__law_determined_right (hr.mono (by omega)) rfl T.m__law_determined_right T.F__law_determined_right.kp T.b__law_determined_right .nil pass0 (xA (pa_cons (xv (pv 15)) (xA (pa_cons (xE (pe_ix (ixK (K := K)) (xv (pv 16)) (xi pe_int) (fun _ _ => rfl)) os_ix) (xA (pa_cons (xTup (pe_tup (xA (pa_cons (xs pe_str) (xN pa_nil))))) (xN pa_nil))))))))) (fun _ => rfl))))))))) (pss_one (xRet (ps_ret (xb pe_bl)))) (xNexts pss_nil))) (xSeq (pss_cons (xSetF (ps_set (i := 19) sc_law.nd rfl (Or.inl rfl) (xTup (pe_tup (xA (pa_cons (xs pe_str) (xA (pa_cons (xs pe_str) (xA (pa_cons (xTup (pe_tup (xA (pa_cons (xs pe_str) (xA (pa_cons (xs pe_str) (xA (pa_cons (xs pe_str) (xN pa_nil))))))))) (xN pa_nil)))))))))) fun _ _ _ h => h) (xSeq (pss_cons (xIfS (ps_if (PW.pt (xOr (pw_or (xNot (pt_not (xTr (pt_truthK (K := K) (xCall (pe_call G__law_safe_right (hr.mono (by omega)) rfl T.m__law_safe_right T.F__law_safe_right.kp T.b__law_safe_right .nil pass0 (xA (pa_cons (xv (pv 15)) (xA (pa_cons (xv (pv 16)) (xA (pa_cons (xv (pv 19)) (xN pa_nil))))))))) (fun _ => rfl))))) (pw_or1 (xNot (pt_not (xTr (pt_truthK (K := K) (xCall (pe_call G__law_safe_right (hr.mono (by omega)) rfl T.m__law_safe_right T.F__law_safe_right.kp T.b__law_safe_right .nil pass0 (xA (pa_cons (xv (pv 15)) (xA (pa_cons (xv (pv 16)) (xA (pa_cons (xv (pv 18)) (xN pa_nil))))))))) (fun _ => rfl))))))))) (pss_one (xRet (ps_ret (xb pe_bl)))) (xNexts pss_nil))) (xSeq (pss_cons (xIfS (ps_if (xNot (pt_not (xTr (pt_truthK (K := K) (xCall (pe_call G__law_demands_right (hr.mono (by omega)) rfl T.m__law_demands_right T.F__law_demands_right.kp T.b__law_demands_right .nil pass0 (xA (pa_cons (xv (pv 15)) (xA (pa_cons (xv (pv 16)) (xA (pa_cons (xTup (pe_tup (xA (pa_cons (xs pe_str) (xA (pa_cons (xs pe_str) (xA (pa_cons (xTup (pe_tup (xA (pa_cons (xs pe_str) (xA (pa_cons (xs pe_str) (xA (pa_cons (xs pe_str) (xN pa_nil))))))))) (xN pa_nil))))))))) (xN pa_nil))))))))) (fun _ => rfl))))) (pss_one (xRet (ps_ret (xb pe_bl)))) (xNexts pss_nil))) (xSeq (pss_cons (xSetF (ps_set (i := 20) sc_law.nd rfl (Or.inl rfl) (xTup (pe_tup (xA (pa_cons (xTup (pe_tup (xA (pa_cons (xs pe_str) (xA (pa_cons (xs pe_str) (xA (pa_cons (xi pe_int) (xA (pa_cons (xi pe_int) (xN pa_nil))))))))))) (xA (pa_cons (xTup (pe_tup (xA (pa_cons (xs pe_str) (xA (pa_cons (xs pe_str) (xA (pa_cons (xi pe_int) (xA (pa_cons (xi pe_int) (xN pa_nil))))))))))) (xA (pa_cons (xTup (pe_tup (xA (pa_cons (xs pe_str) (xA (pa_cons (xs pe_str) (xA (pa_cons (xi pe_int) (xA (pa_cons (xi pe_int) (xN pa_nil))))))))))) (xN pa_nil)))))))))) fun _ _ _ h => h) (xSeq (pss_cons (xSetF (ps_set (i := 21) sc_law.nd rfl (Or.inl rfl) (xTup (pe_tup (xA (pa_cons (xTup (pe_tup (xA (pa_cons (xs pe_str) (xA (pa_cons (xTup (pe_tup (xA (pa_cons (xs pe_str) (xA (pa_cons (xs pe_str) (xN pa_nil))))))) (xN pa_nil))))))) (xA (pa_cons (xTup (pe_tup (xA (pa_cons (xs pe_str) (xA (pa_cons (xTup (pe_tup (xA (pa_cons (xs pe_str) (xA (pa_cons (xs pe_str) (xN pa_nil))))))) (xN pa_nil))))))) (xA (pa_cons (xTup (pe_tup (xA (pa_cons (xs pe_str) (xA (pa_cons (xTup (pe_tup (xA (pa_cons (xs pe_str) (xA (pa_cons (xs pe_str) (xN pa_nil))))))) (xN pa_nil))))))) (xN pa_nil)))))))))) fun _ _ _ h => h) (xSeq (pss_cons (xIfS (ps_if (PW.pt (xOr (pw_or (xNot (pt_not (xTr (pt_truthK (K := K) (xCall (pe_call G__law_determined_right (hr.mono (by omega)) rfl T.m__law_determined_right T.F__law_determined_right.kp T.b__law_determined_right .nil pass0 (xA (pa_cons (xv (pv 20)) (xA (pa_cons (xv (pv 21)) (xA (pa_cons (xTup (pe_tup (xA (pa_cons (xs pe_str) (xN pa_nil))))) (xN pa_nil))))))))) (fun _ => rfl))))) (pw_or1 (xNot (pt_not (xTr (pt_truthK (K := K) (xCall (pe_call G__law_determined_right (hr.mono (by omega)) rfl T.m__law_determined_right T.F__law_determined_right.kp T.b__law_determined_right .nil pass0 (xA (pa_cons (xv (pv 20)) (xA (pa_cons (xv (pv 21)) (xA (pa_cons (xTup (pe_tup (xA (pa_cons (xs pe_str) (xN pa_nil))))) (xN pa_nil))))))))) (fun _ => rfl))))))))) (pss_one (xRet (ps_ret (xb pe_bl)))) (xNexts pss_nil))) (pss_one (xRet (ps_ret (xAndV (pe_and (xCall (pe_call G__law_demands_right (hr.mono (by omega)) rfl T.m__law_demands_right T.F__law_demands_right.kp T.b__law_demands_right .nil pass0 (xA (pa_cons (xv (pv 15)) (xA (pa_cons (xv (pv 16)) (xA (pa_cons (xv (pv 17)) (xN pa_nil))))))))) (pe_one (xCall (pe_call G__law_demands_right (hr.mono (by omega)) rfl T.m__law_demands_right T.F__law_demands_right.kp T.b__law_demands_right .nil pass0 (xA (pa_cons (xv (pv 15)) (xA (pa_cons (xv (pv 16)) (xA (pa_cons (xv (pv 18)) (xN pa_nil))))))))))))))))))))))))))))))))))))))))))))))))))))))))))))))))))), ?_⟩
  walk_at "nz"
  refine ⟨a, ns, rfl, ha, hl, fun t H' _ hT => ⟨t, law_of (H := H) (n := 20) k hT hB⟩⟩
end

theorem ok_law {P : Program} {w : World} {K : Fg} {mg : Str → Option Value} {base : Heap} (T : Txt K mg) : FnOk P w K mg base CX0 139 T.a_law T.d_law ["script"] (sp_law K) := ok_lawB T law_rest
theorem all_mk {l : PySem.W.OpenLaw} {w : World} {K : PySem.W.Frag} {h : Heap} {mg : Str → Option Value} {fa f0 f1 f2 f3 f4 f5 f6 f7 f8 f9 f10 f11 f12 f13 f14 f15 f16 f17 f18 f19 f20 f21 f22 f23 f24 f25 f26 f27 f28 f29 f30 f31 f32 f33 f34 f35 f36 f37 f38 f39 f40 f41 f42 f43 f44 f45 f46 f47 f48 f49 : Addr} (X : K.In h) (G : h.Ns mainGlobals mg) (hfa : mg "law" = some (.ref fa))
    {od0 an0 od1 an1 od2 an2 od3 an3 od4 an4 od5 an5 od6 an6 od7 an7 od8 an8 od9 an9 od10 an10 od11 an11 od12 an12 od13 an13 od14 an14 od15 an15 od16 an16 od17 an17 od18 an18 od19 an19 od20 an20 od21 an21 od22 an22 od23 an23 od24 an24 od25 an25 od26 an26 od27 an27 od28 an28 od29 an29 od30 an30 od31 an31 od32 an32 od33 an33 od34 an34 od35 an35 od36 an36 od37 an37 od38 an38 od39 an39 od40 an40 od41 an41 od42 an42 od43 an43 od44 an44 od45 an45 od46 an46 od47 an47 od48 an48 od49 an49 : Option Addr} {sl0 sl1 sl2 sl3 sl4 sl5 sl6 sl7 sl8 sl9 sl10 sl11 sl12 sl13 sl14 sl15 sl16 sl17 sl18 sl19 sl20 sl21 sl22 sl23 sl24 sl25 sl26 sl27 sl28 sl29 sl30 sl31 sl32 sl33 sl34 sl35 sl36 sl37 sl38 sl39 sl40 sl41 sl42 sl43 sl44 sl45 sl46 sl47 sl48 sl49 : Array (Option Value)} {oc0 kV0 dc0 pm0 cd0 ct0 oc1 kV1 dc1 pm1 cd1 ct1 oc2 kV2 dc2 pm2 cd2 ct2 oc3 kV3 dc3 pm3 cd3 ct3 oc4 kV4 dc4 pm4 cd4 ct4 oc5 kV5 dc5 pm5 cd5 ct5 oc6 kV6 dc6 pm6 cd6 ct6 oc7 kV7 dc7 pm7 cd7 ct7 oc8 kV8 dc8 pm8 cd8 ct8 oc9 kV9 dc9 pm9 cd9 ct9 oc10 kV10 dc10 pm10 cd10 ct10 oc11 kV11 dc11 pm11 cd11 ct11 oc12 kV12 dc12 pm12 cd12 ct12 oc13 kV13 dc13 pm13 cd13 ct13 oc14 kV14 dc14 pm14 cd14 ct14 oc15 kV15 dc15 pm15 cd15 ct15 oc16 kV16 dc16 pm16 cd16 ct16 oc17 kV17 dc17 pm17 cd17 ct17 oc18 kV18 dc18 pm18 cd18 ct18 oc19 kV19 dc19 pm19 cd19 ct19 oc20 kV20 dc20 pm20 cd20 ct20 oc21 kV21 dc21 pm21 cd21 ct21 oc22 kV22 dc22 pm22 cd22 ct22 oc23 kV23 dc23 pm23 cd23 ct23 oc24 kV24 dc24 pm24 cd24 ct24 oc25 kV25 dc25 pm25 cd25 ct25 oc26 kV26 dc26 pm26 cd26 ct26 oc27 kV27 dc27 pm27 cd27 ct27 oc28 kV28 dc28 pm28 cd28 ct28 oc29 kV29 dc29 pm29 cd29 ct29 oc30 kV30 dc30 pm30 cd30 ct30 oc31 kV31 dc31 pm31 cd31 ct31 oc32 kV32 dc32 pm32 cd32 ct32 oc33 kV33 dc33 pm33 cd33 ct33 oc34 kV34 dc34 pm34 cd34 ct34 oc35 kV35 dc35 pm35 cd35 ct35 oc36 kV36 dc36 pm36 cd36 ct36 oc37 kV37 dc37 pm37 cd37 ct37 oc38 kV38 dc38 pm38 cd38 ct38 oc39 kV39 dc39 pm39 cd39 ct39 oc40 kV40 dc40 pm40 cd40 ct40 oc41 kV41 dc41 pm41 cd41 ct41 oc42 kV42 dc42 pm42 cd42 ct42 oc43 kV43 dc43 pm43 cd43 ct43 oc44 kV44 dc44 pm44 cd44 ct44 oc45 kV45 dc45 pm45 cd45 ct45 oc46 kV46 dc46 pm46 cd46 ct46 oc47 kV47 dc47 pm47 cd47 ct47 oc48 kV48 dc48 pm48 cd48 ct48 oc49 kV49 dc49 pm49 cd49 ct49 : Value}
    (a0 : PySem.W.nsIn K mainGlobals "letters_in" = some (some (.ref f0))) (l0 : K.lookup f0 = some ⟨oc0, od0, .func (PySem.W.fnOf "letters_in" "letters_in" (defArgs s_letters_in) (defBody s_letters_in) (defScope s_letters_in) .none kV0 dc0 pm0 an0 cd0 ct0), sl0⟩) (c0 : PySem.W.codeIn K cd0 "letters_in" = true) (k0 : PySem.W.keepIn K (.ref f0) = true)
    (a1 : PySem.W.nsIn K mainGlobals "number_of" = some (some (.ref f1))) (l1 : K.lookup f1 = some ⟨oc1, od1, .func (PySem.W.fnOf "number_of" "number_of" (defArgs s_number_of) (defBody s_number_of) (defScope s_number_of) .none kV1 dc1 pm1 an1 cd1 ct1), sl1⟩) (c1 : PySem.W.codeIn K cd1 "number_of" = true) (k1 : PySem.W.keepIn K (.ref f1) = true)
    (a2 : PySem.W.nsIn K mainGlobals "by_number" = some (some (.ref f2))) (l2 : K.lookup f2 = some ⟨oc2, od2, .func (PySem.W.fnOf "by_number" "by_number" (defArgs s_by_number) (defBody s_by_number) (defScope s_by_number) .none kV2 dc2 pm2 an2 cd2 ct2), sl2⟩) (c2 : PySem.W.codeIn K cd2 "by_number" = true) (k2 : PySem.W.keepIn K (.ref f2) = true)
    (a3 : PySem.W.nsIn K mainGlobals "block_keys" = some (some (.ref f3))) (l3 : K.lookup f3 = some ⟨oc3, od3, .func (PySem.W.fnOf "block_keys" "block_keys" (defArgs s_block_keys) (defBody s_block_keys) (defScope s_block_keys) .none kV3 dc3 pm3 an3 cd3 ct3), sl3⟩) (c3 : PySem.W.codeIn K cd3 "block_keys" = true) (k3 : PySem.W.keepIn K (.ref f3) = true)
    (a4 : PySem.W.nsIn K mainGlobals "parts_within" = some (some (.ref f4))) (l4 : K.lookup f4 = some ⟨oc4, od4, .func (PySem.W.fnOf "parts_within" "parts_within" (defArgs s_parts_within) (defBody s_parts_within) (defScope s_parts_within) .none kV4 dc4 pm4 an4 cd4 ct4), sl4⟩) (c4 : PySem.W.codeIn K cd4 "parts_within" = true) (k4 : PySem.W.keepIn K (.ref f4) = true)
    (a5 : PySem.W.nsIn K mainGlobals "tables_in" = some (some (.ref f5))) (l5 : K.lookup f5 = some ⟨oc5, od5, .func (PySem.W.fnOf "tables_in" "tables_in" (defArgs s_tables_in) (defBody s_tables_in) (defScope s_tables_in) .none kV5 dc5 pm5 an5 cd5 ct5), sl5⟩) (c5 : PySem.W.codeIn K cd5 "tables_in" = true) (k5 : PySem.W.keepIn K (.ref f5) = true)
    (a6 : PySem.W.nsIn K mainGlobals "projections" = some (some (.ref f6))) (l6 : K.lookup f6 = some ⟨oc6, od6, .func (PySem.W.fnOf "projections" "projections" (defArgs s_projections) (defBody s_projections) (defScope s_projections) .none kV6 dc6 pm6 an6 cd6 ct6), sl6⟩) (c6 : PySem.W.codeIn K cd6 "projections" = true) (k6 : PySem.W.keepIn K (.ref f6) = true)
    (a7 : PySem.W.nsIn K mainGlobals "determined" = some (some (.ref f7))) (l7 : K.lookup f7 = some ⟨oc7, od7, .func (PySem.W.fnOf "determined" "determined" (defArgs s_determined) (defBody s_determined) (defScope s_determined) .none kV7 dc7 pm7 an7 cd7 ct7), sl7⟩) (c7 : PySem.W.codeIn K cd7 "determined" = true) (k7 : PySem.W.keepIn K (.ref f7) = true)
    (a8 : PySem.W.nsIn K mainGlobals "meets_demand" = some (some (.ref f8))) (l8 : K.lookup f8 = some ⟨oc8, od8, .func (PySem.W.fnOf "meets_demand" "meets_demand" (defArgs s_meets_demand) (defBody s_meets_demand) (defScope s_meets_demand) .none kV8 dc8 pm8 an8 cd8 ct8), sl8⟩) (c8 : PySem.W.codeIn K cd8 "meets_demand" = true) (k8 : PySem.W.keepIn K (.ref f8) = true)
    (a9 : PySem.W.nsIn K mainGlobals "atoms_below" = some (some (.ref f9))) (l9 : K.lookup f9 = some ⟨oc9, od9, .func (PySem.W.fnOf "atoms_below" "atoms_below" (defArgs s_atoms_below) (defBody s_atoms_below) (defScope s_atoms_below) .none kV9 dc9 pm9 an9 cd9 ct9), sl9⟩) (c9 : PySem.W.codeIn K cd9 "atoms_below" = true) (k9 : PySem.W.keepIn K (.ref f9) = true)
    (a10 : PySem.W.nsIn K mainGlobals "free_letters" = some (some (.ref f10))) (l10 : K.lookup f10 = some ⟨oc10, od10, .func (PySem.W.fnOf "free_letters" "free_letters" (defArgs s_free_letters) (defBody s_free_letters) (defScope s_free_letters) .none kV10 dc10 pm10 an10 cd10 ct10), sl10⟩) (c10 : PySem.W.codeIn K cd10 "free_letters" = true) (k10 : PySem.W.keepIn K (.ref f10) = true)
    (a11 : PySem.W.nsIn K mainGlobals "is_met" = some (some (.ref f11))) (l11 : K.lookup f11 = some ⟨oc11, od11, .func (PySem.W.fnOf "is_met" "is_met" (defArgs s_is_met) (defBody s_is_met) (defScope s_is_met) .none kV11 dc11 pm11 an11 cd11 ct11), sl11⟩) (c11 : PySem.W.codeIn K cd11 "is_met" = true) (k11 : PySem.W.keepIn K (.ref f11) = true)
    (a12 : PySem.W.nsIn K mainGlobals "demands" = some (some (.ref f12))) (l12 : K.lookup f12 = some ⟨oc12, od12, .func (PySem.W.fnOf "demands" "demands" (defArgs s_demands) (defBody s_demands) (defScope s_demands) .none kV12 dc12 pm12 an12 cd12 ct12), sl12⟩) (c12 : PySem.W.codeIn K cd12 "demands" = true) (k12 : PySem.W.keepIn K (.ref f12) = true)
    (a13 : PySem.W.nsIn K mainGlobals "is_safe" = some (some (.ref f13))) (l13 : K.lookup f13 = some ⟨oc13, od13, .func (PySem.W.fnOf "is_safe" "is_safe" (defArgs s_is_safe) (defBody s_is_safe) (defScope s_is_safe) .none kV13 dc13 pm13 an13 cd13 ct13), sl13⟩) (c13 : PySem.W.codeIn K cd13 "is_safe" = true) (k13 : PySem.W.keepIn K (.ref f13) = true)
    (a14 : PySem.W.nsIn K mainGlobals "_law_tape" = some (some (.ref f14))) (l14 : K.lookup f14 = some ⟨oc14, od14, .func (PySem.W.fnOf "_law_tape" "_law_tape" (defArgs s__law_tape) (defBody s__law_tape) (defScope s__law_tape) .none kV14 dc14 pm14 an14 cd14 ct14), sl14⟩) (c14 : PySem.W.codeIn K cd14 "_law_tape" = true) (k14 : PySem.W.keepIn K (.ref f14) = true)
    (a15 : PySem.W.nsIn K mainGlobals "_law_draw" = some (some (.ref f15))) (l15 : K.lookup f15 = some ⟨oc15, od15, .func (PySem.W.fnOf "_law_draw" "_law_draw" (defArgs s__law_draw) (defBody s__law_draw) (defScope s__law_draw) .none kV15 dc15 pm15 an15 cd15 ct15), sl15⟩) (c15 : PySem.W.codeIn K cd15 "_law_draw" = true) (k15 : PySem.W.keepIn K (.ref f15) = true)
    (a16 : PySem.W.nsIn K mainGlobals "_law_pick" = some (some (.ref f16))) (l16 : K.lookup f16 = some ⟨oc16, od16, .func (PySem.W.fnOf "_law_pick" "_law_pick" (defArgs s__law_pick) (defBody s__law_pick) (defScope s__law_pick) .none kV16 dc16 pm16 an16 cd16 ct16), sl16⟩) (c16 : PySem.W.codeIn K cd16 "_law_pick" = true) (k16 : PySem.W.keepIn K (.ref f16) = true)
    (a17 : PySem.W.nsIn K mainGlobals "_law_turns" = some (some (.ref f17))) (l17 : K.lookup f17 = some ⟨oc17, od17, .func (PySem.W.fnOf "_law_turns" "_law_turns" (defArgs s__law_turns) (defBody s__law_turns) (defScope s__law_turns) .none kV17 dc17 pm17 an17 cd17 ct17), sl17⟩) (c17 : PySem.W.codeIn K cd17 "_law_turns" = true) (k17 : PySem.W.keepIn K (.ref f17) = true)
    (a18 : PySem.W.nsIn K mainGlobals "_law_shuffled" = some (some (.ref f18))) (l18 : K.lookup f18 = some ⟨oc18, od18, .func (PySem.W.fnOf "_law_shuffled" "_law_shuffled" (defArgs s__law_shuffled) (defBody s__law_shuffled) (defScope s__law_shuffled) .none kV18 dc18 pm18 an18 cd18 ct18), sl18⟩) (c18 : PySem.W.codeIn K cd18 "_law_shuffled" = true) (k18 : PySem.W.keepIn K (.ref f18) = true)
    (a19 : PySem.W.nsIn K mainGlobals "_law_same" = some (some (.ref f19))) (l19 : K.lookup f19 = some ⟨oc19, od19, .func (PySem.W.fnOf "_law_same" "_law_same" (defArgs s__law_same) (defBody s__law_same) (defScope s__law_same) .none kV19 dc19 pm19 an19 cd19 ct19), sl19⟩) (c19 : PySem.W.codeIn K cd19 "_law_same" = true) (k19 : PySem.W.keepIn K (.ref f19) = true)
    (a20 : PySem.W.nsIn K mainGlobals "_law_text" = some (some (.ref f20))) (l20 : K.lookup f20 = some ⟨oc20, od20, .func (PySem.W.fnOf "_law_text" "_law_text" (defArgs s__law_text) (defBody s__law_text) (defScope s__law_text) .none kV20 dc20 pm20 an20 cd20 ct20), sl20⟩) (c20 : PySem.W.codeIn K cd20 "_law_text" = true) (k20 : PySem.W.keepIn K (.ref f20) = true)
    (a21 : PySem.W.nsIn K mainGlobals "_law_value_of" = some (some (.ref f21))) (l21 : K.lookup f21 = some ⟨oc21, od21, .func (PySem.W.fnOf "_law_value_of" "_law_value_of" (defArgs s__law_value_of) (defBody s__law_value_of) (defScope s__law_value_of) .none kV21 dc21 pm21 an21 cd21 ct21), sl21⟩) (c21 : PySem.W.codeIn K cd21 "_law_value_of" = true) (k21 : PySem.W.keepIn K (.ref f21) = true)
    (a22 : PySem.W.nsIn K mainGlobals "_law_pool" = some (some (.ref f22))) (l22 : K.lookup f22 = some ⟨oc22, od22, .func (PySem.W.fnOf "_law_pool" "_law_pool" (defArgs s__law_pool) (defBody s__law_pool) (defScope s__law_pool) .none kV22 dc22 pm22 an22 cd22 ct22), sl22⟩) (c22 : PySem.W.codeIn K cd22 "_law_pool" = true) (k22 : PySem.W.keepIn K (.ref f22) = true)
    (a23 : PySem.W.nsIn K mainGlobals "_law_reserved" = some (some (.ref f23))) (l23 : K.lookup f23 = some ⟨oc23, od23, .func (PySem.W.fnOf "_law_reserved" "_law_reserved" (defArgs s__law_reserved) (defBody s__law_reserved) (defScope s__law_reserved) .none kV23 dc23 pm23 an23 cd23 ct23), sl23⟩) (c23 : PySem.W.codeIn K cd23 "_law_reserved" = true) (k23 : PySem.W.keepIn K (.ref f23) = true)
    (a24 : PySem.W.nsIn K mainGlobals "_law_name" = some (some (.ref f24))) (l24 : K.lookup f24 = some ⟨oc24, od24, .func (PySem.W.fnOf "_law_name" "_law_name" (defArgs s__law_name) (defBody s__law_name) (defScope s__law_name) .none kV24 dc24 pm24 an24 cd24 ct24), sl24⟩) (c24 : PySem.W.codeIn K cd24 "_law_name" = true) (k24 : PySem.W.keepIn K (.ref f24) = true)
    (a25 : PySem.W.nsIn K mainGlobals "_law_term_of" = some (some (.ref f25))) (l25 : K.lookup f25 = some ⟨oc25, od25, .func (PySem.W.fnOf "_law_term_of" "_law_term_of" (defArgs s__law_term_of) (defBody s__law_term_of) (defScope s__law_term_of) .none kV25 dc25 pm25 an25 cd25 ct25), sl25⟩) (c25 : PySem.W.codeIn K cd25 "_law_term_of" = true) (k25 : PySem.W.keepIn K (.ref f25) = true)
    (a26 : PySem.W.nsIn K mainGlobals "_law_letters_in" = some (some (.ref f26))) (l26 : K.lookup f26 = some ⟨oc26, od26, .func (PySem.W.fnOf "_law_letters_in" "_law_letters_in" (defArgs s__law_letters_in) (defBody s__law_letters_in) (defScope s__law_letters_in) .none kV26 dc26 pm26 an26 cd26 ct26), sl26⟩) (c26 : PySem.W.codeIn K cd26 "_law_letters_in" = true) (k26 : PySem.W.keepIn K (.ref f26) = true)
    (a27 : PySem.W.nsIn K mainGlobals "_law_shapes" = some (some (.ref f27))) (l27 : K.lookup f27 = some ⟨oc27, od27, .func (PySem.W.fnOf "_law_shapes" "_law_shapes" (defArgs s__law_shapes) (defBody s__law_shapes) (defScope s__law_shapes) .none kV27 dc27 pm27 an27 cd27 ct27), sl27⟩) (c27 : PySem.W.codeIn K cd27 "_law_shapes" = true) (k27 : PySem.W.keepIn K (.ref f27) = true)
    (a28 : PySem.W.nsIn K mainGlobals "_law_shape" = some (some (.ref f28))) (l28 : K.lookup f28 = some ⟨oc28, od28, .func (PySem.W.fnOf "_law_shape" "_law_shape" (defArgs s__law_shape) (defBody s__law_shape) (defScope s__law_shape) .none kV28 dc28 pm28 an28 cd28 ct28), sl28⟩) (c28 : PySem.W.codeIn K cd28 "_law_shape" = true) (k28 : PySem.W.keepIn K (.ref f28) = true)
    (a29 : PySem.W.nsIn K mainGlobals "_law_terms" = some (some (.ref f29))) (l29 : K.lookup f29 = some ⟨oc29, od29, .func (PySem.W.fnOf "_law_terms" "_law_terms" (defArgs s__law_terms) (defBody s__law_terms) (defScope s__law_terms) .none kV29 dc29 pm29 an29 cd29 ct29), sl29⟩) (c29 : PySem.W.codeIn K cd29 "_law_terms" = true) (k29 : PySem.W.keepIn K (.ref f29) = true)
    (a30 : PySem.W.nsIn K mainGlobals "_law_twelve" = some (some (.ref f30))) (l30 : K.lookup f30 = some ⟨oc30, od30, .func (PySem.W.fnOf "_law_twelve" "_law_twelve" (defArgs s__law_twelve) (defBody s__law_twelve) (defScope s__law_twelve) .none kV30 dc30 pm30 an30 cd30 ct30), sl30⟩) (c30 : PySem.W.codeIn K cd30 "_law_twelve" = true) (k30 : PySem.W.keepIn K (.ref f30) = true)
    (a31 : PySem.W.nsIn K mainGlobals "_law_letter_number" = some (some (.ref f31))) (l31 : K.lookup f31 = some ⟨oc31, od31, .func (PySem.W.fnOf "_law_letter_number" "_law_letter_number" (defArgs s__law_letter_number) (defBody s__law_letter_number) (defScope s__law_letter_number) .none kV31 dc31 pm31 an31 cd31 ct31), sl31⟩) (c31 : PySem.W.codeIn K cd31 "_law_letter_number" = true) (k31 : PySem.W.keepIn K (.ref f31) = true)
    (a32 : PySem.W.nsIn K mainGlobals "_law_in_order" = some (some (.ref f32))) (l32 : K.lookup f32 = some ⟨oc32, od32, .func (PySem.W.fnOf "_law_in_order" "_law_in_order" (defArgs s__law_in_order) (defBody s__law_in_order) (defScope s__law_in_order) .none kV32 dc32 pm32 an32 cd32 ct32), sl32⟩) (c32 : PySem.W.codeIn K cd32 "_law_in_order" = true) (k32 : PySem.W.keepIn K (.ref f32) = true)
    (a33 : PySem.W.nsIn K mainGlobals "_law_simple" = some (some (.ref f33))) (l33 : K.lookup f33 = some ⟨oc33, od33, .func (PySem.W.fnOf "_law_simple" "_law_simple" (defArgs s__law_simple) (defBody s__law_simple) (defScope s__law_simple) .none kV33 dc33 pm33 an33 cd33 ct33), sl33⟩) (c33 : PySem.W.codeIn K cd33 "_law_simple" = true) (k33 : PySem.W.keepIn K (.ref f33) = true)
    (a34 : PySem.W.nsIn K mainGlobals "_law_bound" = some (some (.ref f34))) (l34 : K.lookup f34 = some ⟨oc34, od34, .func (PySem.W.fnOf "_law_bound" "_law_bound" (defArgs s__law_bound) (defBody s__law_bound) (defScope s__law_bound) .none kV34 dc34 pm34 an34 cd34 ct34), sl34⟩) (c34 : PySem.W.codeIn K cd34 "_law_bound" = true) (k34 : PySem.W.keepIn K (.ref f34) = true)
    (a35 : PySem.W.nsIn K mainGlobals "_law_joined" = some (some (.ref f35))) (l35 : K.lookup f35 = some ⟨oc35, od35, .func (PySem.W.fnOf "_law_joined" "_law_joined" (defArgs s__law_joined) (defBody s__law_joined) (defScope s__law_joined) .none kV35 dc35 pm35 an35 cd35 ct35), sl35⟩) (c35 : PySem.W.codeIn K cd35 "_law_joined" = true) (k35 : PySem.W.keepIn K (.ref f35) = true)
    (a36 : PySem.W.nsIn K mainGlobals "_law_plan" = some (some (.ref f36))) (l36 : K.lookup f36 = some ⟨oc36, od36, .func (PySem.W.fnOf "_law_plan" "_law_plan" (defArgs s__law_plan) (defBody s__law_plan) (defScope s__law_plan) .none kV36 dc36 pm36 an36 cd36 ct36), sl36⟩) (c36 : PySem.W.codeIn K cd36 "_law_plan" = true) (k36 : PySem.W.keepIn K (.ref f36) = true)
    (a37 : PySem.W.nsIn K mainGlobals "_law_plan_names" = some (some (.ref f37))) (l37 : K.lookup f37 = some ⟨oc37, od37, .func (PySem.W.fnOf "_law_plan_names" "_law_plan_names" (defArgs s__law_plan_names) (defBody s__law_plan_names) (defScope s__law_plan_names) .none kV37 dc37 pm37 an37 cd37 ct37), sl37⟩) (c37 : PySem.W.codeIn K cd37 "_law_plan_names" = true) (k37 : PySem.W.keepIn K (.ref f37) = true)
    (a38 : PySem.W.nsIn K mainGlobals "_law_projections" = some (some (.ref f38))) (l38 : K.lookup f38 = some ⟨oc38, od38, .func (PySem.W.fnOf "_law_projections" "_law_projections" (defArgs s__law_projections) (defBody s__law_projections) (defScope s__law_projections) .none kV38 dc38 pm38 an38 cd38 ct38), sl38⟩) (c38 : PySem.W.codeIn K cd38 "_law_projections" = true) (k38 : PySem.W.keepIn K (.ref f38) = true)
    (a39 : PySem.W.nsIn K mainGlobals "_law_projected" = some (some (.ref f39))) (l39 : K.lookup f39 = some ⟨oc39, od39, .func (PySem.W.fnOf "_law_projected" "_law_projected" (defArgs s__law_projected) (defBody s__law_projected) (defScope s__law_projected) .none kV39 dc39 pm39 an39 cd39 ct39), sl39⟩) (c39 : PySem.W.codeIn K cd39 "_law_projected" = true) (k39 : PySem.W.keepIn K (.ref f39) = true)
    (a40 : PySem.W.nsIn K mainGlobals "_law_atoms_below" = some (some (.ref f40))) (l40 : K.lookup f40 = some ⟨oc40, od40, .func (PySem.W.fnOf "_law_atoms_below" "_law_atoms_below" (defArgs s__law_atoms_below) (defBody s__law_atoms_below) (defScope s__law_atoms_below) .none kV40 dc40 pm40 an40 cd40 ct40), sl40⟩) (c40 : PySem.W.codeIn K cd40 "_law_atoms_below" = true) (k40 : PySem.W.keepIn K (.ref f40) = true)
    (a41 : PySem.W.nsIn K mainGlobals "_law_key_letters" = some (some (.ref f41))) (l41 : K.lookup f41 = some ⟨oc41, od41, .func (PySem.W.fnOf "_law_key_letters" "_law_key_letters" (defArgs s__law_key_letters) (defBody s__law_key_letters) (defScope s__law_key_letters) .none kV41 dc41 pm41 an41 cd41 ct41), sl41⟩) (c41 : PySem.W.codeIn K cd41 "_law_key_letters" = true) (k41 : PySem.W.keepIn K (.ref f41) = true)
    (a42 : PySem.W.nsIn K mainGlobals "_law_determined" = some (some (.ref f42))) (l42 : K.lookup f42 = some ⟨oc42, od42, .func (PySem.W.fnOf "_law_determined" "_law_determined" (defArgs s__law_determined) (defBody s__law_determined) (defScope s__law_determined) .none kV42 dc42 pm42 an42 cd42 ct42), sl42⟩) (c42 : PySem.W.codeIn K cd42 "_law_determined" = true) (k42 : PySem.W.keepIn K (.ref f42) = true)
    (a43 : PySem.W.nsIn K mainGlobals "_law_demand_met" = some (some (.ref f43))) (l43 : K.lookup f43 = some ⟨oc43, od43, .func (PySem.W.fnOf "_law_demand_met" "_law_demand_met" (defArgs s__law_demand_met) (defBody s__law_demand_met) (defScope s__law_demand_met) .none kV43 dc43 pm43 an43 cd43 ct43), sl43⟩) (c43 : PySem.W.codeIn K cd43 "_law_demand_met" = true) (k43 : PySem.W.keepIn K (.ref f43) = true)
    (a44 : PySem.W.nsIn K mainGlobals "_law_other_kind" = some (some (.ref f44))) (l44 : K.lookup f44 = some ⟨oc44, od44, .func (PySem.W.fnOf "_law_other_kind" "_law_other_kind" (defArgs s__law_other_kind) (defBody s__law_other_kind) (defScope s__law_other_kind) .none kV44 dc44 pm44 an44 cd44 ct44), sl44⟩) (c44 : PySem.W.codeIn K cd44 "_law_other_kind" = true) (k44 : PySem.W.keepIn K (.ref f44) = true)
    (a45 : PySem.W.nsIn K mainGlobals "_law_demands_right" = some (some (.ref f45))) (l45 : K.lookup f45 = some ⟨oc45, od45, .func (PySem.W.fnOf "_law_demands_right" "_law_demands_right" (defArgs s__law_demands_right) (defBody s__law_demands_right) (defScope s__law_demands_right) .none kV45 dc45 pm45 an45 cd45 ct45), sl45⟩) (c45 : PySem.W.codeIn K cd45 "_law_demands_right" = true) (k45 : PySem.W.keepIn K (.ref f45) = true)
    (a46 : PySem.W.nsIn K mainGlobals "_law_safe_right" = some (some (.ref f46))) (l46 : K.lookup f46 = some ⟨oc46, od46, .func (PySem.W.fnOf "_law_safe_right" "_law_safe_right" (defArgs s__law_safe_right) (defBody s__law_safe_right) (defScope s__law_safe_right) .none kV46 dc46 pm46 an46 cd46 ct46), sl46⟩) (c46 : PySem.W.codeIn K cd46 "_law_safe_right" = true) (k46 : PySem.W.keepIn K (.ref f46) = true)
    (a47 : PySem.W.nsIn K mainGlobals "_law_determined_right" = some (some (.ref f47))) (l47 : K.lookup f47 = some ⟨oc47, od47, .func (PySem.W.fnOf "_law_determined_right" "_law_determined_right" (defArgs s__law_determined_right) (defBody s__law_determined_right) (defScope s__law_determined_right) .none kV47 dc47 pm47 an47 cd47 ct47), sl47⟩) (c47 : PySem.W.codeIn K cd47 "_law_determined_right" = true) (k47 : PySem.W.keepIn K (.ref f47) = true)
    (a48 : PySem.W.nsIn K mainGlobals "_law_some" = some (some (.ref f48))) (l48 : K.lookup f48 = some ⟨oc48, od48, .func (PySem.W.fnOf "_law_some" "_law_some" (defArgs s__law_some) (defBody s__law_some) (defScope s__law_some) .none kV48 dc48 pm48 an48 cd48 ct48), sl48⟩) (c48 : PySem.W.codeIn K cd48 "_law_some" = true) (k48 : PySem.W.keepIn K (.ref f48) = true)
    (a49 : PySem.W.nsIn K mainGlobals "law" = some (some (.ref f49))) (l49 : K.lookup f49 = some ⟨oc49, od49, .func (PySem.W.fnOf "law" "law" (defArgs s_law) (defBody s_law) (defScope s_law) .none kV49 dc49 pm49 an49 cd49 ct49), sl49⟩) (c49 : PySem.W.codeIn K cd49 "law" = true) (k49 : PySem.W.keepIn K (.ref f49) = true)
    (z_tuple : PySem.W.nsIn K mainGlobals "tuple" = some none)
    (z_list : PySem.W.nsIn K mainGlobals "list" = some none)
    (z_isinstance : PySem.W.nsIn K mainGlobals "isinstance" = some none)
    (z_str : PySem.W.nsIn K mainGlobals "str" = some none)
    (z_int : PySem.W.nsIn K mainGlobals "int" = some none)
    (z_sorted : PySem.W.nsIn K mainGlobals "sorted" = some none)
    (z_all : PySem.W.nsIn K mainGlobals "all" = some none)
    (z_abs : PySem.W.nsIn K mainGlobals "abs" = some none)
    (z_max : PySem.W.nsIn K mainGlobals "max" = some none)
    (z_len : PySem.W.nsIn K mainGlobals "len" = some none)
    (z_range : PySem.W.nsIn K mainGlobals "range" = some none)
    (z_bool : PySem.W.nsIn K mainGlobals "bool" = some none) :
    ∃ fd : FuncData, (∀ (s : Shared) (v : Value), BindsTo s fd ⟨[v], []⟩ [("script", v)]) ∧ ∀ base : Heap, K.In base → base.Ns mainGlobals mg → FnOk l.prog w K mg base CX0 139 fa fd ["script"] (sp_law K) := by
  have e := hfa.symm.trans (PySem.W.mg_of X G a49)
  cases e
  have F0 := fun_mk (st := s_letters_in) l0 c0 k0
  have F1 := fun_mk (st := s_number_of) l1 c1 k1
  have F2 := fun_mk (st := s_by_number) l2 c2 k2
  have F3 := fun_mk (st := s_block_keys) l3 c3 k3
  have F4 := fun_mk (st := s_parts_within) l4 c4 k4
  have F5 := fun_mk (st := s_tables_in) l5 c5 k5
  have F6 := fun_mk (st := s_projections) l6 c6 k6
  have F7 := fun_mk (st := s_determined) l7 c7 k7
  have F8 := fun_mk (st := s_meets_demand) l8 c8 k8
  have F9 := fun_mk (st := s_atoms_below) l9 c9 k9
  have F10 := fun_mk (st := s_free_letters) l10 c10 k10
  have F11 := fun_mk (st := s_is_met) l11 c11 k11
  have F12 := fun_mk (st := s_demands) l12 c12 k12
  have F13 := fun_mk (st := s_is_safe) l13 c13 k13
  have F14 := fun_mk (st := s__law_tape) l14 c14 k14
  have F15 := fun_mk (st := s__law_draw) l15 c15 k15
  have F16 := fun_mk (st := s__law_pick) l16 c16 k16
  have F17 := fun_mk (st := s__law_turns) l17 c17 k17
  have F18 := fun_mk (st := s__law_shuffled) l18 c18 k18
  have F19 := fun_mk (st := s__law_same) l19 c19 k19
  have F20 := fun_mk (st := s__law_text) l20 c20 k20
  have F21 := fun_mk (st := s__law_value_of) l21 c21 k21
  have F22 := fun_mk (st := s__law_pool) l22 c22 k22
  have F23 := fun_mk (st := s__law_reserved) l23 c23 k23
  have F24 := fun_mk (st := s__law_name) l24 c24 k24
  have F25 := fun_mk (st := s__law_term_of) l25 c25 k25
  have F26 := fun_mk (st := s__law_letters_in) l26 c26 k26
  have F27 := fun_mk (st := s__law_shapes) l27 c27 k27
  have F28 := fun_mk (st := s__law_shape) l28 c28 k28
  have F29 := fun_mk (st := s__law_terms) l29 c29 k29
  have F30 := fun_mk (st := s__law_twelve) l30 c30 k30
  have F31 := fun_mk (st := s__law_letter_number) l31 c31 k31
  have F32 := fun_mk (st := s__law_in_order) l32 c32 k32
  have F33 := fun_mk (st := s__law_simple) l33 c33 k33
  have F34 := fun_mk (st := s__law_bound) l34 c34 k34
  have F35 := fun_mk (st := s__law_joined) l35 c35 k35
  have F36 := fun_mk (st := s__law_plan) l36 c36 k36
  have F37 := fun_mk (st := s__law_plan_names) l37 c37 k37
  have F38 := fun_mk (st := s__law_projections) l38 c38 k38
  have F39 := fun_mk (st := s__law_projected) l39 c39 k39
  have F40 := fun_mk (st := s__law_atoms_below) l40 c40 k40
  have F41 := fun_mk (st := s__law_key_letters) l41 c41 k41
  have F42 := fun_mk (st := s__law_determined) l42 c42 k42
  have F43 := fun_mk (st := s__law_demand_met) l43 c43 k43
  have F44 := fun_mk (st := s__law_other_kind) l44 c44 k44
  have F45 := fun_mk (st := s__law_demands_right) l45 c45 k45
  have F46 := fun_mk (st := s__law_safe_right) l46 c46 k46
  have F47 := fun_mk (st := s__law_determined_right) l47 c47 k47
  have F48 := fun_mk (st := s__law_some) l48 c48 k48
  have F49 := fun_mk (st := s_law) l49 c49 k49
  have b0 := F0.binds (ps := ["atoms"]) fun _ _ _ _ _ _ us hl => match us, hl with | [_], _ => rfl
  have b1 := F1.binds (ps := ["letter"]) fun _ _ _ _ _ _ us hl => match us, hl with | [_], _ => rfl
  have b2 := F2.binds (ps := ["letters"]) fun _ _ _ _ _ _ us hl => match us, hl with | [_], _ => rfl
  have b3 := F3.binds (ps := ["shapes"]) fun _ _ _ _ _ _ us hl => match us, hl with | [_], _ => rfl
  have b4 := F4.binds (ps := ["plan"]) fun _ _ _ _ _ _ us hl => match us, hl with | [_], _ => rfl
  have b5 := F5.binds (ps := ["plan"]) fun _ _ _ _ _ _ us hl => match us, hl with | [_], _ => rfl
  have b6 := F6.binds (ps := ["plan"]) fun _ _ _ _ _ _ us hl => match us, hl with | [_], _ => rfl
  have b7 := F7.binds (ps := ["shapes", "atoms", "letters"]) fun _ _ _ _ _ _ us hl => match us, hl with | [_, _, _], _ => rfl
  have b8 := F8.binds (ps := ["shapes", "kind", "letter", "atoms", "free"]) fun _ _ _ _ _ _ us hl => match us, hl with | [_, _, _, _, _], _ => rfl
  have b9 := F9.binds (ps := ["member", "part"]) fun _ _ _ _ _ _ us hl => match us, hl with | [_, _], _ => rfl
  have b10 := F10.binds (ps := ["member", "part"]) fun _ _ _ _ _ _ us hl => match us, hl with | [_, _], _ => rfl
  have b11 := F11.binds (ps := ["shapes", "member", "part"]) fun _ _ _ _ _ _ us hl => match us, hl with | [_, _, _], _ => rfl
  have b12 := F12.binds (ps := ["shapes", "member", "plan"]) fun _ _ _ _ _ _ us hl => match us, hl with | [_, _, _], _ => rfl
  have b13 := F13.binds (ps := ["shapes", "member", "plan"]) fun _ _ _ _ _ _ us hl => match us, hl with | [_, _, _], _ => rfl
  have b14 := F14.binds (ps := ["script"]) fun _ _ _ _ _ _ us hl => match us, hl with | [_], _ => rfl
  have b15 := F15.binds (ps := ["tape", "many"]) fun _ _ _ _ _ _ us hl => match us, hl with | [_, _], _ => rfl
  have b16 := F16.binds (ps := ["tape", "rows"]) fun _ _ _ _ _ _ us hl => match us, hl with | [_, _], _ => rfl
  have b17 := F17.binds (ps := ["tape", "many"]) fun _ _ _ _ _ _ us hl => match us, hl with | [_, _], _ => rfl
  have b18 := F18.binds (ps := ["tape", "rows"]) fun _ _ _ _ _ _ us hl => match us, hl with | [_, _], _ => rfl
  have b19 := F19.binds (ps := ["told", "wanted"]) fun _ _ _ _ _ _ us hl => match us, hl with | [_, _], _ => rfl
  have b20 := F20.binds (ps := ["tape", "most"]) fun _ _ _ _ _ _ us hl => match us, hl with | [_, _], _ => rfl
  have b21 := F21.binds (ps := ["tape"]) fun _ _ _ _ _ _ us hl => match us, hl with | [_], _ => rfl
  have b22 := F22.binds (ps := ["tape"]) fun _ _ _ _ _ _ us hl => match us, hl with | [_], _ => rfl
  have b23 := F23.binds (ps := []) fun _ _ _ _ _ _ us hl => match us, hl with | [], _ => rfl
  have b24 := F24.binds (ps := ["tape", "taken"]) fun _ _ _ _ _ _ us hl => match us, hl with | [_, _], _ => rfl
  have b25 := F25.binds (ps := ["tape", "letters", "pool"]) fun _ _ _ _ _ _ us hl => match us, hl with | [_, _, _], _ => rfl
  have b26 := F26.binds (ps := ["atoms"]) fun _ _ _ _ _ _ us hl => match us, hl with | [_], _ => rfl
  have b27 := F27.binds (ps := ["tape", "many", "kinds"]) fun _ _ _ _ _ _ us hl => match us, hl with | [_, _, _], _ => rfl
  have b28 := F28.binds (ps := ["forms", "name"]) fun _ _ _ _ _ _ us hl => match us, hl with | [_, _], _ => rfl
  have b29 := F29.binds (ps := ["tape", "columns", "pool", "met", "most", "new"]) fun _ _ _ _ _ _ us hl => match us, hl with | [_, _, _, _, _, _], _ => rfl
  have b30 := F30.binds (ps := ["kind", "keys"]) fun _ _ _ _ _ _ us hl => match us, hl with | [_, _], _ => rfl
  have b31 := F31.binds (ps := ["letter"]) fun _ _ _ _ _ _ us hl => match us, hl with | [_], _ => rfl
  have b32 := F32.binds (ps := ["letters"]) fun _ _ _ _ _ _ us hl => match us, hl with | [_], _ => rfl
  have b33 := F33.binds (ps := ["tape", "forms", "most", "pool", "columns"]) fun _ _ _ _ _ _ us hl => match us, hl with | [_, _, _, _, _], _ => rfl
  have b34 := F34.binds (ps := ["member"]) fun _ _ _ _ _ _ us hl => match us, hl with | [_], _ => rfl
  have b35 := F35.binds (ps := ["tape", "parts"]) fun _ _ _ _ _ _ us hl => match us, hl with | [_, _], _ => rfl
  have b36 := F36.binds (ps := ["tape", "member"]) fun _ _ _ _ _ _ us hl => match us, hl with | [_, _], _ => rfl
  have b37 := F37.binds (ps := ["plan"]) fun _ _ _ _ _ _ us hl => match us, hl with | [_], _ => rfl
  have b38 := F38.binds (ps := ["plan"]) fun _ _ _ _ _ _ us hl => match us, hl with | [_], _ => rfl
  have b39 := F39.binds (ps := ["plan"]) fun _ _ _ _ _ _ us hl => match us, hl with | [_], _ => rfl
  have b40 := F40.binds (ps := ["member", "plan"]) fun _ _ _ _ _ _ us hl => match us, hl with | [_, _], _ => rfl
  have b41 := F41.binds (ps := ["forms", "atom"]) fun _ _ _ _ _ _ us hl => match us, hl with | [_, _], _ => rfl
  have b42 := F42.binds (ps := ["forms", "atoms", "letters"]) fun _ _ _ _ _ _ us hl => match us, hl with | [_, _, _], _ => rfl
  have b43 := F43.binds (ps := ["forms", "member", "plan"]) fun _ _ _ _ _ _ us hl => match us, hl with | [_, _, _], _ => rfl
  have b44 := F44.binds (ps := ["tape", "forms"]) fun _ _ _ _ _ _ us hl => match us, hl with | [_, _], _ => rfl
  have b45 := F45.binds (ps := ["forms", "member", "plan"]) fun _ _ _ _ _ _ us hl => match us, hl with | [_, _, _], _ => rfl
  have b46 := F46.binds (ps := ["forms", "member", "plan"]) fun _ _ _ _ _ _ us hl => match us, hl with | [_, _, _], _ => rfl
  have b47 := F47.binds (ps := ["forms", "atoms", "letters"]) fun _ _ _ _ _ _ us hl => match us, hl with | [_, _, _], _ => rfl
  have b48 := F48.binds (ps := ["tape", "rows"]) fun _ _ _ _ _ _ us hl => match us, hl with | [_, _], _ => rfl
  let T : Txt K mg := ⟨f0, _, F0, b0, PySem.W.mg_of X G a0, f1, _, F1, b1, PySem.W.mg_of X G a1, f2, _, F2, b2, PySem.W.mg_of X G a2, f3, _, F3, b3, PySem.W.mg_of X G a3, f4, _, F4, b4, PySem.W.mg_of X G a4, f5, _, F5, b5, PySem.W.mg_of X G a5, f6, _, F6, b6, PySem.W.mg_of X G a6, f7, _, F7, b7, PySem.W.mg_of X G a7, f8, _, F8, b8, PySem.W.mg_of X G a8, f9, _, F9, b9, PySem.W.mg_of X G a9, f10, _, F10, b10, PySem.W.mg_of X G a10, f11, _, F11, b11, PySem.W.mg_of X G a11, f12, _, F12, b12, PySem.W.mg_of X G a12, f13, _, F13, b13, PySem.W.mg_of X G a13, f14, _, F14, b14, PySem.W.mg_of X G a14, f15, _, F15, b15, PySem.W.mg_of X G a15, f16, _, F16, b16, PySem.W.mg_of X G a16, f17, _, F17, b17, PySem.W.mg_of X G a17, f18, _, F18, b18, PySem.W.mg_of X G a18, f19, _, F19, b19, PySem.W.mg_of X G a19, f20, _, F20, b20, PySem.W.mg_of X G a20, f21, _, F21, b21, PySem.W.mg_of X G a21, f22, _, F22, b22, PySem.W.mg_of X G a22, f23, _, F23, b23, PySem.W.mg_of X G a23, f24, _, F24, b24, PySem.W.mg_of X G a24, f25, _, F25, b25, PySem.W.mg_of X G a25, f26, _, F26, b26, PySem.W.mg_of X G a26, f27, _, F27, b27, PySem.W.mg_of X G a27, f28, _, F28, b28, PySem.W.mg_of X G a28, f29, _, F29, b29, PySem.W.mg_of X G a29, f30, _, F30, b30, PySem.W.mg_of X G a30, f31, _, F31, b31, PySem.W.mg_of X G a31, f32, _, F32, b32, PySem.W.mg_of X G a32, f33, _, F33, b33, PySem.W.mg_of X G a33, f34, _, F34, b34, PySem.W.mg_of X G a34, f35, _, F35, b35, PySem.W.mg_of X G a35, f36, _, F36, b36, PySem.W.mg_of X G a36, f37, _, F37, b37, PySem.W.mg_of X G a37, f38, _, F38, b38, PySem.W.mg_of X G a38, f39, _, F39, b39, PySem.W.mg_of X G a39, f40, _, F40, b40, PySem.W.mg_of X G a40, f41, _, F41, b41, PySem.W.mg_of X G a41, f42, _, F42, b42, PySem.W.mg_of X G a42, f43, _, F43, b43, PySem.W.mg_of X G a43, f44, _, F44, b44, PySem.W.mg_of X G a44, f45, _, F45, b45, PySem.W.mg_of X G a45, f46, _, F46, b46, PySem.W.mg_of X G a46, f47, _, F47, b47, PySem.W.mg_of X G a47, f48, _, F48, b48, PySem.W.mg_of X G a48, fa, _, F49, PySem.W.mg_none_of X G z_tuple, PySem.W.mg_none_of X G z_list, PySem.W.mg_none_of X G z_isinstance, PySem.W.mg_none_of X G z_str, PySem.W.mg_none_of X G z_int, PySem.W.mg_none_of X G z_sorted, PySem.W.mg_none_of X G z_all, PySem.W.mg_none_of X G z_abs, PySem.W.mg_none_of X G z_max, PySem.W.mg_none_of X G z_len, PySem.W.mg_none_of X G z_range, PySem.W.mg_none_of X G z_bool⟩
  exact ⟨PySem.W.fnOf "law" "law" (defArgs s_law) (defBody s_law) (defScope s_law) .none kV49 dc49 pm49 an49 cd49 ct49, fun s v => .of_eq rfl, fun base _ _ => ok_law T⟩
end WB
open PySem PySem.W PyProof.Rows
set_option maxRecDepth 100000 in
set_option maxHeartbeats 0 in
theorem PySem.Challenge.cw_worldbase_k47_determined_letters_and_dem_holds : PySem.Challenge.rw_worldbase_k47_determined_letters_and_dem.Holds := by
  w_on; o_law; k_head; (case hw => w_witness2)
  k_fill
  refine L2.walk_of (l := PySem.Challenge.rw_worldbase_k47_determined_letters_and_dem) (n := 63) (k := 139) (x := "script") (CX := fun _ => L2.CX0) (sp := fun w => WB.sp_law _) rfl (by decide) rfl ⟨rfl, by decide, by decide⟩ (fun w h Y => PySem.W.kIn_of Y) ?F (fun _ _ a ns hl _ hS => ⟨a, ns, rfl, hS, hl, fun _ => rfl⟩) (fun _ _ _ _ _ h => h)
  case F =>
    intro w mg fa h KX G hmg
    refine' WB.all_mk KX G hmg ?a0 ?l0 ?c0 ?k0 ?a1 ?l1 ?c1 ?k1 ?a2 ?l2 ?c2 ?k2 ?a3 ?l3 ?c3 ?k3 ?a4 ?l4 ?c4 ?k4 ?a5 ?l5 ?c5 ?k5 ?a6 ?l6 ?c6 ?k6 ?a7 ?l7 ?c7 ?k7 ?a8 ?l8 ?c8 ?k8 ?a9 ?l9 ?c9 ?k9 ?a10 ?l10 ?c10 ?k10 ?a11 ?l11 ?c11 ?k11 ?a12 ?l12 ?c12 ?k12 ?a13 ?l13 ?c13 ?k13 ?a14 ?l14 ?c14 ?k14 ?a15 ?l15 ?c15 ?k15 ?a16 ?l16 ?c16 ?k16 ?a17 ?l17 ?c17 ?k17 ?a18 ?l18 ?c18 ?k18 ?a19 ?l19 ?c19 ?k19 ?a20 ?l20 ?c20 ?k20 ?a21 ?l21 ?c21 ?k21 ?a22 ?l22 ?c22 ?k22 ?a23 ?l23 ?c23 ?k23 ?a24 ?l24 ?c24 ?k24 ?a25 ?l25 ?c25 ?k25 ?a26 ?l26 ?c26 ?k26 ?a27 ?l27 ?c27 ?k27 ?a28 ?l28 ?c28 ?k28 ?a29 ?l29 ?c29 ?k29 ?a30 ?l30 ?c30 ?k30 ?a31 ?l31 ?c31 ?k31 ?a32 ?l32 ?c32 ?k32 ?a33 ?l33 ?c33 ?k33 ?a34 ?l34 ?c34 ?k34 ?a35 ?l35 ?c35 ?k35 ?a36 ?l36 ?c36 ?k36 ?a37 ?l37 ?c37 ?k37 ?a38 ?l38 ?c38 ?k38 ?a39 ?l39 ?c39 ?k39 ?a40 ?l40 ?c40 ?k40 ?a41 ?l41 ?c41 ?k41 ?a42 ?l42 ?c42 ?k42 ?a43 ?l43 ?c43 ?k43 ?a44 ?l44 ?c44 ?k44 ?a45 ?l45 ?c45 ?k45 ?a46 ?l46 ?c46 ?k46 ?a47 ?l47 ?c47 ?k47 ?a48 ?l48 ?c48 ?k48 ?a49 ?l49 ?c49 ?k49 ?z_tuple ?z_list ?z_isinstance ?z_str ?z_int ?z_sorted ?z_all ?z_abs ?z_max ?z_len ?z_range ?z_bool
    (case a0 => k_is)
    (case l0 => k_is)
    (case c0 => k_is)
    (case k0 => k_is)
    (case a1 => k_is)
    (case l1 => k_is)
    (case c1 => k_is)
    (case k1 => k_is)
    (case a2 => k_is)
    (case l2 => k_is)
    (case c2 => k_is)
    (case k2 => k_is)
    (case a3 => k_is)
    (case l3 => k_is)
    (case c3 => k_is)
    (case k3 => k_is)
    (case a4 => k_is)
    (case l4 => k_is)
    (case c4 => k_is)
    (case k4 => k_is)
    (case a5 => k_is)
    (case l5 => k_is)
    (case c5 => k_is)
    (case k5 => k_is)
    (case a6 => k_is)
    (case l6 => k_is)
    (case c6 => k_is)
    (case k6 => k_is)
    (case a7 => k_is)
    (case l7 => k_is)
    (case c7 => k_is)
    (case k7 => k_is)
    (case a8 => k_is)
    (case l8 => k_is)
    (case c8 => k_is)
    (case k8 => k_is)
    (case a9 => k_is)
    (case l9 => k_is)
    (case c9 => k_is)
    (case k9 => k_is)
    (case a10 => k_is)
    (case l10 => k_is)
    (case c10 => k_is)
    (case k10 => k_is)
    (case a11 => k_is)
    (case l11 => k_is)
    (case c11 => k_is)
    (case k11 => k_is)
    (case a12 => k_is)
    (case l12 => k_is)
    (case c12 => k_is)
    (case k12 => k_is)
    (case a13 => k_is)
    (case l13 => k_is)
    (case c13 => k_is)
    (case k13 => k_is)
    (case a14 => k_is)
    (case l14 => k_is)
    (case c14 => k_is)
    (case k14 => k_is)
    (case a15 => k_is)
    (case l15 => k_is)
    (case c15 => k_is)
    (case k15 => k_is)
    (case a16 => k_is)
    (case l16 => k_is)
    (case c16 => k_is)
    (case k16 => k_is)
    (case a17 => k_is)
    (case l17 => k_is)
    (case c17 => k_is)
    (case k17 => k_is)
    (case a18 => k_is)
    (case l18 => k_is)
    (case c18 => k_is)
    (case k18 => k_is)
    (case a19 => k_is)
    (case l19 => k_is)
    (case c19 => k_is)
    (case k19 => k_is)
    (case a20 => k_is)
    (case l20 => k_is)
    (case c20 => k_is)
    (case k20 => k_is)
    (case a21 => k_is)
    (case l21 => k_is)
    (case c21 => k_is)
    (case k21 => k_is)
    (case a22 => k_is)
    (case l22 => k_is)
    (case c22 => k_is)
    (case k22 => k_is)
    (case a23 => k_is)
    (case l23 => k_is)
    (case c23 => k_is)
    (case k23 => k_is)
    (case a24 => k_is)
    (case l24 => k_is)
    (case c24 => k_is)
    (case k24 => k_is)
    (case a25 => k_is)
    (case l25 => k_is)
    (case c25 => k_is)
    (case k25 => k_is)
    (case a26 => k_is)
    (case l26 => k_is)
    (case c26 => k_is)
    (case k26 => k_is)
    (case a27 => k_is)
    (case l27 => k_is)
    (case c27 => k_is)
    (case k27 => k_is)
    (case a28 => k_is)
    (case l28 => k_is)
    (case c28 => k_is)
    (case k28 => k_is)
    (case a29 => k_is)
    (case l29 => k_is)
    (case c29 => k_is)
    (case k29 => k_is)
    (case a30 => k_is)
    (case l30 => k_is)
    (case c30 => k_is)
    (case k30 => k_is)
    (case a31 => k_is)
    (case l31 => k_is)
    (case c31 => k_is)
    (case k31 => k_is)
    (case a32 => k_is)
    (case l32 => k_is)
    (case c32 => k_is)
    (case k32 => k_is)
    (case a33 => k_is)
    (case l33 => k_is)
    (case c33 => k_is)
    (case k33 => k_is)
    (case a34 => k_is)
    (case l34 => k_is)
    (case c34 => k_is)
    (case k34 => k_is)
    (case a35 => k_is)
    (case l35 => k_is)
    (case c35 => k_is)
    (case k35 => k_is)
    (case a36 => k_is)
    (case l36 => k_is)
    (case c36 => k_is)
    (case k36 => k_is)
    (case a37 => k_is)
    (case l37 => k_is)
    (case c37 => k_is)
    (case k37 => k_is)
    (case a38 => k_is)
    (case l38 => k_is)
    (case c38 => k_is)
    (case k38 => k_is)
    (case a39 => k_is)
    (case l39 => k_is)
    (case c39 => k_is)
    (case k39 => k_is)
    (case a40 => k_is)
    (case l40 => k_is)
    (case c40 => k_is)
    (case k40 => k_is)
    (case a41 => k_is)
    (case l41 => k_is)
    (case c41 => k_is)
    (case k41 => k_is)
    (case a42 => k_is)
    (case l42 => k_is)
    (case c42 => k_is)
    (case k42 => k_is)
    (case a43 => k_is)
    (case l43 => k_is)
    (case c43 => k_is)
    (case k43 => k_is)
    (case a44 => k_is)
    (case l44 => k_is)
    (case c44 => k_is)
    (case k44 => k_is)
    (case a45 => k_is)
    (case l45 => k_is)
    (case c45 => k_is)
    (case k45 => k_is)
    (case a46 => k_is)
    (case l46 => k_is)
    (case c46 => k_is)
    (case k46 => k_is)
    (case a47 => k_is)
    (case l47 => k_is)
    (case c47 => k_is)
    (case k47 => k_is)
    (case a48 => k_is)
    (case l48 => k_is)
    (case c48 => k_is)
    (case k48 => k_is)
    (case a49 => k_is)
    (case l49 => k_is)
    (case c49 => k_is)
    (case k49 => k_is)
    (case z_tuple => k_is)
    (case z_list => k_is)
    (case z_isinstance => k_is)
    (case z_str => k_is)
    (case z_int => k_is)
    (case z_sorted => k_is)
    (case z_all => k_is)
    (case z_abs => k_is)
    (case z_max => k_is)
    (case z_len => k_is)
    (case z_range => k_is)
    (case z_bool => k_is)

