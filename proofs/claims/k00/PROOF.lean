import PyProof.Rows.All
import Wide.All
import OpenK.AllK
import Wide.FinOn
import HandS.ForMost
import HandS.Gcd
import HandS.Wide
import HandS.IsInst
import HandS.Conv
import HandS.Deep
import HandS.TupAny
import HandS.TupMul
import HandS.Style
import HandS.Zip
import HandS.Rev
import HandS.RevRange
import PySem.Challenge.RW_worldbase_k00_fractions
set_option Elab.async false
set_option linter.all false
set_option maxRecDepth 100000
set_option maxHeartbeats 1000000
namespace WB
/-! ### data over the abstract heap -/
open PySem PySem.Spec PyProof.Rows L2
abbrev Fg := PySem.W.Frag
theorem hu64 {A : Around} {k : Nat} (hr : Room k A) : A.units + 64 < cLine := by have := hr.un; omega
theorem hu65 {A : Around} {k : Nat} (hr : Room k A) : A.units + 65 < cLine := by have := hr.un; omega
/-- tuples stay -/
def TSame (K : Fg) (H H' : Hp) : Prop := ∀ a xs, SqT K H a xs → SqT K H' a xs
theorem rdSame {H H' : Hp} {a : Addr} {u : HO} (e : Same H H') (h : Rd H a u) : Rd H' a u := by
  rcases h with h | ⟨o, h⟩
  · exact .inl (e _ _ h)
  · exact .inr ⟨o, e _ _ h⟩
theorem tsame {K : Fg} {H H' : Hp} (e : Same H H') : TSame K H H' := fun a xs h => by
  rcases h with h | h
  · exact .inl (rdSame e h)
  · exact .inr h
theorem TSame.trans {K : Fg} {H H1 H2 : Hp} (a : TSame K H H1) (b : TSame K H1 H2) : TSame K H H2 := fun x o h => b x o (a x o h)
mutual
theorem dp_mono {K : Fg} {H H' : Hp} (hl : ∀ a xs, SqL K H a xs → SqL K H' a xs) (ht : TSame K H H') : ∀ {d : PyData} {v : V}, Dp K H v d → Dp K H' v d
  | _, _, .non => .non
  | _, _, .bl b => .bl b
  | _, _, .int i => .int i
  | _, _, .str x => .str x
  | _, _, .lst h1 h2 => .lst (hl _ _ h1) (dps_mono hl ht h2)
  | _, _, .tup h1 h2 => .tup (ht _ _ h1) (dps_mono hl ht h2)
theorem dps_mono {K : Fg} {H H' : Hp} (hl : ∀ a xs, SqL K H a xs → SqL K H' a xs) (ht : TSame K H H') : ∀ {ds : List PyData} {vs : List V}, DpAll K H vs ds → DpAll K H' vs ds
  | _, _, .nil => .nil
  | _, _, .cons h1 h2 => .cons (dp_mono hl ht h1) (dps_mono hl ht h2)
end
theorem dpUp {K : Fg} {H H' : Hp} (e : Same H H') {d : PyData} {v : V} (h : Dp K H v d) : Dp K H' v d := dp_mono (fun _ _ h => e.seq h) (tsame e) h
theorem dpsUp {K : Fg} {H H' : Hp} (e : Same H H') {ds : List PyData} {vs : List V} (h : DpAll K H vs ds) : DpAll K H' vs ds := dps_mono (fun _ _ h => e.seq h) (tsame e) h
mutual
def noL : PyData → Bool
  | .none => true
  | .bool _ => true
  | .int _ => true
  | .str _ => true
  | .tuple xs => noLs xs
  | .list _ => false
  | .dict _ => false
def noLs : List PyData → Bool
  | [] => true
  | x :: xs => noL x && noLs xs
end
mutual
theorem dp_monoT {K : Fg} {H H' : Hp} (ht : TSame K H H') : ∀ (d : PyData) (v : V), noL d = true → Dp K H v d → Dp K H' v d
  | .none, _, _, h => by cases h; exact .non
  | .bool b, _, _, h => by cases h; exact .bl b
  | .int i, _, _, h => by cases h; exact .int i
  | .str x, _, _, h => by cases h; exact .str x
  | .list _, _, n, _ => by unfold noL at n; cases n
  | .dict _, _, n, _ => by unfold noL at n; cases n
  | .tuple ds, _, n, h => by
    unfold noL at n
    cases h with
    | tup h1 h2 => exact .tup (ht _ _ h1) (dps_monoT ht ds _ n h2)
theorem dps_monoT {K : Fg} {H H' : Hp} (ht : TSame K H H') : ∀ (ds : List PyData) (vs : List V), noLs ds = true → DpAll K H vs ds → DpAll K H' vs ds
  | [], _, _, h => by cases h; exact .nil
  | d :: ds, _, n, h => by
    unfold noLs at n
    rw [Bool.and_eq_true] at n
    cases h with
    | cons h1 h2 => exact .cons (dp_monoT ht d _ n.1 h1) (dps_monoT ht ds _ n.2 h2)
end
theorem noLs_map {α : Type} {f : α → PyData} (h : ∀ x, noL (f x) = true) : ∀ xs : List α, noLs (xs.map f) = true
  | [] => rfl
  | x :: xs => by
    rw [List.map_cons]
    unfold noLs
    rw [h x, noLs_map h xs]
    rfl
theorem dp_int {K : Fg} {H : Hp} {v : V} {i : Int} (h : Dp K H v (.int i)) : v = .int i := by cases h; rfl
theorem dp_bl {K : Fg} {H : Hp} {v : V} {i : Bool} (h : Dp K H v (.bool i)) : v = .bl i := by cases h; rfl
theorem dp_str {K : Fg} {H : Hp} {v : V} {i : Str} (h : Dp K H v (.str i)) : v = .str i := by cases h; rfl
theorem dp_non {K : Fg} {H : Hp} {v : V} (h : Dp K H v .none) : v = .non := by cases h; rfl
theorem dp_tup {K : Fg} {H : Hp} {v : V} {ds : List PyData} (h : Dp K H v (.tuple ds)) : ∃ a xs, v = .ref a ∧ SqT K H a xs ∧ DpAll K H xs ds := by
  cases h with
  | tup h1 h2 => exact ⟨_, _, rfl, h1, h2⟩
theorem dp_lst {K : Fg} {H : Hp} {v : V} {ds : List PyData} (h : Dp K H v (.list ds)) : ∃ a xs, v = .ref a ∧ SqL K H a xs ∧ DpAll K H xs ds := by
  cases h with
  | lst h1 h2 => exact ⟨_, _, rfl, h1, h2⟩
theorem dps_len {K : Fg} {H : Hp} : ∀ {ds : List PyData} {vs : List V}, DpAll K H vs ds → vs.length = ds.length
  | _, _, .nil => rfl
  | _, _, .cons _ h => congrArg (· + 1) (dps_len h)
theorem dps_get {K : Fg} {H : Hp} : ∀ {ds : List PyData} {vs : List V} {i : Nat} {d : PyData}, DpAll K H vs ds → ds[i]? = some d → ∃ v, vs[i]? = some v ∧ Dp K H v d
  | _, _, i, d, .nil, h => by simp at h
  | _, _, 0, d, .cons (v := v) h1 h2, h => by
    have e := Option.some.inj h
    subst e
    exact ⟨v, rfl, h1⟩
  | _, _, i + 1, d, .cons h1 h2, h => by
    obtain ⟨v, e, q⟩ := dps_get h2 (i := i) (d := d) (by simpa using h)
    exact ⟨v, by simpa using e, q⟩
theorem dps_getV {K : Fg} {H : Hp} : ∀ {ds : List PyData} {vs : List V} {i : Nat} {v : V}, DpAll K H vs ds → vs[i]? = some v → ∃ d, ds[i]? = some d ∧ Dp K H v d
  | _, _, i, d, .nil, h => by simp at h
  | _, _, 0, d, .cons (d := v) h1 h2, h => by
    have e := Option.some.inj h
    subst e
    exact ⟨v, rfl, h1⟩
  | _, _, i + 1, d, .cons h1 h2, h => by
    obtain ⟨v, e, q⟩ := dps_getV h2 (i := i) (v := d) (by simpa using h)
    exact ⟨v, by simpa using e, q⟩
theorem dps_ints {K : Fg} {H : Hp} : ∀ {ns : List Int} {vs : List V}, DpAll K H vs (ns.map PyData.int) → vs = ns.map V.int
  | [], _, .nil => rfl
  | n :: ns, _, .cons h1 h2 => by rw [dp_int h1, dps_ints h2] <;> rfl
theorem dps_of_ints {K : Fg} {H : Hp} : ∀ (ns : List Int), DpAll K H (ns.map V.int) (ns.map PyData.int)
  | [] => .nil
  | n :: ns => .cons (.int n) (dps_of_ints ns)
theorem dps_append {K : Fg} {H : Hp} : ∀ {ds es : List PyData} {vs us : List V}, DpAll K H vs ds → DpAll K H us es → DpAll K H (vs ++ us) (ds ++ es)
  | _, _, _, _, .nil, h => h
  | _, _, _, _, .cons h1 h2, h => .cons h1 (dps_append h2 h)
theorem dps_set {K : Fg} {H : Hp} : ∀ {ds : List PyData} {vs : List V} {i : Nat} {v : V} {d : PyData}, DpAll K H vs ds → Dp K H v d → DpAll K H (vs.set i v) (ds.set i d)
  | _, _, _, _, _, .nil, _ => .nil
  | _, _, 0, _, _, .cons h1 h2, h => .cons h h2
  | _, _, i + 1, _, _, .cons h1 h2, h => .cons h1 (dps_set h2 h)
theorem dps_erase {K : Fg} {H : Hp} : ∀ {ds : List PyData} {vs : List V} {i : Nat}, DpAll K H vs ds → DpAll K H (vs.eraseIdx i) (ds.eraseIdx i)
  | _, _, _, .nil => .nil
  | _, _, 0, .cons h1 h2 => h2
  | _, _, i + 1, .cons h1 h2 => .cons h1 (dps_erase h2)
theorem dps_take {K : Fg} {H : Hp} : ∀ {ds : List PyData} {vs : List V} (i : Nat), DpAll K H vs ds → DpAll K H (vs.take i) (ds.take i)
  | _, _, 0, _ => by simp; exact .nil
  | _, _, _ + 1, .nil => .nil
  | _, _, i + 1, .cons h1 h2 => .cons h1 (dps_take i h2)
theorem dps_drop {K : Fg} {H : Hp} : ∀ {ds : List PyData} {vs : List V} (i : Nat), DpAll K H vs ds → DpAll K H (vs.drop i) (ds.drop i)
  | _, _, 0, h => h
  | _, _, _ + 1, .nil => .nil
  | _, _, i + 1, .cons h1 h2 => dps_drop i h2
/-- d's item at the place i (from behind where i < 0) -/
def dix (ds : List PyData) (i : Int) : Option PyData := (ixN ds.length i).bind fun j => ds[j]?
theorem dix_at {K : Fg} {H : Hp} {ds : List PyData} {vs : List V} {i : Int} {d : PyData} (h : DpAll K H vs ds) (e : dix ds i = some d) : ∃ v, atI vs i = some v ∧ Dp K H v d := by
  unfold dix at e
  unfold atI
  rw [dps_len h]
  cases hj : ixN ds.length i with
  | none => rw [hj] at e; cases e
  | some j =>
    rw [hj] at e
    exact dps_get h e
theorem dix_nat {ds : List PyData} {j : Nat} {d : PyData} (h : ds[j]? = some d) : dix ds (j : Int) = some d := by
  have hl : j < ds.length := (List.getElem?_eq_some_iff.mp h).1
  unfold dix ixN
  rw [if_pos (by omega), if_pos (by omega)]
  simpa using h

/-! ### leaf rules -/
section
variable {K : Fg} {H H' : Hp} {Q : VK} {x y v : V} {d e : PyData} {ds es : List PyData} {i j : Int}
theorem r_var {σ : L2.St} {i : Nat} {Q : V → Prop} {v : V} (h : σ[i]? = some (some v)) (q : Q v) : ∃ v, σ[i]? = some (some v) ∧ Q v := ⟨v, h, q⟩
theorem r_bl {b : Bool} {Q : Bool → Prop} (q : Q b) : ∃ k, V.bl b = .bl k ∧ Q k := ⟨b, rfl, q⟩
theorem r_I0 {g : Int → Int → V} (q : Q (g i j) H) : rI0 g (.int i) (.int j) H Q := ⟨i, j, rfl, rfl, q⟩
theorem r_I {C : Int → Int → Prop} {g : Int → Int → V} (c : C i j) (q : Q (g i j) H) : rI C g (.int i) (.int j) H Q := ⟨i, j, rfl, rfl, c, q⟩
theorem r_U {g : Int → V} (q : Q (g i) H) : rU g (.int i) H Q := ⟨i, rfl, q⟩
/-- an item of a tuple that is data -/
theorem r_ixT (h : Dp K H x (.tuple ds)) (hd : dix ds i = some d) (q : ∀ v, Dp K H v d → Q v H) : rIx K x (.int i) H Q := by
  obtain ⟨a, xs, rfl, h1, h2⟩ := dp_tup h
  obtain ⟨v, hv, hd⟩ := dix_at h2 hd
  exact .inr (.inl ⟨a, xs, i, v, rfl, rfl, h1, hv, q v hd⟩)
theorem r_ixTi {n : Int} (h : Dp K H x (.tuple ds)) (hd : dix ds i = some (.int n)) (q : Q (.int n) H) : rIx K x (.int i) H Q :=
  r_ixT h hd fun v hv => by rw [dp_int hv]; exact q
theorem r_ixL (h : Dp K H x (.list ds)) (hd : dix ds i = some d) (q : ∀ v, Dp K H v d → Q v H) : rIx K x (.int i) H Q := by
  obtain ⟨a, xs, rfl, h1, h2⟩ := dp_lst h
  obtain ⟨v, hv, hd⟩ := dix_at h2 hd
  exact .inl ⟨a, xs, i, v, rfl, rfl, h1, hv, q v hd⟩
theorem r_ixLi {n : Int} (h : Dp K H x (.list ds)) (hd : dix ds i = some (.int n)) (q : Q (.int n) H) : rIx K x (.int i) H Q :=
  r_ixL h hd fun v hv => by rw [dp_int hv]; exact q
/-- a list by its values -/
theorem r_ixLV {a : Addr} {xs : List V} (h : SqL K H a xs) (hd : atI xs i = some v) (q : Q v H) : rIx K (.ref a) (.int i) H Q := .inl ⟨a, xs, i, v, rfl, rfl, h, hd, q⟩
theorem same_new {p : Addr} (h : H p = none) (o : HO) : Same H (upd H p o) := fun b u q => by rw [upd_ne (ne_of_none q h)]; exact q
/-- a new tuple, a new list -/
def nwT (vs : List V) (H : Hp) (Q : VK) : Prop := vs.length ≤ sizeLine ∧ ∀ p, H p = none → Q (.ref p) (upd H p (.tup vs))
def nwL (vs : List V) (H : Hp) (Q : VK) : Prop := vs.length ≤ sizeLine ∧ ∀ p, H p = none → Q (.ref p) (upd H p (.lst vs))
theorem tTup_eq {t : TA} {σ : L2.St} : tTup t σ H Q = t σ H fun vs H1 => nwT vs H1 Q := rfl
theorem tLst_eq {t : TA} {σ : L2.St} : tLst t σ H Q = t σ H fun vs H1 => nwL vs H1 Q := rfl
theorem r_tupN {vs : List V} (hs : DpAll K H vs ds) (hn : ds.length ≤ 100000) (q : ∀ p H', Same H H' → H p = none → Dp K H' (.ref p) (.tuple ds) → Q (.ref p) H') : nwT vs H Q := by
  refine ⟨by rw [dps_len hs]; exact Nat.le_trans hn (by decide), fun p hp => q p _ (same_new hp _) hp ?_⟩
  exact .tup (SqT.of upd_same) (dpsUp (same_new hp _) hs)
theorem r_lstN {vs : List V} (hn : vs.length ≤ 100000) (q : ∀ p H', Same H H' → H p = none → H' p = some (.lst vs) → Q (.ref p) H') : nwL vs H Q :=
  ⟨Nat.le_trans hn (by decide), fun p hp => q p _ (same_new hp _) hp upd_same⟩
theorem r_tup {vs : List V} (hs : DpAll K H vs ds) (q : ∀ p H', Same H H' → H p = none → Dp K H' (.ref p) (.tuple ds) → Q (.ref p) H') (hn : Nat.ble ds.length 100000 = true := by rfl) : nwT vs H Q := r_tupN hs (Nat.le_of_ble_eq_true hn) q
theorem r_lst {vs : List V} (q : ∀ p H', Same H H' → H p = none → H' p = some (.lst vs) → Q (.ref p) H') (hn : Nat.ble vs.length 100000 = true := by rfl) : nwL vs H Q := r_lstN (Nat.le_of_ble_eq_true hn) q
theorem small2 {n : Nat} (h : n ≤ 100000) : n ≤ sizeLine := Nat.le_trans h (by decide)
/-- if, by the test -/
theorem r_if {c A B : Prop} [Decidable c] (h1 : c → A) (h2 : ¬ c → B) : if (decide c) = true then A else B := by
  by_cases h : c
  · rw [if_pos (decide_eq_true h)]; exact h1 h
  · rw [if_neg (fun z => h (of_decide_eq_true z))]; exact h2 h
theorem r_ifN {c A B : Prop} [Decidable c] (h1 : ¬ c → A) (h2 : c → B) : if (!decide c) = true then A else B := by
  by_cases h : c
  · rw [decide_eq_true h, if_neg (by decide)]; exact h2 h
  · rw [decide_eq_false h, if_pos (by decide)]; exact h1 h
theorem r_ifB {b : Bool} {A B : Prop} (h1 : b = true → A) (h2 : b = false → B) : if b = true then A else B := by
  cases b with
  | true => rw [if_pos rfl]; exact h1 rfl
  | false => rw [if_neg (by decide)]; exact h2 rfl
theorem r_ifNB {b : Bool} {A B : Prop} (h1 : b = false → A) (h2 : b = true → B) : if (!b) = true then A else B := by
  cases b with
  | true => rw [if_neg (by decide)]; exact h2 rfl
  | false => rw [if_pos (by decide)]; exact h1 rfl
theorem r_tru {K : Fg} {b : Bool} {Q : Bool → Prop} {H : Hp} (q : Q b) : ∃ k, TruV K (.bl b) H k ∧ Q k := ⟨b, rfl, q⟩
theorem r_len (h : Dp K H x d) (n : Nat) (hd : d = .tuple ds ∨ d = .list ds) (hn : ds.length = n) (q : Q (.int (n : Int)) H) : ∃ p ys, [x] = [V.ref p] ∧ (SqL K H p ys ∨ SqT K H p ys) ∧ Q (.int (ys.length : Int)) H := by
  rcases hd with rfl | rfl
  · obtain ⟨a, xs, rfl, h1, h2⟩ := dp_tup h
    refine ⟨a, xs, rfl, .inr h1, ?_⟩
    rw [dps_len h2, hn]; exact q
  · obtain ⟨a, xs, rfl, h1, h2⟩ := dp_lst h
    refine ⟨a, xs, rfl, .inl h1, ?_⟩
    rw [dps_len h2, hn]; exact q
end

/-! ### unions of rules -/
section
variable {X : Cx}
def rAddU (K : Fg) : R2 := fun x y H Q => rI0 (fun i j => .int (i + j)) x y H Q ∨ ((∃ i j, x = .str i ∧ y = .str j ∧ i.length + j.length ≤ sizeLine ∧ Q (.str (i ++ j)) H) ∨ (rCatA K x y H Q ∨ rCat x y H Q))
theorem op_addU : OpR X (binaryOp .Add) (rAddU X.K) := op_add.or (op_add_str.or (op_catA.or op_cat))
def CDivX (_ j : Int) : Prop := j ≠ 0 ∧ j.natAbs.log2 < 9000
def rFdU : R2 := rI CDivX fun i j => .int (i.fdiv j)
theorem op_fdivU : OpR X (binaryOp .FloorDiv) rFdU := opI fun i j _ _ _ _ _ hc q => floordiv_int hc.1 q (.inl (PyProof.noPylong_of_log2 hc.2))
def rModU : R2 := fun x y H Q => rI (fun _ j => 0 < j) (fun i j => .int (i % j)) x y H Q ∨ rI (fun _ j => j ≠ 0) (fun i j => .int (i.fmod j)) x y H Q
theorem op_modU : OpR X (binaryOp .Mod) rModU := op_mod.or op_modN
def rMulU (K : Fg) : R2 := fun x y H Q => rI CMulW (fun i j => .int (i * j)) x y H Q ∨ (rI CMul (fun i j => .int (i * j)) x y H Q ∨ (rRep x y H Q ∨ rRepT K x y H Q))
theorem op_mulU : OpR X (binaryOp .Mult) (rMulU X.K) := op_mulW.or (op_mul.or (op_rep.or op_repT))
def rEqU (K : Fg) : R2 := fun x y H Q => rEq x y H Q ∨ rEqD K x y H Q
theorem op_eqU (hu : X.A.units + 64 < cLine) : OpR X (compareOp .Eq) (rEqU X.K) := op_eq.or (op_eqD hu)
def rNeU (K : Fg) : R2 := fun x y H Q => rNe x y H Q ∨ rNeD K x y H Q
theorem op_neU (hu : X.A.units + 64 < cLine) : OpR X (compareOp .NotEq) (rNeU X.K) := op_ne.or (op_neD hu)
def rInU (K : Fg) : R2 := fun x y H Q => rIn K false x y H Q ∨ rInD K x y H Q
theorem op_inU (hu : X.A.units + 65 < cLine) : OpR X (compareOp .In) (rInU X.K) := op_in_seq.or (op_inD hu)
def rNinU (K : Fg) : R2 := fun x y H Q => rIn K true x y H Q ∨ rNotInD K x y H Q
theorem op_ninU (hu : X.A.units + 65 < cLine) : OpR X (compareOp .NotIn) (rNinU X.K) := op_notIn_seq.or (op_notInD hu)
def rSlU (K : Fg) : V → Option Int → Option Int → Hp → VK → Prop := fun x lo hi H Q => rSlL K x lo hi H Q ∨ (rSlA K x lo hi H Q ∨ rSlS x lo hi H Q)
theorem sl_seqU : SlR X (rSlU X.K) := sl_list.or (sl_tupA.or sl_str)
theorem pi_orU {tg it : Expr} {w w' : TI} (h : PI X tg it w) (h' : PI X tg it w') : PI X tg it (fun σ H R => w σ H R ∨ w' σ H R) := by
  refine ⟨fun pins s σ H R I q => ?_⟩
  rcases q with q | q
  · exact h.run pins s σ H R I q
  · exact h'.run pins s σ H R I q
def iSeqU (K : Fg) (te : TE) : TI := fun σ H R => iList K te σ H R ∨ iTup K te σ H R
theorem pi_listU {tg l : Expr} {te : TE} (h : PE X l te) : PI X tg l (iSeqU X.K te) := pi_orU (pi_list h) (pi_tup h)
theorem pe_orU {e : Expr} {t t' : TE} (h : PE X e t) (h' : PE X e t') : PE X e (fun σ H Q => t σ H Q ∨ t' σ H Q) := by
  refine ⟨fun pins s σ H Q I q => ?_⟩
  rcases q with q | q
  · exact h.run pins s σ H Q I q
  · exact h'.run pins s σ H Q I q
def rLenU (K : Fg) : List V → Hp → VK → Prop := fun xs H Q => (∃ p ys, xs = [.ref p] ∧ (SqL K H p ys ∨ SqT K H p ys) ∧ Q (.int (ys.length : Int)) H) ∨ (∃ z : Str, xs = [.str z] ∧ z.length ≤ sizeLine ∧ Q (.int (z.length : Int)) H)
theorem call_lenU : CallR X (.builtin "len") (rLenU X.K) := call_len_seq.or call_len_str
end
/-! ### more leaf rules -/
section
variable {K : Fg} {H H' : Hp} {Q : VK} {x y v : V} {d e : PyData} {ds es : List PyData} {i j : Int}
theorem r_fdN (h0 : j ≠ 0) (hb : j.natAbs < 2 ^ 8999) (q : Q (.int (i.fdiv j)) H) : rFdU (.int i) (.int j) H Q := ⟨i, j, rfl, rfl, ⟨h0, Nat.lt_trans (PySem.Flt.log2_lt_of (by decide) hb) (by decide)⟩, q⟩
theorem r_fdW (h0 : 0 < j) (hb : j.natAbs < 2 ^ 8999) (q : Q (.int (i / j)) H) : rFdU (.int i) (.int j) H Q := r_fdN (by omega) hb (by rw [Int.fdiv_eq_ediv_of_nonneg i (by omega)]; exact q)
theorem r_modP (h0 : 0 < j) (q : Q (.int (i % j)) H) : rModU (.int i) (.int j) H Q := .inl ⟨i, j, rfl, rfl, h0, q⟩
theorem r_modN (h0 : j ≠ 0) (q : Q (.int (i.fmod j)) H) : rModU (.int i) (.int j) H Q := .inr ⟨i, j, rfl, rfl, h0, q⟩
theorem r_addI (q : Q (.int (i + j)) H) : rAddU K (.int i) (.int j) H Q := .inl ⟨i, j, rfl, rfl, q⟩
theorem r_mulI {a b : Nat} (ha : i.natAbs < 2 ^ a) (hb : j.natAbs < 2 ^ b) (h : a + b ≤ 900000) (q : Q (.int (i * j)) H) : rMulU K (.int i) (.int j) H Q :=
  .inl ⟨i, j, rfl, rfl, wide_mul (a := a + 1) (b := b + 1) (Nat.lt_of_lt_of_le ha (Nat.pow_le_pow_right (by decide) (by omega))) (Nat.lt_of_lt_of_le hb (Nat.pow_le_pow_right (by decide) (by omega))) (by omega) (by omega) (by omega), q⟩
theorem r_mulR (hj : -(2 ^ 64) < j ∧ j < 2 ^ 64) (q : Q (.int (i * j)) H) : rMulU K (.int i) (.int j) H Q := .inr (.inl ⟨i, j, rfl, rfl, .inr hj, q⟩)
theorem r_mulL (hj : -(2 ^ 64) < i ∧ i < 2 ^ 64) (q : Q (.int (i * j)) H) : rMulU K (.int i) (.int j) H Q := .inr (.inl ⟨i, j, rfl, rfl, .inl hj, q⟩)
theorem r_gcd (q : Q (.int ((Nat.gcd i.natAbs j.natAbs : Nat) : Int)) H) : rGcd [.int i, .int j] H Q := ⟨i, j, rfl, q⟩
theorem r_eqS (h : scal x y = true) (q : Q (.bl (decide (x = y))) H) : rEqU K x y H Q := .inl ⟨h, q⟩
theorem r_eqI (q : Q (.bl (decide (i = j))) H) : rEqU K (.int i) (.int j) H Q := .inl ⟨rfl, by
  have e : decide (V.int i = V.int j) = decide (i = j) := by simp
  rw [e]; exact q⟩
theorem r_neB {a b : Bool} (q : Q (.bl (!decide (a = b))) H) : rNeU K (.bl a) (.bl b) H Q := .inl ⟨rfl, by
  have e : decide (V.bl a = V.bl b) = decide (a = b) := by simp
  rw [e]; exact q⟩
theorem r_eqB {a b : Bool} (q : Q (.bl (decide (a = b))) H) : rEqU K (.bl a) (.bl b) H Q := .inl ⟨rfl, by
  have e : decide (V.bl a = V.bl b) = decide (a = b) := by simp
  rw [e]; exact q⟩
theorem r_neI (q : Q (.bl (!decide (i = j))) H) : rNeU K (.int i) (.int j) H Q := .inl ⟨rfl, by
  have e : decide (V.int i = V.int j) = decide (i = j) := by simp
  rw [e]; exact q⟩
end

/-! ### calls of built-ins, by names -/
section
variable {X : Cx} {K : Fg} {Q : VK} {H : Hp} {i j : Int} {d : PyData} {ds : List PyData} {x : V}
def rIntU : List V → Hp → VK → Prop := fun xs H Q => (∃ i, xs = [.int i] ∧ Q (.int i) H) ∨ ∃ k, xs = [.bl k] ∧ Q (.int (if k then 1 else 0)) H
theorem call_intU : CallR X (.type "int") rIntU := call_int1
theorem r_int (q : Q (.int i) H) : rIntU [.int i] H Q := .inl ⟨i, rfl, q⟩
def rAbsU : List V → Hp → VK → Prop := fun xs H Q => ∃ i, xs = [.int i] ∧ Q (.int (if i < 0 then -i else i)) H
theorem call_absU : CallR X (.builtin "abs") rAbsU := call_abs
theorem r_abs (q : Q (.int (i.natAbs : Int)) H) : rAbsU [.int i] H Q := ⟨i, rfl, by
  have e : (if i < 0 then -i else i) = (i.natAbs : Int) := by split <;> omega
  rw [e]; exact q⟩
def rMaxU : List V → Hp → VK → Prop := fun xs H Q => ∃ i j, xs = [.int i, .int j] ∧ Q (.int (if j > i then j else i)) H
theorem call_max2U (hc : X.calm = true) : CallR X (.builtin "max") rMaxU := call_max2 hc
theorem r_max (q : Q (.int (max i j)) H) : rMaxU [.int i, .int j] H Q := ⟨i, j, rfl, by
  have e : (if j > i then j else i) = max i j := by split <;> omega
  rw [e]; exact q⟩
def rMinU : List V → Hp → VK → Prop := fun xs H Q => ∃ i j, xs = [.int i, .int j] ∧ Q (.int (if j < i then j else i)) H
theorem call_min2U (hc : X.calm = true) : CallR X (.builtin "min") rMinU := call_min2 hc
theorem r_min (q : Q (.int (min i j)) H) : rMinU [.int i, .int j] H Q := ⟨i, j, rfl, by
  have e : (if j < i then j else i) = min i j := by split <;> omega
  rw [e]; exact q⟩
def rListU (K : Fg) : List V → Hp → VK → Prop := fun xs H Q => ∃ p ys, xs = [.ref p] ∧ (SqL K H p ys ∨ SqT K H p ys) ∧ ∀ l, H l = none → Q (.ref l) (upd H l (.lst ys))
theorem call_listU : CallR X (.type "list") (rListU X.K) := call_list_of
theorem r_listV {a : Addr} {xs : List V} (h : SqL K H a xs ∨ SqT K H a xs) (q : ∀ p H', Same H H' → H p = none → H' p = some (.lst xs) → Q (.ref p) H') : rListU K [.ref a] H Q :=
  ⟨a, xs, rfl, h, fun l hl => q l _ (same_new hl _) hl upd_same⟩
def rTupU (K : Fg) : List V → Hp → VK → Prop := fun xs H Q => ∃ p ys, xs = [.ref p] ∧ ((SqL K H p ys ∧ ∀ l, H l = none → Q (.ref l) (upd H l (.tup ys))) ∨ (SqT K H p ys ∧ Q (.ref p) H))
theorem call_tupleU : CallR X (.type "tuple") (rTupU X.K) := call_tuple_of
theorem r_tupL {a : Addr} {xs : List V} (h : SqL K H a xs) (hd : DpAll K H xs ds) (q : ∀ p H', Same H H' → H p = none → Dp K H' (.ref p) (.tuple ds) → Q (.ref p) H') : rTupU K [.ref a] H Q :=
  ⟨a, xs, rfl, .inl ⟨h, fun l hl => q l _ (same_new hl _) hl (.tup (SqT.of upd_same) (dpsUp (same_new hl _) hd))⟩⟩
theorem r_lenL {a : Addr} {xs : List V} (h : SqL K H a xs) (q : Q (.int (xs.length : Int)) H) : rLenU K [.ref a] H Q := .inl ⟨a, xs, rfl, .inl h, q⟩
theorem r_lenT (h : Dp K H x (.tuple ds)) (q : Q (.int (ds.length : Int)) H) : rLenU K [x] H Q := by
  obtain ⟨a, xs, rfl, h1, h2⟩ := dp_tup h
  refine .inl ⟨a, xs, rfl, .inr h1, ?_⟩
  rw [dps_len h2]; exact q
theorem r_lenS {z : Str} (h : z.length ≤ sizeLine) (q : Q (.int (z.length : Int)) H) : rLenU K [.str z] H Q := .inr ⟨z, rfl, h, q⟩
/-- the class of data -/
def tnD : PyData → String
  | .none => "NoneType"
  | .bool _ => "bool"
  | .int _ => "int"
  | .str _ => "str"
  | .list _ => "list"
  | .tuple _ => "tuple"
  | .dict _ => "dict"
theorem dp_ty (h : Dp K H x d) : TyX K H x (.type (tnD d)) := by
  cases h with
  | non => exact .base .non
  | bl b => exact .base (.bl b)
  | int i => exact .base (.int i)
  | str z => exact .base (.str z)
  | lst h1 h2 =>
    rcases h1 with (h | ⟨o, h⟩) | ⟨o, its, n, h, hc, _⟩
    · exact .base (.lst h)
    · exact .base (.frz h)
    · exact .kList h hc
  | tup h1 h2 =>
    rcases h1 with (h | ⟨o, h⟩) | ⟨o, its, n, h, hc, _⟩
    · exact .base (.tup h)
    · exact .fTuple h
    · exact .kTuple h hc
theorem r_isi {c : String} {b : Bool} (h : Dp K H x d) (e : kitB (tnD d) c = some b) (q : Q (.bl b) H) : rIsi K [x, .ty c] H Q :=
  ⟨x, .ty c, _, _, b, rfl, .ty c, dp_ty h, kit_ty e, q⟩
end
/-! ### loops -/
section
variable {K : Fg} {σ : L2.St} {H : Hp} {D : Ends} {g : TG} {tb : TS} {te : TE}
theorem r_forT {i0 : Nat} {v : V} {ds : List PyData} (hx : σ[i0]? = some (some v)) (h : Dp K H v (.tuple ds)) (Pv : Nat → L2.St → Hp → Prop) (h0 : Pv 0 σ H) (hk : ∀ i σ' H', i ≤ ds.length → Pv i σ' H' → TSame K H H')
    (hs : ∀ i d x σ' H', ds[i]? = some d → Dp K H x d → Pv i σ' H' → g x σ' H' fun σ2 H2 => tb { D with nx := Pv (i + 1), ct := Pv (i + 1), bk := D.nx } σ2 H2) (hd : ∀ σ' H', Pv ds.length σ' H' → D.nx σ' H') : tFor (iSeqU K (tVar i0)) g tb D σ H := by
  obtain ⟨a, xs, rfl, h1, h2⟩ := dp_tup h
  have hl := dps_len h2
  refine .inr ⟨_, hx, a, rfl, ⟨xs, h1⟩, for_tup (xs := xs) Pv h0 (fun i σ' H' hi p => hk i σ' H' (by omega) p _ _ h1) (fun i x σ' H' hi p => ?_) (fun σ' H' p => hd σ' H' (hl ▸ p))⟩
  obtain ⟨d, e, hd⟩ := dps_getV h2 hi
  exact hs i d x σ' H' e hd p
/-- over a list of values that stays -/
theorem r_forL {i0 : Nat} {a : Addr} {xs : List V} (hx : σ[i0]? = some (some (.ref a))) (h : SqL K H a xs) (Pv : Nat → L2.St → Hp → Prop) (h0 : Pv 0 σ H) (hk : ∀ i σ' H', i ≤ xs.length → Pv i σ' H' → SqL K H' a xs)
    (hs : ∀ i x σ' H', xs[i]? = some x → Pv i σ' H' → g x σ' H' fun σ2 H2 => tb { D with nx := Pv (i + 1), ct := Pv (i + 1), bk := D.nx } σ2 H2) (hd : ∀ σ' H', Pv xs.length σ' H' → D.nx σ' H') : tFor (iSeqU K (tVar i0)) g tb D σ H :=
  .inl ⟨_, hx, a, rfl, ⟨xs, h⟩, for_list (xs := xs) Pv h0 hk hs hd⟩
/-- over a list that is made or told on the way: what it is, R -/
theorem r_forLe (R : Addr → List V → Hp → Prop) (hev : ∀ Q : VK, (∀ a xs H1, R a xs H1 → SqL K H1 a xs → Q (.ref a) H1) → te σ H Q)
    (hb : ∀ a xs H1, R a xs H1 → SqL K H1 a xs → ∃ Pv : Nat → L2.St → Hp → Prop, Pv 0 σ H1 ∧ (∀ i σ' H', i ≤ xs.length → Pv i σ' H' → SqL K H' a xs) ∧
      (∀ i x σ' H', xs[i]? = some x → Pv i σ' H' → g x σ' H' fun σ2 H2 => tb { D with nx := Pv (i + 1), ct := Pv (i + 1), bk := D.nx } σ2 H2) ∧ (∀ σ' H', Pv xs.length σ' H' → D.nx σ' H')) : tFor (iSeqU K te) g tb D σ H := by
  refine .inl (hev _ fun a xs H1 r hs => ⟨a, rfl, ⟨xs, hs⟩, ?_⟩)
  obtain ⟨Pv, h0, hk, hs, hd⟩ := hb a xs H1 r hs
  exact for_list (xs := xs) Pv h0 hk hs hd
theorem r_forTe (R : Addr → List V → Hp → Prop) (hev : ∀ Q : VK, (∀ a xs H1, R a xs H1 → SqT K H1 a xs → Q (.ref a) H1) → te σ H Q)
    (hb : ∀ a xs H1, R a xs H1 → SqT K H1 a xs → ∃ Pv : Nat → L2.St → Hp → Prop, Pv 0 σ H1 ∧ (∀ i σ' H', i ≤ xs.length → Pv i σ' H' → SqT K H' a xs) ∧
      (∀ i x σ' H', xs[i]? = some x → Pv i σ' H' → g x σ' H' fun σ2 H2 => tb { D with nx := Pv (i + 1), ct := Pv (i + 1), bk := D.nx } σ2 H2) ∧ (∀ σ' H', Pv xs.length σ' H' → D.nx σ' H')) : tFor (iSeqU K te) g tb D σ H := by
  refine .inr (hev _ fun a xs H1 r hs => ⟨a, rfl, ⟨xs, hs⟩, ?_⟩)
  obtain ⟨Pv, h0, hk, hs, hd⟩ := hb a xs H1 r hs
  exact for_tup (xs := xs) Pv h0 hk hs hd
theorem r_forR {ta : TA} {n : Int} (hev : ∀ Q : List V → Hp → Prop, Q [.int n] H → ta σ H Q) (hn : n < 2 ^ 60) (h0' : -(2 ^ 60) < n) (Pv : Nat → L2.St → Hp → Prop) (h0 : Pv 0 σ H)
    (hs : ∀ i σ' H', i < n.toNat → Pv i σ' H' → g (.int (i : Int)) σ' H' fun σ2 H2 => tb { D with nx := Pv (i + 1), ct := Pv (i + 1), bk := D.nx } σ2 H2) (hd : ∀ σ' H', Pv n.toNat σ' H' → D.nx σ' H') : tFor (iRng1 ta) g tb D σ H := by
  refine hev _ ⟨n, rfl, by omega, by omega, for_range (lo := 0) (n := n.toNat) Pv h0 (fun i σ' H' hi p => ?_) hd⟩
  have e0 : (0 : Int) + (i : Int) = (i : Int) := Int.zero_add _
  rw [e0]
  exact hs i σ' H' hi p
/-- a comprehension: behind turn i the list at p holds acc and Pv stands -/
def LcNx (Pv : Addr → Nat → List V → Hp → Prop) (p : Addr) (n i : Nat) : Hp → Prop := fun H' => i + 1 ≤ n ∧ ∃ acc, H' p = some (.lst acc) ∧ Pv p (i + 1) acc H'
theorem lc_put {Pv : Addr → Nat → List V → Hp → Prop} {p : Addr} {n i : Nat} {acc : List V} {y : V} {H4 : Hp} (hi : i < n) (h : H4 p = some (.lst acc)) (hl : acc.length < 1000000)
    (hP : ∀ H5, (∀ b o, b ≠ p → H4 b = some o → H5 b = some o) → H5 p = some (.lst (acc ++ [y])) → Pv p (i + 1) (acc ++ [y]) H5) :
    ∃ acc, H4 p = some (.lst acc) ∧ acc.length < sizeLine ∧ LcNx Pv p n i (upd H4 p (.lst (acc ++ [y]))) :=
  ⟨acc, h, Nat.lt_trans hl (by decide), by omega, _, upd_same, hP _ (fun b o hb e => by rw [upd_ne hb]; exact e) upd_same⟩
theorem lc_not {Pv : Addr → Nat → List V → Hp → Prop} {p : Addr} {n i : Nat} {acc : List V} {H4 : Hp} (hi : i < n) (h : H4 p = some (.lst acc)) (hP : Pv p (i + 1) acc H4) : LcNx Pv p n i H4 := ⟨by omega, acc, h, hP⟩
abbrev LcTurn (g : TG) (tt : TT) (te : TE) (vs : List Nat) (σ : L2.St) (p : Addr) (Nx : Hp → Prop) (x : V) (H' : Hp) : Prop :=
  g x (wipe σ vs) H' fun σ2 H2 => wipe σ2 vs = wipe σ vs ∧ tt σ2 H2 fun b H3 => if b = true then te σ2 H3 fun y H4 => ∃ acc, H4 p = some (.lst acc) ∧ acc.length < sizeLine ∧ Nx (upd H4 p (.lst (acc ++ [y]))) else Nx H3
theorem r_lcR {ta : TA} {n : Int} {vs : List Nat} {tt : TT} {Q : VK} (hev : ∀ Q : List V → Hp → Prop, Q [.int n] H → ta σ H Q) (hn : n < 100000) (h0' : -100000 < n) (Pv : Addr → Nat → List V → Hp → Prop)
    (h0 : ∀ p H', Same H H' → H p = none → H' p = some (.lst []) → Pv p 0 [] H')
    (hs : ∀ p i acc H', i < n.toNat → H p = none → H' p = some (.lst acc) → Pv p i acc H' → LcTurn g tt te vs σ p (LcNx Pv p n.toNat i) (.int (i : Int)) H')
    (hd : ∀ p acc H', H p = none → H' p = some (.lst acc) → Pv p n.toNat acc H' → Q (.ref p) H') : tLc (iRng1 ta) g tt te vs σ H Q := by
  refine hev _ ⟨n, rfl, by omega, by omega, fun p hp => ?_⟩
  refine ⟨fun i m H' => m = n.toNat - i ∧ i ≤ n.toNat ∧ ∃ acc, H' p = some (.lst acc) ∧ Pv p i acc H', ⟨n.toNat, by simp, Nat.zero_le _, [], upd_same, h0 p _ (same_new hp _) hp upd_same⟩, ?_⟩
  rintro i m H' ⟨rfl, hi, acc, hac, hP⟩
  by_cases hlt : i < n.toNat
  · refine .inr ⟨hlt, LcNx Pv p n.toNat i, fun H'' hN => ⟨n.toNat - (i + 1), by omega, rfl, hN⟩, fun x H'' y => ?_⟩
    obtain ⟨e, y⟩ := y
    subst e
    have e0 : (0 : Int) + (i : Int) = (i : Int) := Int.zero_add _
    rw [e0] at y
    subst y
    exact hs p i acc H'' hlt hp hac hP
  · have e : i = n.toNat := by omega
    subst e
    exact .inl ⟨Nat.le_refl _, hd p acc H' hp hac hP⟩
/-- .. over a list of values -/
theorem r_lcLe {vs : List Nat} {tt : TT} {Q : VK} {tl : TE} (R : Addr → List V → Hp → Prop) (hev : ∀ Q : VK, (∀ a xs H1, R a xs H1 → SqL K H1 a xs → Q (.ref a) H1) → tl σ H Q)
    (hb : ∀ a xs H1, R a xs H1 → SqL K H1 a xs → ∃ Pv : Addr → Nat → List V → Hp → Prop, (∀ p H', Same H1 H' → H1 p = none → H' p = some (.lst []) → Pv p 0 [] H') ∧ (∀ p i acc H', i ≤ xs.length → H1 p = none → H' p = some (.lst acc) → Pv p i acc H' → SqL K H' a xs) ∧
      (∀ p i x acc H', xs[i]? = some x → H1 p = none → H' p = some (.lst acc) → Pv p i acc H' → LcTurn g tt te vs σ p (LcNx Pv p xs.length i) x H') ∧
      (∀ p acc H', H1 p = none → H' p = some (.lst acc) → Pv p xs.length acc H' → Q (.ref p) H')) : tLc (iSeqU K tl) g tt te vs σ H Q := by
  refine .inl (hev _ fun a xs H1 r hsq => ⟨a, rfl, ⟨xs, hsq⟩, ?_⟩)
  obtain ⟨Pv, h0, hk, hs, hd⟩ := hb a xs H1 r hsq
  intro p hp
  refine lc_list (xs := xs) (fun i H' => i ≤ xs.length ∧ ∃ acc, H' p = some (.lst acc) ∧ Pv p i acc H') ⟨Nat.zero_le _, [], upd_same, h0 p _ (same_new hp _) hp upd_same⟩ (fun i H' hi ⟨_, acc, e, hP⟩ => hk p i acc H' hi hp e hP) (fun i x H' hi ⟨_, acc, e, hP⟩ => ?_) (fun H' ⟨_, acc, e, hP⟩ => hd p acc H' hp e hP)
  exact hs p i x acc H' hi hp e hP
theorem r_lcL {i0 : Nat} {a : Addr} {xs : List V} {vs : List Nat} {tt : TT} {Q : VK} (hx : σ[i0]? = some (some (.ref a))) (h : SqL K H a xs) (Pv : Addr → Nat → List V → Hp → Prop) (h0 : ∀ p H', Same H H' → H p = none → H' p = some (.lst []) → Pv p 0 [] H')
    (hk : ∀ p i acc H', i ≤ xs.length → H p = none → H' p = some (.lst acc) → Pv p i acc H' → SqL K H' a xs)
    (hs : ∀ p i x acc H', xs[i]? = some x → H p = none → H' p = some (.lst acc) → Pv p i acc H' → LcTurn g tt te vs σ p (LcNx Pv p xs.length i) x H')
    (hd : ∀ p acc H', H p = none → H' p = some (.lst acc) → Pv p xs.length acc H' → Q (.ref p) H') : tLc (iSeqU K (tVar i0)) g tt te vs σ H Q :=
  r_lcLe (fun b ys H1 => b = a ∧ ys = xs ∧ H1 = H) (fun Q q => ⟨_, hx, q a xs H ⟨rfl, rfl, rfl⟩ h⟩) fun b ys H1 ⟨e1, e2, e3⟩ _ => by
    subst e1; subst e2; subst e3
    exact ⟨Pv, h0, hk, hs, hd⟩
end

/-! ### the same rules, the written part told by its name -/
section
variable {X : Cx} {K : Fg}
theorem ixK (hK : X.K = K := by rfl) : IxR X (rIx K) := hK ▸ ix_seq
theorem op_addK (hK : X.K = K := by rfl) : OpR X (binaryOp .Add) (rAddU K) := hK ▸ op_addU
theorem op_mulK (hK : X.K = K := by rfl) : OpR X (binaryOp .Mult) (rMulU K) := hK ▸ op_mulU
theorem op_eqK (hu : X.A.units + 64 < cLine) (hK : X.K = K := by rfl) : OpR X (compareOp .Eq) (rEqU K) := hK ▸ op_eqU hu
theorem op_neK (hu : X.A.units + 64 < cLine) (hK : X.K = K := by rfl) : OpR X (compareOp .NotEq) (rNeU K) := hK ▸ op_neU hu
theorem op_inK (hu : X.A.units + 65 < cLine) (hK : X.K = K := by rfl) : OpR X (compareOp .In) (rInU K) := hK ▸ op_inU hu
theorem op_ninK (hu : X.A.units + 65 < cLine) (hK : X.K = K := by rfl) : OpR X (compareOp .NotIn) (rNinU K) := hK ▸ op_ninU hu
theorem sl_K (hK : X.K = K := by rfl) : SlR X (rSlU K) := hK ▸ sl_seqU
theorem call_lenK (hK : X.K = K := by rfl) : CallR X (.builtin "len") (rLenU K) := hK ▸ call_lenU
theorem call_listK (hK : X.K = K := by rfl) : CallR X (.type "list") (rListU K) := hK ▸ call_listU
theorem call_tupleK (hK : X.K = K := by rfl) : CallR X (.type "tuple") (rTupU K) := hK ▸ call_tupleU
theorem call_isiK1 (hK : X.K = K := by rfl) : CallR X (.builtin "isinstance") (rIsi K) := hK ▸ call_isi
theorem cr_sumK (hc : X.calm = true) (hK : X.K = K := by rfl) : CallR X (.builtin "sum") (rSum K) := hK ▸ cr_sum hc
theorem cr_maxK (hc : X.calm = true) (hK : X.K = K := by rfl) : CallR X (.builtin "max") (rMax K) := hK ▸ cr_max hc
theorem cr_minK (hc : X.calm = true) (hK : X.K = K := by rfl) : CallR X (.builtin "min") (rMin K) := hK ▸ cr_min hc
theorem cr_anyK (hc : X.calm = true) (hK : X.K = K := by rfl) : CallR X (.builtin "any") (rAny K) := hK ▸ cr_any hc
theorem cr_allK (hc : X.calm = true) (hK : X.K = K := by rfl) : CallR X (.builtin "all") (rAll K) := hK ▸ cr_all hc
theorem pi_listK {tg l : Expr} {te : TE} (h : PE X l te) (hK : X.K = K := by rfl) : PI X tg l (iSeqU K te) := hK ▸ pi_listU h
def tTr (K : Fg) (ta : TE) : TT := fun σ H Q => ta σ H fun x H' => ∃ k, TruV K x H' k ∧ Q k H'
theorem pt_truthK {a : Expr} {ta : TE} (ha : PE X a ta) (he : ∀ whole, isTrue a X.env whole = (do let v ← whole; standAt a.pos; holding [v] (truthy v))) (hK : X.K = K := by rfl) : PT X a (tTr K ta) := hK ▸ pt_truth ha he
theorem pg_tupK {es : List Expr} {k : Nat} {t : TGs} {n : Nat} {pos : Pos} (hc : X.calm = true) (h : PGs X es t)
    (hn : (assignEach es X.env).length = n := by rfl) (hst : (assignEach es X.env).findIdx? (·.1) = none := by rfl) (hK : X.K = K := by rfl) : PG X (.Tuple es k pos) (gTup K n t) := hK ▸ pg_tup hc h hn hst
theorem pe_bm0K {o : Expr} {to : TE} {name : Str} {apos cpos : Pos} {T id : String} {r : V → List V → Hp → VK → Prop} (pa : PlainAttrs T) (slot : Slot T name id) (hty : typeOf (.builtin id) = pure (.type "method_descriptor")) (hm : MtR X id r) (ho : PE X o to)
    (hbase : attributeBase o name X.env (eval o X.env) = eval o X.env := by rfl) (hline : (apos.endLine == cpos.line) = true := by rfl) (hK : X.K = K := by rfl) : PE X (.Call (.Attribute o name apos) [] [] cpos) (tBM0 K T r to) := hK ▸ pe_bm0 pa slot hty hm ho hbase hline
theorem pe_bmK {o e : Expr} {es : List Expr} {to : TE} {t : TA} {name : Str} {apos cpos : Pos} {T id : String} {r : V → List V → Hp → VK → Prop} (pa : PlainAttrs T) (slot : Slot T name id) (hty : typeOf (.builtin id) = pure (.type "method_descriptor")) (hm : MtR X id r) (ho : PE X o to) (ha : PA X (e :: es) t)
    (hbase : attributeBase o name X.env (eval o X.env) = eval o X.env := by rfl)
    (hfew : ((backTo cpos (starEach (e :: es) X.env)).all (fun x => !x.1) && (backToKw cpos (keywordEach [] X.env)).all (fun x => x.1.isSome)
      && decide ((e :: es).length + ([] : List Keyword).length + (if ([] : List Keyword).isEmpty then 0 else 1) < 30)) = true := by rfl)
    (hline : (apos.endLine == cpos.line) = true := by rfl) (hs : starEach (e :: es) X.env = (false, eval e X.env) :: starEach es X.env := by rfl) (hplain : (backTo cpos (starEach es X.env)).any (·.1) = false := by rfl) (hK : X.K = K := by rfl) :
    PE X (.Call (.Attribute o name apos) (e :: es) [] cpos) (tBM K T r to t) := hK ▸ pe_bm pa slot hty hm ho ha hbase hfew hline hs hplain
/-- pop: the last item, or the item at a place -/
def rPopU : V → List V → Hp → VK → Prop := fun x vs H Q => rPop x vs H Q ∨ rPopAt x vs H Q
end
/-! ### lists that change -/
section
variable {K : Fg} {H : Hp} {Q : VK} {l : Addr} {xs : List V} {v : V}
theorem r_tyL (h : SqL K H l xs) : tyV K "list" (.ref l) H := .inl ⟨rfl, _, h⟩
theorem r_append (h : H l = some (.lst xs)) (hz : xs.length < 1000000) (q : ∀ H', (∀ b o, b ≠ l → H b = some o → H' b = some o) → H' l = some (.lst (xs ++ [v])) → Q .non H') : rAppend (.ref l) [v] H Q :=
  ⟨l, xs, v, rfl, rfl, h, Nat.lt_trans hz (by decide), q _ (fun b o hb e => by rw [upd_ne hb]; exact e) upd_same⟩
theorem sq_at {r : Int} {n : Nat} (h0 : 0 ≤ r) (h1 : r < (n : Int)) : seqIndex? r n = some r.toNat := by
  unfold seqIndex?
  have e : (if r < 0 then r + (n : Int) else r) = r := if_neg (by omega)
  simp only [e]
  rw [if_pos]
  rw [Bool.and_eq_true]
  exact ⟨decide_eq_true h0, decide_eq_true h1⟩
theorem r_popAt {r : Int} (h : H l = some (.lst xs)) (h0 : 0 ≤ r) (h1 : r < (xs.length : Int)) (h2 : xs.length < 2 ^ 60) (q : ∀ y H', xs[r.toNat]? = some y → (∀ b o, b ≠ l → H b = some o → H' b = some o) → H' l = some (.lst (xs.eraseIdx r.toNat)) → Q y H') : rPopAt (.ref l) [.int r] H Q := by
  have hr : r.toNat < xs.length := by omega
  exact ⟨l, xs, r, r.toNat, xs[r.toNat], rfl, rfl, h, by omega, by omega, sq_at h0 h1, List.getElem?_eq_getElem hr, q _ _ (List.getElem?_eq_getElem hr) (fun b o hb e => by rw [upd_ne hb]; exact e) upd_same⟩
theorem r_slL {lo hi : Option Int} (h : SqL K H l xs) (q : ∀ p H', Same H H' → H p = none → H' p = some (.lst (cutV xs lo hi)) → Q (.ref p) H') : rSlU K (.ref l) lo hi H Q :=
  .inl ⟨l, xs, rfl, h, fun p hp => q p _ (same_new hp _) hp upd_same⟩
theorem cut_mem {lo hi : Option Int} {x : V} (h : x ∈ cutV xs lo hi) : x ∈ xs := List.mem_of_mem_drop (List.mem_of_mem_take h)
theorem cut_len {lo hi : Option Int} : (cutV xs lo hi).length ≤ xs.length := by
  unfold cutV
  rw [List.length_take, List.length_drop]
  omega
theorem r_part {i : Int} {Q : Option Int → Prop} (q : Q (some i)) : ∃ j, V.int i = .int j ∧ Q (some j) := ⟨i, rfl, q⟩
theorem perm_pop {α : Type} {xs : List α} {i : Nat} {y : α} (h : xs[i]? = some y) : (xs.eraseIdx i ++ [y]).Perm xs := by
  have hi : i < xs.length := (List.getElem?_eq_some_iff.mp h).1
  have e : xs[i] = y := (List.getElem?_eq_some_iff.mp h).2
  have e1 : xs = xs.take i ++ y :: xs.drop (i + 1) := by
    rw [← e, List.getElem_cons_drop, List.take_append_drop]
  have e2 : xs.eraseIdx i = xs.take i ++ xs.drop (i + 1) := List.eraseIdx_eq_take_drop_succ xs i
  rw [e2]
  conv => rhs; rw [e1]
  rw [List.append_assoc]
  exact List.Perm.append_left _ (List.perm_append_singleton _ _)
end

/-- list(range(..)) -/
def nwR (a b : Int) (H : Hp) (Q : VK) : Prop := RgOk a b ∧ ∀ q, H q = none → Q (.ref q) (upd H q (.lst (rgV a b)))
theorem tLstRg_eq {te : L2.St → Hp → (Int → Int → Hp → Prop) → Prop} {σ : L2.St} {H : Hp} {Q : VK} : tLstRg te σ H Q = te σ H fun a b H1 => nwR a b H1 Q := rfl
theorem r_lstR {a b : Int} {H : Hp} {Q : VK} (ha : a.natAbs < 2 ^ 60) (hb : b.natAbs < 2 ^ 24) (ha2 : 0 ≤ a) (q : ∀ p H', Same H H' → H p = none → H' p = some (.lst (rgV a b)) → Q (.ref p) H') : nwR a b H Q :=
  ⟨⟨by omega, by omega, by omega, by omega, by omega⟩, fun p hp => q p _ (same_new hp _) hp upd_same⟩
theorem r_i {n : Int} {C : Int → Prop} (q : C n) : ∃ m, V.int n = .int m ∧ C m := ⟨n, rfl, q⟩
/-! ### tests, whole -/
section
variable {K : Fg} {H : Hp} {A B : Prop} {b : Bool}
theorem t_if {c : Prop} [Decidable c] (h1 : c → A) (h2 : ¬ c → B) : ∃ k, V.bl (decide c) = V.bl k ∧ if k = true then A else B := ⟨_, rfl, r_if h1 h2⟩
theorem t_ifN {c : Prop} [Decidable c] (h1 : ¬ c → A) (h2 : c → B) : ∃ k, V.bl (!decide c) = V.bl k ∧ if k = true then A else B := ⟨_, rfl, r_ifN h1 h2⟩
theorem t_ifB (h1 : b = true → A) (h2 : b = false → B) : ∃ k, V.bl b = V.bl k ∧ if k = true then A else B := ⟨_, rfl, r_ifB h1 h2⟩
theorem t_yes {c : Prop} [Decidable c] (h : c) (q : A) : ∃ k, V.bl (decide c) = V.bl k ∧ if k = true then A else B := t_if (fun _ => q) fun n => absurd h n
theorem t_no {c : Prop} [Decidable c] (h : ¬ c) (q : B) : ∃ k, V.bl (decide c) = V.bl k ∧ if k = true then A else B := t_if (fun n => absurd n h) fun _ => q
theorem t_yesB (q : A) : ∃ k, V.bl true = V.bl k ∧ if k = true then A else B := ⟨_, rfl, by rw [if_pos rfl]; exact q⟩
theorem t_noB (q : B) : ∃ k, V.bl false = V.bl k ∧ if k = true then A else B := ⟨_, rfl, by rw [if_neg (by decide)]; exact q⟩
theorem u_yes (q : A) : ∃ k, TruV K (.bl true) H k ∧ if k = true then A else B := ⟨_, rfl, by rw [if_pos rfl]; exact q⟩
theorem u_no (q : B) : ∃ k, TruV K (.bl false) H k ∧ if k = true then A else B := ⟨_, rfl, by rw [if_neg (by decide)]; exact q⟩
/-- not f(..), f(..) True -/
theorem u_notT (q : B) : ∃ k, TruV K (.bl true) H k ∧ if (!k) = true then A else B := ⟨_, rfl, by rw [if_neg (by decide)]; exact q⟩
theorem u_notF (q : A) : ∃ k, TruV K (.bl false) H k ∧ if (!k) = true then A else B := ⟨_, rfl, by rw [if_pos (by decide)]; exact q⟩
theorem u_ifB (h1 : b = true → A) (h2 : b = false → B) : ∃ k, TruV K (.bl b) H k ∧ if k = true then A else B := ⟨_, rfl, r_ifB h1 h2⟩
theorem u_notB (h1 : b = false → A) (h2 : b = true → B) : ∃ k, TruV K (.bl b) H k ∧ if (!k) = true then A else B := ⟨_, rfl, r_ifNB h1 h2⟩
end

/-! ### unpacking -/
section
variable {K : Fg} {H : Hp} {x : V}
theorem r_un2 {d1 d2 : PyData} {C : V → V → Prop} (h : Dp K H x (.tuple [d1, d2])) (q : ∀ u v, Dp K H u d1 → Dp K H v d2 → C u v) :
    ∃ a xs, x = V.ref a ∧ SqT K H a xs ∧ xs.length = 2 ∧ ∃ v r, xs = v :: r ∧ ∃ v1 r1, r = v1 :: r1 ∧ r1 = [] ∧ C v v1 := by
  obtain ⟨a, xs, rfl, h1, h2⟩ := dp_tup h
  cases h2 with
  | cons k1 k2 => cases k2 with
    | cons k3 k4 =>
      cases k4
      exact ⟨a, _, rfl, h1, rfl, _, _, rfl, _, _, rfl, rfl, q _ _ k1 k3⟩
theorem r_un3 {d1 d2 d3 : PyData} {C : V → V → V → Prop} (h : Dp K H x (.tuple [d1, d2, d3])) (q : ∀ u v w, Dp K H u d1 → Dp K H v d2 → Dp K H w d3 → C u v w) :
    ∃ a xs, x = V.ref a ∧ SqT K H a xs ∧ xs.length = 3 ∧ ∃ v r, xs = v :: r ∧ ∃ v1 r1, r = v1 :: r1 ∧ ∃ v2 r2, r1 = v2 :: r2 ∧ r2 = [] ∧ C v v1 v2 := by
  obtain ⟨a, xs, rfl, h1, h2⟩ := dp_tup h
  cases h2 with
  | cons k1 k2 => cases k2 with
    | cons k3 k4 => cases k4 with
      | cons k5 k6 =>
        cases k6
        exact ⟨a, _, rfl, h1, rfl, _, _, rfl, _, _, rfl, _, _, rfl, rfl, q _ _ _ k1 k3 k5⟩
/-- a pair of values (of any kind) -/
theorem r_un2V {a : Addr} {u v : V} {C : V → V → Prop} (h : SqT K H a [u, v]) (q : C u v) :
    ∃ b xs, V.ref a = V.ref b ∧ SqT K H b xs ∧ xs.length = 2 ∧ ∃ v r, xs = v :: r ∧ ∃ v1 r1, r = v1 :: r1 ∧ r1 = [] ∧ C v v1 :=
  ⟨a, _, rfl, h, rfl, _, _, rfl, _, _, rfl, rfl, q⟩
end

/-! ### ways that meet -/
def tCutU (t u : TS) : TS := fun D σ H => ∃ J : L2.St → Hp → Prop, t { D with nx := J } σ H ∧ ∀ σ' H', J σ' H' → u D σ' H'
theorem ps_cutU {X : Cx} {st : Stmt} {rest : List Stmt} {t u : TS} (h1 : PS X st t) (h2 : PSs X rest u) : PSs X (st :: rest) (tCutU t u) := by
  refine ⟨fun pins s σ H D I h => ?_⟩
  obtain ⟨J, h, hJ⟩ := h
  refine wpAny_execs_cons (thn (h1.run pins s σ H { D with nx := J } I h) fun f s1 q => ?_)
  cases f with
  | next =>
    obtain ⟨σ', H', I', q⟩ := q
    exact h2.run pins s1 σ' H' D I' (hJ σ' H' q)
  | ret v => exact q
  | brk => exact q
  | cont => exact q
theorem r_cut {t u : TS} {D : Ends} {σ : L2.St} {H : Hp} (J : L2.St → Hp → Prop) (h : t { D with nx := J } σ H) (hJ : ∀ σ' H', J σ' H' → u D σ' H') : tCutU t u D σ H := ⟨J, h, hJ⟩
theorem dps_perm {K : Fg} {H : Hp} {us vs : List V} (h : us.Perm vs) : ∀ {ds : List PyData}, DpAll K H vs ds → ∃ es, es.Perm ds ∧ DpAll K H us es := by
  induction h with
  | nil => intro ds hd; cases hd; exact ⟨[], .nil, .nil⟩
  | cons x _ ih =>
    intro ds hd
    cases hd with
    | cons h1 h2 =>
      obtain ⟨es, p, q⟩ := ih h2
      exact ⟨_, p.cons _, .cons h1 q⟩
  | swap x y l =>
    intro ds hd
    cases hd with
    | cons h1 h2 => cases h2 with
      | cons h3 h4 => exact ⟨_, .swap _ _ _, .cons h3 (.cons h1 h4)⟩
  | trans _ _ h1 h2 =>
    intro ds hd
    obtain ⟨es, p, q⟩ := h2 hd
    obtain ⟨fs, p2, q2⟩ := h1 q
    exact ⟨fs, p2.trans p, q2⟩
theorem ixN_of {n : Nat} {k : Int} (h0 : 0 ≤ k) (h1 : k < (n : Int)) : ixN n k = some k.toNat := by
  unfold ixN
  rw [if_pos h0, if_pos h1]
theorem perm_map_of {α β : Type} (f : α → β) {es : List β} {xs : List α} (h : es.Perm (xs.map f)) : ∃ ys : List α, ys.Perm xs ∧ es = ys.map f := by
  have key : ∀ {as bs : List β}, as.Perm bs → ∀ xs : List α, bs = xs.map f → ∃ ys : List α, ys.Perm xs ∧ as = ys.map f := by
    intro as bs h
    induction h with
    | nil =>
      intro xs e
      have : xs = [] := by cases xs with | nil => rfl | cons _ _ => cases e
      subst this
      exact ⟨[], .nil, rfl⟩
    | cons x _ ih =>
      intro xs e
      cases xs with
      | nil => cases e
      | cons a xs =>
        injection e with e1 e2
        obtain ⟨ys, p, q⟩ := ih xs e2
        exact ⟨a :: ys, p.cons a, by rw [e1, q]; rfl⟩
    | swap x y l =>
      intro xs e
      cases xs with
      | nil => cases e
      | cons a xs =>
        cases xs with
        | nil => injection e with e1 e2; cases e2
        | cons b xs =>
          injection e with e1 e2
          injection e2 with e2 e3
          exact ⟨b :: a :: xs, .swap _ _ _, by rw [e1, e2, e3]; rfl⟩
    | trans _ _ h1 h2 =>
      intro xs e
      obtain ⟨ys, p, q⟩ := h2 xs e
      obtain ⟨zs, p2, q2⟩ := h1 ys q
      exact ⟨zs, p2.trans p, q2⟩
  exact key h xs rfl
theorem r_tupV {K : Fg} {H : Hp} {Q : VK} {vs : List V} (q : ∀ p H', Same H H' → H p = none → SqT K H' p vs → Q (.ref p) H') (hn : Nat.ble vs.length 100000 = true := by rfl) : nwT vs H Q :=
  ⟨Nat.le_trans (Nat.le_of_ble_eq_true hn) (by decide), fun p hp => q p _ (same_new hp _) hp (SqT.of upd_same)⟩

/-! steps -/
local macro_rules | `(tactic| walk_at "nz") => `(tactic| try simp only [cxOf, Cx.nox, Cx.wish, tSeq, tNext, tAsg, tRet, tRetN, tDrop, tIfS, tIf, tBreak, tCont, tTest, tB, tOp, tUn, tCons, tNil, tTup_eq, tLst_eq, tC, tVar, gName, gTup, gSub, tCB, tCall, tAnd, tOr, tNot, tAndV, tOrV, tNotV, tPar, tSl, tPart, tNoPart, tBM, tBM0, tAug, ipI, iSeqU, iList, iTup, gCons, gNil, tYes, tChain, L2.start, List.set_cons_zero, List.set_cons_succ, List.getElem?_cons_zero, List.getElem?_cons_succ, Option.some.injEq, exists_eq_left', List.map_cons, List.map_nil, List.length_cons, List.length_nil, List.replicate_succ, List.replicate_zero, Nat.zero_add, Nat.reduceAdd, Nat.reduceSub, List.cons_append, List.nil_append, wipe, tTr, ↓reduceIte, true_and, V.bl.injEq, Bool.false_eq_true, tLstRg_eq, tRg1, tRg2, List.append_nil])
local macro_rules | `(tactic| walk_at "fd") => `(tactic| first
  | assumption
  | exact .int _
  | exact .bl _
  | exact .str _
  | exact .non
  | (refine dpUp (by assumption) ?_; walk_at "fd"))
local macro_rules | `(tactic| walk_at "fds") => `(tactic| first
  | assumption
  | exact .nil
  | exact .cons (by walk_at "fd") (by walk_at "fds")
  | (refine dpsUp (by assumption) ?_; walk_at "fds"))
local macro_rules | `(tactic| walk_at "s1") => `(tactic| first
  | (with_reducible refine r_var ?_ ?_; rfl)
  | with_reducible refine r_bl ?_
  | with_reducible refine r_I0 ?_
  | with_reducible refine r_U ?_
  | (with_reducible refine r_ixTi (by walk_at "fd") (by rfl) ?_)
  | (with_reducible refine r_ixT (by walk_at "fd") (by rfl) ?_)
  | (with_reducible refine r_tru ?_))
local macro_rules | `(tactic| walk_at "ev") => `(tactic| (intro Q q; walk_at "nz"; exact q))

/-! ### fractions: the mathematics -/
abbrev Fr := Int × Int
def fr (p : Fr) : PyData := .tuple [.int p.1, .int p.2]
def gc (n d : Int) : Int := (Nat.gcd n.natAbs d.natAbs : Nat)
def low (n d : Int) : Fr := if d < 0 then (n.fdiv (-gc n d), d.fdiv (-gc n d)) else (n / gc n d, d / gc n d)
theorem gc_pos {n d : Int} (h : d ≠ 0) : 0 < gc n d := by
  unfold gc
  have : 0 < Nat.gcd n.natAbs d.natAbs := Nat.gcd_pos_of_pos_right _ (by omega)
  omega
theorem gc_le {n d : Int} (h : d ≠ 0) : (gc n d).natAbs ≤ d.natAbs := by
  unfold gc
  have : Nat.gcd n.natAbs d.natAbs ≤ d.natAbs := Nat.le_of_dvd (by omega) (Nat.gcd_dvd_right _ _)
  omega
theorem gc_dl (n d : Int) : gc n d ∣ n := by
  unfold gc
  exact Int.ofNat_dvd_left.mpr (Nat.gcd_dvd_left _ _)
theorem gc_dr (n d : Int) : gc n d ∣ d := by
  unfold gc
  exact Int.ofNat_dvd_left.mpr (Nat.gcd_dvd_right _ _)
/-- in lowest terms, the denominator above 0 -/
def Red (p : Fr) : Prop := 0 < p.2 ∧ Nat.gcd p.1.natAbs p.2.natAbs = 1
/-- what the parts of low are: n = k * a, d = k * b -/
theorem low_parts {n d : Int} (hd : d ≠ 0) : ∃ k : Int, k ≠ 0 ∧ k.natAbs = Nat.gcd n.natAbs d.natAbs ∧ n = k * (low n d).1 ∧ d = k * (low n d).2 ∧ 0 < (low n d).2 := by
  have g0 := gc_pos (n := n) hd
  obtain ⟨a, ha⟩ := gc_dl n d
  obtain ⟨b, hb⟩ := gc_dr n d
  have hk : (gc n d).natAbs = Nat.gcd n.natAbs d.natAbs := by unfold gc; exact Int.natAbs_natCast _
  unfold low
  by_cases c : d < 0
  · rw [if_pos c]
    have e1 : n.fdiv (-gc n d) = -a := by
      have : n = (-gc n d) * (-a) := by rw [Int.neg_mul_neg]; exact ha
      generalize hg : -gc n d = g at *
      rw [this, Int.mul_fdiv_cancel_left _ (by omega)]
    have e2 : d.fdiv (-gc n d) = -b := by
      have : d = (-gc n d) * (-b) := by rw [Int.neg_mul_neg]; exact hb
      generalize hg : -gc n d = g at *
      rw [this, Int.mul_fdiv_cancel_left _ (by omega)]
    refine ⟨-gc n d, by omega, by rw [Int.natAbs_neg]; exact hk, ?_, ?_, ?_⟩
    · show n = -gc n d * n.fdiv (-gc n d)
      rw [e1, Int.neg_mul_neg]; exact ha
    · show d = -gc n d * d.fdiv (-gc n d)
      rw [e2, Int.neg_mul_neg]; exact hb
    · show 0 < d.fdiv (-gc n d)
      rw [e2]
      have : b < 0 := by
        apply Int.lt_of_not_ge
        intro hb0
        have := Int.mul_nonneg (Int.le_of_lt g0) hb0
        omega
      omega
  · rw [if_neg c]
    have e1 : n / gc n d = a := by
      generalize gc n d = g at *
      rw [ha, Int.mul_ediv_cancel_left _ (by omega)]
    have e2 : d / gc n d = b := by
      generalize gc n d = g at *
      rw [hb, Int.mul_ediv_cancel_left _ (by omega)]
    refine ⟨gc n d, by omega, hk, ?_, ?_, ?_⟩
    · show n = gc n d * (n / gc n d)
      rw [e1]; exact ha
    · show d = gc n d * (d / gc n d)
      rw [e2]; exact hb
    · show 0 < d / gc n d
      rw [e2]
      apply Int.lt_of_not_ge
      intro hb0
      have := Int.mul_nonneg (Int.le_of_lt g0) (show 0 ≤ -b by omega)
      rw [Int.mul_neg] at this
      omega
theorem low_red {n d : Int} (hd : d ≠ 0) : Red (low n d) := by
  obtain ⟨k, hk0, hk, hn, hd2, hp⟩ := low_parts (n := n) hd
  refine ⟨hp, ?_⟩
  have h1 : Nat.gcd n.natAbs d.natAbs = k.natAbs * Nat.gcd (low n d).1.natAbs (low n d).2.natAbs := by
    generalize low n d = l at *
    rw [hn, hd2, Int.natAbs_mul, Int.natAbs_mul, Nat.gcd_mul_left]
  rw [← hk] at h1
  have h2 : 0 < k.natAbs := by omega
  have h3 : k.natAbs * 1 = k.natAbs * Nat.gcd (low n d).1.natAbs (low n d).2.natAbs := by rw [Nat.mul_one]; exact h1
  exact (Nat.eq_of_mul_eq_mul_left h2 h3).symm
theorem low_cross {n d : Int} (hd : d ≠ 0) : (low n d).1 * d = n * (low n d).2 := by
  obtain ⟨k, hk0, hk, hn, hd2, hp⟩ := low_parts (n := n) hd
  generalize low n d = l at *
  rw [hn, hd2, Int.mul_assoc, Int.mul_left_comm]
theorem low_le {n d : Int} (hd : d ≠ 0) : (low n d).1.natAbs ≤ n.natAbs ∧ (low n d).2.natAbs ≤ d.natAbs := by
  obtain ⟨k, hk0, hk, hn, hd2, hp⟩ := low_parts (n := n) hd
  have h2 : 0 < k.natAbs := by omega
  generalize low n d = l at *
  constructor
  · rw [hn, Int.natAbs_mul]; exact Nat.le_mul_of_pos_left _ h2
  · rw [hd2, Int.natAbs_mul]; exact Nat.le_mul_of_pos_left _ h2
/-- a fraction in lowest terms is told by its value -/
theorem red_eq {p q : Fr} (hp : Red p) (hq : Red q) (h : p.1 * q.2 = q.1 * p.2) : p = q := by
  obtain ⟨a, b⟩ := p
  obtain ⟨c, d⟩ := q
  obtain ⟨hb, g1⟩ := hp
  obtain ⟨hd, g2⟩ := hq
  simp only at h hb hd g1 g2
  have hN : a.natAbs * d.natAbs = c.natAbs * b.natAbs := by rw [← Int.natAbs_mul, ← Int.natAbs_mul, h]
  have d1 : b.natAbs ∣ d.natAbs := by
    have : b.natAbs ∣ a.natAbs * d.natAbs := ⟨c.natAbs, by rw [hN, Nat.mul_comm]⟩
    exact Nat.Coprime.dvd_of_dvd_mul_left (Nat.Coprime.symm g1) this
  have d2 : d.natAbs ∣ b.natAbs := by
    have : d.natAbs ∣ c.natAbs * b.natAbs := ⟨a.natAbs, by rw [← hN, Nat.mul_comm]⟩
    exact Nat.Coprime.dvd_of_dvd_mul_left (Nat.Coprime.symm g2) this
  have e : b.natAbs = d.natAbs := Nat.dvd_antisymm d1 d2
  have e2 : b = d := by omega
  subst e2
  have e3 : a = c := Int.eq_of_mul_eq_mul_right (by omega) h
  rw [e3]
theorem low_is {n d : Int} {q : Fr} (hd : d ≠ 0) (hq : Red q) (h : n * q.2 = q.1 * d) : low n d = q := by
  refine red_eq (low_red hd) hq ?_
  have c := low_cross (n := n) hd
  have hp := (low_red (n := n) hd).1
  generalize low n d = l at *
  apply Int.eq_of_mul_eq_mul_right hd
  calc l.1 * q.2 * d = (l.1 * d) * q.2 := by rw [Int.mul_right_comm]
    _ = (n * q.2) * l.2 := by rw [c, Int.mul_right_comm]
    _ = q.1 * l.2 * d := by rw [h, Int.mul_right_comm]
def plusF (p q : Fr) : Fr := low (p.1 * q.2 + q.1 * p.2) (p.2 * q.2)
def minusF (p q : Fr) : Fr := low (p.1 * q.2 - q.1 * p.2) (p.2 * q.2)
def timesF (p q : Fr) : Fr := low (p.1 * q.1) (p.2 * q.2)
def overF (p q : Fr) : Fr := low (p.1 * q.2) (p.2 * q.1)
def lessF (p q : Fr) : Bool := decide (p.1 * q.2 < q.1 * p.2)
def totalF (ps : List Fr) : Fr := ps.foldl plusF (0, 1)
theorem minusF_neg (p q : Fr) : minusF p q = plusF p (-q.1, q.2) := by
  unfold minusF plusF
  congr 1
  show p.1 * q.2 - q.1 * p.2 = p.1 * q.2 + -q.1 * p.2
  rw [Int.neg_mul]
  omega
/-- sizes -/
def Fb (B : Nat) (p : Fr) : Prop := 0 < p.2 ∧ p.1.natAbs < 2 ^ B ∧ p.2.natAbs < 2 ^ B
theorem Fb.mono {B C : Nat} {p : Fr} (h : Fb B p) (hl : B ≤ C) : Fb C p :=
  ⟨h.1, Nat.lt_of_lt_of_le h.2.1 (Nat.pow_le_pow_right (by decide) hl), Nat.lt_of_lt_of_le h.2.2 (Nat.pow_le_pow_right (by decide) hl)⟩
theorem mul_lt2 {i j : Int} {a b : Nat} (ha : i.natAbs < 2 ^ a) (hb : j.natAbs < 2 ^ b) : (i * j).natAbs < 2 ^ (a + b) := wide_lt ha hb
theorem add_lt2 {i j : Int} {a : Nat} (ha : i.natAbs < 2 ^ a) (hb : j.natAbs < 2 ^ a) : (i + j).natAbs < 2 ^ (a + 1) := by
  rw [Nat.pow_succ]
  have := Int.natAbs_add_le i j
  omega
theorem sub_lt2 {i j : Int} {a : Nat} (ha : i.natAbs < 2 ^ a) (hb : j.natAbs < 2 ^ a) : (i - j).natAbs < 2 ^ (a + 1) := by
  rw [Nat.pow_succ]
  have := Int.natAbs_sub_le i j
  omega
theorem mul_ne {a b : Int} (ha : 0 < a) (hb : 0 < b) : a * b ≠ 0 := by
  have := Int.mul_pos ha hb
  omega
theorem low_fb {n d : Int} {B : Nat} (hd : d ≠ 0) (h1 : n.natAbs < 2 ^ B) (h2 : d.natAbs < 2 ^ B) : Fb B (low n d) :=
  ⟨(low_red hd).1, Nat.lt_of_le_of_lt (low_le hd).1 h1, Nat.lt_of_le_of_lt (low_le hd).2 h2⟩
theorem plusF_fb {p q : Fr} {B C : Nat} (hp : Fb B p) (hq : Fb C q) : Fb (B + C + 1) (plusF p q) := by
  have e : C + B = B + C := Nat.add_comm _ _
  refine low_fb (mul_ne hp.1 hq.1) (add_lt2 (mul_lt2 hp.2.1 hq.2.2) (e ▸ mul_lt2 hq.2.1 hp.2.2)) ?_
  exact Nat.lt_of_lt_of_le (mul_lt2 hp.2.2 hq.2.2) (Nat.pow_le_pow_right (by decide) (by omega))
theorem timesF_fb {p q : Fr} {B C : Nat} (hp : Fb B p) (hq : Fb C q) : Fb (B + C) (timesF p q) :=
  low_fb (mul_ne hp.1 hq.1) (mul_lt2 hp.2.1 hq.2.1) (mul_lt2 hp.2.2 hq.2.2)
theorem plusF_red {p q : Fr} (hp : 0 < p.2) (hq : 0 < q.2) : Red (plusF p q) := low_red (mul_ne hp hq)
theorem minusF_red {p q : Fr} (hp : 0 < p.2) (hq : 0 < q.2) : Red (minusF p q) := low_red (mul_ne hp hq)
theorem timesF_red {p q : Fr} (hp : 0 < p.2) (hq : 0 < q.2) : Red (timesF p q) := low_red (mul_ne hp hq)

/-! ### sums of fractions -/
def prodD (ps : List Fr) : Int := (ps.map (·.2)).foldl (· * ·) 1
def sumF (ps : List Fr) : Fr := low (ps.map fun p => p.1 * (prodD ps / p.2)).sum (prodD ps)
theorem foldl_mul (c : Int) : ∀ (ns : List Int) (a : Int), ns.foldl (· * ·) (c * a) = c * ns.foldl (· * ·) a
  | [], a => rfl
  | n :: ns, a => by
    show ns.foldl (· * ·) (c * a * n) = c * ns.foldl (· * ·) (a * n)
    rw [Int.mul_assoc, foldl_mul c ns]
theorem prodD_cons (p : Fr) (ps : List Fr) : prodD (p :: ps) = p.2 * prodD ps := by
  show (ps.map (·.2)).foldl (· * ·) (1 * p.2) = p.2 * (ps.map (·.2)).foldl (· * ·) 1
  rw [Int.one_mul, ← foldl_mul, Int.mul_one]
theorem prodD_pos : ∀ {ps : List Fr}, (∀ p ∈ ps, 0 < p.2) → 0 < prodD ps
  | [], _ => by decide
  | p :: ps, h => by
    rw [prodD_cons]
    exact Int.mul_pos (h p List.mem_cons_self) (prodD_pos fun q hq => h q (List.mem_cons_of_mem _ hq))
theorem prodD_dvd : ∀ {ps : List Fr} {p : Fr}, p ∈ ps → p.2 ∣ prodD ps
  | q :: ps, p, h => by
    rw [prodD_cons]
    rcases List.mem_cons.mp h with rfl | h
    · exact Int.dvd_mul_right _ _
    · exact Int.dvd_trans (prodD_dvd h) (Int.dvd_mul_left _ _)
/-- the numerators over a common denominator c * prodD -/
theorem sum_scale (c : Int) : ∀ {ps : List Fr} (W : Int), (∀ p ∈ ps, 0 < p.2 ∧ p.2 ∣ W) → (ps.map fun p => p.1 * (c * W / p.2)).sum = c * (ps.map fun p => p.1 * (W / p.2)).sum
  | [], W, _ => by simp
  | p :: ps, W, h => by
    have ih := sum_scale c W fun q hq => h q (List.mem_cons_of_mem _ hq)
    rw [List.map_cons, List.map_cons, List.sum_cons, List.sum_cons, ih, Int.mul_add]
    obtain ⟨h0, k, hk⟩ := h p List.mem_cons_self
    congr 1
    have e1 : c * W / p.2 = c * k := by
      rw [hk, Int.mul_left_comm, Int.mul_ediv_cancel_left _ (by omega)]
    have e2 : W / p.2 = k := by
      rw [hk, Int.mul_ediv_cancel_left _ (by omega)]
    rw [e1, e2, Int.mul_left_comm]
theorem total_cross : ∀ (ps : List Fr) (T : Fr), (∀ p ∈ ps, 0 < p.2) → 0 < T.2 →
    (ps.foldl plusF T).1 * (T.2 * prodD ps) = (T.1 * prodD ps + (ps.map fun p => p.1 * (prodD ps / p.2)).sum * T.2) * (ps.foldl plusF T).2
  | [], T, _, hT => by
    show T.1 * (T.2 * 1) = (T.1 * 1 + 0 * T.2) * T.2
    grind
  | q :: r, T, h, hT => by
    have hq := h q List.mem_cons_self
    have hr : ∀ p ∈ r, 0 < p.2 := fun p hp => h p (List.mem_cons_of_mem _ hp)
    have hT' : 0 < (plusF T q).2 := (plusF_red hT hq).1
    have ih := total_cross r (plusF T q) hr hT'
    have cr : (plusF T q).1 * (T.2 * q.2) = (T.1 * q.2 + q.1 * T.2) * (plusF T q).2 := low_cross (mul_ne hT hq)
    rw [List.foldl_cons, prodD_cons, List.map_cons, List.sum_cons]
    have hs := sum_scale q.2 (ps := r) (prodD r) fun p hp => ⟨hr p hp, prodD_dvd hp⟩
    rw [hs, Int.mul_ediv_cancel_left _ (show q.2 ≠ 0 by omega)]
    generalize (r.map fun p => p.1 * (prodD r / p.2)).sum = S at *
    generalize r.foldl plusF (plusF T q) = F at *
    generalize prodD r = W at *
    generalize plusF T q = T' at *
    apply Int.eq_of_mul_eq_mul_right (show T'.2 ≠ 0 by omega)
    grind
theorem totalF_red (ps : List Fr) (h : ∀ p ∈ ps, 0 < p.2) : Red (totalF ps) := by
  have key : ∀ (ps : List Fr) (T : Fr), (∀ p ∈ ps, 0 < p.2) → Red T → Red (ps.foldl plusF T) := by
    intro ps
    induction ps with
    | nil => intro T _ hT; exact hT
    | cons q r ih => intro T h hT; exact ih _ (fun p hp => h p (List.mem_cons_of_mem _ hp)) (plusF_red hT.1 (h q List.mem_cons_self))
  exact key ps (0, 1) h ⟨by decide, by decide⟩
theorem sumF_total {ps : List Fr} (h : ∀ p ∈ ps, 0 < p.2) : sumF ps = totalF ps := by
  have hp := prodD_pos h
  refine low_is (by omega) (totalF_red ps h) ?_
  have c := total_cross ps (0, 1) h (by decide)
  show _ * (ps.foldl plusF (0, 1)).2 = (ps.foldl plusF (0, 1)).1 * _
  simp only [Int.one_mul, Int.zero_mul, Int.zero_add, Int.mul_one] at c
  exact c.symm
theorem totalF_fb {ps : List Fr} (h : ∀ p ∈ ps, Fb 40 p) : Fb (1 + 41 * ps.length) (totalF ps) := by
  have key : ∀ (ps : List Fr) (T : Fr) (B : Nat), (∀ p ∈ ps, Fb 40 p) → Fb B T → Fb (B + 41 * ps.length) (ps.foldl plusF T) := by
    intro ps
    induction ps with
    | nil => intro T B _ hT; exact hT
    | cons q r ih =>
      intro T B h hT
      have := ih _ _ (fun p hp => h p (List.mem_cons_of_mem _ hp)) (plusF_fb hT (h q List.mem_cons_self))
      exact this.mono (by rw [List.length_cons]; omega)
  exact key ps (0, 1) 1 h ⟨by decide, by decide, by decide⟩
theorem prodD_lt : ∀ {ps : List Fr}, (∀ p ∈ ps, Fb 40 p) → (prodD ps).natAbs < 2 ^ (1 + 40 * ps.length)
  | [], _ => by decide
  | p :: ps, h => by
    rw [prodD_cons]
    have h1 := mul_lt2 (h p List.mem_cons_self).2.2 (prodD_lt fun q hq => h q (List.mem_cons_of_mem _ hq))
    exact Nat.lt_of_lt_of_le h1 (Nat.pow_le_pow_right (by decide) (by rw [List.length_cons]; omega))
theorem minusF_plus {p q : Fr} (hp : 0 < p.2) (hq : Red q) : minusF (plusF p q) p = q := by
  have cr : (plusF p q).1 * (p.2 * q.2) = (p.1 * q.2 + q.1 * p.2) * (plusF p q).2 := low_cross (mul_ne hp hq.1)
  have pos := (plusF_red hp hq.1).1
  generalize plusF p q = n at *
  refine low_is (mul_ne pos hp) hq ?_
  grind
theorem plusF_minus {p q : Fr} (hp : 0 < p.2) (hq : Red q) : minusF p (plusF p q) = (-q.1, q.2) := by
  have cr : (plusF p q).1 * (p.2 * q.2) = (p.1 * q.2 + q.1 * p.2) * (plusF p q).2 := low_cross (mul_ne hp hq.1)
  have pos := (plusF_red hp hq.1).1
  generalize plusF p q = n at *
  refine low_is (mul_ne hp pos) ⟨hq.1, by show Nat.gcd (-q.1).natAbs _ = 1; rw [Int.natAbs_neg]; exact hq.2⟩ ?_
  show (p.1 * n.2 - n.1 * p.2) * q.2 = -q.1 * (p.2 * n.2)
  grind
theorem less_plus {p q : Fr} (hp : 0 < p.2) (hq : Red q) (h : 0 < q.1) : lessF p (plusF p q) = true := by
  have cr : (plusF p q).1 * (p.2 * q.2) = (p.1 * q.2 + q.1 * p.2) * (plusF p q).2 := low_cross (mul_ne hp hq.1)
  have pos := (plusF_red hp hq.1).1
  generalize plusF p q = n at *
  apply decide_eq_true
  have h1 : 0 < q.1 * p.2 * n.2 := Int.mul_pos (Int.mul_pos h hp) pos
  have e : n.1 * p.2 * q.2 = p.1 * n.2 * q.2 + q.1 * p.2 * n.2 := by grind
  apply Int.lt_of_mul_lt_mul_right (a := q.2) ?_ (Int.le_of_lt hq.1)
  omega
theorem less_not {p q : Fr} (h : lessF p q = true) : lessF q p = false := by
  have := of_decide_eq_true h
  apply decide_eq_false
  omega
theorem less_self (p : Fr) : lessF p p = false := decide_eq_false (Int.lt_irrefl _)
theorem timesF_unit {n b : Int} (hn : n = 1 ∨ n = -1) (hb : 0 < b) : timesF (n, b) (n, b) = (1, b * b) := by
  have e : n * n = 1 := by rcases hn with rfl | rfl <;> rfl
  show low (n * n) (b * b) = (1, b * b)
  rw [e]
  exact low_is (mul_ne hb hb) ⟨Int.mul_pos hb hb, by simp⟩ rfl
theorem prodD_perm {ps qs : List Fr} (h : ps.Perm qs) : prodD ps = prodD qs := by
  induction h with
  | nil => rfl
  | cons x _ ih => rw [prodD_cons, prodD_cons, ih]
  | swap x y l => rw [prodD_cons, prodD_cons, prodD_cons, prodD_cons, Int.mul_left_comm]
  | trans _ _ h1 h2 => exact h1.trans h2
theorem sumI_perm {α : Type} (g : α → Int) {ps qs : List α} (h : ps.Perm qs) : (ps.map g).sum = (qs.map g).sum := by
  induction h with
  | nil => rfl
  | cons x _ ih => rw [List.map_cons, List.map_cons, List.sum_cons, List.sum_cons, ih]
  | swap x y l => simp only [List.map_cons, List.sum_cons]; omega
  | trans _ _ h1 h2 => exact h1.trans h2
theorem totalF_perm {ps qs : List Fr} (h : ps.Perm qs) (hp : ∀ p ∈ ps, 0 < p.2) : totalF ps = totalF qs := by
  rw [← sumF_total hp, ← sumF_total (fun q hq => hp q (h.mem_iff.mpr hq))]
  unfold sumF
  rw [prodD_perm h, sumI_perm _ h]

def topS (i : Nat) : Stmt := PySem.Challenge.pw_worldbase_k00_fractions.main.body.getD i (.Pass ⟨0, 0, 0, 0⟩)
abbrev s_lowest : Stmt := topS 2
theorem sc_lowest : FnScope ["n", "d", "common"] ["n", "d"] (defScope s_lowest) := ⟨rfl, rfl, rfl, by decide +kernel, rfl, by decide +kernel, by decide +kernel⟩
abbrev s_plus : Stmt := topS 3
theorem sc_plus : FnScope ["p", "q"] ["p", "q"] (defScope s_plus) := ⟨rfl, rfl, rfl, by decide +kernel, rfl, by decide +kernel, by decide +kernel⟩
abbrev s_minus : Stmt := topS 4
theorem sc_minus : FnScope ["p", "q"] ["p", "q"] (defScope s_minus) := ⟨rfl, rfl, rfl, by decide +kernel, rfl, by decide +kernel, by decide +kernel⟩
abbrev s_times : Stmt := topS 5
theorem sc_times : FnScope ["p", "q"] ["p", "q"] (defScope s_times) := ⟨rfl, rfl, rfl, by decide +kernel, rfl, by decide +kernel, by decide +kernel⟩
abbrev s_over : Stmt := topS 6
theorem sc_over : FnScope ["p", "q"] ["p", "q"] (defScope s_over) := ⟨rfl, rfl, rfl, by decide +kernel, rfl, by decide +kernel, by decide +kernel⟩
abbrev s_total : Stmt := topS 7
theorem sc_total : FnScope ["fractions", "found", "fraction"] ["fractions"] (defScope s_total) := ⟨rfl, rfl, rfl, by decide +kernel, rfl, by decide +kernel, by decide +kernel⟩
abbrev s_is_less : Stmt := topS 8
theorem sc_is_less : FnScope ["p", "q"] ["p", "q"] (defScope s_is_less) := ⟨rfl, rfl, rfl, by decide +kernel, rfl, by decide +kernel, by decide +kernel⟩
abbrev s__law_tape : Stmt := topS 10
theorem sc__law_tape : FnScope ["script", "mixed", "cell"] ["script"] (defScope s__law_tape) := ⟨rfl, rfl, rfl, by decide +kernel, rfl, by decide +kernel, by decide +kernel⟩
abbrev s__law_draw : Stmt := topS 11
theorem sc__law_draw : FnScope ["tape", "many", "place", "number"] ["tape", "many"] (defScope s__law_draw) := ⟨rfl, rfl, rfl, by decide +kernel, rfl, by decide +kernel, by decide +kernel⟩
abbrev s__law_pick : Stmt := topS 12
theorem sc__law_pick : FnScope ["tape", "rows"] ["tape", "rows"] (defScope s__law_pick) := ⟨rfl, rfl, rfl, by decide +kernel, rfl, by decide +kernel, by decide +kernel⟩
abbrev s__law_turns : Stmt := topS 13
theorem sc__law_turns : FnScope ["tape", "many", "left", "turns", "k"] ["tape", "many"] (defScope s__law_turns) := ⟨rfl, rfl, rfl, by decide +kernel, rfl, by decide +kernel, by decide +kernel⟩
abbrev s__law_shuffled : Stmt := topS 14
theorem sc__law_shuffled : FnScope ["tape", "rows", "left", "turned", "k"] ["tape", "rows"] (defScope s__law_shuffled) := ⟨rfl, rfl, rfl, by decide +kernel, rfl, by decide +kernel, by decide +kernel⟩
abbrev s__law_same : Stmt := topS 15
theorem sc__law_same : FnScope ["told", "wanted", "k"] ["told", "wanted"] (defScope s__law_same) := ⟨rfl, rfl, rfl, by decide +kernel, rfl, by decide +kernel, by decide +kernel⟩
abbrev s__law_gcd : Stmt := topS 16
theorem sc__law_gcd : FnScope ["one", "other", "rest"] ["one", "other"] (defScope s__law_gcd) := ⟨rfl, rfl, rfl, by decide +kernel, rfl, by decide +kernel, by decide +kernel⟩
abbrev s__law_lowest : Stmt := topS 17
theorem sc__law_lowest : FnScope ["n", "d", "part"] ["n", "d"] (defScope s__law_lowest) := ⟨rfl, rfl, rfl, by decide +kernel, rfl, by decide +kernel, by decide +kernel⟩
abbrev s__law_plus : Stmt := topS 18
theorem sc__law_plus : FnScope ["p", "q"] ["p", "q"] (defScope s__law_plus) := ⟨rfl, rfl, rfl, by decide +kernel, rfl, by decide +kernel, by decide +kernel⟩
abbrev s__law_less : Stmt := topS 19
theorem sc__law_less : FnScope ["p", "q"] ["p", "q"] (defScope s__law_less) := ⟨rfl, rfl, rfl, by decide +kernel, rfl, by decide +kernel, by decide +kernel⟩
abbrev s__law_fraction : Stmt := topS 20
theorem sc__law_fraction : FnScope ["tape", "choice"] ["tape"] (defScope s__law_fraction) := ⟨rfl, rfl, rfl, by decide +kernel, rfl, by decide +kernel, by decide +kernel⟩
abbrev s__law_beside : Stmt := topS 21
theorem sc__law_beside : FnScope ["tape", "p", "n", "d"] ["tape", "p"] (defScope s__law_beside) := ⟨rfl, rfl, rfl, by decide +kernel, rfl, by decide +kernel, by decide +kernel⟩
abbrev s__law_numbers : Stmt := topS 22
theorem sc__law_numbers : FnScope ["tape", "d", "n", "part"] ["tape"] (defScope s__law_numbers) := ⟨rfl, rfl, rfl, by decide +kernel, rfl, by decide +kernel, by decide +kernel⟩
abbrev s__law_sum_of : Stmt := topS 23
theorem sc__law_sum_of : FnScope ["fractions", "whole", "part"] ["fractions"] (defScope s__law_sum_of) := ⟨rfl, rfl, rfl, by decide +kernel, rfl, by decide +kernel, by decide +kernel⟩
abbrev s__law_right : Stmt := topS 24
theorem sc__law_right : FnScope ["door", "p", "q"] ["door", "p", "q"] (defScope s__law_right) := ⟨rfl, rfl, rfl, by decide +kernel, rfl, by decide +kernel, by decide +kernel⟩
abbrev s__law_lowest_right : Stmt := topS 25
theorem sc__law_lowest_right : FnScope ["tape", "n", "d", "other", "beside", "pair"] ["tape"] (defScope s__law_lowest_right) := ⟨rfl, rfl, rfl, by decide +kernel, rfl, by decide +kernel, by decide +kernel⟩
abbrev s__law_total_right : Stmt := topS 26
theorem sc__law_total_right : FnScope ["tape", "many", "first", "k", "second", "due", "fractions", "wanted"] ["tape"] (defScope s__law_total_right) := ⟨rfl, rfl, rfl, by decide +kernel, rfl, by decide +kernel, by decide +kernel⟩
abbrev s__law_far_right : Stmt := topS 27
theorem sc__law_far_right : FnScope ["p", "sign", "part", "k", "due", "near"] ["p", "sign"] (defScope s__law_far_right) := ⟨rfl, rfl, rfl, by decide +kernel, rfl, by decide +kernel, by decide +kernel⟩
abbrev s_law : Stmt := topS 28
theorem sc_law : FnScope ["script", "tape", "p", "q", "beside", "door", "one", "other", "sums", "products"] ["script"] (defScope s_law) := ⟨rfl, rfl, rfl, by decide +kernel, rfl, by decide +kernel, by decide +kernel⟩
structure Txt (K : PySem.W.Frag) (mg : Str → Option Value) where
  a_lowest : Addr
  d_lowest : FuncData
  F_lowest : Fun K "lowest" "lowest" s_lowest a_lowest d_lowest
  b_lowest : Binds K d_lowest ["n", "d"] []
  m_lowest : mg "lowest" = some (.ref a_lowest)
  a_plus : Addr
  d_plus : FuncData
  F_plus : Fun K "plus" "plus" s_plus a_plus d_plus
  b_plus : Binds K d_plus ["p", "q"] []
  m_plus : mg "plus" = some (.ref a_plus)
  a_minus : Addr
  d_minus : FuncData
  F_minus : Fun K "minus" "minus" s_minus a_minus d_minus
  b_minus : Binds K d_minus ["p", "q"] []
  m_minus : mg "minus" = some (.ref a_minus)
  a_times : Addr
  d_times : FuncData
  F_times : Fun K "times" "times" s_times a_times d_times
  b_times : Binds K d_times ["p", "q"] []
  m_times : mg "times" = some (.ref a_times)
  a_over : Addr
  d_over : FuncData
  F_over : Fun K "over" "over" s_over a_over d_over
  b_over : Binds K d_over ["p", "q"] []
  m_over : mg "over" = some (.ref a_over)
  a_total : Addr
  d_total : FuncData
  F_total : Fun K "total" "total" s_total a_total d_total
  b_total : Binds K d_total ["fractions"] []
  m_total : mg "total" = some (.ref a_total)
  a_is_less : Addr
  d_is_less : FuncData
  F_is_less : Fun K "is_less" "is_less" s_is_less a_is_less d_is_less
  b_is_less : Binds K d_is_less ["p", "q"] []
  m_is_less : mg "is_less" = some (.ref a_is_less)
  a__law_tape : Addr
  d__law_tape : FuncData
  F__law_tape : Fun K "_law_tape" "_law_tape" s__law_tape a__law_tape d__law_tape
  b__law_tape : Binds K d__law_tape ["script"] []
  m__law_tape : mg "_law_tape" = some (.ref a__law_tape)
  a__law_draw : Addr
  d__law_draw : FuncData
  F__law_draw : Fun K "_law_draw" "_law_draw" s__law_draw a__law_draw d__law_draw
  b__law_draw : Binds K d__law_draw ["tape", "many"] []
  m__law_draw : mg "_law_draw" = some (.ref a__law_draw)
  a__law_pick : Addr
  d__law_pick : FuncData
  F__law_pick : Fun K "_law_pick" "_law_pick" s__law_pick a__law_pick d__law_pick
  b__law_pick : Binds K d__law_pick ["tape", "rows"] []
  m__law_pick : mg "_law_pick" = some (.ref a__law_pick)
  a__law_turns : Addr
  d__law_turns : FuncData
  F__law_turns : Fun K "_law_turns" "_law_turns" s__law_turns a__law_turns d__law_turns
  b__law_turns : Binds K d__law_turns ["tape", "many"] []
  m__law_turns : mg "_law_turns" = some (.ref a__law_turns)
  a__law_shuffled : Addr
  d__law_shuffled : FuncData
  F__law_shuffled : Fun K "_law_shuffled" "_law_shuffled" s__law_shuffled a__law_shuffled d__law_shuffled
  b__law_shuffled : Binds K d__law_shuffled ["tape", "rows"] []
  m__law_shuffled : mg "_law_shuffled" = some (.ref a__law_shuffled)
  a__law_same : Addr
  d__law_same : FuncData
  F__law_same : Fun K "_law_same" "_law_same" s__law_same a__law_same d__law_same
  b__law_same : Binds K d__law_same ["told", "wanted"] []
  m__law_same : mg "_law_same" = some (.ref a__law_same)
  a__law_gcd : Addr
  d__law_gcd : FuncData
  F__law_gcd : Fun K "_law_gcd" "_law_gcd" s__law_gcd a__law_gcd d__law_gcd
  b__law_gcd : Binds K d__law_gcd ["one", "other"] []
  m__law_gcd : mg "_law_gcd" = some (.ref a__law_gcd)
  a__law_lowest : Addr
  d__law_lowest : FuncData
  F__law_lowest : Fun K "_law_lowest" "_law_lowest" s__law_lowest a__law_lowest d__law_lowest
  b__law_lowest : Binds K d__law_lowest ["n", "d"] []
  m__law_lowest : mg "_law_lowest" = some (.ref a__law_lowest)
  a__law_plus : Addr
  d__law_plus : FuncData
  F__law_plus : Fun K "_law_plus" "_law_plus" s__law_plus a__law_plus d__law_plus
  b__law_plus : Binds K d__law_plus ["p", "q"] []
  m__law_plus : mg "_law_plus" = some (.ref a__law_plus)
  a__law_less : Addr
  d__law_less : FuncData
  F__law_less : Fun K "_law_less" "_law_less" s__law_less a__law_less d__law_less
  b__law_less : Binds K d__law_less ["p", "q"] []
  m__law_less : mg "_law_less" = some (.ref a__law_less)
  a__law_fraction : Addr
  d__law_fraction : FuncData
  F__law_fraction : Fun K "_law_fraction" "_law_fraction" s__law_fraction a__law_fraction d__law_fraction
  b__law_fraction : Binds K d__law_fraction ["tape"] []
  m__law_fraction : mg "_law_fraction" = some (.ref a__law_fraction)
  a__law_beside : Addr
  d__law_beside : FuncData
  F__law_beside : Fun K "_law_beside" "_law_beside" s__law_beside a__law_beside d__law_beside
  b__law_beside : Binds K d__law_beside ["tape", "p"] []
  m__law_beside : mg "_law_beside" = some (.ref a__law_beside)
  a__law_numbers : Addr
  d__law_numbers : FuncData
  F__law_numbers : Fun K "_law_numbers" "_law_numbers" s__law_numbers a__law_numbers d__law_numbers
  b__law_numbers : Binds K d__law_numbers ["tape"] []
  m__law_numbers : mg "_law_numbers" = some (.ref a__law_numbers)
  a__law_sum_of : Addr
  d__law_sum_of : FuncData
  F__law_sum_of : Fun K "_law_sum_of" "_law_sum_of" s__law_sum_of a__law_sum_of d__law_sum_of
  b__law_sum_of : Binds K d__law_sum_of ["fractions"] []
  m__law_sum_of : mg "_law_sum_of" = some (.ref a__law_sum_of)
  a__law_right : Addr
  d__law_right : FuncData
  F__law_right : Fun K "_law_right" "_law_right" s__law_right a__law_right d__law_right
  b__law_right : Binds K d__law_right ["door", "p", "q"] []
  m__law_right : mg "_law_right" = some (.ref a__law_right)
  a__law_lowest_right : Addr
  d__law_lowest_right : FuncData
  F__law_lowest_right : Fun K "_law_lowest_right" "_law_lowest_right" s__law_lowest_right a__law_lowest_right d__law_lowest_right
  b__law_lowest_right : Binds K d__law_lowest_right ["tape"] []
  m__law_lowest_right : mg "_law_lowest_right" = some (.ref a__law_lowest_right)
  a__law_total_right : Addr
  d__law_total_right : FuncData
  F__law_total_right : Fun K "_law_total_right" "_law_total_right" s__law_total_right a__law_total_right d__law_total_right
  b__law_total_right : Binds K d__law_total_right ["tape"] []
  m__law_total_right : mg "_law_total_right" = some (.ref a__law_total_right)
  a__law_far_right : Addr
  d__law_far_right : FuncData
  F__law_far_right : Fun K "_law_far_right" "_law_far_right" s__law_far_right a__law_far_right d__law_far_right
  b__law_far_right : Binds K d__law_far_right ["p", "sign"] []
  m__law_far_right : mg "_law_far_right" = some (.ref a__law_far_right)
  a_law : Addr
  d_law : FuncData
  F_law : Fun K "law" "law" s_law a_law d_law
  z_list : mg "list" = none
  z_int : mg "int" = none
  z_abs : mg "abs" = none
  z_max : mg "max" = none
  z_len : mg "len" = none
  z_range : mg "range" = none
  z_isinstance : mg "isinstance" = none
  z_tuple : mg "tuple" = none
  z_bool : mg "bool" = none
  z_str : mg "str" = none
  z_min : mg "min" = none
  z_sum : mg "sum" = none
  c_gcd : mg "gcd" = some (.builtin "math.gcd")

/-! ### the program's fractions -/
def sp_lowest (K : Fg) : Sp := fun vs H Q _ => ∃ n d : Int, vs = [.int n, .int d] ∧ d ≠ 0 ∧ (d.natAbs < 2 ^ 8000) ∧ ∀ r H', Same H H' → Dp K H' r (fr (low n d)) → Q r H'
def sp_bin (f : Fr → Fr → Fr) (K : Fg) : Sp := fun vs H Q _ => ∃ (a b : V) (p q : Fr) (B C : Nat), vs = [a, b] ∧ Dp K H a (fr p) ∧ Dp K H b (fr q) ∧ Fb B p ∧ Fb C q ∧ B + C ≤ 7000 ∧ ∀ r H', Same H H' → Dp K H' r (fr (f p q)) → Q r H'
abbrev sp_plus := sp_bin plusF
abbrev sp_minus := sp_bin minusF
abbrev sp_times := sp_bin timesF
def sp_over (K : Fg) : Sp := fun vs H Q _ => ∃ (a b : V) (p q : Fr), vs = [a, b] ∧ Dp K H a (fr p) ∧ Dp K H b (fr q) ∧ Fb 40 p ∧ Fb 40 q ∧ q.1 ≠ 0 ∧ ∀ r H', Same H H' → Dp K H' r (fr (overF p q)) → Q r H'
def sp_is_less (K : Fg) : Sp := fun vs H Q _ => ∃ (a b : V) (p q : Fr) (B C : Nat), vs = [a, b] ∧ Dp K H a (fr p) ∧ Dp K H b (fr q) ∧ Fb B p ∧ Fb C q ∧ B + C ≤ 7000 ∧ Q (.bl (lessF p q)) H
section
variable {P : Program} {w : World} {K : Fg} {mg : Str → Option Value} {base : Heap}
theorem ok_lowest (T : Txt K mg) : FnOk P w K mg base CX0 1 T.a_lowest T.d_lowest ["n", "d"] (sp_lowest K) := by
  refine T.F_lowest.ok sc_lowest (fun vs H Q E h => ?_) (fun cdv A outer s H vs Q E hr h => ?_)
  · obtain ⟨n, d, rfl, _⟩ := h
    rfl
  obtain ⟨n, d, rfl, h0, h2, q⟩ := h
  refine ⟨_, (pss_cons (ps_set (i := 2) sc_lowest.nd rfl (Or.inl rfl) (pe_callBfun cr_gcd (by rfl) T.c_gcd (pa_cons (pv 0) (pa_cons (pv 1) pa_nil)))) (pss_cons (ps_if (pt_cmpR op_lt (pv 1) pe_int (nomark _)) (pss_one (ps_set (i := 2) sc_lowest.nd rfl (Or.inl rfl) (pe_un un_neg (pv 2)))) pss_nil) (pss_one (ps_ret (pe_tup (pa_cons (pe_op op_fdivU (pv 0) (pv 2)) (pa_cons (pe_op op_fdivU (pv 1) (pv 2)) pa_nil))))))), ?_⟩
  walk_at "nz"
  have g0 := gc_pos (n := n) h0
  have g1 := gc_le (n := n) h0
  have h4 : (gc n d).natAbs < 2 ^ 8999 := Nat.lt_of_le_of_lt g1 (Nat.lt_trans h2 (Nat.pow_lt_pow_right (by decide) (by decide)))
  refine r_gcd (r_I0 (r_bl (r_if (fun c => ?_) (fun c => ?_))))
  · have e : low n d = (n.fdiv (-gc n d), d.fdiv (-gc n d)) := if_pos c
    have h5 : (-gc n d).natAbs < 2 ^ 8999 := by rw [Int.natAbs_neg]; exact h4
    refine r_U (r_fdN (show -gc n d ≠ 0 by omega) h5 (r_fdN (show -gc n d ≠ 0 by omega) h5 ?_))
    refine r_tup (K := K) (by walk_at "fds") fun p H' sm _ hp => q _ _ sm ?_
    rw [e]; exact hp
  · have e : low n d = (n / gc n d, d / gc n d) := if_neg c
    refine r_fdW g0 h4 (r_fdW g0 h4 ?_)
    refine r_tup (K := K) (by walk_at "fds") fun p H' sm _ hp => q _ _ sm ?_
    rw [e]; exact hp
theorem pow8000 {n : Nat} {B : Nat} (h : n < 2 ^ B) (hb : B ≤ 8000) : n < 2 ^ 8000 := Nat.lt_of_lt_of_le h (Nat.pow_le_pow_right (by decide) hb)
theorem ok_plus (T : Txt K mg) : FnOk P w K mg base CX0 2 T.a_plus T.d_plus ["p", "q"] (sp_plus K) := by
  have G_lowest := ok_lowest (P := P) (w := w) (base := base) T
  refine T.F_plus.ok sc_plus (fun vs H Q E h => ?_) (fun cdv A outer s H vs Q E hr h => ?_)
  · obtain ⟨_, _, _, _, _, _, rfl, _⟩ := h
    rfl
  obtain ⟨a, b, p, q, B, C, rfl, ha, hb, hp, hq, hl, k⟩ := h
  refine ⟨_, (pss_one (ps_ret (pe_call G_lowest (hr.mono (by omega)) rfl T.m_lowest T.F_lowest.kp T.b_lowest .nil pass0 (pa_cons (pe_op (op_addK (K := K)) (pe_op (op_mulK (K := K)) (pe_ix (ixK (K := K)) (pv 0) pe_int (fun _ _ => rfl)) (pe_ix (ixK (K := K)) (pv 1) pe_int (fun _ _ => rfl))) (pe_op (op_mulK (K := K)) (pe_ix (ixK (K := K)) (pv 1) pe_int (fun _ _ => rfl)) (pe_ix (ixK (K := K)) (pv 0) pe_int (fun _ _ => rfl)))) (pa_cons (pe_op (op_mulK (K := K)) (pe_ix (ixK (K := K)) (pv 0) pe_int (fun _ _ => rfl)) (pe_ix (ixK (K := K)) (pv 1) pe_int (fun _ _ => rfl))) pa_nil))))), ?_⟩
  walk_at "nz"
  have d0 := mul_ne hp.1 hq.1
  refine r_ixTi ha rfl (r_ixTi hb rfl (r_mulI hp.2.1 hq.2.2 (by omega) (r_ixTi hb rfl (r_ixTi ha rfl (r_mulI hq.2.1 hp.2.2 (by omega) (r_addI (r_ixTi ha rfl (r_ixTi hb rfl (r_mulI hp.2.2 hq.2.2 (by omega) ?_)))))))))
  exact ⟨_, _, rfl, d0, pow8000 (mul_lt2 hp.2.2 hq.2.2) (by omega), k⟩
theorem ok_minus (T : Txt K mg) : FnOk P w K mg base CX0 2 T.a_minus T.d_minus ["p", "q"] (sp_minus K) := by
  have G_lowest := ok_lowest (P := P) (w := w) (base := base) T
  refine T.F_minus.ok sc_minus (fun vs H Q E h => ?_) (fun cdv A outer s H vs Q E hr h => ?_)
  · obtain ⟨_, _, _, _, _, _, rfl, _⟩ := h
    rfl
  obtain ⟨a, b, p, q, B, C, rfl, ha, hb, hp, hq, hl, k⟩ := h
  refine ⟨_, (pss_one (ps_ret (pe_call G_lowest (hr.mono (by omega)) rfl T.m_lowest T.F_lowest.kp T.b_lowest .nil pass0 (pa_cons (pe_op op_sub (pe_op (op_mulK (K := K)) (pe_ix (ixK (K := K)) (pv 0) pe_int (fun _ _ => rfl)) (pe_ix (ixK (K := K)) (pv 1) pe_int (fun _ _ => rfl))) (pe_op (op_mulK (K := K)) (pe_ix (ixK (K := K)) (pv 1) pe_int (fun _ _ => rfl)) (pe_ix (ixK (K := K)) (pv 0) pe_int (fun _ _ => rfl)))) (pa_cons (pe_op (op_mulK (K := K)) (pe_ix (ixK (K := K)) (pv 0) pe_int (fun _ _ => rfl)) (pe_ix (ixK (K := K)) (pv 1) pe_int (fun _ _ => rfl))) pa_nil))))), ?_⟩
  walk_at "nz"
  have d0 := mul_ne hp.1 hq.1
  refine r_ixTi ha rfl (r_ixTi hb rfl (r_mulI hp.2.1 hq.2.2 (by omega) (r_ixTi hb rfl (r_ixTi ha rfl (r_mulI hq.2.1 hp.2.2 (by omega) (r_I0 (r_ixTi ha rfl (r_ixTi hb rfl (r_mulI hp.2.2 hq.2.2 (by omega) ?_)))))))))
  exact ⟨_, _, rfl, d0, pow8000 (mul_lt2 hp.2.2 hq.2.2) (by omega), k⟩
theorem ok_times (T : Txt K mg) : FnOk P w K mg base CX0 2 T.a_times T.d_times ["p", "q"] (sp_times K) := by
  have G_lowest := ok_lowest (P := P) (w := w) (base := base) T
  refine T.F_times.ok sc_times (fun vs H Q E h => ?_) (fun cdv A outer s H vs Q E hr h => ?_)
  · obtain ⟨_, _, _, _, _, _, rfl, _⟩ := h
    rfl
  obtain ⟨a, b, p, q, B, C, rfl, ha, hb, hp, hq, hl, k⟩ := h
  refine ⟨_, (pss_one (ps_ret (pe_call G_lowest (hr.mono (by omega)) rfl T.m_lowest T.F_lowest.kp T.b_lowest .nil pass0 (pa_cons (pe_op (op_mulK (K := K)) (pe_ix (ixK (K := K)) (pv 0) pe_int (fun _ _ => rfl)) (pe_ix (ixK (K := K)) (pv 1) pe_int (fun _ _ => rfl))) (pa_cons (pe_op (op_mulK (K := K)) (pe_ix (ixK (K := K)) (pv 0) pe_int (fun _ _ => rfl)) (pe_ix (ixK (K := K)) (pv 1) pe_int (fun _ _ => rfl))) pa_nil))))), ?_⟩
  walk_at "nz"
  have d0 := mul_ne hp.1 hq.1
  refine r_ixTi ha rfl (r_ixTi hb rfl (r_mulI hp.2.1 hq.2.1 (by omega) (r_ixTi ha rfl (r_ixTi hb rfl (r_mulI hp.2.2 hq.2.2 (by omega) ?_)))))
  exact ⟨_, _, rfl, d0, pow8000 (mul_lt2 hp.2.2 hq.2.2) (by omega), k⟩
theorem ok_over (T : Txt K mg) : FnOk P w K mg base CX0 2 T.a_over T.d_over ["p", "q"] (sp_over K) := by
  have G_lowest := ok_lowest (P := P) (w := w) (base := base) T
  refine T.F_over.ok sc_over (fun vs H Q E h => ?_) (fun cdv A outer s H vs Q E hr h => ?_)
  · obtain ⟨_, _, _, _, rfl, _⟩ := h
    rfl
  obtain ⟨a, b, p, q, rfl, ha, hb, hp, hq, h0, k⟩ := h
  refine ⟨_, (pss_one (ps_ret (pe_call G_lowest (hr.mono (by omega)) rfl T.m_lowest T.F_lowest.kp T.b_lowest .nil pass0 (pa_cons (pe_op (op_mulK (K := K)) (pe_ix (ixK (K := K)) (pv 0) pe_int (fun _ _ => rfl)) (pe_ix (ixK (K := K)) (pv 1) pe_int (fun _ _ => rfl))) (pa_cons (pe_op (op_mulK (K := K)) (pe_ix (ixK (K := K)) (pv 0) pe_int (fun _ _ => rfl)) (pe_ix (ixK (K := K)) (pv 1) pe_int (fun _ _ => rfl))) pa_nil))))), ?_⟩
  walk_at "nz"
  have pp := hp.1
  have d0 : p.2 * q.1 ≠ 0 := Int.mul_ne_zero (by omega) h0
  refine r_ixTi ha rfl (r_ixTi hb rfl (r_mulI hp.2.1 hq.2.2 (by omega) (r_ixTi ha rfl (r_ixTi hb rfl (r_mulI hp.2.2 hq.2.1 (by omega) ?_)))))
  have hm := mul_lt2 hp.2.2 hq.2.1
  exact ⟨_, _, rfl, d0, pow8000 hm (by omega), k⟩
theorem ok_is_less (T : Txt K mg) : FnOk P w K mg base CX0 1 T.a_is_less T.d_is_less ["p", "q"] (sp_is_less K) := by
  refine T.F_is_less.ok sc_is_less (fun vs H Q E h => ?_) (fun cdv A outer s H vs Q E hr h => ?_)
  · obtain ⟨_, _, _, _, _, _, rfl, _⟩ := h
    rfl
  obtain ⟨a, b, p, q, B, C, rfl, ha, hb, hp, hq, hl, k⟩ := h
  refine ⟨_, (pss_one (ps_ret (pe_cmpR op_lt (pe_op (op_mulK (K := K)) (pe_ix (ixK (K := K)) (pv 0) pe_int (fun _ _ => rfl)) (pe_ix (ixK (K := K)) (pv 1) pe_int (fun _ _ => rfl))) (pe_op (op_mulK (K := K)) (pe_ix (ixK (K := K)) (pv 1) pe_int (fun _ _ => rfl)) (pe_ix (ixK (K := K)) (pv 0) pe_int (fun _ _ => rfl))) (nomark _)))), ?_⟩
  walk_at "nz"
  exact r_ixTi ha rfl (r_ixTi hb rfl (r_mulI hp.2.1 hq.2.2 (by omega) (r_ixTi hb rfl (r_ixTi ha rfl (r_mulI hq.2.1 hp.2.2 (by omega) (r_I0 k))))))
end

/-! ### the tape -/
/-- [list(script), place, left, mixed] at t -/
def TapeL (H : Hp) (t l : Addr) : Prop := ∃ (ns : List Int) (place left mixed : Int), H t = some (.lst [.ref l, .int place, .int left, .int mixed]) ∧ H l = some (.lst (ns.map V.int)) ∧ l ≠ t ∧ 0 ≤ place ∧ 0 ≤ left ∧ 0 ≤ mixed ∧ ns.length ≤ 63
def Tape (H : Hp) (t : Addr) : Prop := ∃ l, TapeL H t l
/-- all but the tape stays, and the tape is one -/
structure Ext (K : Fg) (t : Addr) (H H' : Hp) : Prop where
  oth : ∀ b o, b ≠ t → H b = some o → H' b = some o
  tup : TSame K H H'
  tp : ∃ l, TapeL H t l ∧ TapeL H' t l
section
variable {K : Fg} {H H' H1 H2 : Hp} {t p a : Addr}
theorem TapeL.same {l : Addr} (e : Same H H') (h : TapeL H t l) : TapeL H' t l := by
  obtain ⟨ns, a, b, c, h1, h2, r⟩ := h
  exact ⟨ns, a, b, c, e _ _ h1, e _ _ h2, r⟩
theorem Tape.same (e : Same H H') (h : Tape H t) : Tape H' t := ⟨_, h.choose_spec.same e⟩
theorem TapeL.one {l m : Addr} (h : TapeL H t l) (h' : TapeL H t m) : l = m := by
  obtain ⟨_, _, _, _, h1, _⟩ := h
  obtain ⟨_, _, _, _, h2, _⟩ := h'
  rw [h1] at h2
  simp only [Option.some.injEq, HO.lst.injEq, List.cons.injEq, V.ref.injEq] at h2
  exact h2.1
theorem Ext.tape (e : Ext K t H H') : Tape H' t := by
  obtain ⟨l, _, h⟩ := e.tp
  exact ⟨l, h⟩
theorem Ext.tape0 (e : Ext K t H H') : Tape H t := by
  obtain ⟨l, h, _⟩ := e.tp
  exact ⟨l, h⟩
theorem Ext.same (e : Same H H') (h : Tape H t) : Ext K t H H' := by
  obtain ⟨l, h⟩ := h
  exact ⟨fun b o _ q => e b o q, tsame e, l, h, h.same e⟩
theorem Ext.refl (h : Tape H t) : Ext K t H H := .same (Same.refl _) h
theorem Ext.trans (a : Ext K t H H1) (b : Ext K t H1 H2) : Ext K t H H2 := by
  obtain ⟨l, l1, l2⟩ := a.tp
  obtain ⟨m, m1, m2⟩ := b.tp
  have e := l2.one m1
  subst e
  exact ⟨fun x o n q => b.oth x o n (a.oth x o n q), fun x o q => b.tup x o (a.tup x o q), l, l1, m2⟩
theorem Ext.then (a : Ext K t H H1) (b : Same H1 H2) : Ext K t H H2 := a.trans (.same b a.tape)
theorem Ext.lst {xs : List V} (e : Ext K t H H') (n : a ≠ t) (h : SqL K H a xs) : SqL K H' a xs := by
  rcases h with (h | ⟨o, h⟩) | h
  · exact .inl (.inl (e.oth _ _ n h))
  · exact .inl (.inr ⟨o, e.oth _ _ n h⟩)
  · exact .inr h
theorem Tape.get (h : Tape H t) : ∃ xs, H t = some (.lst xs) := by
  obtain ⟨l, ns, a, b, c, h1, _⟩ := h
  exact ⟨_, h1⟩
theorem Tape.ne (h : Tape H t) (hp : H p = none) : p ≠ t := by
  rintro rfl
  obtain ⟨xs, h1⟩ := h.get
  rw [h1] at hp
  cases hp
theorem Ext.free (e : Ext K t H H') (hp : H' p = none) : H p = none := by
  cases h : H p with
  | none => rfl
  | some o => rw [e.oth p o (e.tape.ne hp) h] at hp; cases hp
theorem dpX {d : PyData} {v : V} (e : Ext K t H H') (n : noL d = true) (h : Dp K H v d) : Dp K H' v d := dp_monoT e.tup _ _ n h
theorem dpsX {d : List PyData} {v : List V} (e : Ext K t H H') (n : noLs d = true) (h : DpAll K H v d) : DpAll K H' v d := dps_monoT e.tup _ _ n h
theorem tsameL {xs : List V} (h1 : H1 p = some (.lst xs)) (h : ∀ b o, b ≠ p → H1 b = some o → H2 b = some o) : TSame K H1 H2 := fun a zs q => by
  rcases q with (q | ⟨o, q⟩) | q
  · exact .inl (.inl (h _ _ (by rintro rfl; rw [h1] at q; cases q) q))
  · exact .inl (.inr ⟨o, h _ _ (by rintro rfl; rw [h1] at q; cases q) q⟩)
  · exact .inr q
/-- an owned list (fresh ahead of H) may change -/
theorem Ext.mut {xs : List V} (e : Ext K t H H1) (hp : H p = none) (h1 : H1 p = some (.lst xs)) (h : ∀ b o, b ≠ p → H1 b = some o → H2 b = some o) : Ext K t H H2 := by
  have tp := tsameL (K := K) h1 h
  refine ⟨fun b o n q => h _ _ (by rintro rfl; rw [hp] at q; cases q) (e.oth b o n q), fun a zs q => tp _ _ (e.tup a zs q), ?_⟩
  have np := e.tape0.ne hp
  obtain ⟨l, l1, l2⟩ := e.tp
  refine ⟨l, l1, ?_⟩
  obtain ⟨_, _, _, _, _, k2, _⟩ := l1
  obtain ⟨ns, a, b, c, q1, q2, q3⟩ := l2
  exact ⟨ns, a, b, c, h _ _ np.symm q1, h _ _ (by rintro rfl; rw [hp] at k2; cases k2) q2, q3⟩
theorem Same.mut (e : Same H H1) (hp : H p = none) (h : ∀ b o, b ≠ p → H1 b = some o → H2 b = some o) : Same H H2 := fun b o q => h _ _ (by rintro rfl; rw [hp] at q; cases q) (e b o q)
end
def sp__law_tape (K : Fg) : Sp := fun vs H Q _ => ∃ (a : Addr) (ns : List Int), vs = [.ref a] ∧ SqL K H a (ns.map V.int) ∧ ns.length ≤ 63 ∧ ∀ t H', Same H H' → Tape H' t → Q (.ref t) H'
def sp__law_draw (K : Fg) : Sp := fun vs H Q _ => ∃ (t : Addr) (many : Int), vs = [.ref t, .int many] ∧ Tape H t ∧ many.natAbs < 2 ^ 62 ∧ ∀ r H', Ext K t H H' → 0 ≤ r → r < max many 1 → Q (.int r) H'
/-- an item of a list of values -/
def sp__law_pick (K : Fg) : Sp := fun vs H Q _ => ∃ (t a : Addr) (xs : List V), vs = [.ref t, .ref a] ∧ Tape H t ∧ SqL K H a xs ∧ a ≠ t ∧ 0 < xs.length ∧ xs.length < 2 ^ 60 ∧ ∀ (i : Nat) (v : V) (H' : Hp), Ext K t H H' → xs[i]? = some v → Q v H'
--', Ext K t H H' → xs[i]? = some v → Q v H'
/-- some of 0 .. many - 1 -/
def sp__law_turns (K : Fg) : Sp := fun vs H Q _ => ∃ (t : Addr) (many : Nat), vs = [.ref t, .int many] ∧ Tape H t ∧ many < 1000 ∧ ∀ (a : Addr) (ns : List Int) (H' : Hp), Ext K t H H' → H a = none → H' a = some (.lst (ns.map V.int)) → (∀ n ∈ ns, 0 ≤ n ∧ n < (many : Int)) → ns.length ≤ many → Q (.ref a) H'
--', Ext K t H H' → H a = none → H' a = some (.lst (ns.map V.int)) → (∀ n ∈ ns, 0 ≤ n ∧ n < (many : Int)) → ns.length ≤ many → Q (.ref a) H'
def sp__law_shuffled (K : Fg) : Sp := fun vs H Q _ => ∃ (t a : Addr) (xs : List V), vs = [.ref t, .ref a] ∧ Tape H t ∧ SqL K H a xs ∧ a ≠ t ∧ xs.length < 100000 ∧ ∀ (p : Addr) (ys : List V) (H' : Hp), Ext K t H H' → H p = none → H' p = some (.lst ys) → ys.Perm xs → Q (.ref p) H'
--', Ext K t H H' → H p = none → H' p = some (.lst ys) → ys.Perm xs → Q (.ref p) H'

theorem map_int_at {ns : List Int} {i : Nat} {x : V} (h : (ns.map V.int)[i]? = some x) : ∃ n, ns[i]? = some n ∧ x = V.int n := by
  rw [List.getElem?_map] at h
  cases e : ns[i]? with
  | none => rw [e] at h; cases h
  | some n => rw [e] at h; exact ⟨n, rfl, (Option.some.inj h).symm⟩
section
variable {P : Program} {w : World} {K : Fg} {mg : Str → Option Value} {base : Heap}
theorem ok__law_tape (T : Txt K mg) : FnOk P w K mg base CX0 1 T.a__law_tape T.d__law_tape ["script"] (sp__law_tape K) := by
  refine T.F__law_tape.ok sc__law_tape (fun vs H Q E h => ?_) (fun cdv A outer s H vs Q E hr h => ?_)
  · obtain ⟨_, _, rfl, _⟩ := h
    rfl
  obtain ⟨a, ns, rfl, ha, hl, k⟩ := h
  refine ⟨_, (pss_cons (ps_set (i := 1) sc__law_tape.nd rfl (Or.inl rfl) pe_int) (pss_cons (ps_for PassesOwn.never rfl (pi_listK (K := K) (pv 0)) (pg_name (i := 2) sc__law_tape.nd rfl (Or.inl rfl)) (pss_one (ps_set (i := 1) sc__law_tape.nd rfl (Or.inl rfl) (pe_op op_modU (pe_callTy call_intU (by rfl) T.z_int rfl (pa_cons (pe_op (op_addK (K := K)) (pe_op (op_mulK (K := K)) (pv 1) pe_int) (pe_callB call_absU (by rfl) T.z_abs rfl (pa_cons (pe_callTy call_intU (by rfl) T.z_int rfl (pa_cons (pv 2) pa_nil)) pa_nil))) pa_nil)) pe_int)))) (pss_one (ps_ret (pe_lst (pa_cons (pe_callTy (call_listK (K := K)) (by rfl) T.z_list rfl (pa_cons (pv 0) pa_nil)) (pa_cons pe_int (pa_cons pe_int (pa_cons (pv 1) pa_nil))))))))), ?_⟩
  walk_at "nz"
  refine r_forL rfl ha (fun i σ' H' => H' = H ∧ ∃ m c, σ' = [some (.ref a), some (.int m), c] ∧ 0 ≤ m ∧ m < 2147483647) ⟨rfl, 7, none, rfl, by decide, by decide⟩ (fun i σ' H' _ ⟨e, _⟩ => e ▸ ha) ?_ ?_
  · rintro i x σ' H' hi ⟨rfl, m, c, rfl, hm, hm2⟩
    obtain ⟨n, hn, rfl⟩ := map_int_at hi
    walk_at "nz"
    refine r_mulR (by decide) (r_int (r_abs (r_addI (r_int (r_modP (by decide) ?_)))))
    exact ⟨rfl, _, _, rfl, by omega, by omega⟩
  · rintro σ' H' ⟨rfl, m, c, rfl, hm, _⟩
    walk_at "nz"
    refine r_listV (.inl ha) fun l H1 s1 n1 e1 => ?_
    refine r_lst fun p H2 s2 hp e2 => k _ _ (s1.trans s2) ?_
    have nlp : l ≠ p := by rintro rfl; rw [e1] at hp; cases hp
    exact ⟨l, ns, 0, 0, m, e2, s2 _ _ e1, nlp, by decide, by decide, hm, hl⟩
theorem lt64 {n : Nat} (h : n < 2 ^ 64) : n < 2 ^ 8999 := Nat.lt_of_lt_of_le h (Nat.pow_le_pow_right (by decide) (by decide))
theorem atI0 {a b c d : V} : atI [a, b, c, d] 0 = some a := rfl
theorem atI1 {a b c d : V} : atI [a, b, c, d] 1 = some b := rfl
theorem atI2 {a b c d : V} : atI [a, b, c, d] 2 = some c := rfl
theorem atI3 {a b c d : V} : atI [a, b, c, d] 3 = some d := rfl
theorem r_setL {Q : Hp → Prop} {H : Hp} {p : Addr} {xs : List V} {k : Int} {j : Nat} {v : V} (h : H p = some (.lst xs)) (hj : ixN xs.length k = some j)
    (q : ∀ H', (∀ b o, b ≠ p → H b = some o → H' b = some o) → H' p = some (.lst (xs.set j v)) → Q H') : rSetL (.ref p) (.int k) v H Q :=
  ⟨p, xs, k, j, rfl, rfl, h, hj, q _ (fun b o hb e => by rw [upd_ne hb]; exact e) upd_same⟩
theorem tape_set {H H' : Hp} {t l : Addr} {ns : List Int} {a b c : Int} (hl : H l = some (.lst (ns.map V.int))) (n : l ≠ t) (ha : 0 ≤ a) (hb : 0 ≤ b) (hc : 0 ≤ c) (hz : ns.length ≤ 63)
    (h : ∀ b o, b ≠ t → H b = some o → H' b = some o) (e : H' t = some (.lst [.ref l, .int a, .int b, .int c])) : TapeL H' t l :=
  ⟨ns, a, b, c, e, h _ _ n hl, n, ha, hb, hc, hz⟩
theorem ext_set {H H' : Hp} {t l : Addr} (h0 : TapeL H t l) (h : ∀ b o, b ≠ t → H b = some o → H' b = some o) (h1 : TapeL H' t l) : Ext K t H H' := by
  obtain ⟨xs, hx⟩ := Tape.get ⟨l, h0⟩
  exact ⟨h, tsameL hx h, l, h0, h1⟩
theorem modr {i many : Int} : 0 ≤ i % max many 1 ∧ i % max many 1 < max many 1 := ⟨Int.emod_nonneg _ (by omega), Int.emod_lt_of_pos _ (by omega)⟩
theorem ok__law_draw (T : Txt K mg) : FnOk P w K mg base CX0 1 T.a__law_draw T.d__law_draw ["tape", "many"] (sp__law_draw K) := by
  refine T.F__law_draw.ok sc__law_draw (fun vs H Q E h => ?_) (fun cdv A outer s H vs Q E hr h => ?_)
  · obtain ⟨_, _, rfl, _⟩ := h
    rfl
  obtain ⟨t, many, rfl, ⟨l, hT⟩, hmany, k⟩ := h
  refine ⟨_, (pss_cons (ps_if (pt_cmpR (op_eqK (K := K) (hu64 hr)) (pe_ix (ixK (K := K)) (pv 0) pe_int (fun _ _ => rfl)) pe_int (nomark _)) (pss_cons (ps_set (i := 2) sc__law_draw.nd rfl (Or.inl rfl) (pe_ix (ixK (K := K)) (pv 0) pe_int (fun _ _ => rfl))) (pss_cons (ps_set (i := 3) sc__law_draw.nd rfl (Or.inl rfl) pe_int) (pss_cons (ps_if (pt_cmpR op_lt (pv 2) (pe_callB (call_lenK (K := K)) (by rfl) T.z_len rfl (pa_cons (pe_ix (ixK (K := K)) (pv 0) pe_int (fun _ _ => rfl)) pa_nil)) (nomark _)) (pss_one (ps_set (i := 3) sc__law_draw.nd rfl (Or.inl rfl) (pe_callB call_absU (by rfl) T.z_abs rfl (pa_cons (pe_callTy call_intU (by rfl) T.z_int rfl (pa_cons (pe_ix (ixK (K := K)) (pe_ix (ixK (K := K)) (pv 0) pe_int (fun _ _ => rfl)) (pv 2) (fun _ _ => rfl)) pa_nil)) pa_nil)))) (pss_cons (ps_asg (pe_op op_modU (pe_callTy call_intU (by rfl) T.z_int rfl (pa_cons (pe_op (op_addK (K := K)) (pe_op (op_addK (K := K)) (pe_op (op_mulK (K := K)) (pe_ix (ixK (K := K)) (pv 0) pe_int (fun _ _ => rfl)) pe_int) (pv 2)) pe_int) pa_nil)) pe_int) (pg_sub (pv 0) pe_int set_list)) (pss_one (ps_set (i := 3) sc__law_draw.nd rfl (Or.inl rfl) (pe_ix (ixK (K := K)) (pv 0) pe_int (fun _ _ => rfl)))))) (pss_cons (ps_asg (pe_op (op_addK (K := K)) (pv 2) pe_int) (pg_sub (pv 0) pe_int set_list)) (pss_cons (ps_if (pt_cmpR op_lt (pv 3) (pe_op op_pow pe_int pe_int) (nomark _)) (pss_cons (ps_set (i := 3) sc__law_draw.nd rfl (Or.inl rfl) (pe_op op_modU (pe_callTy call_intU (by rfl) T.z_int rfl (pa_cons (pe_op (op_addK (K := K)) (pe_op (op_addK (K := K)) (pe_op (op_mulK (K := K)) (pv 3) pe_int) (pe_op (op_mulK (K := K)) (pv 2) pe_int)) pe_int) pa_nil)) pe_int)) (pss_cons (ps_set (i := 3) sc__law_draw.nd rfl (Or.inl rfl) (pe_op op_modU (pe_callTy call_intU (by rfl) T.z_int rfl (pa_cons (pe_op (op_mulK (K := K)) (pv 3) pe_int) pa_nil)) pe_int)) (pss_one (ps_ret (pe_op op_modU (pe_callTy call_intU (by rfl) T.z_int rfl (pa_cons (pv 3) pa_nil)) (pe_callB (call_max2U rfl) (by rfl) T.z_max rfl (pa_cons (pv 1) (pa_cons pe_int pa_nil)))))))) pss_nil) (pss_one (ps_asg (pv 3) (pg_sub (pv 0) pe_int set_list)))))))) pss_nil) (pss_cons (ps_set (i := 3) sc__law_draw.nd rfl (Or.inl rfl) (pe_ix (ixK (K := K)) (pv 0) pe_int (fun _ _ => rfl))) (pss_cons (ps_asg (pe_op op_fdivU (pv 3) (pe_callB (call_max2U rfl) (by rfl) T.z_max rfl (pa_cons (pv 1) (pa_cons pe_int pa_nil)))) (pg_sub (pv 0) pe_int set_list)) (pss_one (ps_ret (pe_op op_modU (pe_callTy call_intU (by rfl) T.z_int rfl (pa_cons (pv 3) pa_nil)) (pe_callB (call_max2U rfl) (by rfl) T.z_max rfl (pa_cons (pv 1) (pa_cons pe_int pa_nil))))))))), ?_⟩
  walk_at "nz"
  have hT0 := hT
  obtain ⟨ns, place, left, mixed, e1, e2, nlt, p0, l0, m0, hz⟩ := hT
  have s1 : SqL K H t _ := SqL.of e1
  -- the tail, from a heap where number is known
  have tail2 : ∀ (number : Int) (H1 : Hp), 0 ≤ number → (∃ pl lf mx, H1 t = some (.lst [.ref l, .int pl, .int lf, .int mx]) ∧ 0 ≤ pl ∧ 0 ≤ mx) → (∀ b o, b ≠ t → H b = some o → H1 b = some o) →
      rMaxU [.int many, .int 2] H1 fun x H2 => rFdU (.int number) x H2 fun x H3 => rSetL (.ref t) (.int 2) x H3 fun H4 => rIntU [.int number] H4 fun x H5 => rMaxU [.int many, .int 1] H5 fun y H6 => rModU x y H6 Q := by
    rintro number H1 hn ⟨pl, lf, mx, f1, fp, fm⟩ f2
    refine r_max (r_fdW (by omega) (lt64 (by omega)) (r_setL f1 rfl fun H2 g1 g2 => r_int (r_max (r_modP (by omega) ?_))))
    refine k _ _ (ext_set hT0 (fun b o n q => g1 b o n (f2 b o n q)) (tape_set (f2 _ _ nlt e2) nlt fp (Int.ediv_nonneg hn (by omega)) fm hz g1 g2)) modr.1 modr.2
  have tail1 : ∀ (number place : Int) (H1 : Hp), 0 ≤ number → 0 ≤ place → (∃ pl lf mx, H1 t = some (.lst [.ref l, .int pl, .int lf, .int mx]) ∧ 0 ≤ lf ∧ 0 ≤ mx) → (∀ b o, b ≠ t → H b = some o → H1 b = some o) →
      rAddU K (V.int place) (V.int 1) H1 fun x_1 H1 => rSetL (V.ref t) (V.int 1) x_1 H1 fun H3 => rI CPow (fun i j => V.int (i ^ j.toNat)) (V.int 10) (V.int 18) H3 fun y H2 => rI0 (fun i j => V.bl (decide (i < j))) (.int number) y H2 fun x_2 H' =>
        ∃ k, x_2 = V.bl k ∧ if k = true then
            rMulU K (.int number) (V.int 48271) H' fun x H1 => rMulU K (V.int place) (V.int 69621) H1 fun y H2 => rAddU K x y H2 fun x H1 => rAddU K x (V.int 5) H1 fun x H1 => rIntU [x] H1 fun x H1 => rModU x (V.int 2147483647) H1 fun x H1 =>
              rMulU K x (V.int 69621) H1 fun x H1 => rIntU [x] H1 fun x H1 => rModU x (V.int 2147483629) H1 fun x H1 => rIntU [x] H1 fun x H1 => rMaxU [V.int many, V.int 1] H1 fun y H2 => rModU x y H2 Q
          else rSetL (V.ref t) (V.int 2) (.int number) H' fun H3 => rIx K (V.ref t) (V.int 2) H3 fun x H1 => rMaxU [V.int many, V.int 2] H1 fun y H2 => rFdU x y H2 fun x_3 H1 => rSetL (V.ref t) (V.int 2) x_3 H1 fun H3 =>
            rIntU [x] H3 fun x H1 => rMaxU [V.int many, V.int 1] H1 fun y H2 => rModU x y H2 Q := by
    rintro number place H1 hn hp ⟨pl, lf, mx, f1, fl, fm⟩ f2
    refine r_addI (r_setL f1 rfl fun H2 g1 g2 => r_I ⟨by decide, by decide, by decide⟩ (r_I0 (r_bl (r_if (fun c => ?_) (fun c => ?_)))))
    · refine r_mulR (by decide) (r_mulR (by decide) (r_addI (r_addI (r_int (r_modP (by decide) (r_mulR (by decide) (r_int (r_modP (by decide) (r_int (r_max (r_modP (by omega) ?_)))))))))))
      exact k _ _ (ext_set hT0 (fun b o n q => g1 b o n (f2 b o n q)) (tape_set (f2 _ _ nlt e2) nlt (by omega) fl fm hz g1 g2)) modr.1 modr.2
    · refine r_setL g2 rfl fun H3 g3 g4 => r_ixLV (SqL.of g4) atI2 ?_
      exact tail2 number H3 hn ⟨_, _, _, g4, by omega, fm⟩ fun b o n q => g3 b o n (g1 b o n (f2 b o n q))
  refine r_ixLV s1 atI2 (r_eqI (r_bl (r_if (fun c => ?_) (fun c => ?_))))
  · refine r_ixLV s1 atI1 (r_ixLV s1 atI0 (r_lenL (SqL.of e2) (r_I0 (r_bl (r_if (fun c2 => ?_) (fun c2 => ?_))))))
    · have hi : place.toNat < ns.length := by rw [List.length_map] at c2; omega
      have hat : atI (ns.map V.int) place = some (.int ns[place.toNat]) := at_of (j := place.toNat) (by omega) (by rw [List.getElem?_map, List.getElem?_eq_getElem hi]; rfl)
      refine r_ixLV s1 atI0 (r_ixLV (SqL.of e2) hat (r_int (r_abs ?_)))
      exact tail1 _ place H (by omega) p0 ⟨_, _, _, e1, l0, m0⟩ fun _ _ _ q => q
    · refine r_ixLV s1 atI3 (r_mulR (by decide) (r_addI (r_addI (r_int (r_modP (by decide) (r_setL e1 rfl fun H2 g1 g2 => r_ixLV (SqL.of g2) atI3 ?_))))))
      exact tail1 _ place H2 (by omega) p0 ⟨_, _, _, g2, l0, by omega⟩ g1
  · refine r_ixLV s1 atI2 ?_
    exact tail2 left H l0 ⟨_, _, _, e1, p0, m0⟩ fun _ _ _ q => q
end

section
variable {P : Program} {w : World} {K : Fg} {mg : Str → Option Value} {base : Heap}
theorem ok__law_pick (T : Txt K mg) : FnOk P w K mg base CX0 2 T.a__law_pick T.d__law_pick ["tape", "rows"] (sp__law_pick K) := by
  have G__law_draw := ok__law_draw (P := P) (w := w) (base := base) T
  refine T.F__law_pick.ok sc__law_pick (fun vs H Q E h => ?_) (fun cdv A outer s H vs Q E hr h => ?_)
  · obtain ⟨_, _, _, rfl, _⟩ := h
    rfl
  obtain ⟨t, a, xs, rfl, hT, hx, hn, h0, h1, k⟩ := h
  refine ⟨_, (pss_one (ps_ret (pe_ix (ixK (K := K)) (pv 1) (pe_call G__law_draw (hr.mono (by omega)) rfl T.m__law_draw T.F__law_draw.kp T.b__law_draw .nil pass0 (pa_cons (pv 0) (pa_cons (pe_callB (call_lenK (K := K)) (by rfl) T.z_len rfl (pa_cons (pv 1) pa_nil)) pa_nil))) (fun _ _ => rfl)))), ?_⟩
  walk_at "nz"
  refine r_lenL hx ⟨_, _, rfl, hT, by omega, fun r H1 e1 r0 r1 => ?_⟩
  have hr : r.toNat < xs.length := by omega
  exact r_ixLV (e1.lst hn hx) (at_of (j := r.toNat) (by omega) (List.getElem?_eq_getElem hr)) (k _ _ _ e1 (List.getElem?_eq_getElem hr))
/-- one turn: an item of left goes behind turned -/
theorem turn_pop {t p q : Addr} {lf tn : List V} {H H1 : Hp} {Q : Hp → Prop} (e : Ext K t H H1) (np : H p = none) (nq : H q = none) (npq : p ≠ q) (hq : H1 q = some (.lst lf)) (hp : H1 p = some (.lst tn)) (h0 : 0 < lf.length) (h1 : lf.length < 1000000) (h2 : tn.length < 1000000)
    (k : ∀ (i : Nat) y H2, lf[i]? = some y → Ext K t H H2 → H2 q = some (.lst (lf.eraseIdx i)) → H2 p = some (.lst (tn ++ [y])) → Q H2) :
    tyV K "list" (.ref p) H1 ∧ tyV K "list" (.ref q) H1 ∧ rLenU K [.ref q] H1 fun n H2 => sp__law_draw K [.ref t, n] H2 (fun r H3 => rPopAt (.ref q) [r] H3 fun y H4 => rAppend (.ref p) [y] H4 fun _ H5 => Q H5) E0 := by
  refine ⟨r_tyL (SqL.of hp), r_tyL (SqL.of hq), r_lenL (SqL.of hq) ⟨_, _, rfl, e.tape, by omega, fun r H3 e3 r0 r1 => ?_⟩⟩
  have tp := e.tape0.ne np
  have tq := e.tape0.ne nq
  refine r_popAt (e3.oth _ _ tq hq) r0 (by omega) (by omega) fun y H4 hy f4 g4 => ?_
  have p4 := f4 _ _ npq (e3.oth _ _ tp hp)
  refine r_append p4 h2 fun H5 f5 g5 => ?_
  have x4 : Ext K t H H4 := (e.trans e3).mut nq (e3.oth _ _ tq hq) f4
  exact k r.toNat y H5 hy (x4.mut np p4 f5) (f5 _ _ npq.symm g4) g5
theorem ok__law_shuffled (T : Txt K mg) : FnOk P w K mg base CX0 2 T.a__law_shuffled T.d__law_shuffled ["tape", "rows"] (sp__law_shuffled K) := by
  have G__law_draw := ok__law_draw (P := P) (w := w) (base := base) T
  refine T.F__law_shuffled.ok sc__law_shuffled (fun vs H Q E h => ?_) (fun cdv A outer s H vs Q E hr h => ?_)
  · obtain ⟨_, _, _, rfl, _⟩ := h
    rfl
  obtain ⟨t, a, xs, rfl, hT, hx, hn, hl, k⟩ := h
  refine ⟨_, (pss_cons (ps_set (i := 2) sc__law_shuffled.nd rfl (Or.inl rfl) (pe_callTy (call_listK (K := K)) (by rfl) T.z_list rfl (pa_cons (pv 1) pa_nil))) (pss_cons (ps_set (i := 3) sc__law_shuffled.nd rfl (Or.inl rfl) (pe_lst pa_nil)) (pss_cons (ps_for PassesOwn.never rfl (pi_range1 (by rfl) T.z_range (pa_cons (pe_callB (call_lenK (K := K)) (by rfl) T.z_len rfl (pa_cons (pv 1) pa_nil)) pa_nil)) (pg_name (i := 4) sc__law_shuffled.nd rfl (Or.inl rfl)) (pss_one (ps_expr (pe_bmK (K := K) PySem.F.plainAttrs_list PySem.F.slot_list_append PySem.F.type_list_append mt_append (pv 3) (pa_cons (pe_bmK (K := K) PySem.F.plainAttrs_list PySem.F.slot_list_pop PySem.F.type_list_pop mt_popAt (pv 2) (pa_cons (pe_call G__law_draw (hr.mono (by omega)) rfl T.m__law_draw T.F__law_draw.kp T.b__law_draw .nil pass0 (pa_cons (pv 0) (pa_cons (pe_callB (call_lenK (K := K)) (by rfl) T.z_len rfl (pa_cons (pv 2) pa_nil)) pa_nil))) pa_nil)) pa_nil))))) (pss_one (ps_ret (pv 3)))))), ?_⟩
  walk_at "nz"
  refine r_listV (.inl hx) fun q H1 s1 nq e1 => r_lst fun p H2 s2 np1 e2 => ?_
  have np : H p = none := s1.free np1
  have npq : p ≠ q := by rintro rfl; rw [e1] at np1; cases np1
  have x2 : Ext K t H H2 := .same (s1.trans s2) hT
  refine r_forR (n := (xs.length : Int)) (fun Q q => by walk_at "nz"; exact r_lenL (x2.lst hn hx) q) (by omega) (by omega)
    (fun i σ' H' => ∃ lf tn c, σ' = [some (.ref t), some (.ref a), some (.ref q), some (.ref p), c] ∧ Ext K t H H' ∧ H' q = some (.lst lf) ∧ H' p = some (.lst tn) ∧ (lf ++ tn).Perm xs ∧ tn.length = i)
    ⟨xs, [], none, rfl, x2, s2 _ _ e1, e2, by rw [List.append_nil], rfl⟩ ?_ ?_
  · rintro i σ' H' hi ⟨lf, tn, c, rfl, x, hq, hp, pm, hlen⟩
    have pl := pm.length_eq
    rw [List.length_append] at pl
    walk_at "nz"
    refine turn_pop x np nq npq hq hp (by omega) (by omega) (by omega) fun j y H2 hy x2 g1 g2 => ⟨_, _, _, rfl, x2, g1, g2, ?_, by rw [List.length_append]; simp [hlen]⟩
    refine List.Perm.trans ?_ pm
    rw [show lf.eraseIdx j ++ (tn ++ [y]) = (lf.eraseIdx j ++ tn) ++ [y] by rw [List.append_assoc]]
    refine List.Perm.trans (l₂ := (lf.eraseIdx j ++ [y]) ++ tn) ?_ ((perm_pop hy).append_right _)
    rw [List.append_assoc, List.append_assoc]
    exact List.Perm.append_left _ List.perm_append_comm
  · rintro σ' H' ⟨lf, tn, c, rfl, x, hq, hp, pm, hlen⟩
    walk_at "nz"
    have pl := pm.length_eq
    rw [List.length_append] at pl
    have : lf = [] := List.eq_nil_of_length_eq_zero (by omega)
    subst this
    exact k _ _ _ x np hp pm
theorem ok__law_turns (T : Txt K mg) : FnOk P w K mg base CX0 2 T.a__law_turns T.d__law_turns ["tape", "many"] (sp__law_turns K) := by
  have G__law_draw := ok__law_draw (P := P) (w := w) (base := base) T
  refine T.F__law_turns.ok sc__law_turns (fun vs H Q E h => ?_) (fun cdv A outer s H vs Q E hr h => ?_)
  · obtain ⟨_, _, rfl, _⟩ := h
    rfl
  obtain ⟨t, many, rfl, hT, hm, k⟩ := h
  refine ⟨_, (pss_cons (ps_set (i := 2) sc__law_turns.nd rfl (Or.inl rfl) (pe_listRg rfl (by rfl) T.z_list (prg_1 (by rfl) T.z_range (pv 1)))) (pss_cons (ps_set (i := 3) sc__law_turns.nd rfl (Or.inl rfl) (pe_lst pa_nil)) (pss_cons (ps_for PassesOwn.never rfl (pi_range1 (by rfl) T.z_range (pa_cons (pv 1) pa_nil)) (pg_name (i := 4) sc__law_turns.nd rfl (Or.inl rfl)) (pss_one (ps_expr (pe_bmK (K := K) PySem.F.plainAttrs_list PySem.F.slot_list_append PySem.F.type_list_append mt_append (pv 3) (pa_cons (pe_bmK (K := K) PySem.F.plainAttrs_list PySem.F.slot_list_pop PySem.F.type_list_pop mt_popAt (pv 2) (pa_cons (pe_call G__law_draw (hr.mono (by omega)) rfl T.m__law_draw T.F__law_draw.kp T.b__law_draw .nil pass0 (pa_cons (pv 0) (pa_cons (pe_callB (call_lenK (K := K)) (by rfl) T.z_len rfl (pa_cons (pv 2) pa_nil)) pa_nil))) pa_nil)) pa_nil))))) (pss_one (ps_ret (pe_slice (sl_K (K := K)) (pv 3) po_none (po_some (pe_ix (ixK (K := K)) (pe_lst (pa_cons (pv 1) (pa_cons (pv 1) (pa_cons pe_int pa_nil)))) (pe_call G__law_draw (hr.mono (by omega)) rfl T.m__law_draw T.F__law_draw.kp T.b__law_draw .nil pass0 (pa_cons (pv 0) (pa_cons pe_int pa_nil))) (fun _ _ => rfl))))))))), ?_⟩
  walk_at "nz"
  refine r_i (r_lstR (by decide) (by omega) (by decide) fun q H1 s1 nq e1 => r_lst fun p H2 s2 np1 e2 => ?_)
  have np : H p = none := s1.free np1
  have npq : p ≠ q := by rintro rfl; rw [e1] at np1; cases np1
  have x2 : Ext K t H _ := .same (s1.trans s2) hT
  have rl : (rgV 0 many).length = many := by unfold rgV; simp
  refine r_forR (n := (many : Int)) (by walk_at "ev") (by omega) (by omega)
    (fun i σ' H' => ∃ lf tn c, σ' = [some (.ref t), some (.int many), some (.ref q), some (.ref p), c] ∧ Ext K t H H' ∧ H' q = some (.lst lf) ∧ H' p = some (.lst tn) ∧ (lf ++ tn).Perm (rgV 0 many) ∧ tn.length = i)
    ⟨_, [], none, rfl, x2, s2 _ _ e1, e2, by rw [List.append_nil], rfl⟩ ?_ ?_
  · rintro i σ' H' hi ⟨lf, tn, c, rfl, x, hq, hp, pm, hlen⟩
    have pl := pm.length_eq
    rw [List.length_append] at pl
    walk_at "nz"
    refine turn_pop x np nq npq hq hp (by omega) (by omega) (by omega) fun j y H2 hy x2 g1 g2 => ⟨_, _, _, rfl, x2, g1, g2, ?_, by rw [List.length_append]; simp [hlen]⟩
    refine List.Perm.trans ?_ pm
    rw [show lf.eraseIdx j ++ (tn ++ [y]) = (lf.eraseIdx j ++ tn) ++ [y] by rw [List.append_assoc]]
    refine List.Perm.trans (l₂ := (lf.eraseIdx j ++ [y]) ++ tn) ?_ ((perm_pop hy).append_right _)
    rw [List.append_assoc, List.append_assoc]
    exact List.Perm.append_left _ List.perm_append_comm
  · rintro σ' H' ⟨lf, tn, c, rfl, x, hq, hp, pm, hlen⟩
    walk_at "nz"
    refine r_lst fun m H2 s2 nm e2 => ?_
    have x3 : Ext K t H H2 := x.then s2
    refine ⟨_, _, rfl, x3.tape, by decide, fun r H3 e3 r0 r1 => ?_⟩
    have nmt : m ≠ t := x.tape.ne nm
    have l3 := e3.oth _ _ nmt e2
    have fin : ∀ z : Int, r = z → (z = 0 ∨ z = 1 ∨ z = 2) → ∃ j, atI [V.int many, V.int many, V.int 1] r = some (.int j) := by
      rintro z rfl (rfl | rfl | rfl)
      · exact ⟨_, rfl⟩
      · exact ⟨_, rfl⟩
      · exact ⟨_, rfl⟩
    obtain ⟨j, hj⟩ := fin r rfl (by omega)
    refine r_ixLV (SqL.of l3) hj ⟨_, rfl, ?_⟩
    have tpp := hT.ne np
    refine r_slL (SqL.of (e3.oth _ _ tpp (s2 _ _ hp))) fun u H4 s4 nu e4 => ?_
    have x4 : Ext K t H H4 := (x3.trans e3).then s4
    have allI : ∀ v ∈ cutV tn none (some j), ∃ n : Int, v = .int n ∧ 0 ≤ n ∧ n < (many : Int) := fun v hv => by
      have h1 : v ∈ rgV 0 many := pm.subset (List.mem_append_right _ (cut_mem hv))
      unfold rgV at h1
      obtain ⟨i, hi, rfl⟩ := List.mem_map.mp h1
      have := List.mem_range.mp hi
      exact ⟨_, rfl, by omega, by omega⟩
    have intsOf : ∀ ys : List V, (∀ v ∈ ys, ∃ n : Int, v = .int n ∧ 0 ≤ n ∧ n < (many : Int)) → ∃ ns : List Int, ys = ns.map V.int ∧ ∀ n ∈ ns, 0 ≤ n ∧ n < (many : Int) := fun ys => by
      induction ys with
      | nil => intro _; exact ⟨[], rfl, fun _ h => nomatch h⟩
      | cons y r ih =>
        intro h
        obtain ⟨ns, e, hb⟩ := ih fun v hv => h v (List.mem_cons_of_mem _ hv)
        obtain ⟨n, e2, b⟩ := h y List.mem_cons_self
        exact ⟨n :: ns, by rw [e2, e]; rfl, fun m hm => (List.mem_cons.mp hm).elim (fun q => q ▸ b) (hb m)⟩
    obtain ⟨ns, en, hb⟩ := intsOf _ allI
    have pl := pm.length_eq
    rw [List.length_append] at pl
    refine k u ns H4 x4 ((x3.trans e3).free nu) (en ▸ e4) hb ?_
    have := cut_len (xs := tn) (lo := none) (hi := some j)
    rw [en, List.length_map] at this
    omega
end

/-- plain data of depth below n -/
def smp : Nat → PyData → Bool
  | 0, _ => false
  | n + 1, .tuple ds => decide (ds.length < 90000) && ds.all (smp n)
  | _ + 1, .list _ => false
  | _ + 1, .dict _ => false
  | _ + 1, .none => true
  | _ + 1, .bool _ => true
  | _ + 1, .int _ => true
  | _ + 1, .str _ => true
theorem smp_succ : ∀ {n : Nat} {d : PyData}, smp n d = true → smp (n + 1) d = true
  | 0, _, h => by cases h
  | n + 1, .tuple ds, h => by
    unfold smp at h ⊢
    rw [Bool.and_eq_true, List.all_eq_true] at h ⊢
    exact ⟨h.1, fun x hx => smp_succ (h.2 x hx)⟩
  | _ + 1, .list _, h => by cases h
  | _ + 1, .dict _, h => by cases h
  | _ + 1, .none, _ => rfl
  | _ + 1, .bool _, _ => rfl
  | _ + 1, .int _, _ => rfl
  | _ + 1, .str _, _ => rfl
theorem smp_le {n m : Nat} {d : PyData} (h : smp n d = true) (hl : n ≤ m) : smp m d = true := by
  induction hl with
  | refl => exact h
  | step _ ih => exact smp_succ ih
/-- told equals wanted where both are the same data -/
def sp__law_sameN (n : Nat) (K : Fg) : Sp := fun vs H Q _ => ∃ (a b : V) (d : PyData), vs = [a, b] ∧ Dp K H a d ∧ Dp K H b d ∧ smp n d = true ∧ ∀ H', Same H H' → Q (.bl true) H'
abbrev sp__law_same := sp__law_sameN 20
section
variable {P : Program} {w : World} {K : Fg} {mg : Str → Option Value} {base : Heap}
theorem r_ninT {H : Hp} {Q : VK} {x : V} {a : Addr} {xs : List V} (hx : SqL K H a xs) (h1 : flatV x = true) (h2 : xs.all flatV = true) {b : Bool} (h3 : inV x xs = b) (q : Q (.bl (!b)) H) : rNinU K x (.ref a) H Q :=
  .inl ⟨a, xs, rfl, .inl hx, h1, h2, by rw [h3]; exact q⟩
theorem all_bl {n : Nat} {b : Bool} : (List.replicate n (V.bl b)).all flatV = true := by
  rw [List.all_eq_true]
  intro x hx
  rw [(List.mem_replicate.mp hx).2]
  rfl
theorem in_tru {n : Nat} : inV (.bl false) (List.replicate n (V.bl true)) = false := by
  unfold inV
  rw [List.any_eq_false]
  intro x hx
  rw [(List.mem_replicate.mp hx).2]
  decide
theorem all_in {xs : List V} (h : ∀ x ∈ xs, x = V.bl true) : xs = List.replicate xs.length (V.bl true) := List.eq_replicate_iff.mpr ⟨rfl, h⟩
set_option maxHeartbeats 4000000 in
theorem ok__law_sameS (T : Txt K mg) {n : Nat} (G__law_same : FnOk P w K mg base CX0 n T.a__law_same T.d__law_same ["told", "wanted"] (sp__law_sameN n K)) : FnOk P w K mg base CX0 (n + 1) T.a__law_same T.d__law_same ["told", "wanted"] (sp__law_sameN (n + 1) K) := by
  refine T.F__law_same.ok sc__law_same (fun vs H Q E h => ?_) (fun cdv A outer s H vs Q E hr h => ?_)
  · obtain ⟨_, _, _, rfl, _⟩ := h
    rfl
  obtain ⟨a, b, d, rfl, ha, hb, hs, k⟩ := h
  refine ⟨_, (pss_cons (ps_if (pt_truthK (K := K) (pe_callB (call_isiK1 (K := K)) (by rfl) T.z_isinstance rfl (pa_cons (pv 1) (pa_cons (pe_bltn (by rfl) T.z_tuple rfl (v := .ty "tuple") rfl) pa_nil))) (fun _ => rfl)) (pss_cons (ps_if (PW.pt (pw_or (pt_not (pt_truthK (K := K) (pe_callB (call_isiK1 (K := K)) (by rfl) T.z_isinstance rfl (pa_cons (pv 0) (pa_cons (pe_bltn (by rfl) T.z_tuple rfl (v := .ty "tuple") rfl) pa_nil))) (fun _ => rfl))) (pw_or1 (pt_cmpR (op_neK (K := K) (hu64 hr)) (pe_callB (call_lenK (K := K)) (by rfl) T.z_len rfl (pa_cons (pv 0) pa_nil)) (pe_callB (call_lenK (K := K)) (by rfl) T.z_len rfl (pa_cons (pv 1) pa_nil)) (nomark _))))) (pss_one (ps_ret pe_bl)) pss_nil) (pss_one (ps_ret (pe_cmpR (op_ninK (K := K) (hu65 hr)) pe_bl (pe_lc (own := [("k", 2)]) (g := gName 2) (tt := tYes) rfl sc__law_same.nd (pi_range1 (by rfl) T.z_range (pa_cons (pe_callB (call_lenK (K := K)) (by rfl) T.z_len rfl (pa_cons (pv 1) pa_nil)) pa_nil)) (blkOk_by (N := ["told", "wanted", "k"]) (sc := defScope s__law_same) (by decide +kernel)) (fun _ _ _ _ _ => (pg_name (i := 2) sc__law_same.nd rfl (Or.inl rfl))) (fun _ _ _ _ _ => pts_nil) (fun _ _ _ _ _ => (pe_call G__law_same (hr.mono (by omega)) rfl T.m__law_same T.F__law_same.kp T.b__law_same .nil pass0 (pa_cons (pe_ix (ixK (K := K)) (pv 0) (pv 2) (fun _ _ => rfl)) (pa_cons (pe_ix (ixK (K := K)) (pv 1) (pv 2) (fun _ _ => rfl)) pa_nil))))) rfl)))) pss_nil) (pss_cons (ps_if (PW.pt (pw_or (pt_cmpR op_isN (pv 1) pe_non (nomark _)) (pw_or1 (pt_cmpR op_isN (pv 0) pe_non (nomark _))))) (pss_one (ps_ret (pe_and (pe_cmpR op_isN (pv 1) pe_non (nomark _)) (pe_one (pe_cmpR op_isN (pv 0) pe_non (nomark _)))))) pss_nil) (pss_cons (ps_if (PW.pt (pw_or (pt_cmpR (op_neK (K := K) (hu64 hr)) (pe_callB (call_isiK1 (K := K)) (by rfl) T.z_isinstance rfl (pa_cons (pv 0) (pa_cons (pe_bltn (by rfl) T.z_bool rfl (v := .ty "bool") rfl) pa_nil))) (pe_callB (call_isiK1 (K := K)) (by rfl) T.z_isinstance rfl (pa_cons (pv 1) (pa_cons (pe_bltn (by rfl) T.z_bool rfl (v := .ty "bool") rfl) pa_nil))) (nomark _)) (pw_or1 (pt_cmpR (op_neK (K := K) (hu64 hr)) (pe_callB (call_isiK1 (K := K)) (by rfl) T.z_isinstance rfl (pa_cons (pv 0) (pa_cons (pe_bltn (by rfl) T.z_str rfl (v := .ty "str") rfl) pa_nil))) (pe_callB (call_isiK1 (K := K)) (by rfl) T.z_isinstance rfl (pa_cons (pv 1) (pa_cons (pe_bltn (by rfl) T.z_str rfl (v := .ty "str") rfl) pa_nil))) (nomark _))))) (pss_one (ps_ret pe_bl)) pss_nil) (pss_one (ps_ret (pe_and (pe_cmpR (op_eqK (K := K) (hu64 hr)) (pe_callB (call_isiK1 (K := K)) (by rfl) T.z_isinstance rfl (pa_cons (pv 0) (pa_cons (pe_bltn (by rfl) T.z_int rfl (v := .ty "int") rfl) pa_nil))) (pe_callB (call_isiK1 (K := K)) (by rfl) T.z_isinstance rfl (pa_cons (pv 1) (pa_cons (pe_bltn (by rfl) T.z_int rfl (v := .ty "int") rfl) pa_nil))) (nomark _)) (pe_one (pe_cmpR (op_eqK (K := K) (hu64 hr)) (pv 0) (pv 1) (nomark _))))))))), ?_⟩
  walk_at "nz"
  have cs : (∃ b1 b2 b3, kitB (tnD d) "tuple" = some false ∧ kitB (tnD d) "bool" = some b1 ∧ kitB (tnD d) "str" = some b2 ∧ kitB (tnD d) "int" = some b3 ∧ a = b ∧ (b = .non → False) ∧ scal b b = true) ∨ (a = .non ∧ b = .non ∧ d = .none) ∨ ∃ ds, d = .tuple ds := by
    cases d with
    | none => exact .inr (.inl ⟨dp_non ha, dp_non hb, rfl⟩)
    | bool x =>
      cases dp_bl ha
      cases dp_bl hb
      exact .inl ⟨true, false, true, rfl, rfl, rfl, rfl, rfl, (fun c => nomatch c), rfl⟩
    | int x =>
      cases dp_int ha
      cases dp_int hb
      exact .inl ⟨false, false, true, rfl, rfl, rfl, rfl, rfl, (fun c => nomatch c), rfl⟩
    | str x =>
      cases dp_str ha
      cases dp_str hb
      exact .inl ⟨false, true, false, rfl, rfl, rfl, rfl, rfl, (fun c => nomatch c), rfl⟩
    | list ds => cases hs
    | dict ds => cases hs
    | tuple ds => exact .inr (.inr ⟨ds, rfl⟩)
  rcases cs with ⟨b1, b2, b3, h0, h1, h2, h3, rfl, nn, sc⟩ | ⟨rfl, rfl, rfl⟩ | ⟨ds, rfl⟩
  · refine r_isi hb h0 ⟨false, rfl, r_ifB (fun c => nomatch c) fun _ => ?_⟩
    rw [decide_eq_false nn]
    refine r_ifB (fun c => nomatch c) fun _ => r_ifB (fun c => nomatch c) fun _ => ?_
    refine r_isi ha h1 (r_isi ha h1 (r_neB ⟨_, rfl, r_ifN (fun c => absurd rfl c) fun _ => ?_⟩))
    refine r_isi ha h2 (r_isi ha h2 (r_neB ⟨_, rfl, r_ifN (fun c => absurd rfl c) fun _ => ?_⟩))
    refine r_isi ha h3 (r_isi ha h3 (r_eqB ⟨_, rfl, r_if (fun _ => ?_) fun c => absurd rfl c⟩))
    refine r_eqS sc ?_
    rw [decide_eq_true rfl]
    exact k _ (Same.refl _)
  · refine r_isi hb rfl ⟨false, rfl, r_ifB (fun c => nomatch c) fun _ => ?_⟩
    rw [decide_eq_true rfl]
    exact r_ifB (fun _ => r_ifB (fun _ => k _ (Same.refl _)) fun c => nomatch c) fun c => nomatch c
  · unfold smp at hs
    rw [Bool.and_eq_true, List.all_eq_true] at hs
    have hl : ds.length < 90000 := of_decide_eq_true hs.1
    refine r_isi hb rfl ⟨true, rfl, r_ifB (fun _ => ?_) (fun c => nomatch c)⟩
    refine r_isi ha rfl ⟨true, rfl, r_ifNB (fun c => nomatch c) fun _ => ?_⟩
    refine r_lenT ha (r_lenT hb (r_neI ⟨_, rfl, r_ifN (fun c => absurd rfl c) fun _ => ?_⟩))
    refine r_lcR (n := (ds.length : Int)) (fun Q q => by walk_at "nz"; exact r_lenT hb q) (by omega) (by omega) (fun p i acc H' => Same H H' ∧ acc.length = i ∧ ∀ x ∈ acc, x = V.bl true)
      (fun p H' s _ e => ⟨s, rfl, fun _ h => nomatch h⟩) (fun p i acc H' hi np e ⟨s, el, ht⟩ => ?_) (fun p acc H' np e ⟨s, el, ht⟩ => ?_)
    · walk_at "nz"
      have hi2 : i < ds.length := by omega
      have hd : ds[i]? = some ds[i] := List.getElem?_eq_getElem hi2
      refine r_ixT (dpUp s ha) (dix_nat hd) fun u hu => r_ixT (dpUp s hb) (dix_nat hd) fun v hv => ?_
      refine ⟨u, v, _, rfl, hu, hv, hs.2 _ (List.getElem_mem hi2), fun H2 s2 => lc_put hi (s2 _ _ e) (by omega) fun H3 f3 e3 => ⟨?_, by rw [List.length_append, el]; rfl, ?_⟩⟩
      · exact Same.mut (s.trans s2) np f3
      · intro x hx
        rcases List.mem_append.mp hx with h | h
        · exact ht x h
        · exact List.mem_singleton.mp h
    · have e2 := all_in ht
      exact r_ninT (b := false) (SqL.of e) rfl (by rw [e2]; exact all_bl) (by rw [e2]; exact in_tru) (k _ s)
theorem ok__law_sameN (T : Txt K mg) : ∀ n : Nat, FnOk P w K mg base CX0 n T.a__law_same T.d__law_same ["told", "wanted"] (sp__law_sameN n K)
  | 0 => by
    have no : ∀ vs H Q E, ¬ sp__law_sameN 0 K vs H Q E := fun vs H Q E h => by
      obtain ⟨a, b, d, _, _, _, h1, _⟩ := h
      cases h1
    exact ⟨fun vs H Q E h => absurd h (no vs H Q E), fun A outer s H args us vs Q E _ _ _ _ h => absurd h (no vs H Q E)⟩
  | n + 1 => ok__law_sameS T (ok__law_sameN T n)
theorem ok__law_same (T : Txt K mg) : FnOk P w K mg base CX0 20 T.a__law_same T.d__law_same ["told", "wanted"] (sp__law_same K) := ok__law_sameN T 20
end

/-! ### the law's own fractions -/
theorem gcd_step (x y k : Int) : Nat.gcd y.natAbs (x - y * k).natAbs = Nat.gcd x.natAbs y.natAbs := by
  apply Nat.dvd_antisymm
  · have h1 : ((Nat.gcd y.natAbs (x - y * k).natAbs : Nat) : Int) ∣ y := Int.ofNat_dvd_left.mpr (Nat.gcd_dvd_left _ _)
    have h2 : ((Nat.gcd y.natAbs (x - y * k).natAbs : Nat) : Int) ∣ x - y * k := Int.ofNat_dvd_left.mpr (Nat.gcd_dvd_right _ _)
    have h3 := Int.dvd_add h2 (Int.dvd_trans h1 (Int.dvd_mul_right y k))
    rw [Int.sub_add_cancel] at h3
    exact Nat.dvd_gcd (Int.ofNat_dvd_left.mp h3) (Int.ofNat_dvd_left.mp h1)
  · have h1 : ((Nat.gcd x.natAbs y.natAbs : Nat) : Int) ∣ x := Int.ofNat_dvd_left.mpr (Nat.gcd_dvd_left _ _)
    have h2 : ((Nat.gcd x.natAbs y.natAbs : Nat) : Int) ∣ y := Int.ofNat_dvd_left.mpr (Nat.gcd_dvd_right _ _)
    have h3 := Int.dvd_sub h1 (Int.dvd_trans h2 (Int.dvd_mul_right y k))
    exact Nat.dvd_gcd (Int.ofNat_dvd_left.mp h2) (Int.ofNat_dvd_left.mp h3)
theorem fmod_lt {x y : Int} (h : y ≠ 0) : (x.fmod y).natAbs < y.natAbs := by
  have a := Int.emod_nonneg x h
  have b := Int.emod_lt x h
  rw [Int.fmod_eq_emod]
  split
  · omega
  · rename_i c
    have c1 : ¬ 0 ≤ y := fun z => c (.inl z)
    have c2 : x % y ≠ 0 := fun z => c (.inr (Int.dvd_of_emod_eq_zero z))
    omega
def sp__law_gcd (_ : Fg) : Sp := fun vs H Q _ => ∃ n d : Int, vs = [.int n, .int d] ∧ Q (.int (gc n d)) H
def sp__law_lowest (K : Fg) : Sp := sp_lowest K
def sp__law_plus (K : Fg) : Sp := sp_bin plusF K
def sp__law_less (K : Fg) : Sp := sp_is_less K
section
variable {P : Program} {w : World} {K : Fg} {mg : Str → Option Value} {base : Heap}
theorem ok__law_gcd (T : Txt K mg) : FnOk P w K mg base CX0 1 T.a__law_gcd T.d__law_gcd ["one", "other"] (sp__law_gcd K) := by
  refine T.F__law_gcd.ok sc__law_gcd (fun vs H Q E h => ?_) (fun cdv A outer s H vs Q E hr h => ?_)
  · obtain ⟨_, _, rfl, _⟩ := h
    rfl
  obtain ⟨n, d, rfl, k⟩ := h
  refine ⟨_, (pss_cons (ps_while PassesOwn.never (pt_cmpR (op_neK (K := K) (hu64 hr)) (pv 1) pe_int (nomark _)) (pss_cons (ps_set (i := 2) sc__law_gcd.nd rfl (Or.inl rfl) (pe_op op_modU (pe_callTy call_intU (by rfl) T.z_int rfl (pa_cons (pv 0) pa_nil)) (pe_callTy call_intU (by rfl) T.z_int rfl (pa_cons (pv 1) pa_nil)))) (pss_cons (ps_set (i := 0) sc__law_gcd.nd rfl (Or.inl rfl) (pv 1)) (pss_one (ps_set (i := 1) sc__law_gcd.nd rfl (Or.inl rfl) (pv 2)))))) (pss_one (ps_ret (pe_callB call_absU (by rfl) T.z_abs rfl (pa_cons (pv 0) pa_nil))))), ?_⟩
  walk_at "nz"
  refine ⟨fun m σ' H' => ∃ x y c, σ' = [some (.int x), some (.int y), c] ∧ H' = H ∧ m = y.natAbs ∧ Nat.gcd x.natAbs y.natAbs = Nat.gcd n.natAbs d.natAbs, ⟨_, n, d, none, rfl, rfl, rfl, rfl⟩, ?_⟩
  rintro m σ' H' ⟨x, y, c, rfl, rfl, rfl, hg⟩
  walk_at "nz"
  refine r_neI ⟨_, rfl, r_ifN (fun h => ⟨_, fun _ _ h => h, ?_⟩) (fun h => ?_)⟩
  · refine r_int (r_int (r_modN h ?_))
    refine ⟨_, fmod_lt h, y, _, _, rfl, rfl, rfl, ?_⟩
    rw [Int.fmod_def, gcd_step, hg]
  · subst h
    refine r_abs ?_
    have e : gc n d = (x.natAbs : Int) := by
      unfold gc
      rw [← hg]
      simp
    rw [← e]
    exact k
theorem ok__law_lowest (T : Txt K mg) : FnOk P w K mg base CX0 2 T.a__law_lowest T.d__law_lowest ["n", "d"] (sp__law_lowest K) := by
  have G__law_gcd := ok__law_gcd (P := P) (w := w) (base := base) T
  refine T.F__law_lowest.ok sc__law_lowest (fun vs H Q E h => ?_) (fun cdv A outer s H vs Q E hr h => ?_)
  · obtain ⟨n, d, rfl, _⟩ := h
    rfl
  obtain ⟨n, d, rfl, h0, h2, q⟩ := h
  refine ⟨_, (pss_cons (ps_set (i := 2) sc__law_lowest.nd rfl (Or.inl rfl) (pe_call G__law_gcd (hr.mono (by omega)) rfl T.m__law_gcd T.F__law_gcd.kp T.b__law_gcd .nil pass0 (pa_cons (pv 0) (pa_cons (pv 1) pa_nil)))) (pss_cons (ps_if (pt_cmpR op_lt (pv 1) pe_int (nomark _)) (pss_one (ps_set (i := 2) sc__law_lowest.nd rfl (Or.inl rfl) (pe_un un_neg (pv 2)))) pss_nil) (pss_one (ps_ret (pe_tup (pa_cons (pe_op op_fdivU (pv 0) (pv 2)) (pa_cons (pe_op op_fdivU (pv 1) (pv 2)) pa_nil))))))), ?_⟩
  walk_at "nz"
  have g0 := gc_pos (n := n) h0
  have g1 := gc_le (n := n) h0
  have h4 : (gc n d).natAbs < 2 ^ 8999 := Nat.lt_of_le_of_lt g1 (Nat.lt_trans h2 (Nat.pow_lt_pow_right (by decide) (by decide)))
  refine ⟨n, d, rfl, r_I0 ⟨_, rfl, r_if (fun c => ?_) (fun c => ?_)⟩⟩
  · have e : low n d = (n.fdiv (-gc n d), d.fdiv (-gc n d)) := if_pos c
    have h5 : (-gc n d).natAbs < 2 ^ 8999 := by rw [Int.natAbs_neg]; exact h4
    refine r_U (r_fdN (show -gc n d ≠ 0 by omega) h5 (r_fdN (show -gc n d ≠ 0 by omega) h5 ?_))
    refine r_tup (K := K) (by walk_at "fds") fun p H' sm _ hp => q _ _ sm ?_
    rw [e]; exact hp
  · have e : low n d = (n / gc n d, d / gc n d) := if_neg c
    refine r_fdW g0 h4 (r_fdW g0 h4 ?_)
    refine r_tup (K := K) (by walk_at "fds") fun p H' sm _ hp => q _ _ sm ?_
    rw [e]; exact hp
theorem ok__law_plus (T : Txt K mg) : FnOk P w K mg base CX0 3 T.a__law_plus T.d__law_plus ["p", "q"] (sp__law_plus K) := by
  have G__law_lowest := ok__law_lowest (P := P) (w := w) (base := base) T
  refine T.F__law_plus.ok sc__law_plus (fun vs H Q E h => ?_) (fun cdv A outer s H vs Q E hr h => ?_)
  · obtain ⟨_, _, _, _, _, _, rfl, _⟩ := h
    rfl
  obtain ⟨a, b, p, q, B, C, rfl, ha, hb, hp, hq, hl, k⟩ := h
  refine ⟨_, (pss_one (ps_ret (pe_call G__law_lowest (hr.mono (by omega)) rfl T.m__law_lowest T.F__law_lowest.kp T.b__law_lowest .nil pass0 (pa_cons (pe_op (op_addK (K := K)) (pe_op (op_mulK (K := K)) (pe_ix (ixK (K := K)) (pv 0) pe_int (fun _ _ => rfl)) (pe_ix (ixK (K := K)) (pv 1) pe_int (fun _ _ => rfl))) (pe_op (op_mulK (K := K)) (pe_ix (ixK (K := K)) (pv 1) pe_int (fun _ _ => rfl)) (pe_ix (ixK (K := K)) (pv 0) pe_int (fun _ _ => rfl)))) (pa_cons (pe_op (op_mulK (K := K)) (pe_ix (ixK (K := K)) (pv 0) pe_int (fun _ _ => rfl)) (pe_ix (ixK (K := K)) (pv 1) pe_int (fun _ _ => rfl))) pa_nil))))), ?_⟩
  walk_at "nz"
  have d0 := mul_ne hp.1 hq.1
  refine r_ixTi ha rfl (r_ixTi hb rfl (r_mulI hp.2.1 hq.2.2 (by omega) (r_ixTi hb rfl (r_ixTi ha rfl (r_mulI hq.2.1 hp.2.2 (by omega) (r_addI (r_ixTi ha rfl (r_ixTi hb rfl (r_mulI hp.2.2 hq.2.2 (by omega) ?_)))))))))
  exact ⟨_, _, rfl, d0, pow8000 (mul_lt2 hp.2.2 hq.2.2) (by omega), k⟩
theorem ok__law_less (T : Txt K mg) : FnOk P w K mg base CX0 1 T.a__law_less T.d__law_less ["p", "q"] (sp__law_less K) := by
  refine T.F__law_less.ok sc__law_less (fun vs H Q E h => ?_) (fun cdv A outer s H vs Q E hr h => ?_)
  · obtain ⟨_, _, _, _, _, _, rfl, _⟩ := h
    rfl
  obtain ⟨a, b, p, q, B, C, rfl, ha, hb, hp, hq, hl, k⟩ := h
  refine ⟨_, (pss_one (ps_ret (pe_cmpR op_lt (pe_op (op_mulK (K := K)) (pe_ix (ixK (K := K)) (pv 0) pe_int (fun _ _ => rfl)) (pe_ix (ixK (K := K)) (pv 1) pe_int (fun _ _ => rfl))) (pe_op (op_mulK (K := K)) (pe_ix (ixK (K := K)) (pv 1) pe_int (fun _ _ => rfl)) (pe_ix (ixK (K := K)) (pv 0) pe_int (fun _ _ => rfl))) (nomark _)))), ?_⟩
  walk_at "nz"
  exact r_ixTi ha rfl (r_ixTi hb rfl (r_mulI hp.2.1 hq.2.2 (by omega) (r_ixTi hb rfl (r_ixTi ha rfl (r_mulI hq.2.1 hp.2.2 (by omega) (r_I0 k))))))
end

/-! ### the helpers in use -/
section
variable {K : Fg} {H : Hp} {Q : VK} {E : XK} {t a : Addr}
theorem use_draw {many : Int} (hT : Tape H t) (k : ∀ r H', Ext K t H H' → 0 ≤ r → r < max many 1 → Q (.int r) H') (hm : many.natAbs < 2 ^ 62 := by decide) : sp__law_draw K [.ref t, .int many] H Q E := ⟨t, many, rfl, hT, hm, k⟩
theorem use_pick {xs : List V} {ds : List PyData} (hT : Tape H t) (ha : SqL K H a xs) (hd : DpAll K H xs ds) (hn : noLs ds = true) (hne : a ≠ t) (k : ∀ d v H', d ∈ ds → Ext K t H H' → Dp K H' v d → Q v H') (h0' : Nat.blt 0 ds.length = true := by rfl) (h1' : Nat.blt ds.length 100000 = true := by rfl) : sp__law_pick K [.ref t, .ref a] H Q E := by
  have h0 : 0 < ds.length := Nat.le_of_ble_eq_true h0'
  have h1 : ds.length < 100000 := Nat.le_of_ble_eq_true h1'
  have hl := dps_len hd
  refine ⟨t, a, xs, rfl, hT, ha, hne, by omega, by omega, fun i v H' e hi => ?_⟩
  obtain ⟨d, hd2, hv⟩ := dps_getV (dpsX e hn hd) hi
  exact k d v H' (List.mem_of_getElem? hd2) e hv
/-- from a list of ints -/
theorem use_pickI {ns : List Int} (hT : Tape H t) (ha : SqL K H a (ns.map V.int)) (hne : a ≠ t) (k : ∀ n H', n ∈ ns → Ext K t H H' → Q (.int n) H') (h0 : Nat.blt 0 ns.length = true := by rfl) (h1 : Nat.blt ns.length 100000 = true := by rfl) : sp__law_pick K [.ref t, .ref a] H Q E := by
  refine use_pick (ds := ns.map .int) hT ha (dps_of_ints ns) (noLs_map (fun _ => rfl) ns) hne (fun d v H' hd e hv => ?_) (by rw [List.length_map]; exact h0) (by rw [List.length_map]; exact h1)
  obtain ⟨n, hn, rfl⟩ := List.mem_map.mp hd
  rw [dp_int hv]
  exact k n H' hn e
theorem use_same {v u : V} {d : PyData} (h1 : Dp K H v d) (h2 : Dp K H u d) (hs : smp 20 d = true) (k : ∀ H', Same H H' → Q (.bl true) H') : sp__law_same K [v, u] H Q E := ⟨v, u, d, rfl, h1, h2, hs, k⟩
end

def Sm (p : Fr) : Prop := Red p ∧ -1000 ≤ p.1 ∧ p.1 ≤ 1000 ∧ p.2 ≤ 1000
theorem Sm.fb {p : Fr} (h : Sm p) : Fb 10 p := ⟨h.1.1, by have := h.2; have := h.1.1; omega, by have := h.2; have := h.1.1; omega⟩
theorem pow_s {d : Int} (h : d.natAbs < 2 ^ 100) : d.natAbs < 2 ^ 8000 := Nat.lt_of_lt_of_le h (Nat.pow_le_pow_right (by decide) (by decide))
theorem low_sm {n d : Int} (h0 : 0 < d) (h1 : d ≤ 1000) (h2 : -1000 ≤ n) (h3 : n ≤ 1000) : Sm (low n d) := by
  have r := low_red (n := n) (show d ≠ 0 by omega)
  have l := low_le (n := n) (show d ≠ 0 by omega)
  refine ⟨r, ?_, ?_, ?_⟩
  · have := l.1; omega
  · have := l.1; omega
  · have := l.2; have := r.1; omega
def sp__law_fraction (K : Fg) : Sp := fun vs H Q _ => ∃ t : Addr, vs = [.ref t] ∧ Tape H t ∧ ∀ r p H', Ext K t H H' → Dp K H' r (fr p) → Sm p → Q r H'
def sp__law_beside (K : Fg) : Sp := fun vs H Q _ => ∃ (t : Addr) (v : V) (p : Fr), vs = [.ref t, v] ∧ Tape H t ∧ Dp K H v (fr p) ∧ Sm p ∧ ∀ r p H', Ext K t H H' → Dp K H' r (fr p) → Sm p → Q r H'
def sp__law_numbers (K : Fg) : Sp := fun vs H Q _ => ∃ t : Addr, vs = [.ref t] ∧ Tape H t ∧ ∀ r (p : Fr) H', Ext K t H H' → Dp K H' r (fr p) → p.2 ≠ 0 → p.1.natAbs < 1000000 → p.2.natAbs < 1000000 → Q r H'
section
variable {P : Program} {w : World} {K : Fg} {mg : Str → Option Value} {base : Heap}
theorem use_low {H : Hp} {Q : VK} {E : XK} {n d : Int} (h0 : 0 < d) (h1 : d ≤ 1000) (h2 : -1000 ≤ n) (h3 : n ≤ 1000) (k : ∀ r p H', Same H H' → Dp K H' r (fr p) → Sm p → Q r H') : sp__law_lowest K [.int n, .int d] H Q E :=
  ⟨n, d, rfl, by omega, pow_s (by omega), fun r H' s h => k r _ H' s h (low_sm h0 h1 h2 h3)⟩
theorem ok__law_fraction (T : Txt K mg) : FnOk P w K mg base CX0 3 T.a__law_fraction T.d__law_fraction ["tape"] (sp__law_fraction K) := by
  have G__law_draw := ok__law_draw (P := P) (w := w) (base := base) T
  have G__law_lowest := ok__law_lowest (P := P) (w := w) (base := base) T
  have G__law_pick := ok__law_pick (P := P) (w := w) (base := base) T
  refine T.F__law_fraction.ok sc__law_fraction (fun vs H Q E h => ?_) (fun cdv A outer s H vs Q E hr h => ?_)
  · obtain ⟨_, rfl, _⟩ := h
    rfl
  obtain ⟨t, rfl, hT, k⟩ := h
  refine ⟨_, (pss_cons (ps_set (i := 1) sc__law_fraction.nd rfl (Or.inl rfl) (pe_call G__law_draw (hr.mono (by omega)) rfl T.m__law_draw T.F__law_draw.kp T.b__law_draw .nil pass0 (pa_cons (pv 0) (pa_cons pe_int pa_nil)))) (pss_cons (ps_if (pt_cmpR (op_eqK (K := K) (hu64 hr)) (pv 1) pe_int (nomark _)) (pss_one (ps_ret (pe_call G__law_pick (hr.mono (by omega)) rfl T.m__law_pick T.F__law_pick.kp T.b__law_pick .nil pass0 (pa_cons (pv 0) (pa_cons (pe_lst (pa_cons (pe_tup (pa_cons pe_int (pa_cons pe_int pa_nil))) (pa_cons (pe_tup (pa_cons pe_int (pa_cons pe_int pa_nil))) (pa_cons (pe_tup (pa_cons (pe_un un_neg pe_int) (pa_cons pe_int pa_nil))) (pa_cons (pe_tup (pa_cons pe_int (pa_cons pe_int pa_nil))) pa_nil))))) pa_nil))))) pss_nil) (pss_cons (ps_if (pt_cmpR op_lt (pv 1) pe_int (nomark _)) (pss_one (ps_ret (pe_call G__law_lowest (hr.mono (by omega)) rfl T.m__law_lowest T.F__law_lowest.kp T.b__law_lowest .nil pass0 (pa_cons (pe_op op_sub (pe_call G__law_draw (hr.mono (by omega)) rfl T.m__law_draw T.F__law_draw.kp T.b__law_draw .nil pass0 (pa_cons (pv 0) (pa_cons pe_int pa_nil))) pe_int) (pa_cons (pe_op (op_addK (K := K)) pe_int (pe_call G__law_draw (hr.mono (by omega)) rfl T.m__law_draw T.F__law_draw.kp T.b__law_draw .nil pass0 (pa_cons (pv 0) (pa_cons pe_int pa_nil)))) pa_nil))))) pss_nil) (pss_cons (ps_if (pt_cmpR (op_eqK (K := K) (hu64 hr)) (pv 1) pe_int (nomark _)) (pss_one (ps_ret (pe_call G__law_lowest (hr.mono (by omega)) rfl T.m__law_lowest T.F__law_lowest.kp T.b__law_lowest .nil pass0 (pa_cons (pe_call G__law_pick (hr.mono (by omega)) rfl T.m__law_pick T.F__law_pick.kp T.b__law_pick .nil pass0 (pa_cons (pv 0) (pa_cons (pe_lst (pa_cons (pe_un un_neg pe_int) (pa_cons pe_int (pa_cons pe_int (pa_cons pe_int (pa_cons (pe_un un_neg pe_int) pa_nil)))))) pa_nil))) (pa_cons (pe_call G__law_pick (hr.mono (by omega)) rfl T.m__law_pick T.F__law_pick.kp T.b__law_pick .nil pass0 (pa_cons (pv 0) (pa_cons (pe_lst (pa_cons pe_int (pa_cons pe_int (pa_cons pe_int (pa_cons pe_int pa_nil))))) pa_nil))) pa_nil))))) pss_nil) (pss_one (ps_ret (pe_call G__law_lowest (hr.mono (by omega)) rfl T.m__law_lowest T.F__law_lowest.kp T.b__law_lowest .nil pass0 (pa_cons (pe_op op_sub (pe_call G__law_draw (hr.mono (by omega)) rfl T.m__law_draw T.F__law_draw.kp T.b__law_draw .nil pass0 (pa_cons (pv 0) (pa_cons pe_int pa_nil))) pe_int) (pa_cons (pe_op (op_addK (K := K)) pe_int (pe_call G__law_draw (hr.mono (by omega)) rfl T.m__law_draw T.F__law_draw.kp T.b__law_draw .nil pass0 (pa_cons (pv 0) (pa_cons pe_int pa_nil)))) pa_nil))))))))), ?_⟩
  walk_at "nz"
  refine use_draw hT fun c H1 e1 c0 c1 => r_eqI (t_if (fun h => ?_) fun h => r_I0 (t_if (fun h2 => ?_) fun h2 => r_eqI (t_if (fun h3 => ?_) fun h3 => ?_)))
  · refine r_tup (K := K) (by walk_at "fds") fun p1 G1 s1 _ d1 => r_tup (K := K) (by walk_at "fds") fun p2 G2 s2 _ d2 => r_U (r_tup (K := K) (by walk_at "fds") fun p3 G3 s3 _ d3 => r_tup (K := K) (by walk_at "fds") fun p4 G4 s4 _ d4 => r_lst fun a G5 s5 na e5 => ?_)
    have x4 := (((e1.then s1).then s2).then s3).then s4
    have x5 := x4.then s5
    refine use_pick (ds := [fr (0, 1), fr (1, 1), fr (-1, 1), fr (1, 2)]) x5.tape (SqL.of e5) (by walk_at "fds") rfl (x4.tape.ne na) fun d v H2 hd e hv => ?_
    have fin : ∀ p : Fr, d = fr p → Sm p → Q v H2 := fun p e2 sm => k v p H2 (x5.trans e) (e2 ▸ hv) sm
    simp only [List.mem_cons, List.not_mem_nil, or_false] at hd
    rcases hd with h | h | h | h
    · exact fin _ h ⟨⟨by decide, by decide⟩, by decide, by decide, by decide⟩
    · exact fin _ h ⟨⟨by decide, by decide⟩, by decide, by decide, by decide⟩
    · exact fin _ h ⟨⟨by decide, by decide⟩, by decide, by decide, by decide⟩
    · exact fin _ h ⟨⟨by decide, by decide⟩, by decide, by decide, by decide⟩
  · refine use_draw e1.tape fun n H2 e2 n0 n1 => r_I0 (use_draw e2.tape fun m H3 e3 m0 m1 => r_addI (use_low (by omega) (by omega) (by omega) (by omega) fun r p H4 s4 h4 sm => k r p H4 (((e1.trans e2).trans e3).then s4) h4 sm))
  · refine r_U (r_U (r_lst fun a H2 s2 na2 e2 => use_pickI (ns := [-1000, 999, 1000, 1, -1]) (e1.then s2).tape (SqL.of e2) (e1.tape.ne na2) fun n H3 hn e3 => ?_))
    have x3 := (e1.then s2).trans e3
    refine r_lst fun b H4 s4 nb4 e4 => use_pickI (ns := [1000, 999, 1, 997]) (x3.then s4).tape (SqL.of e4) (x3.tape.ne nb4) fun m H5 hm e5 => ?_
    simp only [List.mem_cons, List.not_mem_nil, or_false] at hn hm
    exact use_low (by omega) (by omega) (by omega) (by omega) fun r p H6 s6 h6 sm => k r p H6 (((x3.then s4).trans e5).then s6) h6 sm
  · refine use_draw e1.tape fun n H2 e2 n0 n1 => r_I0 (use_draw e2.tape fun m H3 e3 m0 m1 => r_addI (use_low (by omega) (by omega) (by omega) (by omega) fun r p H4 s4 h4 sm => k r p H4 (((e1.trans e2).trans e3).then s4) h4 sm))
theorem ok__law_beside (T : Txt K mg) : FnOk P w K mg base CX0 3 T.a__law_beside T.d__law_beside ["tape", "p"] (sp__law_beside K) := by
  have G__law_lowest := ok__law_lowest (P := P) (w := w) (base := base) T
  have G__law_draw := ok__law_draw (P := P) (w := w) (base := base) T
  refine T.F__law_beside.ok sc__law_beside (fun vs H Q E h => ?_) (fun cdv A outer s H vs Q E hr h => ?_)
  · obtain ⟨_, _, _, rfl, _⟩ := h
    rfl
  obtain ⟨t, v, p, rfl, hT, hp, sm, k⟩ := h
  refine ⟨_, (pss_cons (ps_set (i := 2) sc__law_beside.nd rfl (Or.inl rfl) (pe_op op_sub (pe_op (op_addK (K := K)) (pe_ix (ixK (K := K)) (pv 1) pe_int (fun _ _ => rfl)) (pe_call G__law_draw (hr.mono (by omega)) rfl T.m__law_draw T.F__law_draw.kp T.b__law_draw .nil pass0 (pa_cons (pv 0) (pa_cons pe_int pa_nil)))) pe_int)) (pss_cons (ps_set (i := 3) sc__law_beside.nd rfl (Or.inl rfl) (pe_op op_sub (pe_op (op_addK (K := K)) (pe_ix (ixK (K := K)) (pv 1) pe_int (fun _ _ => rfl)) (pe_call G__law_draw (hr.mono (by omega)) rfl T.m__law_draw T.F__law_draw.kp T.b__law_draw .nil pass0 (pa_cons (pv 0) (pa_cons pe_int pa_nil)))) pe_int)) (pss_one (ps_ret (pe_call G__law_lowest (hr.mono (by omega)) rfl T.m__law_lowest T.F__law_lowest.kp T.b__law_lowest .nil pass0 (pa_cons (pe_callB (call_max2U rfl) (by rfl) T.z_max rfl (pa_cons (pe_callB (call_min2U rfl) (by rfl) T.z_min rfl (pa_cons (pv 2) (pa_cons pe_int pa_nil))) (pa_cons (pe_un un_neg pe_int) pa_nil))) (pa_cons (pe_callB (call_max2U rfl) (by rfl) T.z_max rfl (pa_cons (pe_callB (call_min2U rfl) (by rfl) T.z_min rfl (pa_cons (pv 3) (pa_cons pe_int pa_nil))) (pa_cons pe_int pa_nil))) pa_nil))))))), ?_⟩
  walk_at "nz"
  refine r_ixTi hp rfl (use_draw hT fun a H1 e1 a0 a1 => r_addI (r_I0 (r_ixTi (dpX e1 rfl hp) rfl (use_draw e1.tape fun b H2 e2 b0 b1 => r_addI (r_I0 ?_)))))
  refine r_min (r_U (r_max (r_min (r_max ?_))))
  exact use_low (by omega) (by omega) (by omega) (by omega) fun r p H4 s4 h4 sm => k r p H4 ((e1.trans e2).then s4) h4 sm
theorem num_tail {H H8 : Hp} {Q : VK} {t : Addr} {n d : Int} (x8 : Ext K t H H8) (h1 : 0 ≤ n) (h2 : n < 1000000) (h3 : 0 < d) (h4 : d < 1000000) (k : ∀ r (p : Fr) H', Ext K t H H' → Dp K H' r (fr p) → p.2 ≠ 0 → p.1.natAbs < 1000000 → p.2.natAbs < 1000000 → Q r H') :
    rU (fun i => V.int (-i)) (V.int 1) H8 fun x H1 => nwL [V.int 1, x] H1 fun x H1 => sp__law_pick K [V.ref t, x] H1 (fun y H2 => rMulU K (V.int n) y H2 fun x H1 => rU (fun i => V.int (-i)) (V.int 1) H1 fun x_1 H1 => nwL [V.int 1, x_1] H1 fun x_2 H1 =>
      sp__law_pick K [V.ref t, x_2] H1 (fun y H2 => rMulU K (V.int d) y H2 fun x_3 H1 => nwT [x, x_3] H1 Q) E0) E0 := by
  refine r_U (r_lst fun l1 G1 s1 m1 l1 => use_pickI (ns := [1, -1]) (x8.then s1).tape (SqL.of l1) (x8.tape.ne m1) fun z G2 hz e2 => r_mulR (by simp only [List.mem_cons, List.not_mem_nil, or_false] at hz; omega) ?_)
  have x2 := (x8.then s1).trans e2
  refine r_U (r_lst fun l3 G3 s3 m3 l3 => use_pickI (ns := [1, -1]) (x2.then s3).tape (SqL.of l3) (x2.tape.ne m3) fun y G4 hy e4 => r_mulR (by simp only [List.mem_cons, List.not_mem_nil, or_false] at hy; omega) ?_)
  refine r_tup (K := K) (by walk_at "fds") fun p G5 s5 _ hp => ?_
  simp only [List.mem_cons, List.not_mem_nil, or_false] at hz hy
  refine k _ (n * z, d * y) _ (((x2.then s3).trans e4).then s5) hp ?_ ?_ ?_
  · rcases hy with rfl | rfl <;> (show d * _ ≠ 0; omega)
  · rcases hz with rfl | rfl <;> (show (n * _).natAbs < _; omega)
  · rcases hy with rfl | rfl <;> (show (d * _).natAbs < _; omega)
theorem ok__law_numbers (T : Txt K mg) : FnOk P w K mg base CX0 3 T.a__law_numbers T.d__law_numbers ["tape"] (sp__law_numbers K) := by
  have G__law_pick := ok__law_pick (P := P) (w := w) (base := base) T
  have G__law_draw := ok__law_draw (P := P) (w := w) (base := base) T
  refine T.F__law_numbers.ok sc__law_numbers (fun vs H Q E h => ?_) (fun cdv A outer s H vs Q E hr h => ?_)
  · obtain ⟨_, rfl, _⟩ := h
    rfl
  obtain ⟨t, rfl, hT, k⟩ := h
  refine ⟨_, (pss_cons (ps_set (i := 1) sc__law_numbers.nd rfl (Or.inl rfl) (pe_call G__law_pick (hr.mono (by omega)) rfl T.m__law_pick T.F__law_pick.kp T.b__law_pick .nil pass0 (pa_cons (pv 0) (pa_cons (pe_lst (pa_cons pe_int (pa_cons pe_int (pa_cons pe_int (pa_cons pe_int (pa_cons pe_int (pa_cons (pe_op (op_addK (K := K)) pe_int (pe_call G__law_draw (hr.mono (by omega)) rfl T.m__law_draw T.F__law_draw.kp T.b__law_draw .nil pass0 (pa_cons (pv 0) (pa_cons pe_int pa_nil)))) pa_nil))))))) pa_nil)))) (pss_cons (ps_set (i := 2) sc__law_numbers.nd rfl (Or.inl rfl) (pe_call G__law_pick (hr.mono (by omega)) rfl T.m__law_pick T.F__law_pick.kp T.b__law_pick .nil pass0 (pa_cons (pv 0) (pa_cons (pe_lst (pa_cons pe_int (pa_cons pe_int (pa_cons (pv 1) (pa_cons pe_int (pa_cons pe_int (pa_cons (pe_call G__law_draw (hr.mono (by omega)) rfl T.m__law_draw T.F__law_draw.kp T.b__law_draw .nil pass0 (pa_cons (pv 0) (pa_cons pe_int pa_nil))) pa_nil))))))) pa_nil)))) (pss_cons (ps_set (i := 3) sc__law_numbers.nd rfl (Or.inl rfl) (pe_call G__law_pick (hr.mono (by omega)) rfl T.m__law_pick T.F__law_pick.kp T.b__law_pick .nil pass0 (pa_cons (pv 0) (pa_cons (pe_lst (pa_cons pe_int (pa_cons pe_int (pa_cons pe_int (pa_cons pe_int (pa_cons pe_int (pa_cons pe_int pa_nil))))))) pa_nil)))) (pss_cons (ps_if (PW.pt (pw_and (pt_cmpR op_lt (pe_op (op_mulK (K := K)) (pv 2) (pv 3)) pe_int (nomark _)) (pw_and1 (pt_cmpR op_lt (pe_op (op_mulK (K := K)) (pv 1) (pv 3)) pe_int (nomark _))))) (pss_cons (ps_set (i := 2) sc__law_numbers.nd rfl (Or.inl rfl) (pe_op (op_mulK (K := K)) (pv 2) (pv 3))) (pss_one (ps_set (i := 1) sc__law_numbers.nd rfl (Or.inl rfl) (pe_op (op_mulK (K := K)) (pv 1) (pv 3))))) pss_nil) (pss_one (ps_ret (pe_tup (pa_cons (pe_op (op_mulK (K := K)) (pv 2) (pe_call G__law_pick (hr.mono (by omega)) rfl T.m__law_pick T.F__law_pick.kp T.b__law_pick .nil pass0 (pa_cons (pv 0) (pa_cons (pe_lst (pa_cons pe_int (pa_cons (pe_un un_neg pe_int) pa_nil))) pa_nil)))) (pa_cons (pe_op (op_mulK (K := K)) (pv 1) (pe_call G__law_pick (hr.mono (by omega)) rfl T.m__law_pick T.F__law_pick.kp T.b__law_pick .nil pass0 (pa_cons (pv 0) (pa_cons (pe_lst (pa_cons pe_int (pa_cons (pe_un un_neg pe_int) pa_nil))) pa_nil)))) pa_nil))))))))), ?_⟩
  walk_at "nz"
  refine use_draw hT fun a H1 e1 a0 a1 => r_addI (r_lst fun l1 H2 s2 n2 l2 => use_pickI (ns := [1, 2, 12, 999999, 1000, 1 + a]) (e1.then s2).tape (SqL.of l2) (e1.tape.ne n2) fun d H3 hd e3 => ?_)
  have x3 := (e1.then s2).trans e3
  refine use_draw x3.tape fun b H4 e4 b0 b1 => r_lst fun l5 H5 s5 n5 l5 => use_pickI (ns := [0, 999999, d, 6, 1000, b]) ((x3.trans e4).then s5).tape (SqL.of l5) (e4.tape.ne n5) fun n H6 hn e6 => ?_
  have x6 := ((x3.trans e4).then s5).trans e6
  refine r_lst fun l7 H7 s7 n7 l7 => use_pickI (ns := [1, 1, 2, 6, 30, 97]) (x6.then s7).tape (SqL.of l7) (x6.tape.ne n7) fun m H8 hm e8 => ?_
  have x8 := (x6.then s7).trans e8
  simp only [List.mem_cons, List.not_mem_nil, or_false] at hd hn hm
  have hd2 : 0 < d ∧ d < 1000000 := by omega
  have hn2 : 0 ≤ n ∧ n < 1000000 := by omega
  have hm2 : 1 ≤ m := by omega
  have pn : 0 ≤ n * m := Int.mul_nonneg hn2.1 (by omega)
  have pd : 0 < d * m := Int.mul_pos hd2.1 (by omega)
  refine r_mulR (by omega) (r_I0 (t_if (fun c => r_mulR (by omega) (r_I0 (t_if (fun c2 => ?_) fun c2 => ?_))) fun c => ?_))
  · refine r_mulR (by omega) (r_mulR (by omega) ?_)
    exact num_tail x8 pn c pd c2 k
  · exact num_tail x8 hn2.1 hn2.2 hd2.1 hd2.2 k
  · exact num_tail x8 hn2.1 hn2.2 hd2.1 hd2.2 k
end

def sp_total (K : Fg) : Sp := fun vs H Q _ => ∃ (v : V) (ps : List Fr), vs = [v] ∧ Dp K H v (.tuple (ps.map fr)) ∧ (∀ p ∈ ps, Fb 40 p) ∧ ps.length ≤ 60 ∧ ∀ r H', Same H H' → Dp K H' r (fr (totalF ps)) → Q r H'
def sp__law_sum_of (K : Fg) : Sp := fun vs H Q _ => ∃ (a : Addr) (xs : List V) (ps : List Fr), vs = [.ref a] ∧ SqL K H a xs ∧ DpAll K H xs (ps.map fr) ∧ (∀ p ∈ ps, Fb 40 p) ∧ ps.length ≤ 60 ∧ ∀ r H', Same H H' → Dp K H' r (fr (totalF ps)) → Q r H'
theorem mem_take_of {α : Type} {ps : List α} {i : Nat} {p : α} (h : p ∈ ps.take i) : p ∈ ps := List.mem_of_mem_take h
section
variable {P : Program} {w : World} {K : Fg} {mg : Str → Option Value} {base : Heap}
theorem ok_total (T : Txt K mg) : FnOk P w K mg base CX0 3 T.a_total T.d_total ["fractions"] (sp_total K) := by
  have G_plus := ok_plus (P := P) (w := w) (base := base) T
  refine T.F_total.ok sc_total (fun vs H Q E h => ?_) (fun cdv A outer s H vs Q E hr h => ?_)
  · obtain ⟨_, _, rfl, _⟩ := h
    rfl
  obtain ⟨v, ps, rfl, hv, hb, hl, k⟩ := h
  refine ⟨_, (pss_cons (ps_set (i := 1) sc_total.nd rfl (Or.inl rfl) (pe_tup (pa_cons pe_int (pa_cons pe_int pa_nil)))) (pss_cons (ps_for PassesOwn.never rfl (pi_listK (K := K) (pv 0)) (pg_name (i := 2) sc_total.nd rfl (Or.inl rfl)) (pss_one (ps_set (i := 1) sc_total.nd rfl (Or.inl rfl) (pe_call G_plus (hr.mono (by omega)) rfl T.m_plus T.F_plus.kp T.b_plus .nil pass0 (pa_cons (pv 1) (pa_cons (pv 2) pa_nil)))))) (pss_one (ps_ret (pv 1))))), ?_⟩
  walk_at "nz"
  refine r_tup (K := K) (by walk_at "fds") fun f0 H1 s1 _ d0 => ?_
  have take_fb : ∀ i, ∀ p ∈ ps.take i, Fb 40 p := fun i p hp => hb p (mem_take_of hp)
  refine r_forT rfl (dpUp s1 hv) (fun i σ' H' => ∃ f c, σ' = [some v, some f, c] ∧ Same H1 H' ∧ Dp K H' f (fr (totalF (ps.take i)))) ⟨.ref f0, none, rfl, Same.refl _, d0⟩ ?_ ?_ ?_
  · rintro i σ' H' _ ⟨f, c, _, s, _⟩
    exact tsame s
  · rintro i d x σ' H' hi hx ⟨f, c, rfl, s, hf⟩
    walk_at "nz"
    obtain ⟨p, hp, rfl⟩ : ∃ p, ps[i]? = some p ∧ d = fr p := by
      rw [List.getElem?_map] at hi
      cases e : ps[i]? with
      | none => rw [e] at hi; cases hi
      | some p => rw [e] at hi; exact ⟨p, rfl, (Option.some.inj hi).symm⟩
    have hlt : i < ps.length := (List.getElem?_eq_some_iff.mp hp).1
    have b1 := totalF_fb (take_fb i)
    rw [List.length_take] at b1
    refine ⟨f, x, _, p, _, 40, rfl, hf, dpUp s hx, b1, hb p (List.mem_of_getElem? hp), by omega, fun r H2 s2 hr => ⟨r, _, rfl, s.trans s2, ?_⟩⟩
    rw [List.take_add_one, hp]
    show Dp K H2 r (fr (List.foldl plusF (0, 1) (ps.take i ++ [p])))
    rw [List.foldl_append]
    exact hr
  · rintro σ' H' ⟨f, c, rfl, s, hf⟩
    walk_at "nz"
    rw [List.length_map, List.take_length] at hf
    exact k f H' (s1.trans s) hf
theorem ok__law_sum_of (T : Txt K mg) : FnOk P w K mg base CX0 3 T.a__law_sum_of T.d__law_sum_of ["fractions"] (sp__law_sum_of K) := by
  have G__law_lowest := ok__law_lowest (P := P) (w := w) (base := base) T
  refine T.F__law_sum_of.ok sc__law_sum_of (fun vs H Q E h => ?_) (fun cdv A outer s H vs Q E hr h => ?_)
  · obtain ⟨_, _, _, rfl, _⟩ := h
    rfl
  obtain ⟨a, xs, ps, rfl, ha, hd, hb, hl, k⟩ := h
  refine ⟨_, (pss_cons (ps_set (i := 1) sc__law_sum_of.nd rfl (Or.inr rfl) pe_int) (pss_cons (ps_for PassesOwn.never rfl (pi_listK (K := K) (pv 0)) (pg_name (i := 2) sc__law_sum_of.nd rfl (Or.inl rfl)) (pss_one (ps_set (i := 1) sc__law_sum_of.nd rfl (Or.inr rfl) (pe_op (op_mulK (K := K)) (pv 1) (pe_ix (ixK (K := K)) (pv 2) pe_int (fun _ _ => rfl)))))) (pss_one (ps_ret (pe_call G__law_lowest (hr.mono (by omega)) rfl T.m__law_lowest T.F__law_lowest.kp T.b__law_lowest .nil pass0 (pa_cons (pe_callB (cr_sumK (K := K) rfl) (by rfl) T.z_sum rfl (pa_cons (pe_lc (own := [("part", 2)]) (g := gName 2) (tt := tYes) rfl sc__law_sum_of.nd (pi_listK (K := K) (pv 0)) (blkOk_by (N := ["fractions", "whole", "part"]) (sc := defScope s__law_sum_of) (by decide +kernel)) (fun _ _ _ _ _ => (pg_name (i := 2) sc__law_sum_of.nd rfl (Or.inl rfl))) (fun _ _ _ _ _ => pts_nil) (fun _ _ _ _ _ => (pe_op (op_mulK (K := K)) (pe_ix (ixK (K := K)) (pv 2) pe_int (fun _ _ => rfl)) (pe_op op_fdivU (pv 1) (pe_ix (ixK (K := K)) (pv 2) pe_int (fun _ _ => rfl)))))) pa_nil)) (pa_cons (pv 1) pa_nil))))))), ?_⟩
  walk_at "nz"
  have xl : xs.length = ps.length := by rw [dps_len hd, List.length_map]
  have item : ∀ i x, xs[i]? = some x → ∃ p, ps[i]? = some p ∧ Dp K H x (fr p) := fun i x hi => by
    obtain ⟨d, hd2, hx⟩ := dps_getV hd hi
    rw [List.getElem?_map] at hd2
    cases e : ps[i]? with
    | none => rw [e] at hd2; cases hd2
    | some p => rw [e] at hd2; exact ⟨p, by first | rfl | exact e, (Option.some.inj hd2) ▸ hx⟩
  have take_fb : ∀ i, ∀ p ∈ ps.take i, Fb 40 p := fun i p hp => hb p (mem_take_of hp)
  have pos : ∀ p ∈ ps, 0 < p.2 := fun p hp => (hb p hp).1
  have W0 := prodD_pos pos
  have Wl := prodD_lt hb
  refine r_forL rfl ha (fun i σ' H' => H' = H ∧ ∃ c, σ' = [some (.ref a), some (.int (prodD (ps.take i))), c]) ⟨rfl, none, rfl⟩ ?_ ?_ ?_
  · rintro i σ' H' _ ⟨rfl, _⟩
    exact ha
  · rintro i x σ' H' hi ⟨rfl, c, rfl⟩
    walk_at "nz"
    obtain ⟨p, hp, hx⟩ := item i x hi
    have b1 := prodD_lt (take_fb i)
    rw [List.length_take] at b1
    refine r_ixTi hx rfl (r_mulI b1 (hb p (List.mem_of_getElem? hp)).2.2 (by omega) ⟨rfl, some x, ?_⟩)
    rw [List.take_add_one, hp]
    show [some (V.ref a), some (V.int (prodD (ps.take i) * p.2)), some x] = [some (V.ref a), some (V.int ((List.map (·.2) (ps.take i ++ [p])).foldl (· * ·) 1)), some x]
    rw [List.map_append, List.foldl_append]
    rfl
  · rintro σ' H' ⟨rfl, c, rfl⟩
    rw [xl, List.take_length]
    walk_at "nz"
    refine r_lcL rfl ha (fun l i acc H2 => Same H' H2 ∧ acc = ((ps.take i).map fun p => V.int (p.1 * (prodD ps / p.2)))) (fun l H2 s _ e => ⟨s, rfl⟩) (fun l i acc H2 _ _ _ ⟨s, _⟩ => s.seq ha) ?_ ?_
    · rintro l i x acc H2 hi nl el ⟨s, rfl⟩
      walk_at "nz"
      obtain ⟨p, hp, hx⟩ := item i x hi
      have hlt : i < xs.length := (List.getElem?_eq_some_iff.mp hi).1
      have bp := hb p (List.mem_of_getElem? hp)
      have hx2 := dpUp s hx
      have dv : (prodD ps / p.2).natAbs < 2 ^ (1 + 40 * ps.length) := by
        have := Int.ediv_le_self p.2 (Int.le_of_lt W0)
        have := Int.ediv_nonneg (Int.le_of_lt W0) (Int.le_of_lt bp.1)
        omega
      refine r_ixTi hx2 rfl (r_ixTi hx2 rfl (r_fdW bp.1 (lt64 (Nat.lt_of_lt_of_le bp.2.2 (by decide))) (r_mulI bp.2.1 dv (by omega) (lc_put hlt el (by rw [List.length_map, List.length_take]; omega) fun H3 f3 e3 => ⟨Same.mut s nl f3, ?_⟩))))
      rw [List.take_add_one, hp, List.map_append]
      rfl
    · rintro l acc H2 nl el ⟨s, rfl⟩
      rw [xl, List.take_length] at el
      have e2 : (ps.map fun p => V.int (p.1 * (prodD ps / p.2))) = (ps.map fun p => p.1 * (prodD ps / p.2)).map V.int := by rw [List.map_map]; rfl
      rw [e2] at el
      refine ⟨l, _, rfl, SqL.of el, _, _, rfl, by omega, Nat.lt_of_lt_of_le Wl (Nat.pow_le_pow_right (by decide) (by omega)), fun r H3 s3 hr => k r H3 (s.trans s3) ?_⟩
      have e3 := sumF_total pos
      unfold sumF at e3
      rw [← e3]
      exact hr
end

def sp__law_right (K : Fg) : Sp := fun vs H Q _ => ∃ (d : Int) (a b : V) (p q : Fr), vs = [.int d, a, b] ∧ Dp K H a (fr p) ∧ Dp K H b (fr q) ∧ Fb 24 p ∧ Fb 24 q ∧ ∀ H', Same H H' → Q (.bl true) H'
def sp__law_lowest_right (K : Fg) : Sp := fun vs H Q _ => ∃ t : Addr, vs = [.ref t] ∧ Tape H t ∧ ∀ H', Ext K t H H' → Q (.bl true) H'
def sp__law_total_right (K : Fg) : Sp := sp__law_lowest_right K
def sp__law_far_right (K : Fg) : Sp := fun vs H Q _ => ∃ (v : V) (p : Fr) (z : Int), vs = [v, .int z] ∧ Dp K H v (fr p) ∧ Sm p ∧ (z = 1 ∨ z = -1) ∧ ∀ H', Same H H' → Q (.bl true) H'
theorem smp_fr (p : Fr) : smp 20 (fr p) = true := rfl
section
variable {P : Program} {w : World} {K : Fg} {mg : Str → Option Value} {base : Heap}
/-- both tell the same fraction -/
theorem two_fr {H : Hp} {Q : VK} {E : XK} {f : Fr → Fr → Fr} {x y : V} {p q : Fr} {B C : Nat} (hx : Dp K H x (fr p)) (hy : Dp K H y (fr q)) (hp : Fb B p) (hq : Fb C q) (hb : B + C ≤ 7000) (k : ∀ u H', Same H H' → Dp K H' u (fr (f p q)) → Q u H') : sp_bin f K [x, y] H Q E :=
  ⟨x, y, p, q, B, C, rfl, hx, hy, hp, hq, hb, k⟩
theorem ok__law_right (T : Txt K mg) : FnOk P w K mg base CX0 21 T.a__law_right T.d__law_right ["door", "p", "q"] (sp__law_right K) := by
  have G__law_same := ok__law_same (P := P) (w := w) (base := base) T
  have G_total := ok_total (P := P) (w := w) (base := base) T
  have G__law_sum_of := ok__law_sum_of (P := P) (w := w) (base := base) T
  have G_plus := ok_plus (P := P) (w := w) (base := base) T
  have G__law_plus := ok__law_plus (P := P) (w := w) (base := base) T
  have G_minus := ok_minus (P := P) (w := w) (base := base) T
  have G_times := ok_times (P := P) (w := w) (base := base) T
  have G__law_lowest := ok__law_lowest (P := P) (w := w) (base := base) T
  have G_is_less := ok_is_less (P := P) (w := w) (base := base) T
  have G__law_less := ok__law_less (P := P) (w := w) (base := base) T
  have G_over := ok_over (P := P) (w := w) (base := base) T
  refine T.F__law_right.ok sc__law_right (fun vs H Q E h => ?_) (fun cdv A outer s H vs Q E hr h => ?_)
  · obtain ⟨_, _, _, _, _, rfl, _⟩ := h
    rfl
  obtain ⟨d, a, b, p, q, rfl, ha, hb, hp, hq, k⟩ := h
  refine ⟨_, (pss_cons (ps_if (pt_cmpR (op_eqK (K := K) (hu64 hr)) (pv 0) pe_int (nomark _)) (pss_one (ps_ret (pe_call G__law_same (hr.mono (by omega)) rfl T.m__law_same T.F__law_same.kp T.b__law_same .nil pass0 (pa_cons (pe_call G_plus (hr.mono (by omega)) rfl T.m_plus T.F_plus.kp T.b_plus .nil pass0 (pa_cons (pv 1) (pa_cons (pv 2) pa_nil))) (pa_cons (pe_call G__law_plus (hr.mono (by omega)) rfl T.m__law_plus T.F__law_plus.kp T.b__law_plus .nil pass0 (pa_cons (pv 1) (pa_cons (pv 2) pa_nil))) pa_nil))))) pss_nil) (pss_cons (ps_if (pt_cmpR (op_eqK (K := K) (hu64 hr)) (pv 0) pe_int (nomark _)) (pss_one (ps_ret (pe_call G__law_same (hr.mono (by omega)) rfl T.m__law_same T.F__law_same.kp T.b__law_same .nil pass0 (pa_cons (pe_call G_minus (hr.mono (by omega)) rfl T.m_minus T.F_minus.kp T.b_minus .nil pass0 (pa_cons (pv 1) (pa_cons (pv 2) pa_nil))) (pa_cons (pe_call G__law_plus (hr.mono (by omega)) rfl T.m__law_plus T.F__law_plus.kp T.b__law_plus .nil pass0 (pa_cons (pv 1) (pa_cons (pe_tup (pa_cons (pe_un un_neg (pe_ix (ixK (K := K)) (pv 2) pe_int (fun _ _ => rfl))) (pa_cons (pe_ix (ixK (K := K)) (pv 2) pe_int (fun _ _ => rfl)) pa_nil))) pa_nil))) pa_nil))))) pss_nil) (pss_cons (ps_if (pt_cmpR (op_eqK (K := K) (hu64 hr)) (pv 0) pe_int (nomark _)) (pss_one (ps_ret (pe_call G__law_same (hr.mono (by omega)) rfl T.m__law_same T.F__law_same.kp T.b__law_same .nil pass0 (pa_cons (pe_call G_times (hr.mono (by omega)) rfl T.m_times T.F_times.kp T.b_times .nil pass0 (pa_cons (pv 1) (pa_cons (pv 2) pa_nil))) (pa_cons (pe_call G__law_lowest (hr.mono (by omega)) rfl T.m__law_lowest T.F__law_lowest.kp T.b__law_lowest .nil pass0 (pa_cons (pe_op (op_mulK (K := K)) (pe_ix (ixK (K := K)) (pv 1) pe_int (fun _ _ => rfl)) (pe_ix (ixK (K := K)) (pv 2) pe_int (fun _ _ => rfl))) (pa_cons (pe_op (op_mulK (K := K)) (pe_ix (ixK (K := K)) (pv 1) pe_int (fun _ _ => rfl)) (pe_ix (ixK (K := K)) (pv 2) pe_int (fun _ _ => rfl))) pa_nil))) pa_nil))))) pss_nil) (pss_cons (ps_if (pt_cmpR (op_eqK (K := K) (hu64 hr)) (pv 0) pe_int (nomark _)) (pss_one (ps_ret (pe_or (pe_cmpR (op_eqK (K := K) (hu64 hr)) (pe_ix (ixK (K := K)) (pv 2) pe_int (fun _ _ => rfl)) pe_int (nomark _)) (pe_one (pe_call G__law_same (hr.mono (by omega)) rfl T.m__law_same T.F__law_same.kp T.b__law_same .nil pass0 (pa_cons (pe_call G_over (hr.mono (by omega)) rfl T.m_over T.F_over.kp T.b_over .nil pass0 (pa_cons (pv 1) (pa_cons (pv 2) pa_nil))) (pa_cons (pe_call G__law_lowest (hr.mono (by omega)) rfl T.m__law_lowest T.F__law_lowest.kp T.b__law_lowest .nil pass0 (pa_cons (pe_op (op_mulK (K := K)) (pe_ix (ixK (K := K)) (pv 1) pe_int (fun _ _ => rfl)) (pe_ix (ixK (K := K)) (pv 2) pe_int (fun _ _ => rfl))) (pa_cons (pe_op (op_mulK (K := K)) (pe_ix (ixK (K := K)) (pv 1) pe_int (fun _ _ => rfl)) (pe_ix (ixK (K := K)) (pv 2) pe_int (fun _ _ => rfl))) pa_nil))) pa_nil))))))) pss_nil) (pss_cons (ps_if (pt_cmpR (op_eqK (K := K) (hu64 hr)) (pv 0) pe_int (nomark _)) (pss_one (ps_ret (pe_call G__law_same (hr.mono (by omega)) rfl T.m__law_same T.F__law_same.kp T.b__law_same .nil pass0 (pa_cons (pe_call G_is_less (hr.mono (by omega)) rfl T.m_is_less T.F_is_less.kp T.b_is_less .nil pass0 (pa_cons (pv 1) (pa_cons (pv 2) pa_nil))) (pa_cons (pe_call G__law_less (hr.mono (by omega)) rfl T.m__law_less T.F__law_less.kp T.b__law_less .nil pass0 (pa_cons (pv 1) (pa_cons (pv 2) pa_nil))) pa_nil))))) pss_nil) (pss_one (ps_ret (pe_call G__law_same (hr.mono (by omega)) rfl T.m__law_same T.F__law_same.kp T.b__law_same .nil pass0 (pa_cons (pe_call G_total (hr.mono (by omega)) rfl T.m_total T.F_total.kp T.b_total .nil pass0 (pa_cons (pe_tup (pa_cons (pv 1) (pa_cons (pv 2) (pa_cons (pv 1) pa_nil)))) pa_nil)) (pa_cons (pe_call G__law_sum_of (hr.mono (by omega)) rfl T.m__law_sum_of T.F__law_sum_of.kp T.b__law_sum_of .nil pass0 (pa_cons (pe_lst (pa_cons (pv 1) (pa_cons (pv 2) (pa_cons (pv 1) pa_nil)))) pa_nil)) pa_nil)))))))))), ?_⟩
  walk_at "nz"
  refine r_eqI (t_if (fun _ => ?_) fun _ => r_eqI (t_if (fun _ => ?_) fun _ => r_eqI (t_if (fun _ => ?_) fun _ => r_eqI (t_if (fun _ => ?_) fun _ => r_eqI (t_if (fun _ => ?_) fun _ => ?_)))))
  · refine two_fr ha hb hp hq (by decide) fun u H1 s1 h1 => two_fr (dpUp s1 ha) (dpUp s1 hb) hp hq (by decide) fun v H2 s2 h2 => use_same (dpUp s2 h1) h2 rfl fun H3 s3 => k _ ((s1.trans s2).trans s3)
  · refine two_fr ha hb hp hq (by decide) fun u H1 s1 h1 => r_ixTi (dpUp s1 hb) rfl (r_U (r_ixTi (dpUp s1 hb) rfl (r_tup (K := K) (by walk_at "fds") fun c H2 s2 _ hc => ?_)))
    have hq2 : Fb 24 (-q.1, q.2) := ⟨hq.1, by show (-q.1).natAbs < _; rw [Int.natAbs_neg]; exact hq.2.1, hq.2.2⟩
    refine two_fr (q := (-q.1, q.2)) (dpUp s2 (dpUp s1 ha)) hc hp hq2 (by decide) fun v H3 s3 h3 => ?_
    rw [← minusF_neg] at h3
    exact use_same (dpUp s3 (dpUp s2 h1)) h3 rfl fun H4 s4 => k _ (((s1.trans s2).trans s3).trans s4)
  · refine two_fr ha hb hp hq (by decide) fun u H1 s1 h1 => r_ixTi (dpUp s1 ha) rfl (r_ixTi (dpUp s1 hb) rfl (r_mulI hp.2.1 hq.2.1 (by decide) (r_ixTi (dpUp s1 ha) rfl (r_ixTi (dpUp s1 hb) rfl (r_mulI hp.2.2 hq.2.2 (by decide) ?_)))))
    exact ⟨_, _, rfl, mul_ne hp.1 hq.1, pow8000 (mul_lt2 hp.2.2 hq.2.2) (by decide), fun r H2 s2 h2 => use_same (dpUp s2 h1) h2 rfl fun H3 s3 => k _ ((s1.trans s2).trans s3)⟩
  · refine r_ixTi hb rfl (r_eqI (t_if (fun _ => k _ (Same.refl _)) fun z => ?_))
    refine ⟨a, b, p, q, rfl, ha, hb, hp.mono (by decide), hq.mono (by decide), z, fun u H1 s1 h1 => ?_⟩
    refine r_ixTi (dpUp s1 ha) rfl (r_ixTi (dpUp s1 hb) rfl (r_mulI hp.2.1 hq.2.2 (by decide) (r_ixTi (dpUp s1 ha) rfl (r_ixTi (dpUp s1 hb) rfl (r_mulI hp.2.2 hq.2.1 (by decide) ?_)))))
    have pp := hp.1
    exact ⟨_, _, rfl, Int.mul_ne_zero (by omega) z, pow8000 (mul_lt2 hp.2.2 hq.2.1) (by decide), fun r H2 s2 h2 => use_same (dpUp s2 h1) h2 rfl fun H3 s3 => k _ ((s1.trans s2).trans s3)⟩
  · exact ⟨a, b, p, q, 24, 24, rfl, ha, hb, hp, hq, by decide, a, b, p, q, 24, 24, rfl, ha, hb, hp, hq, by decide, use_same (.bl _) (.bl _) rfl fun H3 s3 => k _ s3⟩
  · refine r_tup (K := K) (.cons ha (.cons hb (.cons ha .nil))) fun c H1 s1 _ hc => ?_
    have fb : ∀ u ∈ [p, q, p], Fb 40 u := fun u hu => by
      simp only [List.mem_cons, List.not_mem_nil, or_false] at hu
      rcases hu with rfl | rfl | rfl
      · exact hp.mono (by decide)
      · exact hq.mono (by decide)
      · exact hp.mono (by decide)
    refine ⟨_, [p, q, p], rfl, hc, fb, by show 3 ≤ 60; decide, fun u H2 s2 h2 => r_lst fun l H3 s3 nl e3 => ?_⟩
    have x := (s1.trans s2).trans s3
    refine ⟨l, _, [p, q, p], rfl, SqL.of e3, .cons (dpUp x ha) (.cons (dpUp x hb) (.cons (dpUp x ha) .nil)), fb, by show 3 ≤ 60; decide, fun v H4 s4 h4 => ?_⟩
    exact use_same (dpUp s4 (dpUp s3 h2)) h4 rfl fun H5 s5 => k _ ((x.trans s4).trans s5)
theorem ok__law_lowest_right (T : Txt K mg) : FnOk P w K mg base CX0 21 T.a__law_lowest_right T.d__law_lowest_right ["tape"] (sp__law_lowest_right K) := by
  have G__law_numbers := ok__law_numbers (P := P) (w := w) (base := base) T
  have G__law_pick := ok__law_pick (P := P) (w := w) (base := base) T
  have G__law_same := ok__law_same (P := P) (w := w) (base := base) T
  have G_lowest := ok_lowest (P := P) (w := w) (base := base) T
  have G__law_lowest := ok__law_lowest (P := P) (w := w) (base := base) T
  refine T.F__law_lowest_right.ok sc__law_lowest_right (fun vs H Q E h => ?_) (fun cdv A outer s H vs Q E hr h => ?_)
  · obtain ⟨_, rfl, _⟩ := h
    rfl
  obtain ⟨t, rfl, hT, k⟩ := h
  refine ⟨_, (pss_cons (ps_asg (pe_call G__law_numbers (hr.mono (by omega)) rfl T.m__law_numbers T.F__law_numbers.kp T.b__law_numbers .nil pass0 (pa_cons (pv 0) pa_nil)) (pg_tupK (K := K) (n := 2) rfl (pgs_cons (pg_name (i := 1) sc__law_lowest_right.nd rfl (Or.inl rfl)) (pgs_cons (pg_name (i := 2) sc__law_lowest_right.nd rfl (Or.inl rfl)) pgs_nil)))) (pss_cons (ps_set (i := 3) sc__law_lowest_right.nd rfl (Or.inl rfl) (pe_call G__law_numbers (hr.mono (by omega)) rfl T.m__law_numbers T.F__law_numbers.kp T.b__law_numbers .nil pass0 (pa_cons (pv 0) pa_nil))) (pss_cons (ps_set (i := 4) sc__law_lowest_right.nd rfl (Or.inl rfl) (pe_call G__law_pick (hr.mono (by omega)) rfl T.m__law_pick T.F__law_pick.kp T.b__law_pick .nil pass0 (pa_cons (pv 0) (pa_cons (pe_lst (pa_cons (pe_tup (pa_cons (pe_un un_neg (pv 1)) (pa_cons (pv 2) pa_nil))) (pa_cons (pe_tup (pa_cons (pv 1) (pa_cons (pe_un un_neg (pv 2)) pa_nil))) (pa_cons (pe_tup (pa_cons (pe_un un_neg (pv 1)) (pa_cons (pe_un un_neg (pv 2)) pa_nil))) (pa_cons (pv 3) pa_nil))))) pa_nil)))) (pss_cons (ps_for PassesOwn.never rfl (pi_listK (K := K) (pe_lst (pa_cons (pe_tup (pa_cons (pv 1) (pa_cons (pv 2) pa_nil))) (pa_cons (pv 4) (pa_cons (pe_tup (pa_cons (pv 1) (pa_cons (pv 2) pa_nil))) pa_nil))))) (pg_name (i := 5) sc__law_lowest_right.nd rfl (Or.inl rfl)) (pss_one (ps_if (pt_not (pt_truthK (K := K) (pe_call G__law_same (hr.mono (by omega)) rfl T.m__law_same T.F__law_same.kp T.b__law_same .nil pass0 (pa_cons (pe_call G_lowest (hr.mono (by omega)) rfl T.m_lowest T.F_lowest.kp T.b_lowest .nil pass0 (pa_cons (pe_ix (ixK (K := K)) (pv 5) pe_int (fun _ _ => rfl)) (pa_cons (pe_ix (ixK (K := K)) (pv 5) pe_int (fun _ _ => rfl)) pa_nil))) (pa_cons (pe_call G__law_lowest (hr.mono (by omega)) rfl T.m__law_lowest T.F__law_lowest.kp T.b__law_lowest .nil pass0 (pa_cons (pe_ix (ixK (K := K)) (pv 5) pe_int (fun _ _ => rfl)) (pa_cons (pe_ix (ixK (K := K)) (pv 5) pe_int (fun _ _ => rfl)) pa_nil))) pa_nil))) (fun _ => rfl))) (pss_one (ps_ret pe_bl)) pss_nil))) (pss_one (ps_ret pe_bl)))))), ?_⟩
  walk_at "nz"
  refine ⟨t, rfl, hT, fun r1 p1 H1 e1 h1 a1 b1 c1 => r_un2 h1 fun u v hu hv => ?_⟩
  obtain ⟨n, d⟩ := p1
  cases dp_int hu
  cases dp_int hv
  refine ⟨t, rfl, e1.tape, fun r2 p2 H2 e2 h2 a2 b2 c2 => ?_⟩
  have x2 := e1.trans e2
  refine r_U (r_tup (K := K) (by walk_at "fds") fun q3 H3 s3 _ h3 => r_U (r_tup (K := K) (by walk_at "fds") fun q4 H4 s4 _ h4 => r_U (r_U (r_tup (K := K) (by walk_at "fds") fun q5 H5 s5 _ h5 => r_lst fun l6 H6 s6 n6 e6 => ?_))))
  have x5 := ((x2.then s3).then s4).then s5
  have x6 := x5.then s6
  have sm : ∀ q ∈ [((-n, d) : Fr), (n, -d), (-n, -d), p2], q.2 ≠ 0 ∧ q.2.natAbs < 1000000 := fun q hq => by
    simp only [List.mem_cons, List.not_mem_nil, or_false] at hq
    simp only at a1 c1
    rcases hq with rfl | rfl | rfl | rfl
    · exact ⟨a1, c1⟩
    · exact ⟨by show -d ≠ 0; omega, by show (-d).natAbs < _; omega⟩
    · exact ⟨by show -d ≠ 0; omega, by show (-d).natAbs < _; omega⟩
    · exact ⟨a2, c2⟩
  refine use_pick (ds := [((-n, d) : Fr), (n, -d), (-n, -d), p2].map fr) x6.tape (SqL.of e6) (by walk_at "fds") rfl (x5.tape.ne n6) fun dd v7 H7 hd e7 h7 => ?_
  obtain ⟨p3, hp3, rfl⟩ := List.mem_map.mp hd
  have x7 := x6.trans e7
  -- the loop over the three pairs
  refine r_forLe (fun a xs H1 => Same H7 H1 ∧ DpAll K H1 xs ([((n, d) : Fr), p3, (n, d)].map fr)) (fun Q q => ?_) fun a xs H8 ⟨s8, hd8⟩ hsq8 => ?_
  · walk_at "nz"
    refine r_tup (K := K) (by walk_at "fds") fun q8 H8 s8 _ h8 => r_tup (K := K) (by walk_at "fds") fun q9 H9 s9 _ h9 => r_lst fun l10 H10 s10 n10 e10 => ?_
    exact q l10 _ H10 ⟨(s8.trans s9).trans s10, .cons (dpUp s10 (dpUp s9 h8)) (.cons (dpUp s10 (dpUp s9 (dpUp s8 h7))) (.cons (dpUp s10 h9) .nil))⟩ (SqL.of e10)
  · have it : ∀ i x, xs[i]? = some x → ∃ p : Fr, Dp K H8 x (fr p) ∧ p.2 ≠ 0 ∧ p.2.natAbs < 1000000 := fun i x hi => by
      obtain ⟨dd, hdd, hx⟩ := dps_getV hd8 hi
      obtain ⟨p, hp, rfl⟩ := List.mem_map.mp (List.mem_of_getElem? hdd)
      refine ⟨p, hx, ?_⟩
      simp only [List.mem_cons, List.not_mem_nil, or_false] at hp
      rcases hp with rfl | rfl | rfl
      · exact ⟨a1, c1⟩
      · exact sm _ hp3
      · exact ⟨a1, c1⟩
    refine ⟨fun i σ' H' => Same H8 H' ∧ SqL K H' a xs ∧ ∃ c, σ' = [some (.ref t), some (.int n), some (.int d), some r2, some v7, c], ⟨Same.refl _, hsq8, none, rfl⟩, fun i σ' H' _ h => h.2.1, ?_, ?_⟩
    · rintro i x σ' H' hi ⟨s, hsq, c, rfl⟩
      walk_at "nz"
      obtain ⟨p, hx, p0, p1⟩ := it i x hi
      have hx2 := dpUp s hx
      have p8 : p.2.natAbs < 2 ^ 8000 := pow8000 (Nat.lt_trans p1 (show 1000000 < 2 ^ 20 by decide)) (by decide)
      refine r_ixTi hx2 rfl (r_ixTi hx2 rfl ⟨_, _, rfl, p0, p8, fun u1 G1 g1 k1 => r_ixTi (dpUp g1 hx2) rfl (r_ixTi (dpUp g1 hx2) rfl ⟨_, _, rfl, p0, p8, fun u2 G2 g2 k2 => use_same (dpUp g2 k1) k2 rfl fun G3 g3 => u_notT ?_⟩)⟩)
      exact ⟨((s.trans g1).trans g2).trans g3, ((g1.trans g2).trans g3).seq hsq, some x, rfl⟩
    · rintro σ' H' ⟨s, hsq, c, rfl⟩
      walk_at "nz"
      exact k _ ((x7.then s8).then s)
theorem ok__law_far_right (T : Txt K mg) : FnOk P w K mg base CX0 21 T.a__law_far_right T.d__law_far_right ["p", "sign"] (sp__law_far_right K) := by
  have G__law_plus := ok__law_plus (P := P) (w := w) (base := base) T
  have G__law_same := ok__law_same (P := P) (w := w) (base := base) T
  have G_is_less := ok_is_less (P := P) (w := w) (base := base) T
  have G_minus := ok_minus (P := P) (w := w) (base := base) T
  have G_times := ok_times (P := P) (w := w) (base := base) T
  have G_plus := ok_plus (P := P) (w := w) (base := base) T
  refine T.F__law_far_right.ok sc__law_far_right (fun vs H Q E h => ?_) (fun cdv A outer s H vs Q E hr h => ?_)
  · obtain ⟨_, _, _, rfl, _⟩ := h
    rfl
  obtain ⟨v, p, z, rfl, hv, sm, hz, k⟩ := h
  refine ⟨_, (pss_cons (ps_set (i := 2) sc__law_far_right.nd rfl (Or.inl rfl) (pe_tup (pa_cons (pv 1) (pa_cons pe_int pa_nil)))) (pss_cons (ps_for PassesOwn.never rfl (pi_range1 (by rfl) T.z_range (pa_cons pe_int pa_nil)) (pg_name (i := 3) sc__law_far_right.nd rfl (Or.inl rfl)) (pss_cons (ps_set (i := 4) sc__law_far_right.nd rfl (Or.inl rfl) (pe_tup (pa_cons pe_int (pa_cons (pe_op (op_mulK (K := K)) (pe_ix (ixK (K := K)) (pv 2) pe_int (fun _ _ => rfl)) (pe_ix (ixK (K := K)) (pv 2) pe_int (fun _ _ => rfl))) pa_nil)))) (pss_cons (ps_if (pt_not (pt_truthK (K := K) (pe_call G__law_same (hr.mono (by omega)) rfl T.m__law_same T.F__law_same.kp T.b__law_same .nil pass0 (pa_cons (pe_call G_times (hr.mono (by omega)) rfl T.m_times T.F_times.kp T.b_times .nil pass0 (pa_cons (pv 2) (pa_cons (pv 2) pa_nil))) (pa_cons (pv 4) pa_nil))) (fun _ => rfl))) (pss_one (ps_ret pe_bl)) pss_nil) (pss_one (ps_set (i := 2) sc__law_far_right.nd rfl (Or.inl rfl) (pv 4)))))) (pss_cons (ps_set (i := 5) sc__law_far_right.nd rfl (Or.inl rfl) (pe_call G__law_plus (hr.mono (by omega)) rfl T.m__law_plus T.F__law_plus.kp T.b__law_plus .nil pass0 (pa_cons (pv 0) (pa_cons (pv 2) pa_nil)))) (pss_cons (ps_if (PW.pt (pw_or (pt_not (pt_truthK (K := K) (pe_call G__law_same (hr.mono (by omega)) rfl T.m__law_same T.F__law_same.kp T.b__law_same .nil pass0 (pa_cons (pe_call G_plus (hr.mono (by omega)) rfl T.m_plus T.F_plus.kp T.b_plus .nil pass0 (pa_cons (pv 0) (pa_cons (pv 2) pa_nil))) (pa_cons (pv 5) pa_nil))) (fun _ => rfl))) (pw_or1 (pt_not (pt_truthK (K := K) (pe_call G__law_same (hr.mono (by omega)) rfl T.m__law_same T.F__law_same.kp T.b__law_same .nil pass0 (pa_cons (pe_call G_minus (hr.mono (by omega)) rfl T.m_minus T.F_minus.kp T.b_minus .nil pass0 (pa_cons (pv 5) (pa_cons (pv 0) pa_nil))) (pa_cons (pv 2) pa_nil))) (fun _ => rfl)))))) (pss_one (ps_ret pe_bl)) pss_nil) (pss_cons (ps_if (PW.pt (pw_or (pt_not (pt_truthK (K := K) (pe_call G__law_same (hr.mono (by omega)) rfl T.m__law_same T.F__law_same.kp T.b__law_same .nil pass0 (pa_cons (pe_call G_is_less (hr.mono (by omega)) rfl T.m_is_less T.F_is_less.kp T.b_is_less .nil pass0 (pa_cons (pv 0) (pa_cons (pv 5) pa_nil))) (pa_cons pe_bl pa_nil))) (fun _ => rfl))) (pw_or1 (pt_not (pt_truthK (K := K) (pe_call G__law_same (hr.mono (by omega)) rfl T.m__law_same T.F__law_same.kp T.b__law_same .nil pass0 (pa_cons (pe_call G_is_less (hr.mono (by omega)) rfl T.m_is_less T.F_is_less.kp T.b_is_less .nil pass0 (pa_cons (pv 5) (pa_cons (pv 0) pa_nil))) (pa_cons pe_bl pa_nil))) (fun _ => rfl)))))) (pss_one (ps_ret pe_bl)) pss_nil) (pss_one (ps_ret (pe_and (pe_call G__law_same (hr.mono (by omega)) rfl T.m__law_same T.F__law_same.kp T.b__law_same .nil pass0 (pa_cons (pe_call G_is_less (hr.mono (by omega)) rfl T.m_is_less T.F_is_less.kp T.b_is_less .nil pass0 (pa_cons (pv 5) (pa_cons (pv 5) pa_nil))) (pa_cons pe_bl pa_nil))) (pe_one (pe_call G__law_same (hr.mono (by omega)) rfl T.m__law_same T.F__law_same.kp T.b__law_same .nil pass0 (pa_cons (pe_call G_minus (hr.mono (by omega)) rfl T.m_minus T.F_minus.kp T.b_minus .nil pass0 (pa_cons (pv 0) (pa_cons (pv 5) pa_nil))) (pa_cons (pe_tup (pa_cons (pe_un un_neg (pe_ix (ixK (K := K)) (pv 2) pe_int (fun _ _ => rfl))) (pa_cons (pe_ix (ixK (K := K)) (pv 2) pe_int (fun _ _ => rfl)) pa_nil))) pa_nil)))))))))))), ?_⟩
  walk_at "nz"
  have r0 : Same H H := Same.refl _
  refine r_tup (K := K) (by walk_at "fds") fun f0 H1 s1 _ d0 => ?_
  refine r_forR (n := 3) (by walk_at "ev") (by decide) (by decide) (fun i σ' H' => ∃ (b n : Int) (f : V) (c d : Option V), σ' = [some v, some (.int z), some f, c, d, none] ∧ Same H H' ∧ Dp K H' f (fr (n, b)) ∧ ((i = 0 ∧ n = z ∧ b = 1000) ∨ (i = 1 ∧ n = 1 ∧ b = 1000000) ∨ (i = 2 ∧ n = 1 ∧ b = 1000000000000) ∨ (i = 3 ∧ n = 1 ∧ b = 1000000000000000000000000)))
    ⟨1000, z, .ref f0, none, none, rfl, s1, d0, .inl ⟨rfl, rfl, rfl⟩⟩ ?_ ?_
  · rintro i σ' H' hi ⟨b, n, f, c, d, rfl, s, hf, hc⟩
    walk_at "nz"
    have hb : (b = 1000 ∨ b = 1000000 ∨ b = 1000000000000) ∧ (n = 1 ∨ n = -1) := by
      have : i < 3 := hi
      omega
    have hb0 : 0 < b := by omega
    have fb : Fb 50 (n, b) := ⟨hb0, by show n.natAbs < _; omega, by show b.natAbs < _; omega⟩
    refine r_ixTi hf rfl (r_ixTi hf rfl (r_mulI fb.2.2 fb.2.2 (by decide) (r_tup (K := K) (ds := [.int 1, .int (b * b)]) (by walk_at "fds") fun q2 H2 s2 _ h2 => ?_)))
    refine two_fr (dpUp s2 hf) (dpUp s2 hf) fb fb (by decide) fun u H3 s3 h3 => ?_
    rw [timesF_unit hb.2 hb0] at h3
    refine use_same h3 (dpUp s3 h2) rfl fun H4 s4 => u_notT ?_
    refine ⟨b * b, 1, .ref q2, _, _, rfl, ((s.trans s2).trans s3).trans s4, dpUp s4 (dpUp s3 h2), ?_⟩
    rcases hc with ⟨rfl, _, rfl⟩ | ⟨rfl, _, rfl⟩ | ⟨rfl, _, rfl⟩ | ⟨rfl, _⟩
    · exact .inr (.inl ⟨rfl, rfl, rfl⟩)
    · exact .inr (.inr (.inl ⟨rfl, rfl, rfl⟩))
    · exact .inr (.inr (.inr ⟨rfl, rfl, rfl⟩))
    · exact absurd hi (by decide)
  · rintro σ' H' ⟨b, n, f, c, d, rfl, s, hf, hc⟩
    walk_at "nz"
    have hnb : n = 1 ∧ b = 1000000000000000000000000 := by
      rcases hc with ⟨h, _⟩ | ⟨h, _⟩ | ⟨h, _⟩ | ⟨_, h1, h2⟩
      · exact absurd h (by decide)
      · exact absurd h (by decide)
      · exact absurd h (by decide)
      · exact ⟨h1, h2⟩
    obtain ⟨rfl, eb⟩ := hnb
    have hb0 : 0 < b := by omega
    have rq : Red (1, b) := ⟨hb0, by simp⟩
    have fq : Fb 100 (1, b) := ⟨hb0, by show (1 : Int).natAbs < _; decide, by show b.natAbs < _; omega⟩
    have fp := sm.fb
    have hv2 := dpUp s hv
    have fn : Fb 111 (plusF p (1, b)) := plusF_fb fp fq
    have l1 := less_plus fp.1 rq (show (0 : Int) < 1 by decide)
    refine two_fr hv2 hf fp fq (by decide) fun r3 H3 s3 h3 => two_fr (dpUp s3 hv2) (dpUp s3 hf) fp fq (by decide) fun r4 H4 s4 h4 => use_same h4 (dpUp s4 h3) rfl fun H5 s5 => u_notT ?_
    have x5 := (s3.trans s4).trans s5
    have n5 := dpUp s5 (dpUp s4 h3)
    refine two_fr n5 (dpUp x5 hv2) fn fp (by decide) fun r6 H6 s6 h6 => ?_
    rw [minusF_plus fp.1 rq] at h6
    refine use_same h6 (dpUp s6 (dpUp x5 hf)) rfl fun H7 s7 => u_notT ?_
    have x7 := (x5.trans s6).trans s7
    have n7 := dpUp s7 (dpUp s6 n5)
    refine ⟨_, _, _, _, _, _, rfl, dpUp x7 hv2, n7, fp, fn, by decide, ?_⟩
    rw [l1]
    refine use_same (.bl _) (.bl _) rfl fun H8 s8 => u_notT ?_
    refine ⟨_, _, _, _, _, _, rfl, dpUp s8 n7, dpUp s8 (dpUp x7 hv2), fn, fp, by decide, ?_⟩
    rw [less_not l1]
    refine use_same (.bl _) (.bl _) rfl fun H9 s9 => u_notT ?_
    have n9 := dpUp s9 (dpUp s8 n7)
    refine ⟨_, _, _, _, _, _, rfl, n9, n9, fn, fn, by decide, ?_⟩
    rw [less_self]
    refine use_same (.bl _) (.bl _) rfl fun H10 s10 => t_yesB ?_
    have x10 := ((x7.trans s8).trans s9).trans s10
    refine two_fr (dpUp x10 hv2) (dpUp s10 n9) fp fn (by decide) fun r11 H11 s11 h11 => ?_
    rw [plusF_minus fp.1 rq] at h11
    have f11 := dpUp s11 (dpUp x10 hf)
    refine r_ixTi f11 rfl (r_U (r_ixTi f11 rfl (r_tup (K := K) (by walk_at "fds") fun q12 H12 s12 _ h12 => use_same (dpUp s12 h11) h12 rfl fun H13 s13 => ?_)))
    exact k _ ((((s.trans x10).trans s11).trans s12).trans s13)
end


section
variable {P : Program} {w : World} {K : Fg} {mg : Str → Option Value} {base : Heap}
theorem ok__law_total_right (T : Txt K mg) : FnOk P w K mg base CX0 21 T.a__law_total_right T.d__law_total_right ["tape"] (sp__law_total_right K) := by
  have G__law_draw := ok__law_draw (P := P) (w := w) (base := base) T
  have G__law_sum_of := ok__law_sum_of (P := P) (w := w) (base := base) T
  have G__law_fraction := ok__law_fraction (P := P) (w := w) (base := base) T
  have G__law_beside := ok__law_beside (P := P) (w := w) (base := base) T
  have G__law_shuffled := ok__law_shuffled (P := P) (w := w) (base := base) T
  have G__law_same := ok__law_same (P := P) (w := w) (base := base) T
  have G_total := ok_total (P := P) (w := w) (base := base) T
  refine T.F__law_total_right.ok sc__law_total_right (fun vs H Q E h => ?_) (fun cdv A outer s H vs Q E hr h => ?_)
  · obtain ⟨_, rfl, _⟩ := h
    rfl
  obtain ⟨t, rfl, hT, k⟩ := h
  refine ⟨_, (pss_cons (ps_set (i := 1) sc__law_total_right.nd rfl (Or.inl rfl) (pe_call G__law_draw (hr.mono (by omega)) rfl T.m__law_draw T.F__law_draw.kp T.b__law_draw .nil pass0 (pa_cons (pv 0) (pa_cons pe_int pa_nil)))) (ps_cutU (ps_if (pt_cmpR (op_eqK (K := K) (hu64 hr)) (pe_call G__law_draw (hr.mono (by omega)) rfl T.m__law_draw T.F__law_draw.kp T.b__law_draw .nil pass0 (pa_cons (pv 0) (pa_cons pe_int pa_nil))) pe_int (nomark _)) (pss_one (ps_set (i := 1) sc__law_total_right.nd rfl (Or.inl rfl) pe_int)) pss_nil) (pss_cons (ps_setLc (i := 2) (own := [("k", 3)]) (g := gName 3) (tt := tYes) rfl sc__law_total_right.nd rfl rfl (sw_true rfl rfl rfl (by decide +kernel)) (pi_range1 (by rfl) T.z_range (pa_cons (pv 1) pa_nil)) (blkOk_by (N := ["tape", "many", "first", "k", "second", "due", "fractions", "wanted"]) (sc := defScope s__law_total_right) (by decide +kernel)) (fun _ _ _ _ _ => (pg_name (i := 3) sc__law_total_right.nd rfl (Or.inl rfl))) (fun _ _ _ _ _ => pts_nil) (fun _ _ _ _ _ => (pe_call G__law_fraction (hr.mono (by omega)) rfl T.m__law_fraction T.F__law_fraction.kp T.b__law_fraction .nil pass0 (pa_cons (pv 0) pa_nil)))) (pss_cons (ps_set (i := 4) sc__law_total_right.nd rfl (Or.inl rfl) (pe_callTy (call_listK (K := K)) (by rfl) T.z_list rfl (pa_cons (pv 2) pa_nil))) (ps_cutU (ps_if (pt_cmpR op_gt (pv 1) pe_int (nomark _)) (pss_cons (ps_set (i := 3) sc__law_total_right.nd rfl (Or.inl rfl) (pe_call G__law_draw (hr.mono (by omega)) rfl T.m__law_draw T.F__law_draw.kp T.b__law_draw .nil pass0 (pa_cons (pv 0) (pa_cons (pv 1) pa_nil)))) (pss_one (ps_asg (pe_call G__law_beside (hr.mono (by omega)) rfl T.m__law_beside T.F__law_beside.kp T.b__law_beside .nil pass0 (pa_cons (pv 0) (pa_cons (pe_ix (ixK (K := K)) (pv 4) (pv 3) (fun _ _ => rfl)) pa_nil))) (pg_sub (pv 4) (pv 3) set_list)))) pss_nil) (pss_cons (ps_set (i := 5) sc__law_total_right.nd rfl (Or.inl rfl) (pe_call G__law_sum_of (hr.mono (by omega)) rfl T.m__law_sum_of T.F__law_sum_of.kp T.b__law_sum_of .nil pass0 (pa_cons (pv 2) pa_nil))) (pss_cons (ps_for PassesOwn.never rfl (pi_listK (K := K) (pe_lst (pa_cons (pe_tup (pa_cons (pv 2) (pa_cons (pv 5) pa_nil))) (pa_cons (pe_tup (pa_cons (pv 4) (pa_cons (pe_call G__law_sum_of (hr.mono (by omega)) rfl T.m__law_sum_of T.F__law_sum_of.kp T.b__law_sum_of .nil pass0 (pa_cons (pv 4) pa_nil)) pa_nil))) (pa_cons (pe_tup (pa_cons (pe_call G__law_shuffled (hr.mono (by omega)) rfl T.m__law_shuffled T.F__law_shuffled.kp T.b__law_shuffled .nil pass0 (pa_cons (pv 0) (pa_cons (pv 2) pa_nil))) (pa_cons (pv 5) pa_nil))) pa_nil))))) (pg_tupK (K := K) (n := 2) rfl (pgs_cons (pg_name (i := 6) sc__law_total_right.nd rfl (Or.inl rfl)) (pgs_cons (pg_name (i := 7) sc__law_total_right.nd rfl (Or.inl rfl)) pgs_nil))) (pss_one (ps_if (pt_not (pt_truthK (K := K) (pe_call G__law_same (hr.mono (by omega)) rfl T.m__law_same T.F__law_same.kp T.b__law_same .nil pass0 (pa_cons (pe_call G_total (hr.mono (by omega)) rfl T.m_total T.F_total.kp T.b_total .nil pass0 (pa_cons (pe_callTy (call_tupleK (K := K)) (by rfl) T.z_tuple rfl (pa_cons (pv 6) pa_nil)) pa_nil)) (pa_cons (pv 7) pa_nil))) (fun _ => rfl))) (pss_one (ps_ret pe_bl)) pss_nil))) (pss_one (ps_ret pe_bl))))))))), ?_⟩
  walk_at "nz"
  refine use_draw hT fun m0 H1 e1 a1 b1 => ?_
  refine r_cut (fun σ' H' => ∃ m : Int, 0 ≤ m ∧ m ≤ 60 ∧ Ext K t H H' ∧ σ' = [some (.ref t), some (.int m), none, none, none, none, none, none]) ?_ ?_
  · walk_at "nz"
    refine use_draw e1.tape fun z H2 e2 a2 b2 => r_eqI (t_if (fun _ => ?_) fun _ => ?_)
    · exact ⟨60, by decide, by decide, e1.trans e2, rfl⟩
    · exact ⟨m0, by omega, by omega, e1.trans e2, rfl⟩
  · rintro σ' H2 ⟨m, hm0, hm1, e2, rfl⟩
    walk_at "nz"
    -- first
    refine r_lcR (n := m) (by walk_at "ev") (by omega) (by omega) (fun p i acc H' => Ext K t H2 H' ∧ ∃ ps : List Fr, (∀ q ∈ ps, Sm q) ∧ ps.length = i ∧ DpAll K H' acc (ps.map fr))
      (fun p H' s _ e => ⟨.same s e2.tape, [], (fun _ h => nomatch h), rfl, .nil⟩) (fun p i acc H' hi np e ⟨x, ps, hs, hl, hd⟩ => ?_) (fun l1 xs H3 n1 l3 ⟨x3, ps, hs, hl, hd⟩ => ?_)
    · walk_at "nz"
      have pt := e2.tape.ne np
      have al : acc.length = i := by rw [dps_len hd, List.length_map, hl]
      refine ⟨t, rfl, x.tape, fun r q H4 e4 h4 sm => lc_put hi (e4.oth _ _ pt e) (by omega) fun H5 f5 g5 => ?_⟩
      have p4 := e4.oth _ _ pt e
      have tq := tsameL (K := K) p4 f5
      refine ⟨(x.trans e4).mut np p4 f5, ps ++ [q], fun u hu => ?_, by rw [List.length_append, hl]; rfl, ?_⟩
      · rcases List.mem_append.mp hu with h | h
        · exact hs u h
        · rw [List.mem_singleton.mp h]; exact sm
      · rw [List.map_append]
        exact dps_append (dps_monoT tq _ _ (noLs_map (fun _ => rfl) _) (dpsX e4 (noLs_map (fun _ => rfl) _) hd)) (.cons (dp_monoT tq _ _ rfl h4) .nil)
    · have noF : ∀ zs : List Fr, noLs (zs.map fr) = true := fun zs => noLs_map (fun _ => rfl) zs
      have xl : xs.length = ps.length := by rw [dps_len hd, List.length_map]
      have p60 : ps.length ≤ 60 := by omega
      have x03 := e2.trans x3
      refine r_listV (.inl (SqL.of l3)) fun l4 H4 s4 n4 e4 => ?_
      have x4 := x03.then s4
      have n4' : H l4 = none := x03.free n4
      have n1' : H l1 = none := e2.free n1
      have l1t := hT.ne n1'
      have l4t := hT.ne n4'
      have l41 : l4 ≠ l1 := by rintro rfl; rw [l3] at n4; cases n4
      refine r_cut (fun σ' H' => ∃ (c : Option V) (ys : List V) (qs : List Fr), σ' = [some (.ref t), some (.int m), some (.ref l1), c, some (.ref l4), none, none, none] ∧ Ext K t H H' ∧ H' l1 = some (.lst xs) ∧ H' l4 = some (.lst ys) ∧ DpAll K H' xs (ps.map fr) ∧ DpAll K H' ys (qs.map fr) ∧ (∀ q ∈ qs, Sm q) ∧ qs.length = ps.length) ?_ ?_
      · walk_at "nz"
        refine r_I0 (t_if (fun hm => ?_) fun _ => ?_)
        · refine use_draw x4.tape (fun r H5 e5 r0 r1 => ?_) (by omega)
          have hr : r.toNat < xs.length := by omega
          have hr2 : r.toNat < ps.length := by omega
          have k5 := e5.oth _ _ l4t e4
          have hd5 := dpsX e5 (noF _) (dpsUp s4 hd)
          refine r_ixLV (SqL.of k5) (at_of (j := r.toNat) (by omega) (List.getElem?_eq_getElem hr)) ?_
          obtain ⟨d6, g6, hv6⟩ := dps_getV hd5 (List.getElem?_eq_getElem hr)
          rw [List.getElem?_map, List.getElem?_eq_getElem hr2] at g6
          cases g6
          refine ⟨t, _, _, rfl, e5.tape, hv6, hs _ (List.getElem_mem hr2), fun v p H6 e6 hv sm => ?_⟩
          have k6 := e6.oth _ _ l4t k5
          refine r_setL k6 (ixN_of r0 (by omega)) fun H7 f7 g7 => ?_
          have x6 := (x4.trans e5).trans e6
          have tq := tsameL (K := K) k6 f7
          have hd6 := dpsX e6 (noF _) hd5
          refine ⟨_, _, ps.set r.toNat p, rfl, x6.mut n4' k6 f7, ?_, g7, dps_monoT tq _ _ (noF _) hd6, ?_, ?_, by rw [List.length_set]⟩
          · exact f7 _ _ l41.symm (e6.oth _ _ l1t (e5.oth _ _ l1t (s4 _ _ l3)))
          · rw [List.map_set]
            exact dps_set (dps_monoT tq _ _ (noF _) hd6) (dp_monoT tq _ _ rfl hv)
          · intro q hq
            rcases List.mem_or_eq_of_mem_set hq with h | h
            · exact hs q h
            · rw [h]; exact sm
        · exact ⟨_, xs, ps, rfl, x4, s4 _ _ l3, e4, dpsUp s4 hd, dpsUp s4 hd, hs, rfl⟩
      · rintro σ' H5 ⟨c, ys, qs, rfl, x5, f1, f4, hx5, hy5, hq, hql⟩
        walk_at "nz"
        have fbp : ∀ p ∈ ps, Fb 40 p := fun p h => (hs p h).fb.mono (by decide)
        have fbq : ∀ p ∈ qs, Fb 40 p := fun p h => (hq p h).fb.mono (by decide)
        refine ⟨l1, xs, ps, rfl, SqL.of f1, hx5, fbp, p60, fun due H6 s6 h6 => ?_⟩
        have x6 := x5.then s6
        refine r_forLe (fun a zs H9 => Ext K t H H9 ∧ ∀ (i : Nat) (x : V), zs[i]? = some x → ∃ (q l : Addr) (w : V) (us : List V) (rs : List Fr), x = .ref q ∧ SqT K H9 q [.ref l, w] ∧ SqL K H9 l us ∧ DpAll K H9 us (rs.map fr) ∧ Dp K H9 w (fr (totalF rs)) ∧ (∀ p ∈ rs, Fb 40 p) ∧ rs.length ≤ 60) (fun Q q => ?_) fun a zs H9 ⟨x9, hit⟩ hsq => ?_
        · walk_at "nz"
          refine r_tupV (K := K) fun q1 H7 s7 _ t7 => ⟨l4, ys, qs, rfl, SqL.of (s7 _ _ (s6 _ _ f4)), dpsUp s7 (dpsUp s6 hy5), fbq, by omega, fun w8 H8 s8 h8 => r_tupV (K := K) fun q2 H9 s9 _ t9 => ?_⟩
          have y9 := (s7.trans s8).trans s9
          have g1 := y9 _ _ (s6 _ _ f1)
          have g4 := y9 _ _ (s6 _ _ f4)
          have x9 := x6.then y9
          refine ⟨t, l1, xs, rfl, x9.tape, SqL.of g1, l1t, by omega, fun l6 zs H10 e10 n10 g10 pm => r_tupV (K := K) fun q3 H11 s11 _ t11 => r_lst fun l12 H12 s12 n12 g12 => ?_⟩
          have z12 := s11.trans s12
          have d9 := dpsUp y9 (dpsUp s6 hx5)
          have d10 := dpsX e10 (noF _) d9
          obtain ⟨es, pe, dz⟩ := dps_perm pm d10
          obtain ⟨rs, pr, rfl⟩ := perm_map_of fr pe
          have fbr : ∀ p ∈ rs, Fb 40 p := fun p h => fbp p (pr.mem_iff.mp h)
          have er : totalF rs = totalF ps := totalF_perm pr fun p h => (fbr p h).1
          have due12 := dpUp z12 (dpX e10 rfl (dpUp y9 h6))
          refine q l12 _ H12 ⟨(x9.trans e10).then z12, fun i x hi => ?_⟩ (SqL.of g12)
          match i, hi with
          | 0, hi =>
            cases hi
            exact ⟨q1, l1, due, xs, ps, rfl, tsame z12 _ _ (e10.tup _ _ (tsame (s8.trans s9) _ _ t7)), z12.seq (e10.lst l1t (SqL.of g1)), dpsUp z12 d10, due12, fbp, p60⟩
          | 1, hi =>
            cases hi
            exact ⟨q2, l4, w8, ys, qs, rfl, tsame z12 _ _ (e10.tup _ _ t9), z12.seq (e10.lst l4t (SqL.of g4)), dpsUp z12 (dpsX e10 (noF _) (dpsUp y9 (dpsUp s6 hy5))), dpUp z12 (dpX e10 rfl (dpUp s9 h8)), fbq, by omega⟩
          | 2, hi =>
            cases hi
            exact ⟨q3, l6, due, zs, rs, rfl, tsame s12 _ _ t11, z12.seq (SqL.of g10), dpsUp z12 dz, er ▸ due12, fbr, by rw [pr.length_eq]; exact p60⟩
          | _ + 3, hi => cases hi
        · refine ⟨fun i σ' H' => Same H9 H' ∧ ∃ f w, σ' = [some (.ref t), some (.int m), some (.ref l1), c, some (.ref l4), some due, f, w], ⟨Same.refl _, none, none, rfl⟩, fun i σ' H' _ h => h.1.seq hsq, ?_, ?_⟩
          · rintro i x σ' H' hi ⟨s, f, w, rfl⟩
            obtain ⟨q, l, w, us, rs, rfl, h1, h2, h3, h4, h5, h6⟩ := hit i x hi
            walk_at "nz"
            refine r_un2V (tsame s _ _ h1) ?_
            refine r_tupL (s.seq h2) (dpsUp s h3) fun p H10 s10 _ h10 => ?_
            refine ⟨_, rs, rfl, h10, h5, h6, fun u H11 s11 h11 => use_same h11 (dpUp s11 (dpUp s10 (dpUp s h4))) rfl fun H12 s12 => u_notT ⟨((s.trans s10).trans s11).trans s12, _, _, rfl⟩⟩
          · rintro σ' H' ⟨s, f, w, rfl⟩
            walk_at "nz"
            exact k _ (x9.then s)
end


def sp_law (K : Fg) : Sp := fun vs H Q _ => ∃ (a : Addr) (ns : List Int), vs = [.ref a] ∧ SqL K H a (ns.map V.int) ∧ ns.length ≤ 63 ∧ ∀ H', Q (.bl true) H'
theorem r_inF {K : Fg} {H : Hp} {Q : VK} {x : V} {a : Addr} {xs : List V} (hx : SqL K H a xs) (h1 : flatV x = true) (h2 : xs.all flatV = true) {b : Bool} (h3 : inV x xs = b) (q : Q (.bl b) H) : rInU K x (.ref a) H Q :=
  .inl ⟨a, xs, rfl, .inl hx, h1, h2, by rw [h3]; exact q⟩
section
variable {P : Program} {w : World} {K : Fg} {mg : Str → Option Value} {base : Heap}
/-- [_law_right(door, one, other) for door in range(n)] : a list of True -/
theorem right_lc {H : Hp} {Q : VK} {n : Int} {va vb : V} {p q : Fr} {i j k : Nat} {σ : L2.St} (hn : n < 100) (hn0 : 0 ≤ n) (ea : Dp K H va (fr p)) (eb : Dp K H vb (fr q)) (hp : Fb 24 p) (hq : Fb 24 q)
    (h1 : ∀ x, ((wipe σ [i]).set i x)[j]? = some (some va)) (h2 : ∀ x, ((wipe σ [i]).set i x)[k]? = some (some vb)) (h3 : ∀ x : V, ((wipe σ [i]).set i (some x))[i]? = some (some x)) (h4 : ∀ x, wipe ((wipe σ [i]).set i x) [i] = wipe σ [i])
    (kk : ∀ l m H', Same H H' → SqL K H' l (List.replicate m (V.bl true)) → Q (.ref l) H') :
    tLc (iRng1 (tCons (tC (.int n)) tNil)) (gName i) tYes (tCall (sp__law_right K) [] E0 (tCons (tVar i) (tCons (tVar j) (tCons (tVar k) tNil)))) [i] σ H Q := by
  refine r_lcR (n := n) (by walk_at "ev") (by omega) (by omega) (fun p i acc H' => Same H H' ∧ acc.length = i ∧ ∀ x ∈ acc, x = V.bl true) (fun p H' s _ e => ⟨s, rfl, fun _ h => nomatch h⟩) (fun l z acc H' hi np e ⟨s, al0, ht⟩ => ?_) (fun l acc H' np e ⟨s, al0, ht⟩ => ?_)
  · refine ⟨h4 _, .int z, h3 _, va, h1 _, vb, h2 _, ?_⟩
    have al : acc.length < 1000000 := by omega
    refine ⟨z, va, vb, p, q, rfl, dpUp s ea, dpUp s eb, hp, hq, fun H2 s2 => lc_put hi (s2 _ _ e) al fun H3 f3 g3 => ⟨Same.mut (s.trans s2) np f3, by rw [List.length_append, al0]; rfl, fun x hx => ?_⟩⟩
    rcases List.mem_append.mp hx with h | h
    · exact ht x h
    · exact List.mem_singleton.mp h
  · exact kk l acc.length H' s (by rw [← all_in ht]; exact SqL.of e)
theorem ok_law (T : Txt K mg) : FnOk P w K mg base CX0 22 T.a_law T.d_law ["script"] (sp_law K) := by
  have G__law_tape := ok__law_tape (P := P) (w := w) (base := base) T
  have G__law_fraction := ok__law_fraction (P := P) (w := w) (base := base) T
  have G__law_pick := ok__law_pick (P := P) (w := w) (base := base) T
  have G__law_beside := ok__law_beside (P := P) (w := w) (base := base) T
  have G__law_turns := ok__law_turns (P := P) (w := w) (base := base) T
  have G__law_plus := ok__law_plus (P := P) (w := w) (base := base) T
  have G__law_lowest := ok__law_lowest (P := P) (w := w) (base := base) T
  have G__law_far_right := ok__law_far_right (P := P) (w := w) (base := base) T
  have G__law_right := ok__law_right (P := P) (w := w) (base := base) T
  have G__law_lowest_right := ok__law_lowest_right (P := P) (w := w) (base := base) T
  have G__law_total_right := ok__law_total_right (P := P) (w := w) (base := base) T
  refine T.F_law.ok sc_law (fun vs H Q E h => ?_) (fun cdv A outer s H vs Q E hr h => ?_)
  · obtain ⟨_, _, rfl, _⟩ := h
    rfl
  obtain ⟨a, ns, rfl, ha, hl, k⟩ := h
  refine ⟨_, (pss_cons (ps_set (i := 1) sc_law.nd rfl (Or.inl rfl) (pe_call G__law_tape (hr.mono (by omega)) rfl T.m__law_tape T.F__law_tape.kp T.b__law_tape .nil pass0 (pa_cons (pv 0) pa_nil))) (pss_cons (ps_set (i := 2) sc_law.nd rfl (Or.inl rfl) (pe_call G__law_fraction (hr.mono (by omega)) rfl T.m__law_fraction T.F__law_fraction.kp T.b__law_fraction .nil pass0 (pa_cons (pv 1) pa_nil))) (pss_cons (ps_set (i := 3) sc_law.nd rfl (Or.inl rfl) (pe_call G__law_pick (hr.mono (by omega)) rfl T.m__law_pick T.F__law_pick.kp T.b__law_pick .nil pass0 (pa_cons (pv 1) (pa_cons (pe_lst (pa_cons (pe_call G__law_fraction (hr.mono (by omega)) rfl T.m__law_fraction T.F__law_fraction.kp T.b__law_fraction .nil pass0 (pa_cons (pv 1) pa_nil)) (pa_cons (pe_call G__law_beside (hr.mono (by omega)) rfl T.m__law_beside T.F__law_beside.kp T.b__law_beside .nil pass0 (pa_cons (pv 1) (pa_cons (pv 2) pa_nil))) (pa_cons (pv 2) pa_nil)))) pa_nil)))) (pss_cons (ps_set (i := 4) sc_law.nd rfl (Or.inl rfl) (pe_call G__law_beside (hr.mono (by omega)) rfl T.m__law_beside T.F__law_beside.kp T.b__law_beside .nil pass0 (pa_cons (pv 1) (pa_cons (pv 3) pa_nil)))) (pss_cons (ps_for PassesOwn.never rfl (pi_listK (K := K) (pe_call G__law_turns (hr.mono (by omega)) rfl T.m__law_turns T.F__law_turns.kp T.b__law_turns .nil pass0 (pa_cons (pv 1) (pa_cons pe_int pa_nil)))) (pg_name (i := 5) sc_law.nd rfl (Or.inl rfl)) (ps_cutU (ps_if (PW.pt (pw_and (pt_cmpR op_lt (pv 5) pe_int (nomark _)) (pw_and1 (pt_not (pt_truthK (K := K) (pe_call G__law_right (hr.mono (by omega)) rfl T.m__law_right T.F__law_right.kp T.b__law_right .nil pass0 (pa_cons (pv 5) (pa_cons (pv 2) (pa_cons (pv 3) pa_nil)))) (fun _ => rfl)))))) (pss_one (ps_ret pe_bl)) pss_nil) (ps_cutU (ps_if (PW.pt (pw_and (pt_cmpR (op_eqK (K := K) (hu64 hr)) (pv 5) pe_int (nomark _)) (pw_and1 (pt_not (pt_truthK (K := K) (pe_call G__law_lowest_right (hr.mono (by omega)) rfl T.m__law_lowest_right T.F__law_lowest_right.kp T.b__law_lowest_right .nil pass0 (pa_cons (pv 1) pa_nil)) (fun _ => rfl)))))) (pss_one (ps_ret pe_bl)) pss_nil) (pss_one (ps_if (PW.pt (pw_and (pt_cmpR (op_eqK (K := K) (hu64 hr)) (pv 5) pe_int (nomark _)) (pw_and1 (pt_not (pt_truthK (K := K) (pe_call G__law_total_right (hr.mono (by omega)) rfl T.m__law_total_right T.F__law_total_right.kp T.b__law_total_right .nil pass0 (pa_cons (pv 1) pa_nil)) (fun _ => rfl)))))) (pss_one (ps_ret pe_bl)) pss_nil))))) (pss_cons (ps_for PassesOwn.never rfl (pi_listK (K := K) (pe_lst (pa_cons (pe_tup (pa_cons (pv 2) (pa_cons (pv 3) pa_nil))) (pa_cons (pe_tup (pa_cons (pv 2) (pa_cons (pv 4) pa_nil))) (pa_cons (pe_tup (pa_cons (pv 4) (pa_cons (pv 3) pa_nil))) (pa_cons (pe_tup (pa_cons (pv 2) (pa_cons (pv 3) pa_nil))) pa_nil)))))) (pg_tupK (K := K) (n := 2) rfl (pgs_cons (pg_name (i := 6) sc_law.nd rfl (Or.inr rfl)) (pgs_cons (pg_name (i := 7) sc_law.nd rfl (Or.inr rfl)) pgs_nil))) (pss_one (ps_if (pt_cmpR (op_inK (K := K) (hu65 hr)) pe_bl (pe_lc (own := [("door", 5)]) (g := gName 5) (tt := tYes) rfl sc_law.nd (pi_range1 (by rfl) T.z_range (pa_cons pe_int pa_nil)) (blkOk_by (N := ["script", "tape", "p", "q", "beside", "door", "one", "other", "sums", "products"]) (sc := defScope s_law) (by decide +kernel)) (fun _ _ _ _ _ => (pg_name (i := 5) sc_law.nd rfl (Or.inl rfl))) (fun _ _ _ _ _ => pts_nil) (fun _ _ _ _ _ => (pe_call G__law_right (hr.mono (by omega)) rfl T.m__law_right T.F__law_right.kp T.b__law_right .nil pass0 (pa_cons (pv 5) (pa_cons (pv 6) (pa_cons (pv 7) pa_nil)))))) rfl) (pss_one (ps_ret pe_bl)) pss_nil))) (pss_cons (ps_if (pt_not (pt_truthK (K := K) (pe_call G__law_far_right (hr.mono (by omega)) rfl T.m__law_far_right T.F__law_far_right.kp T.b__law_far_right .nil pass0 (pa_cons (pv 2) (pa_cons (pe_call G__law_pick (hr.mono (by omega)) rfl T.m__law_pick T.F__law_pick.kp T.b__law_pick .nil pass0 (pa_cons (pv 1) (pa_cons (pe_lst (pa_cons pe_int (pa_cons (pe_un un_neg pe_int) pa_nil))) pa_nil))) pa_nil))) (fun _ => rfl))) (pss_one (ps_ret pe_bl)) pss_nil) (pss_cons (ps_set (i := 8) sc_law.nd rfl (Or.inr rfl) (pe_call G__law_plus (hr.mono (by omega)) rfl T.m__law_plus T.F__law_plus.kp T.b__law_plus .nil pass0 (pa_cons (pv 2) (pa_cons (pv 3) pa_nil)))) (pss_cons (ps_set (i := 9) sc_law.nd rfl (Or.inr rfl) (pe_call G__law_lowest (hr.mono (by omega)) rfl T.m__law_lowest T.F__law_lowest.kp T.b__law_lowest .nil pass0 (pa_cons (pe_op (op_mulK (K := K)) (pe_ix (ixK (K := K)) (pv 2) pe_int (fun _ _ => rfl)) (pe_ix (ixK (K := K)) (pv 3) pe_int (fun _ _ => rfl))) (pa_cons (pe_op (op_mulK (K := K)) (pe_ix (ixK (K := K)) (pv 2) pe_int (fun _ _ => rfl)) (pe_ix (ixK (K := K)) (pv 3) pe_int (fun _ _ => rfl))) pa_nil)))) (pss_one (ps_ret (pe_cmpR (op_ninK (K := K) (hu65 hr)) pe_bl (pe_lc (own := [("door", 5)]) (g := gName 5) (tt := tYes) rfl sc_law.nd (pi_range1 (by rfl) T.z_range (pa_cons pe_int pa_nil)) (blkOk_by (N := ["script", "tape", "p", "q", "beside", "door", "one", "other", "sums", "products"]) (sc := defScope s_law) (by decide +kernel)) (fun _ _ _ _ _ => (pg_name (i := 5) sc_law.nd rfl (Or.inl rfl))) (fun _ _ _ _ _ => pts_nil) (fun _ _ _ _ _ => (pe_call G__law_right (hr.mono (by omega)) rfl T.m__law_right T.F__law_right.kp T.b__law_right .nil pass0 (pa_cons (pv 5) (pa_cons (pv 8) (pa_cons (pv 9) pa_nil)))))) rfl)))))))))))), ?_⟩
  walk_at "nz"
  refine ⟨a, ns, rfl, ha, hl, fun t H1 s1 hT => ?_⟩
  refine ⟨t, rfl, hT, fun vp p H2 e2 hp sp => ⟨t, rfl, e2.tape, fun vq q H3 e3 hq sq => ⟨t, vp, p, rfl, e3.tape, dpX e3 rfl hp, sp, fun vb b H4 e4 hb sb => r_lst fun l5 H5 s5 n5 g5 => ?_⟩⟩⟩
  have x5 := ((e2.trans e3).trans e4).then s5
  have p5 := dpUp s5 (dpX e4 rfl (dpX e3 rfl hp))
  refine use_pick (ds := [q, b, p].map fr) x5.tape (SqL.of g5) (.cons (dpUp s5 (dpX e4 rfl hq)) (.cons (dpUp s5 hb) (.cons p5 .nil))) rfl (e4.tape.ne n5) fun d v6 H6 hd e6 h6 => ?_
  obtain ⟨q6, hq6, rfl⟩ := List.mem_map.mp hd
  have sq6 : Sm q6 := by
    simp only [List.mem_cons, List.not_mem_nil, or_false] at hq6
    rcases hq6 with rfl | rfl | rfl <;> assumption
  have p6 := dpX e6 rfl p5
  refine ⟨t, v6, q6, rfl, e6.tape, h6, sq6, fun v7 b7 H7 e7 h7 sb7 => ?_⟩
  have p7 := dpX e7 rfl p6
  have q7 := dpX e7 rfl h6
  have x7 := (x5.trans e6).trans e7
  have fp := sp.fb.mono (show 10 ≤ 24 by decide)
  have fq := sq6.fb.mono (show 10 ≤ 24 by decide)
  have fb := sb7.fb.mono (show 10 ≤ 24 by decide)
  refine r_forLe (fun l xs H8 => Ext K t H7 H8 ∧ l ≠ t ∧ ∃ ns : List Int, xs = ns.map V.int) (fun Q q => ?_) fun l xs H8 ⟨x8, lt, ms, em⟩ hsq => ?_
  · walk_at "nz"
    refine ⟨t, 8, rfl, x7.tape, by decide, fun l ms H' e nl g _ _ => q l _ H' ⟨e, x7.tape.ne nl, ms, rfl⟩ (SqL.of g)⟩
  subst em
  refine ⟨fun i σ' H' => Ext K t H8 H' ∧ ∃ c, σ' = [some (.ref a), some (.ref t), some vp, some v6, some v7, c, none, none, none, none], ⟨.refl x8.tape, none, rfl⟩, fun i σ' H' _ h => h.1.lst lt hsq, ?_, ?_⟩
  · rintro i x σ' H' hi ⟨x9, c, rfl⟩
    obtain ⟨n, hn, rfl⟩ := map_int_at hi
    have p9 := dpX x9 rfl (dpX x8 rfl p7)
    have q9 := dpX x9 rfl (dpX x8 rfl q7)
    walk_at "nz"
    refine r_cut (fun σ2 H2 => Ext K t H8 H2 ∧ σ2 = [some (.ref a), some (.ref t), some vp, some v6, some v7, some (.int n), none, none, none, none]) ?_ ?_
    · walk_at "nz"
      refine r_I0 (t_if (fun _ => ?_) fun _ => ⟨x9, by trivial⟩)
      exact ⟨n, vp, v6, p, q6, rfl, p9, q9, fp, fq, fun H2 s2 => u_notT ⟨x9.then s2, by trivial⟩⟩
    rintro σ2 H2 ⟨x2, rfl⟩
    walk_at "nz"
    refine r_cut (fun σ2 H2 => Ext K t H8 H2 ∧ σ2 = [some (.ref a), some (.ref t), some vp, some v6, some v7, some (.int n), none, none, none, none]) ?_ ?_
    · walk_at "nz"
      refine r_eqI (t_if (fun _ => ?_) fun _ => ⟨x2, by trivial⟩)
      exact ⟨t, rfl, x2.tape, fun H3 e3 => u_notT ⟨x2.trans e3, by trivial⟩⟩
    rintro σ3 H3 ⟨x3, rfl⟩
    walk_at "nz"
    refine r_eqI (t_if (fun _ => ?_) fun _ => ⟨x3, _, rfl⟩)
    exact ⟨t, rfl, x3.tape, fun H4 e4 => u_notT ⟨x3.trans e4, _, rfl⟩⟩
  · rintro σ' H' ⟨x9, c, rfl⟩
    have p9 := dpX x9 rfl (dpX x8 rfl p7)
    have q9 := dpX x9 rfl (dpX x8 rfl q7)
    have b9 := dpX x9 rfl (dpX x8 rfl h7)
    walk_at "nz"
    refine r_forLe (fun l xs H10 => Same H' H10 ∧ ∀ (i : Nat) (x : V), xs[i]? = some x → ∃ (z : Addr) (u v : V) (pu pv : Fr), x = .ref z ∧ SqT K H10 z [u, v] ∧ Dp K H10 u (fr pu) ∧ Dp K H10 v (fr pv) ∧ Fb 24 pu ∧ Fb 24 pv) (fun Q q => ?_) fun l xs H10 ⟨x10, hit⟩ hsq => ?_
    · walk_at "nz"
      refine r_tupV (K := K) fun z1 G1 g1 _ t1 => r_tupV (K := K) fun z2 G2 g2 _ t2 => r_tupV (K := K) fun z3 G3 g3 _ t3 => r_tupV (K := K) fun z4 G4 g4 _ t4 => r_lst fun l5 G5 g5 _ t5 => ?_
      have y2 := (g3.trans g4).trans g5
      have y1 := g2.trans y2
      have y0 := g1.trans y1
      refine q l5 _ G5 ⟨y0, fun i x hi => ?_⟩ (SqL.of t5)
      match i, hi with
      | 0, hi => cases hi; exact ⟨z1, _, _, _, _, rfl, tsame y1 _ _ t1, dpUp y0 p9, dpUp y0 q9, fp, fq⟩
      | 1, hi => cases hi; exact ⟨z2, _, _, _, _, rfl, tsame y2 _ _ t2, dpUp y0 p9, dpUp y0 b9, fp, fb⟩
      | 2, hi => cases hi; exact ⟨z3, _, _, _, _, rfl, tsame (g4.trans g5) _ _ t3, dpUp y0 b9, dpUp y0 q9, fb, fq⟩
      | 3, hi => cases hi; exact ⟨z4, _, _, _, _, rfl, tsame g5 _ _ t4, dpUp y0 p9, dpUp y0 q9, fp, fq⟩
      | _ + 4, hi => cases hi
    refine ⟨fun i σ' H'' => Same H10 H'' ∧ ∃ c d e, σ' = [some (.ref a), some (.ref t), some vp, some v6, some v7, c, d, e, none, none], ⟨Same.refl _, _, _, _, rfl⟩, fun i σ' H'' _ h => h.1.seq hsq, ?_, ?_⟩
    · rintro i x σ' H'' hi ⟨s, c, d, e, rfl⟩
      obtain ⟨z, u, v, pu, pv, rfl, k1, k2, k3, k4, k5⟩ := hit i x hi
      walk_at "nz"
      refine r_un2V (tsame s _ _ k1) ?_
      refine right_lc (by decide) (by decide) (dpUp s k2) (dpUp s k3) k4 k5 (fun _ => rfl) (fun _ => rfl) (fun _ => rfl) (fun _ => rfl) fun l m G g sq => ?_
      refine r_inF (b := false) sq rfl all_bl in_tru (t_noB ⟨s.trans g, _, _, _, rfl⟩)
    · rintro σ' H'' ⟨s, c, d, e, rfl⟩
      walk_at "nz"
      have y := x10.trans s
      have x11 := x9.then y
      refine r_U (r_lst fun l12 H12 s12 n12 g12 => use_pickI (ns := [1, -1]) (x11.then s12).tape (SqL.of g12) (x11.tape.ne n12) fun z H13 hz e13 => ?_)
      have p13 := dpX e13 rfl (dpUp s12 (dpUp y p9))
      have q13 := dpX e13 rfl (dpUp s12 (dpUp y q9))
      simp only [List.mem_cons, List.not_mem_nil, or_false] at hz
      refine ⟨vp, p, z, rfl, p13, sp, hz, fun H14 s14 => u_notT ?_⟩
      have p14 := dpUp s14 p13
      have q14 := dpUp s14 q13
      have f10 := sp.fb
      have g10 := sq6.fb
      refine two_fr p14 q14 f10 g10 (by decide) fun v15 H15 s15 h15 => ?_
      have p15 := dpUp s15 p14
      have q15 := dpUp s15 q14
      refine r_ixTi p15 rfl (r_ixTi q15 rfl (r_mulI f10.2.1 g10.2.1 (by decide) (r_ixTi p15 rfl (r_ixTi q15 rfl (r_mulI f10.2.2 g10.2.2 (by decide) ?_)))))
      refine ⟨_, _, rfl, mul_ne f10.1 g10.1, pow8000 (mul_lt2 f10.2.2 g10.2.2) (by decide), fun v16 H16 s16 h16 => ?_⟩
      refine right_lc (p := plusF p q6) (q := timesF p q6) (by decide) (by decide) (dpUp s16 h15) h16 ((plusF_fb f10 g10).mono (by decide)) ((timesF_fb f10 g10).mono (by decide)) (fun _ => rfl) (fun _ => rfl) (fun _ => rfl) (fun _ => rfl) fun l m G g sq => ?_
      exact r_ninT (b := false) sq rfl all_bl in_tru (k _)
end
theorem all_mk {l : PySem.W.OpenLaw} {w : World} {K : PySem.W.Frag} {h : Heap} {mg : Str → Option Value} {fa f0 f1 f2 f3 f4 f5 f6 f7 f8 f9 f10 f11 f12 f13 f14 f15 f16 f17 f18 f19 f20 f21 f22 f23 f24 f25 : Addr} (X : K.In h) (G : h.Ns mainGlobals mg) (hfa : mg "law" = some (.ref fa))
    {od0 an0 od1 an1 od2 an2 od3 an3 od4 an4 od5 an5 od6 an6 od7 an7 od8 an8 od9 an9 od10 an10 od11 an11 od12 an12 od13 an13 od14 an14 od15 an15 od16 an16 od17 an17 od18 an18 od19 an19 od20 an20 od21 an21 od22 an22 od23 an23 od24 an24 od25 an25 : Option Addr} {sl0 sl1 sl2 sl3 sl4 sl5 sl6 sl7 sl8 sl9 sl10 sl11 sl12 sl13 sl14 sl15 sl16 sl17 sl18 sl19 sl20 sl21 sl22 sl23 sl24 sl25 : Array (Option Value)} {oc0 kV0 dc0 pm0 cd0 ct0 oc1 kV1 dc1 pm1 cd1 ct1 oc2 kV2 dc2 pm2 cd2 ct2 oc3 kV3 dc3 pm3 cd3 ct3 oc4 kV4 dc4 pm4 cd4 ct4 oc5 kV5 dc5 pm5 cd5 ct5 oc6 kV6 dc6 pm6 cd6 ct6 oc7 kV7 dc7 pm7 cd7 ct7 oc8 kV8 dc8 pm8 cd8 ct8 oc9 kV9 dc9 pm9 cd9 ct9 oc10 kV10 dc10 pm10 cd10 ct10 oc11 kV11 dc11 pm11 cd11 ct11 oc12 kV12 dc12 pm12 cd12 ct12 oc13 kV13 dc13 pm13 cd13 ct13 oc14 kV14 dc14 pm14 cd14 ct14 oc15 kV15 dc15 pm15 cd15 ct15 oc16 kV16 dc16 pm16 cd16 ct16 oc17 kV17 dc17 pm17 cd17 ct17 oc18 kV18 dc18 pm18 cd18 ct18 oc19 kV19 dc19 pm19 cd19 ct19 oc20 kV20 dc20 pm20 cd20 ct20 oc21 kV21 dc21 pm21 cd21 ct21 oc22 kV22 dc22 pm22 cd22 ct22 oc23 kV23 dc23 pm23 cd23 ct23 oc24 kV24 dc24 pm24 cd24 ct24 oc25 kV25 dc25 pm25 cd25 ct25 : Value}
    (a0 : PySem.W.nsIn K mainGlobals "lowest" = some (some (.ref f0))) (l0 : K.lookup f0 = some ⟨oc0, od0, .func (PySem.W.fnOf "lowest" "lowest" (defArgs s_lowest) (defBody s_lowest) (defScope s_lowest) .none kV0 dc0 pm0 an0 cd0 ct0), sl0⟩) (c0 : PySem.W.codeIn K cd0 "lowest" = true) (k0 : PySem.W.keepIn K (.ref f0) = true)
    (a1 : PySem.W.nsIn K mainGlobals "plus" = some (some (.ref f1))) (l1 : K.lookup f1 = some ⟨oc1, od1, .func (PySem.W.fnOf "plus" "plus" (defArgs s_plus) (defBody s_plus) (defScope s_plus) .none kV1 dc1 pm1 an1 cd1 ct1), sl1⟩) (c1 : PySem.W.codeIn K cd1 "plus" = true) (k1 : PySem.W.keepIn K (.ref f1) = true)
    (a2 : PySem.W.nsIn K mainGlobals "minus" = some (some (.ref f2))) (l2 : K.lookup f2 = some ⟨oc2, od2, .func (PySem.W.fnOf "minus" "minus" (defArgs s_minus) (defBody s_minus) (defScope s_minus) .none kV2 dc2 pm2 an2 cd2 ct2), sl2⟩) (c2 : PySem.W.codeIn K cd2 "minus" = true) (k2 : PySem.W.keepIn K (.ref f2) = true)
    (a3 : PySem.W.nsIn K mainGlobals "times" = some (some (.ref f3))) (l3 : K.lookup f3 = some ⟨oc3, od3, .func (PySem.W.fnOf "times" "times" (defArgs s_times) (defBody s_times) (defScope s_times) .none kV3 dc3 pm3 an3 cd3 ct3), sl3⟩) (c3 : PySem.W.codeIn K cd3 "times" = true) (k3 : PySem.W.keepIn K (.ref f3) = true)
    (a4 : PySem.W.nsIn K mainGlobals "over" = some (some (.ref f4))) (l4 : K.lookup f4 = some ⟨oc4, od4, .func (PySem.W.fnOf "over" "over" (defArgs s_over) (defBody s_over) (defScope s_over) .none kV4 dc4 pm4 an4 cd4 ct4), sl4⟩) (c4 : PySem.W.codeIn K cd4 "over" = true) (k4 : PySem.W.keepIn K (.ref f4) = true)
    (a5 : PySem.W.nsIn K mainGlobals "total" = some (some (.ref f5))) (l5 : K.lookup f5 = some ⟨oc5, od5, .func (PySem.W.fnOf "total" "total" (defArgs s_total) (defBody s_total) (defScope s_total) .none kV5 dc5 pm5 an5 cd5 ct5), sl5⟩) (c5 : PySem.W.codeIn K cd5 "total" = true) (k5 : PySem.W.keepIn K (.ref f5) = true)
    (a6 : PySem.W.nsIn K mainGlobals "is_less" = some (some (.ref f6))) (l6 : K.lookup f6 = some ⟨oc6, od6, .func (PySem.W.fnOf "is_less" "is_less" (defArgs s_is_less) (defBody s_is_less) (defScope s_is_less) .none kV6 dc6 pm6 an6 cd6 ct6), sl6⟩) (c6 : PySem.W.codeIn K cd6 "is_less" = true) (k6 : PySem.W.keepIn K (.ref f6) = true)
    (a7 : PySem.W.nsIn K mainGlobals "_law_tape" = some (some (.ref f7))) (l7 : K.lookup f7 = some ⟨oc7, od7, .func (PySem.W.fnOf "_law_tape" "_law_tape" (defArgs s__law_tape) (defBody s__law_tape) (defScope s__law_tape) .none kV7 dc7 pm7 an7 cd7 ct7), sl7⟩) (c7 : PySem.W.codeIn K cd7 "_law_tape" = true) (k7 : PySem.W.keepIn K (.ref f7) = true)
    (a8 : PySem.W.nsIn K mainGlobals "_law_draw" = some (some (.ref f8))) (l8 : K.lookup f8 = some ⟨oc8, od8, .func (PySem.W.fnOf "_law_draw" "_law_draw" (defArgs s__law_draw) (defBody s__law_draw) (defScope s__law_draw) .none kV8 dc8 pm8 an8 cd8 ct8), sl8⟩) (c8 : PySem.W.codeIn K cd8 "_law_draw" = true) (k8 : PySem.W.keepIn K (.ref f8) = true)
    (a9 : PySem.W.nsIn K mainGlobals "_law_pick" = some (some (.ref f9))) (l9 : K.lookup f9 = some ⟨oc9, od9, .func (PySem.W.fnOf "_law_pick" "_law_pick" (defArgs s__law_pick) (defBody s__law_pick) (defScope s__law_pick) .none kV9 dc9 pm9 an9 cd9 ct9), sl9⟩) (c9 : PySem.W.codeIn K cd9 "_law_pick" = true) (k9 : PySem.W.keepIn K (.ref f9) = true)
    (a10 : PySem.W.nsIn K mainGlobals "_law_turns" = some (some (.ref f10))) (l10 : K.lookup f10 = some ⟨oc10, od10, .func (PySem.W.fnOf "_law_turns" "_law_turns" (defArgs s__law_turns) (defBody s__law_turns) (defScope s__law_turns) .none kV10 dc10 pm10 an10 cd10 ct10), sl10⟩) (c10 : PySem.W.codeIn K cd10 "_law_turns" = true) (k10 : PySem.W.keepIn K (.ref f10) = true)
    (a11 : PySem.W.nsIn K mainGlobals "_law_shuffled" = some (some (.ref f11))) (l11 : K.lookup f11 = some ⟨oc11, od11, .func (PySem.W.fnOf "_law_shuffled" "_law_shuffled" (defArgs s__law_shuffled) (defBody s__law_shuffled) (defScope s__law_shuffled) .none kV11 dc11 pm11 an11 cd11 ct11), sl11⟩) (c11 : PySem.W.codeIn K cd11 "_law_shuffled" = true) (k11 : PySem.W.keepIn K (.ref f11) = true)
    (a12 : PySem.W.nsIn K mainGlobals "_law_same" = some (some (.ref f12))) (l12 : K.lookup f12 = some ⟨oc12, od12, .func (PySem.W.fnOf "_law_same" "_law_same" (defArgs s__law_same) (defBody s__law_same) (defScope s__law_same) .none kV12 dc12 pm12 an12 cd12 ct12), sl12⟩) (c12 : PySem.W.codeIn K cd12 "_law_same" = true) (k12 : PySem.W.keepIn K (.ref f12) = true)
    (a13 : PySem.W.nsIn K mainGlobals "_law_gcd" = some (some (.ref f13))) (l13 : K.lookup f13 = some ⟨oc13, od13, .func (PySem.W.fnOf "_law_gcd" "_law_gcd" (defArgs s__law_gcd) (defBody s__law_gcd) (defScope s__law_gcd) .none kV13 dc13 pm13 an13 cd13 ct13), sl13⟩) (c13 : PySem.W.codeIn K cd13 "_law_gcd" = true) (k13 : PySem.W.keepIn K (.ref f13) = true)
    (a14 : PySem.W.nsIn K mainGlobals "_law_lowest" = some (some (.ref f14))) (l14 : K.lookup f14 = some ⟨oc14, od14, .func (PySem.W.fnOf "_law_lowest" "_law_lowest" (defArgs s__law_lowest) (defBody s__law_lowest) (defScope s__law_lowest) .none kV14 dc14 pm14 an14 cd14 ct14), sl14⟩) (c14 : PySem.W.codeIn K cd14 "_law_lowest" = true) (k14 : PySem.W.keepIn K (.ref f14) = true)
    (a15 : PySem.W.nsIn K mainGlobals "_law_plus" = some (some (.ref f15))) (l15 : K.lookup f15 = some ⟨oc15, od15, .func (PySem.W.fnOf "_law_plus" "_law_plus" (defArgs s__law_plus) (defBody s__law_plus) (defScope s__law_plus) .none kV15 dc15 pm15 an15 cd15 ct15), sl15⟩) (c15 : PySem.W.codeIn K cd15 "_law_plus" = true) (k15 : PySem.W.keepIn K (.ref f15) = true)
    (a16 : PySem.W.nsIn K mainGlobals "_law_less" = some (some (.ref f16))) (l16 : K.lookup f16 = some ⟨oc16, od16, .func (PySem.W.fnOf "_law_less" "_law_less" (defArgs s__law_less) (defBody s__law_less) (defScope s__law_less) .none kV16 dc16 pm16 an16 cd16 ct16), sl16⟩) (c16 : PySem.W.codeIn K cd16 "_law_less" = true) (k16 : PySem.W.keepIn K (.ref f16) = true)
    (a17 : PySem.W.nsIn K mainGlobals "_law_fraction" = some (some (.ref f17))) (l17 : K.lookup f17 = some ⟨oc17, od17, .func (PySem.W.fnOf "_law_fraction" "_law_fraction" (defArgs s__law_fraction) (defBody s__law_fraction) (defScope s__law_fraction) .none kV17 dc17 pm17 an17 cd17 ct17), sl17⟩) (c17 : PySem.W.codeIn K cd17 "_law_fraction" = true) (k17 : PySem.W.keepIn K (.ref f17) = true)
    (a18 : PySem.W.nsIn K mainGlobals "_law_beside" = some (some (.ref f18))) (l18 : K.lookup f18 = some ⟨oc18, od18, .func (PySem.W.fnOf "_law_beside" "_law_beside" (defArgs s__law_beside) (defBody s__law_beside) (defScope s__law_beside) .none kV18 dc18 pm18 an18 cd18 ct18), sl18⟩) (c18 : PySem.W.codeIn K cd18 "_law_beside" = true) (k18 : PySem.W.keepIn K (.ref f18) = true)
    (a19 : PySem.W.nsIn K mainGlobals "_law_numbers" = some (some (.ref f19))) (l19 : K.lookup f19 = some ⟨oc19, od19, .func (PySem.W.fnOf "_law_numbers" "_law_numbers" (defArgs s__law_numbers) (defBody s__law_numbers) (defScope s__law_numbers) .none kV19 dc19 pm19 an19 cd19 ct19), sl19⟩) (c19 : PySem.W.codeIn K cd19 "_law_numbers" = true) (k19 : PySem.W.keepIn K (.ref f19) = true)
    (a20 : PySem.W.nsIn K mainGlobals "_law_sum_of" = some (some (.ref f20))) (l20 : K.lookup f20 = some ⟨oc20, od20, .func (PySem.W.fnOf "_law_sum_of" "_law_sum_of" (defArgs s__law_sum_of) (defBody s__law_sum_of) (defScope s__law_sum_of) .none kV20 dc20 pm20 an20 cd20 ct20), sl20⟩) (c20 : PySem.W.codeIn K cd20 "_law_sum_of" = true) (k20 : PySem.W.keepIn K (.ref f20) = true)
    (a21 : PySem.W.nsIn K mainGlobals "_law_right" = some (some (.ref f21))) (l21 : K.lookup f21 = some ⟨oc21, od21, .func (PySem.W.fnOf "_law_right" "_law_right" (defArgs s__law_right) (defBody s__law_right) (defScope s__law_right) .none kV21 dc21 pm21 an21 cd21 ct21), sl21⟩) (c21 : PySem.W.codeIn K cd21 "_law_right" = true) (k21 : PySem.W.keepIn K (.ref f21) = true)
    (a22 : PySem.W.nsIn K mainGlobals "_law_lowest_right" = some (some (.ref f22))) (l22 : K.lookup f22 = some ⟨oc22, od22, .func (PySem.W.fnOf "_law_lowest_right" "_law_lowest_right" (defArgs s__law_lowest_right) (defBody s__law_lowest_right) (defScope s__law_lowest_right) .none kV22 dc22 pm22 an22 cd22 ct22), sl22⟩) (c22 : PySem.W.codeIn K cd22 "_law_lowest_right" = true) (k22 : PySem.W.keepIn K (.ref f22) = true)
    (a23 : PySem.W.nsIn K mainGlobals "_law_total_right" = some (some (.ref f23))) (l23 : K.lookup f23 = some ⟨oc23, od23, .func (PySem.W.fnOf "_law_total_right" "_law_total_right" (defArgs s__law_total_right) (defBody s__law_total_right) (defScope s__law_total_right) .none kV23 dc23 pm23 an23 cd23 ct23), sl23⟩) (c23 : PySem.W.codeIn K cd23 "_law_total_right" = true) (k23 : PySem.W.keepIn K (.ref f23) = true)
    (a24 : PySem.W.nsIn K mainGlobals "_law_far_right" = some (some (.ref f24))) (l24 : K.lookup f24 = some ⟨oc24, od24, .func (PySem.W.fnOf "_law_far_right" "_law_far_right" (defArgs s__law_far_right) (defBody s__law_far_right) (defScope s__law_far_right) .none kV24 dc24 pm24 an24 cd24 ct24), sl24⟩) (c24 : PySem.W.codeIn K cd24 "_law_far_right" = true) (k24 : PySem.W.keepIn K (.ref f24) = true)
    (a25 : PySem.W.nsIn K mainGlobals "law" = some (some (.ref f25))) (l25 : K.lookup f25 = some ⟨oc25, od25, .func (PySem.W.fnOf "law" "law" (defArgs s_law) (defBody s_law) (defScope s_law) .none kV25 dc25 pm25 an25 cd25 ct25), sl25⟩) (c25 : PySem.W.codeIn K cd25 "law" = true) (k25 : PySem.W.keepIn K (.ref f25) = true)
    (z_list : PySem.W.nsIn K mainGlobals "list" = some none)
    (z_int : PySem.W.nsIn K mainGlobals "int" = some none)
    (z_abs : PySem.W.nsIn K mainGlobals "abs" = some none)
    (z_max : PySem.W.nsIn K mainGlobals "max" = some none)
    (z_len : PySem.W.nsIn K mainGlobals "len" = some none)
    (z_range : PySem.W.nsIn K mainGlobals "range" = some none)
    (z_isinstance : PySem.W.nsIn K mainGlobals "isinstance" = some none)
    (z_tuple : PySem.W.nsIn K mainGlobals "tuple" = some none)
    (z_bool : PySem.W.nsIn K mainGlobals "bool" = some none)
    (z_str : PySem.W.nsIn K mainGlobals "str" = some none)
    (z_min : PySem.W.nsIn K mainGlobals "min" = some none)
    (z_sum : PySem.W.nsIn K mainGlobals "sum" = some none)
    (c_gcd : PySem.W.nsIn K mainGlobals "gcd" = some (some (.builtin "math.gcd"))) :
    ∃ fd : FuncData, (∀ (s : Shared) (v : Value), BindsTo s fd ⟨[v], []⟩ [("script", v)]) ∧ ∀ base : Heap, K.In base → base.Ns mainGlobals mg → FnOk l.prog w K mg base CX0 22 fa fd ["script"] (sp_law K) := by
  have e := hfa.symm.trans (PySem.W.mg_of X G a25)
  cases e
  have F0 := fun_mk (st := s_lowest) l0 c0 k0
  have F1 := fun_mk (st := s_plus) l1 c1 k1
  have F2 := fun_mk (st := s_minus) l2 c2 k2
  have F3 := fun_mk (st := s_times) l3 c3 k3
  have F4 := fun_mk (st := s_over) l4 c4 k4
  have F5 := fun_mk (st := s_total) l5 c5 k5
  have F6 := fun_mk (st := s_is_less) l6 c6 k6
  have F7 := fun_mk (st := s__law_tape) l7 c7 k7
  have F8 := fun_mk (st := s__law_draw) l8 c8 k8
  have F9 := fun_mk (st := s__law_pick) l9 c9 k9
  have F10 := fun_mk (st := s__law_turns) l10 c10 k10
  have F11 := fun_mk (st := s__law_shuffled) l11 c11 k11
  have F12 := fun_mk (st := s__law_same) l12 c12 k12
  have F13 := fun_mk (st := s__law_gcd) l13 c13 k13
  have F14 := fun_mk (st := s__law_lowest) l14 c14 k14
  have F15 := fun_mk (st := s__law_plus) l15 c15 k15
  have F16 := fun_mk (st := s__law_less) l16 c16 k16
  have F17 := fun_mk (st := s__law_fraction) l17 c17 k17
  have F18 := fun_mk (st := s__law_beside) l18 c18 k18
  have F19 := fun_mk (st := s__law_numbers) l19 c19 k19
  have F20 := fun_mk (st := s__law_sum_of) l20 c20 k20
  have F21 := fun_mk (st := s__law_right) l21 c21 k21
  have F22 := fun_mk (st := s__law_lowest_right) l22 c22 k22
  have F23 := fun_mk (st := s__law_total_right) l23 c23 k23
  have F24 := fun_mk (st := s__law_far_right) l24 c24 k24
  have F25 := fun_mk (st := s_law) l25 c25 k25
  have b0 := F0.binds (ps := ["n", "d"]) fun _ _ _ _ _ _ us hl => match us, hl with | [_, _], _ => rfl
  have b1 := F1.binds (ps := ["p", "q"]) fun _ _ _ _ _ _ us hl => match us, hl with | [_, _], _ => rfl
  have b2 := F2.binds (ps := ["p", "q"]) fun _ _ _ _ _ _ us hl => match us, hl with | [_, _], _ => rfl
  have b3 := F3.binds (ps := ["p", "q"]) fun _ _ _ _ _ _ us hl => match us, hl with | [_, _], _ => rfl
  have b4 := F4.binds (ps := ["p", "q"]) fun _ _ _ _ _ _ us hl => match us, hl with | [_, _], _ => rfl
  have b5 := F5.binds (ps := ["fractions"]) fun _ _ _ _ _ _ us hl => match us, hl with | [_], _ => rfl
  have b6 := F6.binds (ps := ["p", "q"]) fun _ _ _ _ _ _ us hl => match us, hl with | [_, _], _ => rfl
  have b7 := F7.binds (ps := ["script"]) fun _ _ _ _ _ _ us hl => match us, hl with | [_], _ => rfl
  have b8 := F8.binds (ps := ["tape", "many"]) fun _ _ _ _ _ _ us hl => match us, hl with | [_, _], _ => rfl
  have b9 := F9.binds (ps := ["tape", "rows"]) fun _ _ _ _ _ _ us hl => match us, hl with | [_, _], _ => rfl
  have b10 := F10.binds (ps := ["tape", "many"]) fun _ _ _ _ _ _ us hl => match us, hl with | [_, _], _ => rfl
  have b11 := F11.binds (ps := ["tape", "rows"]) fun _ _ _ _ _ _ us hl => match us, hl with | [_, _], _ => rfl
  have b12 := F12.binds (ps := ["told", "wanted"]) fun _ _ _ _ _ _ us hl => match us, hl with | [_, _], _ => rfl
  have b13 := F13.binds (ps := ["one", "other"]) fun _ _ _ _ _ _ us hl => match us, hl with | [_, _], _ => rfl
  have b14 := F14.binds (ps := ["n", "d"]) fun _ _ _ _ _ _ us hl => match us, hl with | [_, _], _ => rfl
  have b15 := F15.binds (ps := ["p", "q"]) fun _ _ _ _ _ _ us hl => match us, hl with | [_, _], _ => rfl
  have b16 := F16.binds (ps := ["p", "q"]) fun _ _ _ _ _ _ us hl => match us, hl with | [_, _], _ => rfl
  have b17 := F17.binds (ps := ["tape"]) fun _ _ _ _ _ _ us hl => match us, hl with | [_], _ => rfl
  have b18 := F18.binds (ps := ["tape", "p"]) fun _ _ _ _ _ _ us hl => match us, hl with | [_, _], _ => rfl
  have b19 := F19.binds (ps := ["tape"]) fun _ _ _ _ _ _ us hl => match us, hl with | [_], _ => rfl
  have b20 := F20.binds (ps := ["fractions"]) fun _ _ _ _ _ _ us hl => match us, hl with | [_], _ => rfl
  have b21 := F21.binds (ps := ["door", "p", "q"]) fun _ _ _ _ _ _ us hl => match us, hl with | [_, _, _], _ => rfl
  have b22 := F22.binds (ps := ["tape"]) fun _ _ _ _ _ _ us hl => match us, hl with | [_], _ => rfl
  have b23 := F23.binds (ps := ["tape"]) fun _ _ _ _ _ _ us hl => match us, hl with | [_], _ => rfl
  have b24 := F24.binds (ps := ["p", "sign"]) fun _ _ _ _ _ _ us hl => match us, hl with | [_, _], _ => rfl
  let T : Txt K mg := ⟨f0, _, F0, b0, PySem.W.mg_of X G a0, f1, _, F1, b1, PySem.W.mg_of X G a1, f2, _, F2, b2, PySem.W.mg_of X G a2, f3, _, F3, b3, PySem.W.mg_of X G a3, f4, _, F4, b4, PySem.W.mg_of X G a4, f5, _, F5, b5, PySem.W.mg_of X G a5, f6, _, F6, b6, PySem.W.mg_of X G a6, f7, _, F7, b7, PySem.W.mg_of X G a7, f8, _, F8, b8, PySem.W.mg_of X G a8, f9, _, F9, b9, PySem.W.mg_of X G a9, f10, _, F10, b10, PySem.W.mg_of X G a10, f11, _, F11, b11, PySem.W.mg_of X G a11, f12, _, F12, b12, PySem.W.mg_of X G a12, f13, _, F13, b13, PySem.W.mg_of X G a13, f14, _, F14, b14, PySem.W.mg_of X G a14, f15, _, F15, b15, PySem.W.mg_of X G a15, f16, _, F16, b16, PySem.W.mg_of X G a16, f17, _, F17, b17, PySem.W.mg_of X G a17, f18, _, F18, b18, PySem.W.mg_of X G a18, f19, _, F19, b19, PySem.W.mg_of X G a19, f20, _, F20, b20, PySem.W.mg_of X G a20, f21, _, F21, b21, PySem.W.mg_of X G a21, f22, _, F22, b22, PySem.W.mg_of X G a22, f23, _, F23, b23, PySem.W.mg_of X G a23, f24, _, F24, b24, PySem.W.mg_of X G a24, fa, _, F25, PySem.W.mg_none_of X G z_list, PySem.W.mg_none_of X G z_int, PySem.W.mg_none_of X G z_abs, PySem.W.mg_none_of X G z_max, PySem.W.mg_none_of X G z_len, PySem.W.mg_none_of X G z_range, PySem.W.mg_none_of X G z_isinstance, PySem.W.mg_none_of X G z_tuple, PySem.W.mg_none_of X G z_bool, PySem.W.mg_none_of X G z_str, PySem.W.mg_none_of X G z_min, PySem.W.mg_none_of X G z_sum, PySem.W.mg_of X G c_gcd⟩
  exact ⟨PySem.W.fnOf "law" "law" (defArgs s_law) (defBody s_law) (defScope s_law) .none kV25 dc25 pm25 an25 cd25 ct25, fun s v => .of_eq rfl, fun base _ _ => ok_law T⟩
end WB
open PySem PySem.W PyProof.Rows
set_option maxRecDepth 100000 in
set_option maxHeartbeats 0 in
theorem PySem.Challenge.cw_worldbase_k00_fractions_holds : PySem.Challenge.rw_worldbase_k00_fractions.Holds := by
  w_on; o_law; k_head; (case hw => w_witness2)
  k_fill
  refine L2.walk_of (l := PySem.Challenge.rw_worldbase_k00_fractions) (n := 63) (k := 22) (x := "script") (CX := fun _ => L2.CX0) (sp := fun w => WB.sp_law _) rfl (by decide) rfl ⟨rfl, by decide, by decide⟩ (fun w h Y => PySem.W.kIn_of Y) ?F (fun _ _ a ns hl _ hS => ⟨a, ns, rfl, hS, hl, fun _ => rfl⟩) (fun _ _ _ _ _ h => h)
  case F =>
    intro w mg fa h KX G hmg
    refine' WB.all_mk KX G hmg ?a0 ?l0 ?c0 ?k0 ?a1 ?l1 ?c1 ?k1 ?a2 ?l2 ?c2 ?k2 ?a3 ?l3 ?c3 ?k3 ?a4 ?l4 ?c4 ?k4 ?a5 ?l5 ?c5 ?k5 ?a6 ?l6 ?c6 ?k6 ?a7 ?l7 ?c7 ?k7 ?a8 ?l8 ?c8 ?k8 ?a9 ?l9 ?c9 ?k9 ?a10 ?l10 ?c10 ?k10 ?a11 ?l11 ?c11 ?k11 ?a12 ?l12 ?c12 ?k12 ?a13 ?l13 ?c13 ?k13 ?a14 ?l14 ?c14 ?k14 ?a15 ?l15 ?c15 ?k15 ?a16 ?l16 ?c16 ?k16 ?a17 ?l17 ?c17 ?k17 ?a18 ?l18 ?c18 ?k18 ?a19 ?l19 ?c19 ?k19 ?a20 ?l20 ?c20 ?k20 ?a21 ?l21 ?c21 ?k21 ?a22 ?l22 ?c22 ?k22 ?a23 ?l23 ?c23 ?k23 ?a24 ?l24 ?c24 ?k24 ?a25 ?l25 ?c25 ?k25 ?z_list ?z_int ?z_abs ?z_max ?z_len ?z_range ?z_isinstance ?z_tuple ?z_bool ?z_str ?z_min ?z_sum ?c_gcd
    (case a0 => k_is)
    (case l0 => k_is)
    (case c0 => k_is)
    (case k0 => k_is)
    (case a1 => k_is)
    (case l1 => k_is)
    (case c1 => k_is)
    (case k1 => k_is)
    (case a2 => k_is)
    (case l2 => k_is)
    (case c2 => k_is)
    (case k2 => k_is)
    (case a3 => k_is)
    (case l3 => k_is)
    (case c3 => k_is)
    (case k3 => k_is)
    (case a4 => k_is)
    (case l4 => k_is)
    (case c4 => k_is)
    (case k4 => k_is)
    (case a5 => k_is)
    (case l5 => k_is)
    (case c5 => k_is)
    (case k5 => k_is)
    (case a6 => k_is)
    (case l6 => k_is)
    (case c6 => k_is)
    (case k6 => k_is)
    (case a7 => k_is)
    (case l7 => k_is)
    (case c7 => k_is)
    (case k7 => k_is)
    (case a8 => k_is)
    (case l8 => k_is)
    (case c8 => k_is)
    (case k8 => k_is)
    (case a9 => k_is)
    (case l9 => k_is)
    (case c9 => k_is)
    (case k9 => k_is)
    (case a10 => k_is)
    (case l10 => k_is)
    (case c10 => k_is)
    (case k10 => k_is)
    (case a11 => k_is)
    (case l11 => k_is)
    (case c11 => k_is)
    (case k11 => k_is)
    (case a12 => k_is)
    (case l12 => k_is)
    (case c12 => k_is)
    (case k12 => k_is)
    (case a13 => k_is)
    (case l13 => k_is)
    (case c13 => k_is)
    (case k13 => k_is)
    (case a14 => k_is)
    (case l14 => k_is)
    (case c14 => k_is)
    (case k14 => k_is)
    (case a15 => k_is)
    (case l15 => k_is)
    (case c15 => k_is)
    (case k15 => k_is)
    (case a16 => k_is)
    (case l16 => k_is)
    (case c16 => k_is)
    (case k16 => k_is)
    (case a17 => k_is)
    (case l17 => k_is)
    (case c17 => k_is)
    (case k17 => k_is)
    (case a18 => k_is)
    (case l18 => k_is)
    (case c18 => k_is)
    (case k18 => k_is)
    (case a19 => k_is)
    (case l19 => k_is)
    (case c19 => k_is)
    (case k19 => k_is)
    (case a20 => k_is)
    (case l20 => k_is)
    (case c20 => k_is)
    (case k20 => k_is)
    (case a21 => k_is)
    (case l21 => k_is)
    (case c21 => k_is)
    (case k21 => k_is)
    (case a22 => k_is)
    (case l22 => k_is)
    (case c22 => k_is)
    (case k22 => k_is)
    (case a23 => k_is)
    (case l23 => k_is)
    (case c23 => k_is)
    (case k23 => k_is)
    (case a24 => k_is)
    (case l24 => k_is)
    (case c24 => k_is)
    (case k24 => k_is)
    (case a25 => k_is)
    (case l25 => k_is)
    (case c25 => k_is)
    (case k25 => k_is)
    (case z_list => k_is)
    (case z_int => k_is)
    (case z_abs => k_is)
    (case z_max => k_is)
    (case z_len => k_is)
    (case z_range => k_is)
    (case z_isinstance => k_is)
    (case z_tuple => k_is)
    (case z_bool => k_is)
    (case z_str => k_is)
    (case z_min => k_is)
    (case z_sum => k_is)
    (case c_gcd => k_is)

