import PyProof.Rows.All
import Wide.All
import OpenK.AllK
import Wide.FinOn
import HandS.ForMost
import HandS.EndBits
import HandS.Wide
import HandS.IsInst
import HandS.TupAny
import HandS.Small
import HandS.TupMul
import HandS.WideBits
import KE.IntTextLaws
import HandS.SortInts
import HandS.Zip
import HandS.Strs
import HandS.SetFor
import HandS.Steps
import KE.KIndexOf
import KE.GoesEnum
import KE.GoesMore
import HandS.Conv
import PySem.Challenge.RW_shorthead_k07_tightest
set_option Elab.async false
set_option linter.all false
set_option maxRecDepth 100000
set_option maxHeartbeats 4000000
/-! heaps, data -/
namespace Sh
open PySem PySem.Spec PyProof.Rows L2

theorem same_new {H : Hp} {p : Addr} {o : HO} (h : H p = none) : Same H (upd H p o) := fun a u e => by
  rw [upd_ne (ne_of_none e h)]
  exact e
theorem same_mut {H H' : Hp} {p : Addr} {o : HO} (e : Same H H') (h : H p = none) : Same H (upd H' p o) := fun a u ha => by
  rw [upd_ne (ne_of_none ha h)]
  exact e a u ha
theorem same_t {K : PySem.W.Frag} {H H' : Hp} {a : Addr} {xs : List V} (e : Same H H') (h : SqT K H a xs) : SqT K H' a xs := by
  rcases h with (h | ⟨o, h⟩) | h
  · exact .inl (.inl (e _ _ h))
  · exact .inl (.inr ⟨o, e _ _ h⟩)
  · exact .inr h
mutual
theorem dp_mono {K : PySem.W.Frag} {H H' : Hp} (e : Same H H') : ∀ {v : V} {d : PyData}, Dp K H v d → Dp K H' v d
  | _, _, .non => .non
  | _, _, .bl b => .bl b
  | _, _, .int i => .int i
  | _, _, .str x => .str x
  | _, _, .lst h r => .lst (e.seq h) (dps_mono e r)
  | _, _, .tup h r => .tup (same_t e h) (dps_mono e r)
theorem dps_mono {K : PySem.W.Frag} {H H' : Hp} (e : Same H H') : ∀ {vs : List V} {ds : List PyData}, DpAll K H vs ds → DpAll K H' vs ds
  | _, _, .nil => .nil
  | _, _, .cons h r => .cons (dp_mono e h) (dps_mono e r)
end
theorem dps_len {K : PySem.W.Frag} {H : Hp} : ∀ {vs : List V} {ds : List PyData}, DpAll K H vs ds → vs.length = ds.length
  | _, _, .nil => rfl
  | _, _, .cons _ r => congrArg (· + 1) (dps_len r)
theorem dps_get {K : PySem.W.Frag} {H : Hp} : ∀ {vs : List V} {ds : List PyData} {i : Nat} {d : PyData}, DpAll K H vs ds → ds[i]? = some d → ∃ v, vs[i]? = some v ∧ Dp K H v d
  | _, _, _, _, .nil, e => by simp at e
  | _, _, 0, _, .cons (v := v) h _, e => by
    simp at e
    subst e
    exact ⟨v, rfl, h⟩
  | _, _, i + 1, d, .cons _ r, e => by
    obtain ⟨v, h1, h2⟩ := dps_get (i := i) (d := d) r (by simpa using e)
    exact ⟨v, by simpa using h1, h2⟩
theorem dps_get2 {K : PySem.W.Frag} {H : Hp} {vs : List V} {ds : List PyData} {i : Nat} {v : V} (r : DpAll K H vs ds) (e : vs[i]? = some v) : ∃ d, ds[i]? = some d ∧ Dp K H v d := by
  have hl := dps_len r
  have hi := (List.getElem?_eq_some_iff.mp e).1
  have e2 : ds[i]? = some (ds[i]'(hl ▸ hi)) := List.getElem?_eq_getElem _
  obtain ⟨v2, h1, h2⟩ := dps_get r e2
  rw [e] at h1
  cases h1
  exact ⟨_, e2, h2⟩
theorem dps_app {K : PySem.W.Frag} {H : Hp} : ∀ {vs ws : List V} {ds es : List PyData}, DpAll K H vs ds → DpAll K H ws es → DpAll K H (vs ++ ws) (ds ++ es)
  | _, _, _, _, .nil, s => s
  | _, _, _, _, .cons h r, s => .cons h (dps_app r s)
theorem dps_ints {K : PySem.W.Frag} {H : Hp} : ∀ ns : List Int, DpAll K H (ns.map V.int) (ns.map PyData.int)
  | [] => .nil
  | n :: r => .cons (.int n) (dps_ints r)
theorem atI_map {α β : Type} (f : α → β) (xs : List α) (i : Int) : atI (xs.map f) i = (atI xs i).map f := by
  unfold atI
  rw [List.length_map]
  cases ixN xs.length i with
  | none => rfl
  | some j => simp
theorem dps_at {K : PySem.W.Frag} {H : Hp} {vs : List V} {ds : List PyData} {i : Int} {d : PyData} (r : DpAll K H vs ds) (e : atI ds i = some d) : ∃ v, atI vs i = some v ∧ Dp K H v d := by
  unfold atI at e ⊢
  rw [dps_len r]
  cases q : ixN ds.length i with
  | none => rw [q] at e; cases e
  | some j =>
    rw [q] at e
    exact dps_get r e

/-! ### rules that join -/
section
variable {X : Cx}
theorem opor {f : Value → Value → Sem Value} {r r' : R2} (h : OpR X f r) (h' : OpR X f r') : OpR X f (fun x y H Q => r x y H Q ∨ r' x y H Q) := by
  intro pins s σ H x y v u Q I rx ry q
  rcases q with q | q
  · exact h pins s σ H x y v u Q I rx ry q
  · exact h' pins s σ H x y v u Q I rx ry q
def rAddU (K : PySem.W.Frag) : R2 := fun x y H Q => rI0 (fun i j => .int (i + j)) x y H Q ∨ (∃ i j, x = .str i ∧ y = .str j ∧ i.length + j.length ≤ sizeLine ∧ Q (.str (i ++ j)) H) ∨ rCat x y H Q ∨ rCatA K x y H Q
theorem u_add : OpR X (binaryOp .Add) (rAddU X.K) := opor op_add (opor op_add_str (opor op_cat op_catA))
def rSubU : R2 := rI0 fun i j => .int (i - j)
theorem u_sub : OpR X (binaryOp .Sub) rSubU := op_sub
/-- x * n of a text -/
def rMulS : R2 := fun x y H Q => ∃ a n, x = .str a ∧ y = .int n ∧ MulOk a n ∧ Q (.str (Txt.mul a n)) H
theorem op_mulS {X : Cx} : OpR X (binaryOp .Mult) rMulS := by
  intro pins s σ H x y v u Q I rx ry q
  obtain ⟨a, n, rfl, rfl, hm, q⟩ := q
  obtain ⟨t, rfl⟩ := rx
  obtain ⟨t2, rfl⟩ := ry
  exact SB.mul hm fun t' k => ⟨.str (Txt.mul a n), H, I.tok _, ⟨_, rfl⟩, q⟩
def rMulU (K : PySem.W.Frag) : R2 := fun x y H Q => rI CMul (fun i j => .int (i * j)) x y H Q ∨ rI CMulW (fun i j => .int (i * j)) x y H Q ∨ rMulS x y H Q ∨ rRep x y H Q ∨ rRepT K x y H Q
theorem u_mul : OpR X (binaryOp .Mult) (rMulU X.K) := opor op_mul (opor op_mulW (opor op_mulS (opor op_rep op_repT)))
def rDivU : R2 := rI CDivW fun i j => .int (i / j)
theorem u_div : OpR X (binaryOp .FloorDiv) rDivU := op_fdivW
def rModU : R2 := rI (fun _ j => 0 < j) fun i j => .int (i % j)
theorem u_mod : OpR X (binaryOp .Mod) rModU := op_mod
def rShlU : R2 := rI CPow fun i j => .int (i * 2 ^ j.toNat)
theorem u_shl : OpR X (binaryOp .LShift) rShlU := op_shl
def rPowU : R2 := rI CPow fun i j => .int (i ^ j.toNat)
theorem u_pow : OpR X (binaryOp .Pow) rPowU := op_pow
def rEqU (K : PySem.W.Frag) : R2 := fun x y H Q => rEq x y H Q ∨ rEqD K x y H Q
theorem u_eq (hu : X.A.units + 64 < cLine) : OpR X (compareOp .Eq) (rEqU X.K) := opor op_eq (op_eqD hu)
def rNeU (K : PySem.W.Frag) : R2 := fun x y H Q => rNe x y H Q ∨ rNeD K x y H Q
theorem u_ne (hu : X.A.units + 64 < cLine) : OpR X (compareOp .NotEq) (rNeU X.K) := opor op_ne (op_neD hu)
def rLtU (K : PySem.W.Frag) : R2 := rI0 fun i j => .bl (decide (i < j))
theorem u_lt : OpR X (compareOp .Lt) (rLtU X.K) := op_lt
def rLeU : R2 := fun x y H Q => rI0 (fun i j => .bl (decide (i ≤ j))) x y H Q ∨ (∃ i j, x = .str i ∧ y = .str j ∧ Q (.bl (!decide (j.cps.toList < i.cps.toList))) H)
theorem u_le : OpR X (compareOp .LtE) rLeU := opor op_le op_le_str
def rGtU : R2 := rI0 fun i j => .bl (decide (j < i))
theorem u_gt : OpR X (compareOp .Gt) rGtU := op_gt
def rGeU : R2 := rI0 fun i j => .bl (decide (j ≤ i))
theorem u_ge : OpR X (compareOp .GtE) rGeU := op_ge
end
/-! ### readings, step by step -/
section
variable {K : PySem.W.Frag} {σ : L2.St} {H : Hp} {Q : VK} {R : Bool → Hp → Prop} {te ta tb tc : TE} {t u : TT} {tA tr : TA} {ts tz : TS} {nx bk ct : L2.St → Hp → Prop} {rt : VK} {x y v : V} {i j : Int} {r r' : R2} {g : TG} {n : Nat} {D : Ends}
theorem w_seq (h : ts ⟨tz ⟨nx, rt, bk, ct⟩, rt, bk, ct⟩ σ H) : tSeq ts tz ⟨nx, rt, bk, ct⟩ σ H := h
theorem w_next (h : nx σ H) : tNext ⟨nx, rt, bk, ct⟩ σ H := h
theorem w_asg (h : te σ H fun x H1 => g x σ H1 nx) : tAsg te g ⟨nx, rt, bk, ct⟩ σ H := h
theorem w_gname {k : L2.St → Hp → Prop} (h : k (σ.set n (some v)) H) : gName n v σ H k := h
theorem w_drop (h : te σ H fun _ H1 => nx σ H1) : tDrop te ⟨nx, rt, bk, ct⟩ σ H := h
theorem w_ret (h : te σ H rt) : tRet te ⟨nx, rt, bk, ct⟩ σ H := h
theorem w_retn (h : rt .non H) : tRetN ⟨nx, rt, bk, ct⟩ σ H := h
theorem w_ifs (h : t σ H fun b H1 => if b = true then ts ⟨nx, rt, bk, ct⟩ σ H1 else tz ⟨nx, rt, bk, ct⟩ σ H1) : tIfS t ts tz ⟨nx, rt, bk, ct⟩ σ H := h
theorem w_aug {ti : TIp} (hx : σ[n]? = some (some x)) (h : te σ H fun y H1 => ti x y H1 fun z H2 => nx (σ.set n (some z)) H2) : tAug n te ti ⟨nx, rt, bk, ct⟩ σ H := ⟨x, hx, h⟩
theorem w_ip {f : Int → Int → Int} (h : Q (.int (f i j)) H) : ipI f (.int i) (.int j) H Q := ⟨i, j, rfl, rfl, h⟩
theorem w_par {m : Nat} (h : tA σ H fun vs H1 => ∃ v w, vs = [v, w] ∧ nx ((σ.set n (some v)).set m (some w)) H1) : tPar n m tA ⟨nx, rt, bk, ct⟩ σ H := h
theorem w_two {k : V → V → Prop} (h : k x y) : ∃ v w, [x, y] = [v, w] ∧ k v w := ⟨x, y, rfl, h⟩
theorem w_var (h : σ[n]? = some (some v)) (q : Q v H) : tVar n σ H Q := ⟨v, h, q⟩
theorem w_c (q : Q v H) : tC v σ H Q := q
theorem w_op (h : ta σ H fun x H1 => tb σ H1 fun y H2 => r x y H2 Q) : tOp r ta tb σ H Q := h
theorem w_un {r : V → Hp → VK → Prop} (h : ta σ H fun x H1 => r x H1 Q) : tUn r ta σ H Q := h
theorem w_rU {g : Int → V} (h : Q (g i) H) : rU g (.int i) H Q := ⟨i, rfl, h⟩
theorem w_nil {k : List V → Hp → Prop} (q : k [] H) : tNil σ H k := q
theorem w_cons {k : List V → Hp → Prop} (h : ta σ H fun x H1 => tr σ H1 fun xs H2 => k (x :: xs) H2) : tCons ta tr σ H k := h
theorem w_cb {r : List V → Hp → VK → Prop} (h : tA σ H fun vs H1 => r vs H1 Q) : tCB r tA σ H Q := h
theorem w_call {sp : Sp} {E : XK} (h : tA σ H fun vs H1 => sp vs H1 Q E) : tCall sp [] E tA σ H Q := by
  show tA σ H fun vs H1 => sp (vs ++ []) H1 Q E
  have e : (fun vs H1 => sp (vs ++ []) H1 Q E) = fun vs H1 => sp vs H1 Q E := by
    funext vs H1
    rw [List.append_nil]
  rw [e]
  exact h
theorem w_test (h : te σ H fun x H1 => ∃ k, x = .bl k ∧ R k H1) : tTest te σ H R := h
theorem w_tB (h : te σ H fun x H1 => ∃ k, x = .bl k ∧ R k H1) : tB te σ H R := h
theorem w_bl {b : Bool} {k : Bool → Prop} (h : k b) : ∃ c, V.bl b = .bl c ∧ k c := ⟨b, rfl, h⟩
theorem w_and (h : t σ H fun c H1 => if c = true then u σ H1 R else R false H1) : tAnd t u σ H R := h
theorem w_or (h : t σ H fun c H1 => if c = true then R true H1 else u σ H1 R) : tOr t u σ H R := h
theorem w_not (h : t σ H fun c H1 => R (!c) H1) : tNot t σ H R := h
theorem w_andv (h : ta σ H fun x H1 => ∃ c, x = .bl c ∧ if c = true then tb σ H1 Q else Q (.bl false) H1) : tAndV ta tb σ H Q := h
theorem w_orv (h : ta σ H fun x H1 => ∃ c, x = .bl c ∧ if c = true then Q (.bl true) H1 else tb σ H1 Q) : tOrV ta tb σ H Q := h
theorem w_notv (h : ta σ H fun x H1 => ∃ c, x = .bl c ∧ Q (.bl (!c)) H1) : tNotV ta σ H Q := h
theorem w_ife (h : t σ H fun c H1 => if c = true then ta σ H1 Q else tb σ H1 Q) : tIf t ta tb σ H Q := h
theorem w_chain (h : ta σ H fun x H1 => tb σ H1 fun y H2 => r x y H2 fun z H3 => ∃ k, z = .bl k ∧ if k = true then tc σ H3 fun w H4 => r' y w H4 Q else Q (.bl false) H3) : tChain r r' ta tb tc σ H Q := h
/-- a new object is laid -/
def NewT (xs : List V) (o : HO) (Q : VK) (H : Hp) : Prop := xs.length ≤ sizeLine ∧ ∀ p, H p = none → Q (.ref p) (upd H p o)
theorem w_tup (h : tA σ H fun xs H1 => NewT xs (.tup xs) Q H1) : tTup tA σ H Q := h
theorem w_lst (h : tA σ H fun xs H1 => NewT xs (.lst xs) Q H1) : tLst tA σ H Q := h
/-- a new object: it is there, all else is kept -/
theorem w_new {xs : List V} {o : HO} (hl : xs.length ≤ sizeLine) (h : ∀ p H', H p = none → Same H H' → H' p = some o → Q (.ref p) H') : NewT xs o Q H :=
  ⟨hl, fun p hp => h p _ hp (same_new hp) upd_same⟩
theorem w_dec {p : Prop} [Decidable p] {A B : Prop} (h1 : p → A) (h2 : ¬ p → B) : if decide p = true then A else B := by
  by_cases h : p
  · rw [decide_eq_true h]
    exact iteT (h1 h)
  · rw [decide_eq_false h]
    exact iteF (h2 h)
theorem w_ndec {p : Prop} [Decidable p] {A B : Prop} (h1 : ¬ p → A) (h2 : p → B) : if (!decide p) = true then A else B := by
  by_cases h : p
  · rw [decide_eq_true h]
    exact iteF (h2 h)
  · rw [decide_eq_false h]
    exact iteT (h1 h)
theorem w_itet {b : Bool} {A B : Prop} (h : b = true) (q : A) : if b = true then A else B := by
  rw [h]
  exact iteT q
theorem w_itef {b : Bool} {A B : Prop} (h : b = false) (q : B) : if b = true then A else B := by
  rw [h]
  exact iteF q
theorem w_nn {b : Bool} {A B : Prop} (h : if b = true then B else A) : if (!b) = true then A else B := by
  cases b
  · exact h
  · exact h
theorem w_bool {b : Bool} {A B : Prop} (h1 : b = true → A) (h2 : b = false → B) : if b = true then A else B := by
  cases b
  · exact iteF (h2 rfl)
  · exact iteT (h1 rfl)
theorem w_add (h : Q (.int (i + j)) H) : rAddU K (.int i) (.int j) H Q := .inl ⟨i, j, rfl, rfl, h⟩
theorem w_adds {a b : Str} (hl : a.length + b.length ≤ sizeLine) (h : Q (.str (a ++ b)) H) : rAddU K (.str a) (.str b) H Q := .inr (.inl ⟨a, b, rfl, rfl, hl, h⟩)
theorem w_sub (h : Q (.int (i - j)) H) : rSubU (.int i) (.int j) H Q := ⟨i, j, rfl, rfl, h⟩
theorem w_mul (hc : CMul i j) (h : Q (.int (i * j)) H) : rMulU K (.int i) (.int j) H Q := .inl ⟨i, j, rfl, rfl, hc, h⟩
theorem w_mulw (hc : CMulW i j) (h : Q (.int (i * j)) H) : rMulU K (.int i) (.int j) H Q := .inr (.inl ⟨i, j, rfl, rfl, hc, h⟩)
theorem w_div (h0 : 0 < j) (hc : j.natAbs.log2 < 9000) (h : Q (.int (i / j)) H) : rDivU (.int i) (.int j) H Q := ⟨i, j, rfl, rfl, ⟨h0, hc⟩, h⟩
theorem w_mod (h0 : 0 < j) (h : Q (.int (i % j)) H) : rModU (.int i) (.int j) H Q := ⟨i, j, rfl, rfl, h0, h⟩
theorem w_shl (hc : CPow i j) (h : Q (.int (i * 2 ^ j.toNat)) H) : rShlU (.int i) (.int j) H Q := ⟨i, j, rfl, rfl, hc, h⟩
theorem w_pow (hc : CPow i j) (h : Q (.int (i ^ j.toNat)) H) : rPowU (.int i) (.int j) H Q := ⟨i, j, rfl, rfl, hc, h⟩
theorem w_lt (h : Q (.bl (decide (i < j))) H) : rLtU K (.int i) (.int j) H Q := ⟨i, j, rfl, rfl, h⟩
theorem w_le (h : Q (.bl (decide (i ≤ j))) H) : rLeU (.int i) (.int j) H Q := .inl ⟨i, j, rfl, rfl, h⟩
theorem w_gt (h : Q (.bl (decide (j < i))) H) : rGtU (.int i) (.int j) H Q := ⟨i, j, rfl, rfl, h⟩
theorem w_ge (h : Q (.bl (decide (j ≤ i))) H) : rGeU (.int i) (.int j) H Q := ⟨i, j, rfl, rfl, h⟩
theorem dec_ii : decide (V.int i = V.int j) = decide (i = j) := by
  by_cases h : i = j
  · subst h; simp
  · simp [h]
theorem dec_ss {a b : Str} : decide (V.str a = V.str b) = decide (a = b) := by
  by_cases h : a = b
  · subst h; simp
  · simp [h]
theorem w_eqi (h : Q (.bl (decide (i = j))) H) : rEqU K (.int i) (.int j) H Q := .inl ⟨rfl, by rw [dec_ii]; exact h⟩
theorem w_eqs {a b : Str} (h : Q (.bl (decide (a = b))) H) : rEqU K (.str a) (.str b) H Q := .inl ⟨rfl, by rw [dec_ss]; exact h⟩
theorem w_nei (h : Q (.bl (!decide (i = j))) H) : rNeU K (.int i) (.int j) H Q := .inl ⟨rfl, by rw [dec_ii]; exact h⟩
theorem w_nes {a b : Str} (h : Q (.bl (!decide (a = b))) H) : rNeU K (.str a) (.str b) H Q := .inl ⟨rfl, by rw [dec_ss]; exact h⟩
theorem w_div1 (h0 : 0 < j) (hb : j < 1267650600228229401496703205376) (h : Q (.int (i / j)) H) : rDivU (.int i) (.int j) H Q := by
  refine ⟨i, j, rfl, rfl, ⟨h0, ?_⟩, h⟩
  have hn : j.natAbs < 2 ^ 100 := by omega
  exact Nat.lt_of_lt_of_le (PySem.Flt.log2_lt_of (by decide) hn) (by decide)
def p2 (n : Int) : Int := 2 ^ n.toNat
theorem p2_pos (n : Int) : 0 < p2 n := Int.pow_pos (by decide)
theorem ipow_le {a : Nat} (ha : 0 < a) {m n : Nat} (h : m ≤ n) : (a : Int) ^ m ≤ (a : Int) ^ n := by
  rw [← Int.natCast_pow, ← Int.natCast_pow]
  exact Int.ofNat_le.mpr (Nat.pow_le_pow_right ha h)
theorem p2_le {m n : Int} (h : m ≤ n) : p2 m ≤ p2 n := by
  have h1 : m.toNat ≤ n.toNat := by omega
  have h2 : (2 : Nat) ^ m.toNat ≤ 2 ^ n.toNat := Nat.pow_le_pow_right (by decide) h1
  have e1 : ((2 ^ m.toNat : Nat) : Int) = (2 : Int) ^ m.toNat := by simp
  have e2 : ((2 ^ n.toNat : Nat) : Int) = (2 : Int) ^ n.toNat := by simp
  show (2 : Int) ^ m.toNat ≤ 2 ^ n.toNat
  omega
theorem w_shl1 (h0 : 0 ≤ j) (h1 : j ≤ 1000000) (h : Q (.int (p2 j)) H) : rShlU (.int 1) (.int j) H Q := ⟨1, j, rfl, rfl, ⟨h0, h1, by decide⟩, by
  show Q (V.int (1 * 2 ^ j.toNat)) H
  rw [Int.one_mul]
  exact h⟩
abbrev rMin2 : List V → Hp → VK → Prop := fun xs H Q => ∃ i j, xs = [V.int i, V.int j] ∧ Q (.int (if j < i then j else i)) H
abbrev rMax2 : List V → Hp → VK → Prop := fun xs H Q => ∃ i j, xs = [V.int i, V.int j] ∧ Q (.int (if j > i then j else i)) H
abbrev rAbs : List V → Hp → VK → Prop := fun xs H Q => ∃ i, xs = [V.int i] ∧ Q (.int (if i < 0 then -i else i)) H
theorem w_min2 (h : Q (.int (if j < i then j else i)) H) : rMin2 [.int i, .int j] H Q := ⟨i, j, rfl, h⟩
theorem w_max2 (h : Q (.int (if j > i then j else i)) H) : rMax2 [.int i, .int j] H Q := ⟨i, j, rfl, h⟩
theorem w_abs (h : Q (.int (if i < 0 then -i else i)) H) : rAbs [.int i] H Q := ⟨i, rfl, h⟩
abbrev rIntU : List V → Hp → VK → Prop := fun xs H Q => (∃ i, xs = [V.int i] ∧ Q (.int i) H) ∨ ∃ k, xs = [V.bl k] ∧ Q (.int (if k then 1 else 0)) H
theorem u_int {X : Cx} : CallR X (.type "int") rIntU := call_int1
theorem w_inti (h : Q (.int i) H) : rIntU [.int i] H Q := .inl ⟨i, rfl, h⟩
theorem w_intb {b : Bool} (h : Q (.int (if b = true then 1 else 0)) H) : rIntU [.bl b] H Q := .inr ⟨b, rfl, h⟩
def ipAddU (K : PySem.W.Frag) : TIp := ipI fun i j => i + j
theorem w_ipadd (h : Q (.int (i + j)) H) : ipAddU K (.int i) (.int j) H Q := ⟨i, j, rfl, rfl, h⟩
theorem u_ipadd {X : Cx} : PIp X .Add (ipAddU X.K) := ip_add
end
/-! ### what the law's text is made of -/
/-- a def of the text -/
def Src (K : PySem.W.Frag) (mg : Str → Option Value) (x : Str) (st : Stmt) : Prop := ∃ f fd, mg x = some (.ref f) ∧ Fun K x x st f fd
/-- the program, the world, the written part -/
structure Wd where
  P : Program
  w : World
  K : PySem.W.Frag
/-- a def that keeps a promise -/
def Cal (W : Wd) (mg : Str → Option Value) (base : Heap) (x : Str) (k : Nat) (ps : List Str) (sp : Sp) : Prop :=
  ∃ f fd, mg x = some (.ref f) ∧ FnOk W.P W.w W.K mg base CX0 k f fd ps sp ∧ PySem.W.keepIn W.K (.ref f) = true ∧ Binds W.K fd ps []
/-- an object of which no more is said than that it is one of U -/
def flatO : HO → Prop
  | .lst _ => True
  | .dK _ => True
  | _ => False
theorem ok_flat {P : Program} {w : World} {H H' : Hp} {h : Heap} {a : Addr} {u : HO} (hf : flatO u) (x : ObjOk P w H h a u) : ObjOk P w H' h a u := by
  cases u with
  | lst xs =>
    obtain ⟨z, its, n, r, e⟩ := x
    exact ⟨z, its, n, r, e⟩
  | dK kvs =>
    obtain ⟨z, y, vs, r, m⟩ := x
    exact ⟨z, y, vs, r, m⟩
  | _ => exact hf.elim
theorem flat_there {P : Program} {w : World} {H : Hp} {h : Heap} {a : Addr} {u : HO} (hf : flatO u) (x : ObjOk P w H h a u) : ∃ o, h.get? a = some o := by
  cases u with
  | lst xs =>
    obtain ⟨z, its, n, r, e⟩ := x
    exact ⟨_, e⟩
  | dK kvs =>
    obtain ⟨z, y, vs, r, o, es, ep, e, _⟩ := x
    exact ⟨_, e⟩
  | _ => exact hf.elim
def vw (W : Wd) (U : HO → Prop) (a : Addr) : HO := .ext fun h => ∃ u, U u ∧ flatO u ∧ ObjOk W.P W.w (fun _ => none) h a u
theorem vw_ok {W : Wd} {U : HO → Prop} {H H' : Hp} {h : Heap} {a : Addr} {u : HO} (hu : U u) (hf : flatO u) (x : ObjOk W.P W.w H h a u) : ObjOk W.P W.w H' h a (vw W U a) := by
  have x0 : ObjOk W.P W.w (fun _ => none) h a u := ok_flat hf x
  refine ⟨⟨u, hu, hf, x0⟩, flat_there hf x, fun h1 h2 ⟨u1, a1, a2, a3⟩ k => ⟨u1, a1, a2, ?_⟩⟩
  refine a3.stay (fun b o hb e => ?_) (fun _ q => q) fun _ _ q => q
  rcases hb with rfl | hb
  · exact k _ e
  · cases hb
theorem flat_cases {u : HO} (h : flatO u) : (∃ x, u = .lst x) ∨ ∃ k, u = .dK k := by
  cases u <;> first | exact .inl ⟨_, rfl⟩ | exact .inr ⟨_, rfl⟩ | exact h.elim
/-- p's object shown as one of U: all else is as it was -/
theorem hok_seal {W : Wd} {U : HO → Prop} {H : Hp} {h : Heap} {p : Addr} {u : HO} (x : HOk W.P W.w H h) (hp : H p = some u) (hu : U u) (hf : flatO u) : HOk W.P W.w (upd H p (vw W U p)) h := fun a o e => by
  by_cases ha : a = p
  · subst ha
    rw [upd_same] at e
    cases e
    exact vw_ok hu hf (x a u hp)
  · rw [upd_ne ha] at e
    refine (x a o e).stay (fun _ _ _ q => q) (fun b q => ?_) fun b xs q => ?_
    · have nb : b ≠ p := fun z => by
        rw [z, hp] at q
        cases q
        exact hf
      rw [upd_ne nb]
      exact q
    · have nb : b ≠ p := fun z => by
        rw [z, hp] at q
        cases q
        exact hf
      rw [upd_ne nb]
      exact q
theorem hok_open {W : Wd} {U : HO → Prop} {H : Hp} {h : Heap} {p : Addr} (x : HOk W.P W.w H h) (hp : H p = some (vw W U p)) : ∃ u, U u ∧ flatO u ∧ HOk W.P W.w (upd H p u) h := by
  obtain ⟨⟨u, hu, hf, o⟩, _, _⟩ := (show ObjOk W.P W.w H h p (vw W U p) from x p _ hp)
  refine ⟨u, hu, hf, fun a ob e => ?_⟩
  by_cases ha : a = p
  · subst ha
    rw [upd_same] at e
    cases e
    exact ok_flat hf o
  · rw [upd_ne ha] at e
    refine (x a ob e).stay (fun _ _ _ q => q) (fun b q => ?_) fun b xs q => ?_
    · have nb : b ≠ p := fun z => by
        rw [z, hp] at q
        cases q
      rw [upd_ne nb]
      exact q
    · have nb : b ≠ p := fun z => by
        rw [z, hp] at q
        cases q
      rw [upd_ne nb]
      exact q
theorem un_seal {W : Wd} {U : HO → Prop} {fs ex : List Addr} {H H' : Hp} {h h' : Heap} {p : Addr} {u : HO} (x : Un fs ex H H' h h') (hp : H' p = some u) (hf : flatO u) : Un fs ex H (upd H' p (vw W U p)) h h' where
  keep := x.keep
  slot := x.slot
  free := fun b o q n he => by
    have e := x.free b o q n he
    have nb : b ≠ p := fun z => by
      rw [z, hp] at e
      cases e
    rw [upd_ne nb]
    exact e
  there := x.there
  tups := fun b xs q => by
    have e := x.tups b xs q
    have nb : b ≠ p := fun z => by
      rw [z, hp] at e
      cases e
      exact hf
    rw [upd_ne nb]
    exact e
  frzs := fun b o v q => by
    have e := x.frzs b o v q
    have nb : b ≠ p := fun z => by
      rw [z, hp] at e
      cases e
      exact hf
    rw [upd_ne nb]
    exact e
  tbls := fun b ps q => by
    obtain ⟨m, e⟩ := x.tbls b ps q
    have nb : b ≠ p := fun z => by
      rw [z, hp] at e
      cases e
      exact hf
    exact ⟨m, by rw [upd_ne nb]; exact e⟩
theorem un_open {W : Wd} {U : HO → Prop} {fs ex : List Addr} {H H' : Hp} {h h' : Heap} {p : Addr} {u : HO} (x : Un fs ex (upd H p u) H' h h') (hp : H p = some (vw W U p)) : Un fs ex H H' h h' := by
  have nb : ∀ b, H b = none → b ≠ p := fun b e z => by
    rw [z, hp] at e
    cases e
  have up : ∀ b, b ≠ p → upd H p u b = H b := fun b z => upd_ne z
  have no : ∀ b o, H b = some o → (∀ φ, o ≠ .ext φ) → b ≠ p := fun b o e z q => by
    rw [q, hp] at e
    exact z _ (Option.some.inj e).symm
  refine ⟨fun b o q n => x.keep b o q (by rw [up b (nb b n)]; exact n), fun b o q n => x.slot b o q (by rw [up b (nb b n)]; exact n), fun b o q n => x.free b o q (by rw [up b (nb b n)]; exact n), x.there,
    fun b xs q => x.tups b xs ?_, fun b o v q => x.frzs b o v ?_, fun b ps q => x.tbls b ps ?_⟩
  · rw [up b (no b _ q fun φ z => by cases z)]
    exact q
  · rw [up b (no b _ q fun φ z => by cases z)]
    exact q
  · rw [up b (no b _ q fun φ z => by cases z)]
    exact q
/-- a def that has a promise by the object itself has one by its view -/
theorem fn_view {W : Wd} {mg : Str → Option Value} {base : Heap} {k : Nat} {f : Addr} {fd : FuncData} {ps : List Str} {sp sp' : Sp} {U : HO → Prop} (hU : ∀ u, U u → flatO u) (F : FnOk W.P W.w W.K mg base CX0 k f fd ps sp)
    (hl : ∀ vs H Q E, sp' vs H Q E → vs.length = ps.length)
    (h : ∀ vs H Q E, sp' vs H Q E → ∃ p, H p = some (vw W U p) ∧ ∀ u, U u → sp vs (upd H p u) (fun v H' => ∃ u', U u' ∧ H' p = some u' ∧ Q v (upd H' p (vw W U p))) E) :
    FnOk W.P W.w W.K mg base CX0 k f fd ps sp' := by
  refine ⟨hl, fun A outer s H args us vs Q E hr e0 hb hv hs => ?_⟩
  obtain ⟨p, hp, k⟩ := h _ _ _ _ hs
  obtain ⟨u, hu, hf, hok⟩ := hok_open e0.hok hp
  have np : ∀ b, H b = none → upd H p u b = none := fun b e => by
    have nb : b ≠ p := fun z => by
      rw [z, hp] at e
      cases e
    rw [upd_ne nb]
    exact e
  have e1 : Env0 W.P W.w W.K mg base A outer s (upd H p u) := ⟨e0.frames, e0.mod, fun b o q => ⟨(e0.bs b o q).1, np b (e0.bs b o q).2⟩, e0.bsz, e0.funs, fun b q => np b (e0.frf b q), hok, e0.bare⟩
  refine codeAny_mono (F.run A outer s (upd H p u) args us vs _ E hr e1 hb hv (k u hu)) fun r s' q => ?_
  cases r with
  | error e => exact q
  | ok fl =>
    cases fl with
    | ret v =>
      obtain ⟨v1, H', q1, q2, q3, q4, q5, u', hu', hp', q6⟩ := q
      exact ⟨v1, _, q1, q2, un_open (un_seal q3 hp' (hU _ hu')) hp, hok_seal q4 hp' hu' (hU _ hu'), q5, q6⟩
    | next => exact q
    | brk => exact q
    | cont => exact q
theorem fn_seal {W : Wd} {mg : Str → Option Value} {base : Heap} {k : Nat} {f : Addr} {fd : FuncData} {ps : List Str} {sp sp' : Sp} {U : HO → Prop} (hU : ∀ u, U u → flatO u) (F : FnOk W.P W.w W.K mg base CX0 k f fd ps sp)
    (hl : ∀ vs H Q E, sp' vs H Q E → vs.length = ps.length)
    (h : ∀ vs H Q E, sp' vs H Q E → sp vs H (fun v H' => ∃ p u', U u' ∧ H' p = some u' ∧ Q v (upd H' p (vw W U p))) E) :
    FnOk W.P W.w W.K mg base CX0 k f fd ps sp' := by
  refine ⟨hl, fun A outer s H args us vs Q E hr e0 hb hv hs => ?_⟩
  refine codeAny_mono (F.run A outer s H args us vs _ E hr e0 hb hv (h _ _ _ _ hs)) fun r s' q => ?_
  cases r with
  | error e => exact q
  | ok fl =>
    cases fl with
    | ret v =>
      obtain ⟨v1, H', q1, q2, q3, q4, q5, p, u', hu', hp', q6⟩ := q
      exact ⟨v1, _, q1, q2, un_seal q3 hp' (hU _ hu'), hok_seal q4 hp' hu' (hU _ hu'), q5, q6⟩
    | next => exact q
    | brk => exact q
    | cont => exact q
theorem src_mk {K : PySem.W.Frag} {mg : Str → Option Value} {h : Heap} {x : Str} {st : Stmt} {f : Addr} {oc : Value} {od an : Option Addr} {osl : Array (Option Value)} {kV doc pm cdv ct : Value} (X : K.In h) (G : h.Ns mainGlobals mg)
    (a : PySem.W.nsIn K mainGlobals x = some (some (.ref f))) (l : K.lookup f = some ⟨oc, od, .func (PySem.W.fnOf x x (defArgs st) (defBody st) (defScope st) .none kV doc pm an cdv ct), osl⟩)
    (c : PySem.W.codeIn K cdv x = true) (k : PySem.W.keepIn K (.ref f) = true) : Src K mg x st := ⟨f, _, PySem.W.mg_of X G a, fun_mk l c k⟩
/-! ### loops -/
section
variable {K : PySem.W.Frag} {σ : L2.St} {H : Hp} {Q : VK} {te : TE} {tA : TA} {tb : TS} {nx bk ct : L2.St → Hp → Prop} {rt : VK} {g : TG} {n : Nat} {wi : TI} {c : TT}
/-- what a for asks once its iterator has come -/
def ForOk (J : It) (g : TG) (tb : TS) (nx : L2.St → Hp → Prop) (rt : VK) (σ : L2.St) (H1 : Hp) : Prop := ∃ W : Nat → Nat → L2.St → Hp → Prop, (∃ m, W 0 m σ H1) ∧ ∀ i m σ H, W i m σ H →
  (J.stop i H ∧ nx σ H) ∨ (J.go i H ∧ ∃ N : L2.St → Hp → Prop, (∀ σ' H', N σ' H' → ∃ m', m' < m ∧ W (i + 1) m' σ' H') ∧ ∀ x H', J.yld i H x H' → g x σ H' fun σ2 H2 => tb ⟨N, rt, nx, N⟩ σ2 H2)
theorem w_for (h : wi σ H fun J H1 => ForOk J g tb nx rt σ H1) : tFor wi g tb ⟨nx, rt, bk, ct⟩ σ H := h
def Rg1 (R : It → Hp → Prop) (vs : List V) (H : Hp) : Prop := ∃ j : Int, vs = [.int j] ∧ -(2 ^ 62) ≤ j ∧ j < 2 ^ 62 ∧ R (Itr 0 j.toNat) H
def Rg2 (R : It → Hp → Prop) (vs : List V) (H : Hp) : Prop := ∃ i j : Int, vs = [.int i, .int j] ∧ (-(2 ^ 62) ≤ i ∧ i < 2 ^ 62 ∧ -(2 ^ 62) ≤ j ∧ j < 2 ^ 62) ∧ R (Itr i (j - i).toNat) H
theorem w_irng1 {R : It → Hp → Prop} (h : tA σ H fun vs H1 => Rg1 R vs H1) : iRng1 tA σ H R := h
theorem w_irng2 {R : It → Hp → Prop} (h : tA σ H fun vs H1 => Rg2 R vs H1) : iRng2 tA σ H R := h
theorem w_rg1 {R : It → Hp → Prop} {j : Int} (h0 : -(2 ^ 62) ≤ j) (h1 : j < 2 ^ 62) (h : R (Itr 0 j.toNat) H) : Rg1 R [.int j] H := ⟨j, rfl, h0, h1, h⟩
theorem w_rg2 {R : It → Hp → Prop} {i j : Int} (h0 : -(2 ^ 62) ≤ i ∧ i < 2 ^ 62 ∧ -(2 ^ 62) ≤ j ∧ j < 2 ^ 62) (h : R (Itr i (j - i).toNat) H) : Rg2 R [.int i, .int j] H := ⟨i, j, rfl, h0, h⟩
theorem forR {lo : Int} (I : Nat → L2.St → Hp → Prop) (h0 : I 0 σ H) (hs : ∀ i σ H, i < n → I i σ H → g (.int (lo + i)) σ H fun σ2 H2 => tb ⟨I (i + 1), rt, nx, I (i + 1)⟩ σ2 H2) (hd : ∀ σ H, I n σ H → nx σ H) : ForOk (Itr lo n) g tb nx rt σ H :=
  for_range (D := ⟨nx, rt, fun _ _ => False, fun _ _ => False⟩) I h0 hs hd
theorem forR0 (I : Nat → L2.St → Hp → Prop) (h0 : I 0 σ H) (hs : ∀ (i : Nat) σ H, i < n → I i σ H → g (.int (i : Int)) σ H fun σ2 H2 => tb ⟨I (i + 1), rt, nx, I (i + 1)⟩ σ2 H2) (hd : ∀ σ H, I n σ H → nx σ H) : ForOk (Itr 0 n) g tb nx rt σ H :=
  forR I h0 (fun i σ H hi q => by
    rw [Int.zero_add]
    exact hs i σ H hi q) hd
theorem w_while (I : Nat → L2.St → Hp → Prop) (m0 : Nat) (h0 : I m0 σ H) (hs : ∀ m σ H, I m σ H → c σ H fun b H1 => if b = true then ∃ N : L2.St → Hp → Prop, (∀ σ' H', N σ' H' → ∃ m', m' < m ∧ I m' σ' H') ∧ tb ⟨N, rt, nx, N⟩ σ H1 else nx σ H1) :
    tWhile c tb ⟨nx, rt, bk, ct⟩ σ H := ⟨I, ⟨m0, h0⟩, hs⟩
theorem w_N {P : (L2.St → Hp → Prop) → Prop} {J : L2.St → Hp → Prop} (h : P J) : ∃ N : L2.St → Hp → Prop, (∀ σ' H', N σ' H' → J σ' H') ∧ P N := ⟨J, fun _ _ h => h, h⟩
def GoAny (K : PySem.W.Frag) (R : It → Hp → Prop) (x : V) (H1 : Hp) : Prop := (∃ a, x = .ref a ∧ ((∃ xs, SqL K H1 a xs) ∧ R (Itl K a) H1 ∨ (∃ xs, SqT K H1 a xs) ∧ R (Itt K a) H1)) ∨ ∃ s, x = .str s ∧ R (Its s) H1
def iAny (K : PySem.W.Frag) (te : TE) : TI := fun σ H R => te σ H fun x H1 => GoAny K R x H1
theorem w_iany {R : It → Hp → Prop} (h : te σ H fun x H1 => GoAny K R x H1) : iAny K te σ H R := h
theorem w_goL {R : It → Hp → Prop} {a : Addr} {xs : List V} (h : SqL K H a xs) (q : R (Itl K a) H) : GoAny K R (.ref a) H := .inl ⟨a, rfl, .inl ⟨⟨xs, h⟩, q⟩⟩
theorem w_goT {R : It → Hp → Prop} {a : Addr} {xs : List V} (h : SqT K H a xs) (q : R (Itt K a) H) : GoAny K R (.ref a) H := .inl ⟨a, rfl, .inr ⟨⟨xs, h⟩, q⟩⟩
theorem w_goS {R : It → Hp → Prop} {z : Str} (q : R (Its z) H) : GoAny K R (.str z) H := .inr ⟨z, rfl, q⟩
theorem pi_any {X : Cx} {tg l : Expr} {tl : TE} (hl : PE X l tl) : PI X tg l (iAny X.K tl) := ⟨fun pins s σ H R I h => thn (hl.run pins s σ H _ I h) fun v s1 z => by
  obtain ⟨x, H1, J, rx, z⟩ := z
  have fp : ∀ b ∈ [s1.heap.objs.size], FpOk X pins H1 b := fun b hb => by
    rw [List.mem_singleton.mp hb]
    exact J.fpOk (Nat.le_refl _) (J.hok.fresh (Nat.le_refl _))
  rcases z with ⟨a, rfl, z⟩ | ⟨z, rfl, q⟩
  · obtain rfl : v = Value.ref a := rx
    rcases z with ⟨⟨xs, hs⟩, q⟩ | ⟨⟨xs, hs⟩, q⟩
    · obtain ⟨_, _, pl, _⟩ := J.list hs
      exact wpAny_pyIter_list pl.isList
        ⟨_, _, _, _, H1, rfl, J.kept (t' := s1.toks) (fun _ _ e => Heap.get?_push_of_some _ e), turn_list a _, ⟨_, Heap.get?_push_size _ rfl, rfl, rfl⟩, fp, q⟩
    · obtain ⟨_, _, pl, _⟩ := J.tuple hs
      exact wpAny_pyIter_tuple pl
        ⟨_, _, _, _, H1, rfl, J.kept (t' := s1.toks) (fun _ _ e => Heap.get?_push_of_some _ e), turn_tuple a _, ⟨_, Heap.get?_push_size _ rfl, rfl, rfl⟩, fp, q⟩
  · obtain ⟨t, rfl⟩ := rx
    cases ha : z.cps.all (· < 128) with
    | false => exact wpAny_pyIter_wide ha (pi_one (tk := s1.toks) J _ (turn_str _ z t "str_iterator" (.inr rfl)) ⟨_, Heap.get?_push_size _ rfl, rfl, rfl⟩ q)
    | true => exact wpAny_pyIter_ascii ha (pi_one (tk := s1.toks) J _ (turn_str _ z t "str_ascii_iterator" (.inl rfl)) ⟨_, Heap.get?_push_size _ rfl, rfl, rfl⟩ q)⟩
theorem forL {a : Addr} {xs : List V} (I : Nat → L2.St → Hp → Prop) (h0 : I 0 σ H) (hl : ∀ i σ H, i ≤ xs.length → I i σ H → SqL K H a xs)
    (hs : ∀ i x σ H, xs[i]? = some x → I i σ H → g x σ H fun σ2 H2 => tb ⟨I (i + 1), rt, nx, I (i + 1)⟩ σ2 H2) (hd : ∀ σ H, I xs.length σ H → nx σ H) : ForOk (Itl K a) g tb nx rt σ H :=
  for_list (D := ⟨nx, rt, fun _ _ => False, fun _ _ => False⟩) I h0 hl hs hd
theorem forT {a : Addr} {xs : List V} (I : Nat → L2.St → Hp → Prop) (h0 : I 0 σ H) (hl : ∀ i σ H, i ≤ xs.length → I i σ H → SqT K H a xs)
    (hs : ∀ i x σ H, xs[i]? = some x → I i σ H → g x σ H fun σ2 H2 => tb ⟨I (i + 1), rt, nx, I (i + 1)⟩ σ2 H2) (hd : ∀ σ H, I xs.length σ H → nx σ H) : ForOk (Itt K a) g tb nx rt σ H :=
  for_tup (D := ⟨nx, rt, fun _ _ => False, fun _ _ => False⟩) I h0 hl hs hd
end
/-! ### types, lengths, items -/
def tyD : PyData → String
  | .none => "NoneType"
  | .bool _ => "bool"
  | .int _ => "int"
  | .str _ => "str"
  | .list _ => "list"
  | .tuple _ => "tuple"
  | .dict _ => "dict"
theorem ty_of {K : PySem.W.Frag} {H : Hp} {v : V} {d : PyData} (h : Dp K H v d) : TyX K H v (.type (tyD d)) := by
  cases h with
  | non => exact .base .non
  | bl b => exact .base (.bl b)
  | int i => exact .base (.int i)
  | str x => exact .base (.str x)
  | lst h r =>
    rcases h with (h | ⟨o, h⟩) | ⟨o, its, n, h, c, _⟩
    · exact .base (.lst h)
    · exact .base (.frz h)
    · exact .kList h c
  | tup h r =>
    rcases h with (h | ⟨o, h⟩) | ⟨o, its, n, h, c, _⟩
    · exact .base (.tup h)
    · exact .fTuple h
    · exact .kTuple h c
def isIntD : PyData → Bool
  | .int _ => true
  | _ => false
def isIntB : PyData → Bool
  | .int _ => true
  | .bool _ => true
  | _ => false
def isBoolD : PyData → Bool
  | .bool _ => true
  | _ => false
def isStrD : PyData → Bool
  | .str _ => true
  | _ => false
def isTupD : PyData → Bool
  | .tuple _ => true
  | _ => false
def isListD : PyData → Bool
  | .list _ => true
  | _ => false
section
variable {K : PySem.W.Frag} {H : Hp} {Q : VK} {v : V} {d : PyData}
theorem w_isi {b : String} {r : Bool} (h : Dp K H v d) (hk : kitB (tyD d) b = some r) (q : Q (.bl r) H) : rIsi K [v, .ty b] H Q := ⟨v, .ty b, _, _, r, rfl, .ty b, ty_of h, kit_ty hk, q⟩
theorem w_isint (h : Dp K H v d) (hd : tyD d ≠ "dict") (q : Q (.bl (isIntB d)) H) : rIsi K [v, .ty "int"] H Q := w_isi h (by cases d <;> first | exact (hd rfl).elim | (simp only [tyD, isIntB]; decide +kernel)) q
theorem w_isbool (h : Dp K H v d) (hd : tyD d ≠ "dict") (q : Q (.bl (isBoolD d)) H) : rIsi K [v, .ty "bool"] H Q := w_isi h (by cases d <;> first | exact (hd rfl).elim | (simp only [tyD, isBoolD]; decide +kernel)) q
theorem w_isstr (h : Dp K H v d) (hd : tyD d ≠ "dict") (q : Q (.bl (isStrD d)) H) : rIsi K [v, .ty "str"] H Q := w_isi h (by cases d <;> first | exact (hd rfl).elim | (simp only [tyD, isStrD]; decide +kernel)) q
theorem w_istup (h : Dp K H v d) (hd : tyD d ≠ "dict") (q : Q (.bl (isTupD d)) H) : rIsi K [v, .ty "tuple"] H Q := w_isi h (by cases d <;> first | exact (hd rfl).elim | (simp only [tyD, isTupD]; decide +kernel)) q
theorem dp_nodict (h : Dp K H v d) : tyD d ≠ "dict" := by
  cases h <;> (intro z; simp [tyD] at z)
theorem w_isint' (h : Dp K H v d) (q : Q (.bl (isIntB d)) H) : rIsi K [v, .ty "int"] H Q := w_isint h (dp_nodict h) q
theorem w_isbool' (h : Dp K H v d) (q : Q (.bl (isBoolD d)) H) : rIsi K [v, .ty "bool"] H Q := w_isbool h (dp_nodict h) q
theorem w_isstr' (h : Dp K H v d) (q : Q (.bl (isStrD d)) H) : rIsi K [v, .ty "str"] H Q := w_isstr h (dp_nodict h) q
theorem w_istup' (h : Dp K H v d) (q : Q (.bl (isTupD d)) H) : rIsi K [v, .ty "tuple"] H Q := w_istup h (dp_nodict h) q
abbrev rLenU (K : PySem.W.Frag) : List V → Hp → VK → Prop := fun xs H Q => ∃ x n, xs = [x] ∧ LenV K x H n ∧ Q (.int n) H
theorem u_len {X : Cx} : CallR X (.builtin "len") (rLenU X.K) := call_len
theorem w_lenL {a : Addr} {xs : List V} (h : SqL K H a xs) (q : Q (.int xs.length) H) : rLenU K [.ref a] H Q := ⟨_, _, rfl, .inl ⟨xs, h, rfl⟩, q⟩
theorem w_lenT {a : Addr} {xs : List V} (h : SqT K H a xs) (q : Q (.int xs.length) H) : rLenU K [.ref a] H Q := ⟨_, _, rfl, .inr ⟨xs, h, rfl⟩, q⟩
theorem w_lenS {z : Str} (h : z.length ≤ sizeLine) (q : Q (.int z.length) H) : rLenU K [.str z] H Q := ⟨_, _, rfl, ⟨h, rfl⟩, q⟩
theorem w_lenDL {ds : List PyData} (h : Dp K H v (.list ds)) (q : Q (.int ds.length) H) : rLenU K [v] H Q := by
  cases h with
  | lst h r => exact w_lenL h (by rw [dps_len r]; exact q)
theorem w_lenDT {ds : List PyData} (h : Dp K H v (.tuple ds)) (q : Q (.int ds.length) H) : rLenU K [v] H Q := by
  cases h with
  | tup h r => exact w_lenT h (by rw [dps_len r]; exact q)
abbrev rIxU (K : PySem.W.Frag) : R2 := rIx K
theorem u_ix {X : Cx} : IxR X (rIxU X.K) := ix_seq
theorem w_ixl {a : Addr} {xs : List V} {i : Int} {x : V} (h : SqL K H a xs) (e : atI xs i = some x) (q : Q x H) : rIxU K (.ref a) (.int i) H Q := .inl ⟨a, xs, i, x, rfl, rfl, h, e, q⟩
theorem w_ixt {a : Addr} {xs : List V} {i : Int} {x : V} (h : SqT K H a xs) (e : atI xs i = some x) (q : Q x H) : rIxU K (.ref a) (.int i) H Q := .inr (.inl ⟨a, xs, i, x, rfl, rfl, h, e, q⟩)
theorem w_ixP {a : Addr} {xs : List V} {i : Int} (P : V → Prop) (h : SqL K H a xs) (h0 : 0 ≤ i) (h1 : i < xs.length) (hx : ∀ x ∈ xs, P x) (q : ∀ x, P x → Q x H) : rIxU K (.ref a) (.int i) H Q := by
  have hn : i.toNat < xs.length := by omega
  refine w_ixl h (x := xs[i.toNat]) ?_ (q _ (hx _ (List.getElem_mem hn)))
  unfold atI ixN
  rw [if_pos h0, if_pos (by omega)]
  simp [List.getElem?_eq_getElem hn]
def isI (P : Int → Prop) (x : V) : Prop := ∃ n, x = .int n ∧ P n
theorem w_ixI {a : Addr} {xs : List V} {i : Int} (P : Int → Prop) (h : SqL K H a xs) (h0 : 0 ≤ i) (h1 : i < xs.length) (hx : ∀ x ∈ xs, isI P x) (q : ∀ n, P n → Q (.int n) H) : rIxU K (.ref a) (.int i) H Q :=
  w_ixP (isI P) h h0 h1 hx fun x ⟨n, e, hn⟩ => by
    rw [e]
    exact q n hn
theorem isI_at {P : Int → Prop} {xs : List V} {i : Nat} {x : V} (h : ∀ x ∈ xs, isI P x) (e : xs[i]? = some x) : ∃ n, x = .int n ∧ P n := h x (List.mem_of_getElem? e)
theorem isI_nil {P : Int → Prop} : ∀ x ∈ ([] : List V), isI P x := fun x hx => nomatch hx
theorem isI_cons {P : Int → Prop} {n : Int} {r : List V} (h : P n) (hr : ∀ x ∈ r, isI P x) : ∀ x ∈ V.int n :: r, isI P x := fun x hx => by
  rcases List.mem_cons.mp hx with rfl | hx
  · exact ⟨n, rfl, h⟩
  · exact hr x hx
theorem w_ixs {z : Str} {i : Int} {c : Nat} (h : z.length ≤ sizeLine) (e : atI z.cps.toList i = some c) (q : Q (.str ⟨#[c]⟩) H) : rIxU K (.str z) (.int i) H Q := .inr (.inr ⟨z, i, c, rfl, rfl, h, e, q⟩)
theorem w_ixDL {ds : List PyData} {i : Int} (h : Dp K H v (.list ds)) (e : atI ds i = some d) (q : ∀ x, Dp K H x d → Q x H) : rIxU K v (.int i) H Q := by
  cases h with
  | lst h r =>
    obtain ⟨x, e1, e2⟩ := dps_at r e
    exact w_ixl h e1 (q x e2)
theorem w_ixDT {ds : List PyData} {i : Int} (h : Dp K H v (.tuple ds)) (e : atI ds i = some d) (q : ∀ x, Dp K H x d → Q x H) : rIxU K v (.int i) H Q := by
  cases h with
  | tup h r =>
    obtain ⟨x, e1, e2⟩ := dps_at r e
    exact w_ixt h e1 (q x e2)
theorem dp_int {i : Int} (h : Dp K H v (.int i)) : v = .int i := by cases h; rfl
theorem dp_str {x : Str} (h : Dp K H v (.str x)) : v = .str x := by cases h; rfl
theorem dp_bl {b : Bool} (h : Dp K H v (.bool b)) : v = .bl b := by cases h; rfl
theorem dp_non (h : Dp K H v .none) : v = .non := by cases h; rfl
theorem w_ixDLi {ds : List PyData} {i n : Int} (h : Dp K H v (.list ds)) (e : atI ds i = some (.int n)) (q : Q (.int n) H) : rIxU K v (.int i) H Q := w_ixDL h e fun x hx => by
  rw [dp_int hx]
  exact q
theorem w_ixDTi {ds : List PyData} {i n : Int} (h : Dp K H v (.tuple ds)) (e : atI ds i = some (.int n)) (q : Q (.int n) H) : rIxU K v (.int i) H Q := w_ixDT h e fun x hx => by
  rw [dp_int hx]
  exact q
theorem atI_of {α : Type} {xs : List α} {i : Int} (h0 : 0 ≤ i) (h1 : i < xs.length) : ∃ x, atI xs i = some x ∧ x ∈ xs := by
  have hn : i.toNat < xs.length := by omega
  refine ⟨xs[i.toNat], ?_, List.getElem_mem hn⟩
  unfold atI ixN
  rw [if_pos h0, if_pos (by omega)]
  simp [List.getElem?_eq_getElem hn]
end
def rSetU : TSet := fun o i v H Q => rSetL o i v H Q ∨ rSetD o i v H Q
theorem u_set {X : Cx} (hu : X.A.units + 64 < cLine) : PSet X rSetU := by
  intro pins s σ H o i v ov iv u Q I r1 r2 r3 q
  rcases q with q | q
  · exact set_list pins s σ H o i v ov iv u Q I r1 r2 r3 q
  · exact set_dict (Nat.lt_of_le_of_lt (Nat.add_le_add_left (by decide) _) hu) pins s σ H o i v ov iv u Q I r1 r2 r3 q
theorem w_gsub {to ti : TE} {t : TSet} {v : V} {σ : L2.St} {H : Hp} {k : L2.St → Hp → Prop} (h : to σ H fun o H1 => ti σ H1 fun i H2 => t o i v H2 fun H3 => k σ H3) : gSub to ti t v σ H k := h
theorem w_gnil {σ : L2.St} {H : Hp} {k : L2.St → Hp → Prop} (h : k σ H) : gNil [] σ H k := ⟨rfl, h⟩
theorem w_gcons {t : TG} {u : TGs} {v : V} {r : List V} {σ : L2.St} {H : Hp} {k : L2.St → Hp → Prop} (h : t v σ H fun σ' H' => u r σ' H' k) : gCons t u (v :: r) σ H k := ⟨v, r, rfl, h⟩
theorem w_gtup {K : PySem.W.Frag} {n : Nat} {t : TGs} {a : Addr} {xs : List V} {σ : L2.St} {H : Hp} {k : L2.St → Hp → Prop} (h : SqT K H a xs) (hl : xs.length = n) (q : t xs σ H k) : gTup K n t (.ref a) σ H k := ⟨a, xs, rfl, h, hl, q⟩
theorem w_setl {a : Addr} {xs : List V} {i : Int} {j : Nat} {v : V} {H : Hp} {k : Hp → Prop} (h : H a = some (.lst xs)) (e : ixN xs.length i = some j) (q : k (upd H a (.lst (xs.set j v)))) : rSetU (.ref a) (.int i) v H k := .inl ⟨a, xs, i, j, rfl, rfl, h, e, q⟩
/-! ### comprehensions -/
section
variable {K : PySem.W.Frag} {σ : L2.St} {H : Hp} {Q : VK} {te : TE} {tt : TT} {g : TG} {wi : TI} {vs : List Nat} {n : Nat}
def LcOk (J : It) (g : TG) (tt : TT) (te : TE) (vs : List Nat) (σ : L2.St) (Q : VK) (H1 : Hp) : Prop := ∀ D, H1 D = none → ∃ W : Nat → Nat → Hp → Prop, (∃ m, W 0 m (upd H1 D (.lst []))) ∧ ∀ i m H, W i m H →
  (J.stop i H ∧ Q (.ref D) H) ∨ (J.go i H ∧ ∃ Nx : Hp → Prop, (∀ H', Nx H' → ∃ m', m' < m ∧ W (i + 1) m' H') ∧ ∀ x H', J.yld i H x H' → g x (wipe σ vs) H' fun σ2 H2 => wipe σ2 vs = wipe σ vs ∧ tt σ2 H2 fun b H3 =>
    if b = true then te σ2 H3 fun y H4 => ∃ acc, H4 D = some (.lst acc) ∧ acc.length < sizeLine ∧ Nx (upd H4 D (.lst (acc ++ [y]))) else Nx H3)
theorem w_lc (h : wi σ H fun J H1 => LcOk J g tt te vs σ Q H1) : tLc wi g tt te vs σ H Q := h
theorem w_wp {σ2 : L2.St} {R : Prop} (e : wipe σ2 vs = wipe σ vs) (h : R) : wipe σ2 vs = wipe σ vs ∧ R := ⟨e, h⟩
theorem w_yes {R : Bool → Hp → Prop} (h : R true H) : tYes σ H R := h
/-- a word about a comprehension's list and the heap is not hurt by a list's change -/
def Stb (I : Nat → List V → Hp → Prop) : Prop := ∀ i acc H' D xs ys, H' D = some (.lst xs) → I i acc H' → I i acc (upd H' D (.lst ys))
theorem lc_gen {J : It} (I : Nat → List V → Hp → Prop) (hst : Stb I) (hn : n ≤ 1000000) (hI : ∀ i acc H', I i acc H' → acc.length ≤ i) (h0 : ∀ H', Same H H' → I 0 [] H')
    (hgo : ∀ i acc H', i < n → Same H H' → I i acc H' → J.go i H') (hstop : ∀ acc H', Same H H' → I n acc H' → J.stop n H')
    (hs : ∀ i acc x H' H'', i < n → Same H H' → I i acc H' → J.yld i H' x H'' → ∀ (k : VK) (k' : Hp → Prop), (∀ y H4, Same H' H4 → I (i + 1) (acc ++ [y]) H4 → k y H4) → (∀ H3, Same H' H3 → I (i + 1) acc H3 → k' H3) →
      g x (wipe σ vs) H'' fun σ2 H2 => wipe σ2 vs = wipe σ vs ∧ tt σ2 H2 fun b H3 => if b = true then te σ2 H3 k else k' H3)
    (hd : ∀ D acc H', H D = none → Same H H' → H' D = some (.lst acc) → I n acc H' → Q (.ref D) H') : LcOk J g tt te vs σ Q H := fun D hD => by
  refine ⟨fun i m H' => m = n - i ∧ i ≤ n ∧ ∃ acc, Same H H' ∧ H' D = some (.lst acc) ∧ I i acc H', ⟨n, by omega, by omega, [], same_new hD, upd_same, h0 _ (same_new hD)⟩, fun i m H1 ⟨em, hi, acc, s1, hD1, w1⟩ => ?_⟩
  by_cases hlt : i < n
  · refine .inr ⟨hgo i acc H1 hlt s1 w1, fun H' => i + 1 ≤ n ∧ ∃ acc, Same H H' ∧ H' D = some (.lst acc) ∧ I (i + 1) acc H', fun H' ⟨a, b⟩ => ⟨n - (i + 1), by omega, rfl, a, b⟩, fun x H' y => ?_⟩
    refine hs i acc x H1 H' hlt s1 w1 y _ _ (fun y H4 s4 w4 => ⟨acc, s4 _ _ hD1, ?_, hlt, _, same_mut (s1.trans s4) hD, upd_same, hst _ _ _ _ _ _ (s4 _ _ hD1) w4⟩) fun H3 s3 w3 => ⟨hlt, acc, s1.trans s3, s3 _ _ hD1, w3⟩
    have l1 := hI i acc H1 w1
    exact Nat.lt_of_le_of_lt (m := 1000000) (by omega) (by decide)
  · have e : i = n := by omega
    subst e
    exact .inl ⟨hstop acc H1 s1 w1, hd D acc H1 hD s1 hD1 w1⟩
theorem lcR (I : Nat → List V → Hp → Prop) (hst : Stb I) (hn : n ≤ 1000000) (hI : ∀ i acc H', I i acc H' → acc.length ≤ i) (h0 : ∀ H', Same H H' → I 0 [] H')
    (hs : ∀ (i : Nat) acc H', i < n → Same H H' → I i acc H' → ∀ (k : VK) (k' : Hp → Prop), (∀ y H4, Same H' H4 → I (i + 1) (acc ++ [y]) H4 → k y H4) → (∀ H3, Same H' H3 → I (i + 1) acc H3 → k' H3) →
      g (.int (i : Int)) (wipe σ vs) H' fun σ2 H2 => wipe σ2 vs = wipe σ vs ∧ tt σ2 H2 fun b H3 => if b = true then te σ2 H3 k else k' H3)
    (hd : ∀ D acc H', H D = none → Same H H' → H' D = some (.lst acc) → I n acc H' → Q (.ref D) H') : LcOk (Itr 0 n) g tt te vs σ Q H :=
  lc_gen I hst hn hI h0 (fun _ _ _ h _ _ => h) (fun _ _ _ _ => Nat.le_refl _) (fun i acc x H' H'' hi s1 w1 y => by
    obtain ⟨e1, e2⟩ := y
    rw [Int.zero_add] at e2
    subst e1
    subst e2
    exact hs i acc _ hi s1 w1) hd
theorem lcL {a : Addr} {xs : List V} (hx : SqL K H a xs) (I : Nat → List V → Hp → Prop) (hst : Stb I) (hn : xs.length ≤ 1000000) (hI : ∀ i acc H', I i acc H' → acc.length ≤ i) (h0 : ∀ H', Same H H' → I 0 [] H')
    (hs : ∀ i x acc H', xs[i]? = some x → Same H H' → I i acc H' → ∀ (k : VK) (k' : Hp → Prop), (∀ y H4, Same H' H4 → I (i + 1) (acc ++ [y]) H4 → k y H4) → (∀ H3, Same H' H3 → I (i + 1) acc H3 → k' H3) →
      g x (wipe σ vs) H' fun σ2 H2 => wipe σ2 vs = wipe σ vs ∧ tt σ2 H2 fun b H3 => if b = true then te σ2 H3 k else k' H3)
    (hd : ∀ D acc H', H D = none → Same H H' → H' D = some (.lst acc) → I xs.length acc H' → Q (.ref D) H') : LcOk (Itl K a) g tt te vs σ Q H :=
  lc_gen I hst hn hI h0 (fun i acc H' hi s1 _ => ⟨xs, xs[i], s1.seq hx, List.getElem?_eq_getElem hi⟩) (fun _ _ s1 _ => ⟨xs, s1.seq hx, Nat.le_refl _⟩) (fun i acc x H' H'' hi s1 w1 y => by
    obtain ⟨e1, e2⟩ := y
    subst e1
    exact hs i x acc _ (e2 xs (s1.seq hx)) s1 w1) hd
theorem lcT {a : Addr} {xs : List V} (hx : SqT K H a xs) (I : Nat → List V → Hp → Prop) (hst : Stb I) (hn : xs.length ≤ 1000000) (hI : ∀ i acc H', I i acc H' → acc.length ≤ i) (h0 : ∀ H', Same H H' → I 0 [] H')
    (hs : ∀ i x acc H', xs[i]? = some x → Same H H' → I i acc H' → ∀ (k : VK) (k' : Hp → Prop), (∀ y H4, Same H' H4 → I (i + 1) (acc ++ [y]) H4 → k y H4) → (∀ H3, Same H' H3 → I (i + 1) acc H3 → k' H3) →
      g x (wipe σ vs) H' fun σ2 H2 => wipe σ2 vs = wipe σ vs ∧ tt σ2 H2 fun b H3 => if b = true then te σ2 H3 k else k' H3)
    (hd : ∀ D acc H', H D = none → Same H H' → H' D = some (.lst acc) → I xs.length acc H' → Q (.ref D) H') : LcOk (Itt K a) g tt te vs σ Q H :=
  lc_gen I hst hn hI h0 (fun i acc H' hi s1 _ => ⟨xs, xs[i], same_t s1 hx, List.getElem?_eq_getElem hi⟩) (fun _ _ s1 _ => ⟨xs, same_t s1 hx, Nat.le_refl _⟩) (fun i acc x H' H'' hi s1 w1 y => by
    obtain ⟨e1, e2⟩ := y
    subst e1
    exact hs i x acc _ (e2 xs (same_t s1 hx)) s1 w1) hd
/-- words that do not speak of the heap -/
theorem stb_pure {P : Nat → List V → Prop} : Stb fun i acc _ => P i acc := fun _ _ _ _ _ _ _ h => h
abbrev rTupleOf (K : PySem.W.Frag) : List V → Hp → VK → Prop := fun xs H Q => ∃ p ys, xs = [.ref p] ∧ ((SqL K H p ys ∧ ∀ l, H l = none → Q (.ref l) (upd H l (.tup ys))) ∨ (SqT K H p ys ∧ Q (.ref p) H))
abbrev rListOf (K : PySem.W.Frag) : List V → Hp → VK → Prop := fun xs H Q => ∃ p ys, xs = [.ref p] ∧ (SqL K H p ys ∨ SqT K H p ys) ∧ ∀ l, H l = none → Q (.ref l) (upd H l (.lst ys))
theorem w_tupleL {a : Addr} {xs : List V} (h : SqL K H a xs) (q : ∀ p H', H p = none → Same H H' → H' p = some (.tup xs) → Q (.ref p) H') : rTupleOf K [.ref a] H Q := ⟨a, xs, rfl, .inl ⟨h, fun p hp => q p _ hp (same_new hp) upd_same⟩⟩
theorem w_listL {a : Addr} {xs : List V} (h : SqL K H a xs) (q : ∀ p H', H p = none → Same H H' → H' p = some (.lst xs) → Q (.ref p) H') : rListOf K [.ref a] H Q := ⟨a, xs, rfl, .inl h, fun p hp => q p _ hp (same_new hp) upd_same⟩
theorem w_listT {a : Addr} {xs : List V} (h : SqT K H a xs) (q : ∀ p H', H p = none → Same H H' → H' p = some (.lst xs) → Q (.ref p) H') : rListOf K [.ref a] H Q := ⟨a, xs, rfl, .inr h, fun p hp => q p _ hp (same_new hp) upd_same⟩
theorem w_all {a : Addr} {bs : List Bool} (h : SqL K H a (bs.map V.bl)) (q : Q (.bl (bs.all id)) H) : rAll K [.ref a] H Q := ⟨a, bs, rfl, h, q⟩
theorem w_any {a : Addr} {bs : List Bool} (h : SqL K H a (bs.map V.bl)) (q : Q (.bl (bs.any id)) H) : rAny K [.ref a] H Q := ⟨a, bs, rfl, h, q⟩
/-- ints of a list of values -/
theorem ints_of {P : Int → Prop} : ∀ {xs : List V}, (∀ x ∈ xs, isI P x) → ∃ ns : List Int, xs = ns.map V.int ∧ ∀ n ∈ ns, P n
  | [], _ => ⟨[], rfl, fun _ h => nomatch h⟩
  | x :: r, h => by
    obtain ⟨ns, e, hn⟩ := ints_of (xs := r) fun y hy => h y (List.mem_cons_of_mem _ hy)
    obtain ⟨n, rfl, h1⟩ := h x List.mem_cons_self
    refine ⟨n :: ns, by rw [e]; rfl, fun m hm => ?_⟩
    rcases List.mem_cons.mp hm with rfl | hm
    · exact h1
    · exact hn m hm
theorem isI_app {P : Int → Prop} {xs : List V} {n : Int} (h : ∀ x ∈ xs, isI P x) (hn : P n) : ∀ x ∈ xs ++ [V.int n], isI P x := fun x hx => by
  rcases List.mem_append.mp hx with hx | hx
  · exact h x hx
  · rw [List.mem_singleton.mp hx]
    exact ⟨n, rfl, hn⟩
end
/-! ### the pot -/
def PotU : HO → Prop := fun u => ∃ g s : Int, u = .lst [.int g, .int s] ∧ 0 ≤ g ∧ 0 ≤ s ∧ s < 2305843009213693951
theorem pot_flat : ∀ u, PotU u → flatO u := fun u ⟨_, _, e, _⟩ => by
  rw [e]
  trivial
def PotAt (W : Wd) (H : Hp) (v : V) : Prop := ∃ p, v = .ref p ∧ H p = some (vw W PotU p)
theorem pot_mono {W : Wd} {H H' : Hp} {v : V} (e : Same H H') (h : PotAt W H v) : PotAt W H' v := by
  obtain ⟨p, rfl, h⟩ := h
  exact ⟨p, rfl, e _ _ h⟩
/-! ### const operations -/
def rCon (a b c : Int) : R2 := fun x y H Q => x = .int a ∧ y = .int b ∧ Q (.int c) H
theorem u_powc {X : Cx} {a b c : Int} (hc : CPow a b) (h : a ^ b.toNat = c) : OpR X (binaryOp .Pow) (rCon a b c) := by
  intro pins s σ H x y v u Q I rx ry q
  obtain ⟨rfl, rfl, q⟩ := q
  exact op_pow pins s σ H _ _ v u Q I rx ry ⟨a, b, rfl, rfl, hc, by show Q (V.int (a ^ b.toNat)) H; rw [h]; exact q⟩
theorem u_shlc {X : Cx} {a b c : Int} (hc : CPow a b) (h : a * 2 ^ b.toNat = c) : OpR X (binaryOp .LShift) (rCon a b c) := by
  intro pins s σ H x y v u Q I rx ry q
  obtain ⟨rfl, rfl, q⟩ := q
  exact op_shl pins s σ H _ _ v u Q I rx ry ⟨a, b, rfl, rfl, hc, by show Q (V.int (a * 2 ^ b.toNat)) H; rw [h]; exact q⟩
theorem w_con {H : Hp} {Q : VK} {a b c : Int} (h : Q (.int c) H) : rCon a b c (.int a) (.int b) H Q := ⟨rfl, rfl, h⟩
/-- int('1' + '0' * 300) -/
def farN : Int := 10 ^ 300
theorem far_rep : ∀ (n : Nat) (acc : Array Nat), ((List.replicate n (#[48] : Array Nat)).foldl (· ++ ·) acc).toList = acc.toList ++ List.replicate n 48
  | 0, acc => by simp
  | n + 1, acc => by
    rw [List.replicate_succ, List.foldl_cons, far_rep n, Array.toList_append, List.replicate_succ]
    simp
theorem far_a : (("1" : Str) ++ Txt.mul ("0" : Str) 300).cps.toList = 49 :: List.replicate 300 48 := by
  have e : Txt.mul ("0" : Str) 300 = ⟨(List.replicate 300 (#[48] : Array Nat)).foldl (· ++ ·) #[]⟩ := by
    unfold Txt.mul
    rw [if_neg (by decide), if_neg (by decide +kernel)]
    rfl
  rw [e]
  show (("1" : Str).cps ++ _).toList = _
  rw [Array.toList_append, far_rep]
  rfl
theorem far_val : ∀ (n v : Nat), (List.replicate n 48).foldl (fun acc c => acc * 10 + (c - 48)) v = v * 10 ^ n
  | 0, v => by simp
  | n + 1, v => by
    rw [List.replicate_succ, List.foldl_cons, far_val n, Nat.pow_succ, Nat.mul_comm (10 ^ n) 10, ← Nat.mul_assoc]
    rfl
theorem far_len : (("1" : Str) ++ Txt.mul ("0" : Str) 300).length = 301 := by
  have h : (("1" : Str) ++ Txt.mul ("0" : Str) 300).cps.toList.length = 301 := by
    rw [far_a, List.length_cons, List.length_replicate]
  rw [Array.length_toList] at h
  exact h
theorem far_txt : PySem.intText? (("1" : Str) ++ Txt.mul ("0" : Str) 300) = some farN := by
  have hd : NumText.AllDigits (("1" : Str) ++ Txt.mul ("0" : Str) 300).cps.toList := by
    rw [far_a]
    intro c hc
    rcases List.mem_cons.mp hc with rfl | hc
    · exact ⟨by decide, by decide⟩
    · have e := List.eq_of_mem_replicate hc
      subst e
      exact ⟨by decide, by decide⟩
  rw [PySem.intText_digits hd (by rw [far_a]; simp) (by rw [far_len]; decide), far_a]
  have e : NumText.digitsVal (49 :: List.replicate 300 48) = 1 * 10 ^ 300 := by
    unfold NumText.digitsVal
    rw [List.foldl_cons]
    exact far_val 300 1
  rw [e]
  decide +kernel
theorem far_pos : 0 < farN := by decide +kernel
theorem far_mul : MulOk ("0" : Str) 300 := ⟨by decide +kernel, by decide +kernel, by decide +kernel⟩
theorem far_len2 : (("1" : Str) ++ Txt.mul ("0" : Str) 300).length ≤ 640 := by
  rw [far_len]
  decide
theorem far_sz : ("1" : Str).length + (Txt.mul ("0" : Str) 300).length ≤ sizeLine := by decide +kernel
theorem pe_far {X : Cx} {p p1 p2 p3 p4 pos : Pos} {k1 k2 k3 : Nat} (hg : Gl X "int") (hm : X.mg "int" = none) (hs : starEach [.BinOp (.Constant (.str "1") k1 p1) .Add (.BinOp (.Constant (.str "0") k2 p2) .Mult (.Constant (.int 300) k3 p3) p4) pos] X.env = [(false, eval (.BinOp (.Constant (.str "1") k1 p1) .Add (.BinOp (.Constant (.str "0") k2 p2) .Mult (.Constant (.int 300) k3 p3) p4) pos) X.env)] := by rfl)
    {ps : Pos} : PE X (.Call (.Name "int" p) [.BinOp (.Constant (.str "1") k1 p1) .Add (.BinOp (.Constant (.str "0") k2 p2) .Mult (.Constant (.int 300) k3 p3) p4) pos] [] ps) (tC (.int farN)) := by
  have h : PE X (.Call (.Name "int" p) [.BinOp (.Constant (.str "1") k1 p1) .Add (.BinOp (.Constant (.str "0") k2 p2) .Mult (.Constant (.int 300) k3 p3) p4) pos] [] ps) (tCB _ _) := pe_callTy call_int_str hg hm (by decide +kernel) (pa_cons (pe_op op_add_str pe_str (pe_op op_mulS pe_str pe_int)) pa_nil)
  refine ⟨fun pins s σ H Q I q => h.run pins s σ H Q I ?_⟩
  exact ⟨_, _, rfl, rfl, far_mul, _, _, rfl, rfl, far_sz, _, _, rfl, far_txt, far_len2, q⟩
end Sh
/-! enumerate over a tuple; over a list or a tuple -/
namespace ShE
open PySem Sem
open AutoSeq1 (wpAny_loadPart')
theorem enumT_new {v : Value} {ob : Obj} {Hb : Heap → Prop} (B : Begins v ob Hb) : Meets (Builtin.«enumerate.__new__» ⟨[.type "enumerate", v], []⟩) (fun _ R s => Hb s.heap ∧
    R (.ok (.ret (.ref (s.heap.push ob).objs.size))) { s with heap := (s.heap.push ob).push ⟨.type "enumerate", none, .fields #[.none, .bool false, .ref s.heap.objs.size, rawInt 0, .none, .none], #[]⟩ }) :=
  .of_wp fun prog w A R s z => by
    obtain ⟨hp, g, dr, tk, os⟩ := s
    have sub := sub_enumerate
    have it : ∀ {A2 : Around} {E2 : Value → Shared → Prop} {Q2 : Value → Shared → Prop}, Q2 (.ref hp.objs.size) ⟨hp.push ob, g, dr, tk, os⟩ → wpAny (model prog w) A2 (pyIter v) Q2 E2 ⟨hp, g, dr, tk, os⟩ := fun q => B.iter _ _ _ _ _ _ z.1 q
    wp_walk using it
    refine wpAny_stack_any fun _ => wpAny_pure ?_
    split
    · next c _ _ _ _ _ =>
      cases (c == Value.type "enumerate") <;> (wp_walk using it; exact ⟨_, rfl, z.2⟩)
    · wp_walk using it; exact ⟨_, rfl, z.2⟩
theorem enumT_call {prog : Program} {w : World} {A : Around} {E : Value → Shared → Prop} {s : Shared} {v : Value} {ob : Obj} {Hb : Heap → Prop} {Q : Value → Shared → Prop} (B : Begins v ob Hb) (hb : Hb s.heap)
    (q : ∀ h2, IsEnum h2 (s.heap.objs.size + 1) s.heap.objs.size 0 .none → h2.get? s.heap.objs.size = some ob → (∀ b o, s.heap.get? b = some o → h2.get? b = some o) → Q (.ref (s.heap.objs.size + 1)) { s with heap := h2 }) :
    wpAny (model prog w) A (call (.type "enumerate") [v]) Q E s := by
  have z : (s.heap.push ob).objs.size = s.heap.objs.size + 1 := Heap.size_push ..
  have old : ∀ (o2 : Obj) b o, s.heap.get? b = some o → ((s.heap.push ob).push o2).get? b = some o := fun _ _ _ e => Heap.get?_push_of_some _ (Heap.get?_push_of_some _ e)
  have new : IsEnum ((s.heap.push ob).push ⟨.type "enumerate", none, .fields #[.none, .bool false, .ref s.heap.objs.size, rawInt 0, .none, .none], #[]⟩) (s.heap.objs.size + 1) s.heap.objs.size 0 .none := by
    rw [← z]
    exact Heap.get?_push_size _ rfl
  refine callType_new F.called_enumerate (by decide) (F.typeCall_enumerate_1 _) (F.newCall_enumerate_1 _) (fun o => F.args_object_init_2 o _) F.entry_enumerate_new (enumT_new B) ⟨hb, ?_⟩
  show _ ∧ _
  rw [z]
  exact ⟨⟨_, new, rfl⟩, q _ new (Heap.get?_push_of_some _ (Heap.get?_push_size _ B.free)) (old _)⟩
end ShE
namespace Sh
open PySem PySem.Spec PyProof.Rows L2
/-- the tuple at a, its items with their places -/
def IteT (K : PySem.W.Frag) (a : Addr) : It where
  go i H := ∃ xs x, SqT K H a xs ∧ xs[i]? = some x
  yld i H v H' := ∃ T x, v = .ref T ∧ H T = none ∧ H' = upd H T (.tup [.int (i : Nat), x]) ∧ ∀ xs, SqT K H a xs → xs[i]? = some x
  stop i H := ∃ xs, SqT K H a xs ∧ xs.length ≤ i
theorem turn_enumT {P : Program} {w : World} {K : PySem.W.Frag} {es : List Expr} {kk : Nat} {tp : Pos} (a e it : Addr) :
    Turn P w K (.Tuple es kk tp) (IteT K a) [e, it] e (fun i h => (∃ old, IsEnum h e it (i : Int) old) ∧ h.IsTupleIter it a i ∧ e ≠ it) where
  mem := List.mem_cons_self
  obj i h st b hb := by
    obtain ⟨⟨old, he⟩, ⟨o, ho, _, hd⟩, _⟩ := st
    rcases List.mem_cons.mp hb with rfl | hb
    · exact ⟨_, he, fun v q => nomatch q⟩
    · rw [List.mem_singleton.mp hb]
      exact ⟨o, ho, fun v q => by rw [hd] at q; cases q⟩
  keep i h h' st k := by
    obtain ⟨⟨old, he⟩, hi, hne⟩ := st
    exact ⟨⟨old, k e List.mem_cons_self _ he⟩, hi.at fun o q => k it (List.mem_cons_of_mem _ List.mem_cons_self) o q, hne⟩
  item X hP hw hK hc i pins s σ H E I hf st hg := by
    subst hP hw hK
    obtain ⟨⟨old, he⟩, hit, hne⟩ := st
    obtain ⟨xs, x, hq, hx⟩ := hg
    obtain ⟨its, rv, p, _⟩ := I.tuple hq
    obtain ⟨u, hu, ru⟩ := rv.get hx
    have pt : s.heap.IsTuple a its.toArray := p
    have ane : a ≠ it := fun z => by
      obtain ⟨o1, h1, c1, _⟩ := p
      obtain ⟨o2, h2, c2, _⟩ := hit
      rw [z, h2] at h1
      cases h1
      rw [c2] at c1
      injection c1 with c1
      exact absurd c1 (by decide)
    have ene : e ≠ a := fun z => by
      obtain ⟨o1, h1, c1, _⟩ := p
      rw [← z, he] at h1
      cases h1
      injection c1 with c1
      exact absurd c1 (by decide)
    have hil : it < s.heap.objs.size := by obtain ⟨_, q, _⟩ := hit; exact Heap.lt_size q
    have hel : e < s.heap.objs.size := Heap.lt_size he
    have lt : i < its.toArray.size := by
      have l1 := (List.getElem?_eq_some_iff.mp hu).1
      simpa using l1
    refine wpAny_pyNext_enum_itemD (Draws.tuple (show X.A.in1.handled = none from I.ok.hd hc) it a ane its.toArray) he ⟨hit, pt⟩ lt hne (fun z => ?_) fun x1 h1 tk px ho st1 hT hsz hk => ?_
    · rcases List.mem_cons.mp z with z | z
      · exact hne z
      · exact ene (List.mem_singleton.mp z)
    have ex : x1 = u := by
      have px2 : its.toArray[i]? = some x1 := px
      rw [List.getElem?_toArray, hu] at px2
      exact (Option.some.inj px2).symm
    subst ex
    refine ⟨_, rfl, wpAny_letOwnedTupleGo_enum (s := { s with heap := h1, toks := tk + 1 }) ho fun h2 he2 sb => ?_⟩
    have hT2 : h2.get? s.heap.objs.size = some { cls := .type "tuple", data := .seq #[.int i tk, x1] } := (sb.2 _ (Nat.ne_of_gt hel)).trans hT
    have new : ObjOk X.prog X.w (upd H s.heap.objs.size (.tup [.int (i : Nat), x])) h2 s.heap.objs.size (.tup [.int (i : Nat), x]) :=
      ⟨(by decide : 2 ≤ sizeLine), _, .cons ⟨tk, rfl⟩ (.cons ru .nil), ⟨_, hT2, rfl, _, rfl⟩⟩
    have ne2 : ∀ b, b ∉ [e, it] → b ≠ e ∧ b ≠ it := fun b z => ⟨fun q => z (by rw [q]; exact List.mem_cons_self), fun q => z (by rw [q]; exact List.mem_cons_of_mem _ List.mem_cons_self)⟩
    have J : Inv X pins σ (upd H s.heap.objs.size (.tup [.int (i : Nat), x])) { s with heap := h2, toks := tk + 1 } :=
      I.turnedNew (ch := [e, it]) (fun b ob z q => (sb.2 b (ne2 b z).1).trans (hk b ob (ne2 b z).1 (ne2 b z).2 q)) hf (Nat.le_refl _) new
    refine ⟨.ref s.heap.objs.size, _, J, rfl, ⟨s.heap.objs.size, x, rfl, I.hok.fresh (Nat.le_refl _), rfl, fun ys hy => by rw [I.tuple_inj hy hq]; exact hx⟩, ⟨⟨x1, ?_⟩, st1.1.at fun o q => (sb.2 it (Ne.symm hne)).trans q, hne⟩, fun b hb => ?_⟩
    · have e1 : ((i + 1 : Nat) : Int) = (i : Int) + 1 := Int.natCast_succ i
      rw [e1]
      exact he2
    · have lb : b < s.heap.objs.size := by
        rcases List.mem_cons.mp hb with rfl | hb
        · exact hel
        · rw [List.mem_singleton.mp hb]
          exact hil
      rw [upd_ne (Nat.ne_of_lt lb)]
      exact (hf b hb).1
  done X hP hw hK hc i pins s σ H E I hf st hg := by
    subst hP hw hK
    obtain ⟨⟨old, he⟩, hit, hne⟩ := st
    obtain ⟨xs, hq, hx⟩ := hg
    obtain ⟨its, rv, p, _⟩ := I.tuple hq
    have pt : s.heap.IsTuple a its.toArray := p
    have ane : a ≠ it := fun z => by
      obtain ⟨o1, h1, c1, _⟩ := p
      obtain ⟨o2, h2, c2, _⟩ := hit
      rw [z, h2] at h1
      cases h1
      rw [c2] at c1
      injection c1 with c1
      exact absurd c1 (by decide)
    obtain ⟨f0, f1, f2, f3, f4, f5⟩ := hf it (List.mem_cons_of_mem _ List.mem_cons_self)
    have hl := rv.length
    have hT : s.TypeIs (.ref e) "enumerate" := ⟨_, he, rfl⟩
    unfold pyNext
    refine wpAny_bind (wpAny_attempt (wpAny_callSpecial?_slot (name := Str.ofString "__next__") hT F.slot_enumerate_next
      (wpAny_call_entry F.slot_enumerate_next hT F.entry_enumerate_next ?_ (F.args_enumerate_next_1 _))))
    show wpAny _ _ (field (.ref e) 2 >>= _) _ _ _
    refine wpAny_bind (wpAny_field he rfl (x := .ref it) rfl ?_)
    refine wpAny_bind (wpAny_nextOf_tuple_end (I.ok.hd hc) hit pt (by simp; omega) fun h1 er k1 z1 => ?_)
    obtain ⟨oe, z2, z3⟩ := z1
    refine wpAny_bind (wpAny_isInstance (T := "StopIteration") (b := true) ⟨oe, z2, z3⟩ isSubtype_stop (wpAny_pure ?_))
    exact ⟨rfl, I.turned (t' := s.toks) (fun b o hb q => k1 b o hb q) f0 f1 f3 f4 f5⟩
  self A i s Q E st q := by
    obtain ⟨⟨_, he⟩, _⟩ := st
    exact wpAny_pyIter_enum he q
/-- enumerate of a list or a tuple -/
def GoEnum (K : PySem.W.Frag) (R : It → Hp → Prop) (vs : List V) (H : Hp) : Prop := ∃ a, vs = [.ref a] ∧ ((∃ xs, SqL K H a xs) ∧ R (Ite K a) H ∨ (∃ xs, SqT K H a xs) ∧ R (IteT K a) H)
def iEnumU (K : PySem.W.Frag) (ta : TA) : TI := fun σ H R => ta σ H fun vs H1 => GoEnum K R vs H1
theorem pi_enumU {X : Cx} {e : Expr} {ta : TA} {p pos tpos : Pos} {elts : List Expr} {kk : Nat} (hg : Gl X "enumerate") (hm : X.mg "enumerate" = none) (ha : PA X [e] ta) (hs : starEach [e] X.env = [(false, eval e X.env)] := by rfl) :
    PI X (.Tuple elts kk tpos) (.Call (.Name "enumerate" p) [e] [] pos) (iEnumU X.K ta) := ⟨fun pins s σ H R I h =>
  Call_ (ld_blt I hg hm boot_enumerate (PyProof.Rows.callWith_type1 (thn (ha.run pos pins s σ H _ I h) fun us s1 z => by
    obtain ⟨vs, H1, J, rv, a, rfl, z⟩ := z
    cases rv with
    | cons r rr =>
      cases rr
      obtain rfl := r
      have fp : ∀ b ∈ [s1.heap.objs.size + 1, s1.heap.objs.size], FpOk X pins H1 b := fun b hb => by
        have hle : s1.heap.objs.size ≤ b := by
          rcases List.mem_cons.mp hb with rfl | hb
          · exact Nat.le_succ _
          · rw [List.mem_singleton.mp hb]
            exact Nat.le_refl _
        exact J.fpOk hle (J.hok.fresh hle)
      rcases z with ⟨⟨xs, hq⟩, q⟩ | ⟨⟨xs, hq⟩, q⟩
      · obtain ⟨its, _, pl, _⟩ := J.list hq
        refine call_enumerate_list pl.isList fun h2 he hit _ hk => wpAny_pyIter_enum he ?_
        exact ⟨_, _, _, _, H1, rfl, J.kept (t' := s1.toks) hk, turn_enum a (s1.heap.objs.size + 1) s1.heap.objs.size, ⟨⟨_, he⟩, hit, Nat.succ_ne_self _⟩, fp, q⟩
      · obtain ⟨its, _, pl, _⟩ := J.tuple hq
        have pt : s1.heap.IsTuple a its.toArray := pl
        refine ShE.enumT_call (begins_tuple a its.toArray) pt fun h2 he hit hk => wpAny_pyIter_enum he ?_
        exact ⟨_, _, _, _, H1, rfl, J.kept (t' := s1.toks) hk, turn_enumT a (s1.heap.objs.size + 1) s1.heap.objs.size, ⟨⟨_, he⟩, ⟨_, hit, rfl, rfl⟩, Nat.succ_ne_self _⟩, fp, q⟩) hs rfl))⟩
section
variable {K : PySem.W.Frag} {σ : L2.St} {H : Hp} {Q : VK} {te : TE} {tt : TT} {tA : TA} {tb : TS} {nx : L2.St → Hp → Prop} {rt : VK} {g : TG} {vs : List Nat}
theorem w_ienum {R : It → Hp → Prop} (h : tA σ H fun vs H1 => GoEnum K R vs H1) : iEnumU K tA σ H R := h
theorem w_goEL {R : It → Hp → Prop} {a : Addr} {xs : List V} (h : SqL K H a xs) (q : R (Ite K a) H) : GoEnum K R [.ref a] H := ⟨a, rfl, .inl ⟨⟨xs, h⟩, q⟩⟩
theorem w_goET {R : It → Hp → Prop} {a : Addr} {xs : List V} (h : SqT K H a xs) (q : R (IteT K a) H) : GoEnum K R [.ref a] H := ⟨a, rfl, .inr ⟨⟨xs, h⟩, q⟩⟩
/-- for place, item in enumerate(..): the target is two names -/
theorem forET {a : Addr} {xs : List V} {i1 i2 : Nat} (hx : SqT K H a xs) (I : Nat → L2.St → Hp → Prop) (h0 : I 0 σ H) (hI : ∀ i σ' H', I i σ' H' → Same H H')
    (hs : ∀ (i : Nat) x σ' H', xs[i]? = some x → I i σ' H' → ∀ H2, Same H' H2 → tb ⟨I (i + 1), rt, nx, I (i + 1)⟩ ((σ'.set i1 (some (.int (i : Int)))).set i2 (some x)) H2) (hd : ∀ σ' H', I xs.length σ' H' → nx σ' H') :
    ForOk (IteT K a) (gTup K 2 (gCons (gName i1) (gCons (gName i2) gNil))) tb nx rt σ H := by
  refine ⟨fun i m σ' H' => m = xs.length - i ∧ i ≤ xs.length ∧ I i σ' H', ⟨_, rfl, Nat.zero_le _, h0⟩, fun i m σ' H1 ⟨em, hi, w1⟩ => ?_⟩
  have s1 := hI _ _ _ w1
  by_cases hlt : i < xs.length
  · refine .inr ⟨⟨xs, xs[i], same_t s1 hx, List.getElem?_eq_getElem hlt⟩, I (i + 1), fun σ2 H2 w2 => ⟨_, by omega, rfl, hlt, w2⟩, fun v H2 y => ?_⟩
    obtain ⟨T, x, rfl, hT, rfl, hy⟩ := y
    have ex := hy xs (same_t s1 hx)
    exact ⟨T, _, rfl, SqT.of upd_same, rfl, _, _, rfl, _, _, rfl, rfl, hs i x σ' H1 ex w1 _ (same_new hT)⟩
  · have e : i = xs.length := by omega
    subst e
    exact .inl ⟨⟨xs, same_t s1 hx, Nat.le_refl _⟩, hd σ' H1 w1⟩
theorem forEL {a : Addr} {xs : List V} {i1 i2 : Nat} (hx : SqL K H a xs) (I : Nat → L2.St → Hp → Prop) (h0 : I 0 σ H) (hI : ∀ i σ' H', I i σ' H' → Same H H')
    (hs : ∀ (i : Nat) x σ' H', xs[i]? = some x → I i σ' H' → ∀ H2, Same H' H2 → tb ⟨I (i + 1), rt, nx, I (i + 1)⟩ ((σ'.set i1 (some (.int (i : Int)))).set i2 (some x)) H2) (hd : ∀ σ' H', I xs.length σ' H' → nx σ' H') :
    ForOk (Ite K a) (gTup K 2 (gCons (gName i1) (gCons (gName i2) gNil))) tb nx rt σ H := by
  refine ⟨fun i m σ' H' => m = xs.length - i ∧ i ≤ xs.length ∧ I i σ' H', ⟨_, rfl, Nat.zero_le _, h0⟩, fun i m σ' H1 ⟨em, hi, w1⟩ => ?_⟩
  have s1 := hI _ _ _ w1
  by_cases hlt : i < xs.length
  · refine .inr ⟨⟨xs, xs[i], s1.seq hx, List.getElem?_eq_getElem hlt⟩, I (i + 1), fun σ2 H2 w2 => ⟨_, by omega, rfl, hlt, w2⟩, fun v H2 y => ?_⟩
    obtain ⟨T, x, rfl, hT, rfl, hy⟩ := y
    have ex := hy xs (s1.seq hx)
    exact ⟨T, _, rfl, SqT.of upd_same, rfl, _, _, rfl, _, _, rfl, rfl, hs i x σ' H1 ex w1 _ (same_new hT)⟩
  · have e : i = xs.length := by omega
    subst e
    exact .inl ⟨⟨xs, s1.seq hx, Nat.le_refl _⟩, hd σ' H1 w1⟩
end
end Sh
/-! data whose tuples have no dict (so that their methods may be called); new tuples are such -/
namespace Sh
open PySem PySem.Spec PyProof.Rows L2
def TupN (H : Hp) (a : Addr) (xs : List V) : Prop := ∃ o : Obj, o.dict = none ∧ H a = some (.frz o (.tup xs))
def SqN (K : PySem.W.Frag) (H : Hp) (a : Addr) (xs : List V) : Prop :=
  TupN H a xs ∨ ∃ (o : Obj) (its : Array Value) (n : Nat), K.lookup a = some o ∧ o.dict = none ∧ o.cls = .type "tuple" ∧ o.data = .seq its n ∧ its.size ≤ sizeLine ∧ Vals xs its.toList
section
variable {K : PySem.W.Frag} {H H' : Hp} {a : Addr} {xs : List V}
theorem SqN.t (h : SqN K H a xs) : SqT K H a xs := by
  rcases h with ⟨o, _, h⟩ | ⟨o, its, n, h1, _, h2, h3, h4, h5⟩
  · exact .inl (.inr ⟨o, h⟩)
  · exact .inr ⟨o, its, n, h1, h2, h3, h4, h5⟩
theorem SqN.of (h : TupN H a xs) : SqN K H a xs := .inl h
theorem TupN.mono (e : Same H H') (h : TupN H a xs) : TupN H' a xs := by
  obtain ⟨o, d, h⟩ := h
  exact ⟨o, d, e _ _ h⟩
theorem same_n (e : Same H H') (h : SqN K H a xs) : SqN K H' a xs := by
  rcases h with h | h
  · exact .inl (h.mono e)
  · exact .inr h
end
/-! ### new ones -/
def NewN (xs : List V) (Q : VK) (H : Hp) : Prop := xs.length ≤ sizeLine ∧ ∀ (p : Addr) (o : Obj), H p = none → o.dict = none → Q (.ref p) (upd H p (.frz o (.tup xs)))
def tTupN (t : TA) : TE := fun σ H Q => t σ H fun xs H1 => NewN xs Q H1
section
variable {X : Cx} {es : List Expr} {t : TA} {pos : Pos}
theorem pe_tupN {x1} (h : PA X es t) : PE X (.Tuple es x1 pos) (tTupN t) := by
  refine ⟨fun pins s σ H Q I hq => ?_⟩
  refine wpAny_Tuple_spliced (thn (h.run pos pins s σ H _ I hq) fun us s1 z0 => ?_)
  obtain ⟨xs, H1, I1, r, z, q⟩ := z0
  refine ⟨by rw [← r.length]; exact z, ?_⟩
  have hf : H1 s1.heap.objs.size = none := I1.hok.fresh (Nat.le_refl _)
  have hg := Heap.get?_push_size s1.heap (o := { cls := .type "tuple", data := .seq us.toArray }) rfl
  exact ⟨.ref s1.heap.objs.size, _, I1.laid (o := .frz { cls := .type "tuple", data := .seq us.toArray } (.tup xs)) (t' := s1.toks) (fun b u e => Heap.get?_push_of_some _ e) (Nat.le_refl _) ⟨hg, z, us, r, ⟨_, hg, rfl, _, rfl⟩⟩, rfl, q _ _ hf rfl⟩
def rTupleOfN (K : PySem.W.Frag) : List V → Hp → VK → Prop := fun xs H Q => ∃ p ys, xs = [.ref p] ∧ ((SqL K H p ys ∧ ∀ (l : Addr) (o : Obj), H l = none → o.dict = none → Q (.ref l) (upd H l (.frz o (.tup ys)))) ∨ (SqT K H p ys ∧ Q (.ref p) H))
theorem call_tuple_ofN : CallR X (.type "tuple") (rTupleOfN X.K) := by
  intro pins s σ H xs us Q I r h
  obtain ⟨p, ys, rfl, h⟩ := h
  obtain ⟨u, rfl, rx⟩ := vals1 r
  cases rx
  rcases h with ⟨hq, q⟩ | ⟨hq, q⟩
  · obtain ⟨its, rv, pl, hz⟩ := I.list hq
    have hlen := rv.length
    refine call_tuple_list pl.isList (fun h' kp => ?_) (by simp only [List.size_toArray] <;> omega)
    have I1 : Inv X pins σ H { s with heap := h' } := I.kept (t' := s.toks) kp
    have hg := Heap.get?_push_size h' (o := { cls := .type "tuple", data := .seq its.toArray }) rfl
    exact ⟨.ref h'.objs.size, _, I1.laid (o := .frz { cls := .type "tuple", data := .seq its.toArray } (.tup ys)) (t' := s.toks) (fun b o e => Heap.get?_push_of_some _ e) (Nat.le_refl _) ⟨hg, hz, its, rv, IsTup.new _ _⟩, rfl, q _ _ (I1.hok.fresh (Nat.le_refl _)) rfl⟩
  · obtain ⟨its, rv, pl, hz⟩ := I.tuple hq
    exact call_tuple_same pl ⟨.ref p, H, I, rfl, q⟩
/-- t + u -/
def rCatN (K : PySem.W.Frag) : R2 := fun x y H Q => ∃ a b xs ys, x = .ref a ∧ y = .ref b ∧ SqT K H a xs ∧ SqT K H b ys ∧ xs.length + ys.length ≤ sizeLine ∧
  (xs = [] → Q (.ref b) H) ∧ (xs ≠ [] → ys = [] → Q (.ref a) H) ∧ (xs ≠ [] → ys ≠ [] → ∀ (p : Addr) (o : Obj), H p = none → o.dict = none → Q (.ref p) (upd H p (.frz o (.tup (xs ++ ys)))))
theorem op_catN : OpR X (binaryOp .Add) (rCatN X.K) := by
  intro pins s σ H x y v u Q I rx ry h
  obtain ⟨a, b, xs, ys, rfl, rfl, ha, hb, hz, q0, q1, q2⟩ := h
  cases rx
  cases ry
  obtain ⟨its, r1, p1, _⟩ := I.tuple ha
  obtain ⟨its2, r2, p2, _⟩ := I.tuple hb
  by_cases hx : xs = []
  · subst hx
    cases r1
    exact cat_tup0 p1 p2 ⟨.ref b, H, I, rfl, q0 rfl⟩
  · refine HT.cat_tup p1 p2 (fun z => hx (r1.nil_iff.mp z)) (fun z => ⟨.ref a, H, I, rfl, q1 hx (r2.nil_iff.mp z)⟩) (fun z => ?_) (by rw [← r1.length, ← r2.length]; exact hz)
    have hg := Heap.get?_push_size s.heap (o := { cls := .type "tuple", data := .seq (its ++ its2).toArray }) rfl
    exact ⟨.ref s.heap.objs.size, _, I.laid (t' := s.toks) (o := .frz { cls := .type "tuple", data := .seq (its ++ its2).toArray } (.tup (xs ++ ys))) (fun b ob q => Heap.get?_push_of_some _ q) (Nat.le_refl _) ⟨hg, by rw [List.length_append]; exact hz, _, r1.append r2, IsTup.new _ _⟩, rfl,
      q2 hx (fun w => z (r2.nil_iff.mpr w)) _ _ (I.hok.fresh (Nat.le_refl _)) rfl⟩
/-- t[lo:hi] -/
def rSlN (K : PySem.W.Frag) : V → Option Int → Option Int → Hp → VK → Prop := fun x lo hi H Q => ∃ a xs, x = .ref a ∧ SqT K H a xs ∧
  (HT.sIx xs.length 0 lo = 0 ∧ HT.sIx xs.length xs.length hi = xs.length → Q (.ref a) H) ∧
  (¬ (HT.sIx xs.length 0 lo = 0 ∧ HT.sIx xs.length xs.length hi = xs.length) → ∀ (p : Addr) (o : Obj), H p = none → o.dict = none → Q (.ref p) (upd H p (.frz o (.tup (cutV xs lo hi)))))
theorem sl_tupN : SlR X (rSlN X.K) := by
  intro pins s σ H x v vl vu lo hi sl Q I rx hs pl pu h
  obtain ⟨a, xs, rfl, hx, q1, q2⟩ := h
  cases rx
  obtain ⟨its, r, ht, hz⟩ := I.tuple hx
  have hlen : its.toArray.size = xs.length := by rw [List.size_toArray]; exact r.length.symm
  refine ⟨"tuple", _, PyProof.Rows.slot_tuple_getitem.lookup, ht.typeIs, ?_⟩
  by_cases hw : HT.sIx xs.length 0 lo = 0 ∧ HT.sIx xs.length xs.length hi = xs.length
  · exact getItem_tuple_whole ht hs pl pu (by rw [hlen]; exact hw) ⟨.ref a, H, I, rfl, q1 hw⟩
  · refine HT.getItem_tuple_cut ht hs pl pu (by rw [hlen]; exact hw) ?_ (by rw [hlen]; exact hz)
    rw [hlen]
    have hg := Heap.get?_push_size s.heap (o := { cls := .type "tuple", data := .seq ((its.drop (HT.sIx xs.length 0 lo)).take (HT.sIx xs.length xs.length hi - HT.sIx xs.length 0 lo)).toArray }) rfl
    exact ⟨.ref s.heap.objs.size, _, I.laid (t' := s.toks) (o := .frz { cls := .type "tuple", data := .seq ((its.drop (HT.sIx xs.length 0 lo)).take (HT.sIx xs.length xs.length hi - HT.sIx xs.length 0 lo)).toArray } (.tup (cutV xs lo hi))) (fun b ob q => Heap.get?_push_of_some _ q) (Nat.le_refl _)
      ⟨hg, Nat.le_trans (cutV_length xs lo hi) hz, _, (r.drop (HT.sIx xs.length 0 lo)).take (HT.sIx xs.length xs.length hi - HT.sIx xs.length 0 lo), IsTup.new _ _⟩, rfl, q2 hw _ _ (I.hok.fresh (Nat.le_refl _)) rfl⟩
/-! ### methods of tuples -/
def TyN (K : PySem.W.Frag) (x : V) (H : Hp) : Prop := ∃ a xs, x = .ref a ∧ SqN K H a xs
theorem tyN_is {pins : List (Addr × Obj)} {σ : L2.St} {H : Hp} {s : Shared} {x : V} {v : Value} (I : Inv X pins σ H s) (r : RelV x v) (ty : TyN X.K x H) : s.TypeIs v "tuple" ∧ ∀ a, v = .ref a → ∃ ob, s.heap.get? a = some ob ∧ ob.dict = none := by
  obtain ⟨a, xs, rfl, h⟩ := ty
  cases r
  obtain ⟨its, rv, pl, _⟩ := I.tuple h.t
  refine ⟨pl.typeIs, fun b e => ?_⟩
  cases e
  rcases h with ⟨o, d, h⟩ | ⟨o, _, _, h, d, _⟩
  · obtain ⟨g, _⟩ := (show ObjOk X.prog X.w H s.heap a (.frz o (.tup xs)) from I.hok a _ h)
    exact ⟨o, g, d⟩
  · exact ⟨o, I.kIn _ _ h, d⟩
def tTM (K : PySem.W.Frag) (r : V → List V → Hp → VK → Prop) (to : TE) (t : TA) : TE := fun σ H Q => to σ H fun x H1 => TyN K x H1 ∧ t σ H1 fun xs H2 => r x xs H2 Q
theorem pe_tm {o e : Expr} {es : List Expr} {to : TE} {t : TA} {name : Str} {apos cpos : Pos} {id : String} {r : V → List V → Hp → VK → Prop} (slot : Slot "tuple" name id) (hty : typeOf (.builtin id) = pure (.type "method_descriptor")) (hm : MtR X id r) (ho : PE X o to) (ha : PA X (e :: es) t)
    (hbase : attributeBase o name X.env (eval o X.env) = eval o X.env := by rfl)
    (hfew : ((backTo cpos (starEach (e :: es) X.env)).all (fun x => !x.1) && (backToKw cpos (keywordEach [] X.env)).all (fun x => x.1.isSome)
      && decide ((e :: es).length + ([] : List Keyword).length + (if ([] : List Keyword).isEmpty then 0 else 1) < 30)) = true := by rfl)
    (hline : (apos.endLine == cpos.line) = true := by rfl) (hs : starEach (e :: es) X.env = (false, eval e X.env) :: starEach es X.env := by rfl) (hplain : (backTo cpos (starEach es X.env)).any (·.1) = false := by rfl) :
    PE X (.Call (.Attribute o name apos) (e :: es) [] cpos) (tTM X.K r to t) := by
  refine ⟨fun pins s σ H Q I h => ?_⟩
  refine wpAny_Call_method_late hbase hfew hline rfl (thn (ho.run pins s σ H _ I h) fun v s1 z => ?_)
  obtain ⟨x, H1, I1, r1, ty, q1⟩ := z
  obtain ⟨h1, h2⟩ := tyN_is I1 r1 ty
  refine ⟨"tuple", id, PySem.F.plainAttrs_tuple, slot, hty, h1, h2, ?_⟩
  have hA := ha.run cpos pins s1 σ H1 _ I1 q1
  rw [hs] at hA ⊢
  refine Calls.callWith_builtin (by show (false || (backTo cpos (starEach es X.env)).any (·.1)) = false; rw [hplain] <;> rfl) (Calls.evalArgs_plain ?_)
  refine thn hA fun us s2 z2 => ?_
  obtain ⟨vs, H2, I2, r2, q2⟩ := z2
  exact hm pins s2 σ H2 x vs v us Q I2 r1 r2 q2
/-- t.index(n) of ints, n among them -/
def rIndexT (K : PySem.W.Frag) : V → List V → Hp → VK → Prop := fun x xs H Q => ∃ (a : Addr) (ns : List Int) (n : Int), x = .ref a ∧ xs = [.int n] ∧ SqT K H a (ns.map V.int) ∧ n ∈ ns ∧ Q (.int (ns.idxOf n : Nat)) H
theorem mt_indexT : MtR X "tuple.index" (rIndexT X.K) := by
  intro pins s σ H x xs v us Q I rx rs h
  obtain ⟨a, ns, n, rfl, rfl, hq, hn, q⟩ := h
  cases rx
  obtain ⟨u, rfl, t, rfl⟩ := vals1 rs
  obtain ⟨its, r, pl, hz⟩ := I.tuple hq
  exact PySem.SeqAt.tuple_index_ints pl (intsAre_of r) hn ⟨.int (ns.idxOf n : Nat), H, I.tok _, ⟨_, rfl⟩, q⟩
end
/-! ### among -/
def rInU (K : PySem.W.Frag) : R2 := fun x y H Q => rIn K false x y H Q ∨ rInS x y H Q
theorem u_in {X : Cx} (_ : X.A.units + 64 < cLine) : OpR X (compareOp .In) (rInU X.K) := opor op_in_seq op_inS
def rNotInU (K : PySem.W.Frag) : R2 := rIn K true
theorem u_notin {X : Cx} (_ : X.A.units + 64 < cLine) : OpR X (compareOp .NotIn) (rNotInU X.K) := op_notIn_seq
theorem inV_ints (n : Int) : ∀ ns : List Int, inV (.int n) (ns.map V.int) = decide (n ∈ ns)
  | [] => rfl
  | m :: r => by
    have z := inV_ints n r
    unfold inV at z ⊢
    rw [List.map_cons, List.any_cons, z]
    show (m == n || decide (n ∈ r)) = decide (n ∈ m :: r)
    by_cases h : m = n
    · subst h
      simp
    · have h2 : ¬ n = m := fun e => h e.symm
      simp [h, h2]
theorem flat_ints (ns : List Int) : (ns.map V.int).all flatV = true := by
  rw [List.all_map]
  exact List.all_eq_true.mpr fun _ _ => rfl
section
variable {K : PySem.W.Frag} {H : Hp} {Q : VK} {σ : L2.St} {a : Addr} {ns : List Int} {n : Int} {xs : List V}
theorem w_inT (h : SqT K H a (ns.map V.int)) (q : Q (.bl (decide (n ∈ ns))) H) : rInU K (.int n) (.ref a) H Q := .inl ⟨a, _, rfl, .inr h, rfl, flat_ints ns, by rw [inV_ints]; exact q⟩
theorem w_inL (h : SqL K H a (ns.map V.int)) (q : Q (.bl (decide (n ∈ ns))) H) : rInU K (.int n) (.ref a) H Q := .inl ⟨a, _, rfl, .inl h, rfl, flat_ints ns, by rw [inV_ints]; exact q⟩
theorem w_ninT (h : SqT K H a (ns.map V.int)) (q : Q (.bl (!decide (n ∈ ns))) H) : rNotInU K (.int n) (.ref a) H Q := ⟨a, _, rfl, .inr h, rfl, flat_ints ns, by rw [inV_ints]; exact q⟩
theorem w_tm {to : TE} {t : TA} {r : V → List V → Hp → VK → Prop} (h : to σ H fun x H1 => TyN K x H1 ∧ t σ H1 fun xs H2 => r x xs H2 Q) : tTM K r to t σ H Q := h
theorem w_tyN {R : Prop} (h : SqN K H a xs) (q : R) : TyN K (.ref a) H ∧ R := ⟨⟨a, xs, rfl, h⟩, q⟩
theorem w_indexT (h : SqT K H a (ns.map V.int)) (hn : n ∈ ns) (q : Q (.int (ns.idxOf n : Nat)) H) : rIndexT K (.ref a) [.int n] H Q := ⟨a, ns, n, rfl, rfl, h, hn, q⟩
theorem w_tupN {tA : TA} (h : tA σ H fun xs H1 => NewN xs Q H1) : tTupN tA σ H Q := h
theorem w_newN (hl : xs.length ≤ sizeLine) (h : ∀ p H', H p = none → Same H H' → TupN H' p xs → Q (.ref p) H') : NewN xs Q H := ⟨hl, fun p o hp hd => h p _ hp (same_new hp) ⟨o, hd, upd_same⟩⟩
theorem w_tupleN (h : SqL K H a xs) (q : ∀ p H', H p = none → Same H H' → TupN H' p xs → Q (.ref p) H') : rTupleOfN K [.ref a] H Q := ⟨a, xs, rfl, .inl ⟨h, fun p o hp hd => q p _ hp (same_new hp) ⟨o, hd, upd_same⟩⟩⟩
theorem w_tupleT (h : SqT K H a xs) (q : Q (.ref a) H) : rTupleOfN K [.ref a] H Q := ⟨a, xs, rfl, .inr ⟨h, q⟩⟩
end
/-! ### sums, cuts -/
def rAddN (K : PySem.W.Frag) : R2 := fun x y H Q => rI0 (fun i j => .int (i + j)) x y H Q ∨ (∃ i j, x = .str i ∧ y = .str j ∧ i.length + j.length ≤ sizeLine ∧ Q (.str (i ++ j)) H) ∨ rCat x y H Q ∨ rCatN K x y H Q
theorem u_addN {X : Cx} : OpR X (binaryOp .Add) (rAddN X.K) := opor op_add (opor op_add_str (opor op_cat op_catN))
def rSlU (K : PySem.W.Frag) : V → Option Int → Option Int → Hp → VK → Prop := fun x lo hi H Q => rSlN K x lo hi H Q ∨ rSlS x lo hi H Q ∨ rSlL K x lo hi H Q
theorem u_sl {X : Cx} : SlR X (rSlU X.K) := .or sl_tupN (.or sl_str sl_list)
/-! ### data -/
mutual
inductive Dq (K : PySem.W.Frag) (H : Hp) : V → PyData → Prop
  | non : Dq K H .non .none
  | bl (b : Bool) : Dq K H (.bl b) (.bool b)
  | int (i : Int) : Dq K H (.int i) (.int i)
  | str (x : Str) : Dq K H (.str x) (.str x)
  | lst {a : Addr} {xs : List V} {ds : List PyData} : SqL K H a xs → DqAll K H xs ds → Dq K H (.ref a) (.list ds)
  | tup {a : Addr} {xs : List V} {ds : List PyData} : SqN K H a xs → DqAll K H xs ds → Dq K H (.ref a) (.tuple ds)
inductive DqAll (K : PySem.W.Frag) (H : Hp) : List V → List PyData → Prop
  | nil : DqAll K H [] []
  | cons {v : V} {vs : List V} {d : PyData} {ds : List PyData} : Dq K H v d → DqAll K H vs ds → DqAll K H (v :: vs) (d :: ds)
end
mutual
theorem dq_dp {K : PySem.W.Frag} {H : Hp} : ∀ {v : V} {d : PyData}, Dq K H v d → Dp K H v d
  | _, _, .non => .non
  | _, _, .bl b => .bl b
  | _, _, .int i => .int i
  | _, _, .str x => .str x
  | _, _, .lst h r => .lst h (dqs_dp r)
  | _, _, .tup h r => .tup h.t (dqs_dp r)
theorem dqs_dp {K : PySem.W.Frag} {H : Hp} : ∀ {vs : List V} {ds : List PyData}, DqAll K H vs ds → DpAll K H vs ds
  | _, _, .nil => .nil
  | _, _, .cons h r => .cons (dq_dp h) (dqs_dp r)
end
mutual
theorem dq_mono {K : PySem.W.Frag} {H H' : Hp} (e : Same H H') : ∀ {v : V} {d : PyData}, Dq K H v d → Dq K H' v d
  | _, _, .non => .non
  | _, _, .bl b => .bl b
  | _, _, .int i => .int i
  | _, _, .str x => .str x
  | _, _, .lst h r => .lst (e.seq h) (dqs_mono e r)
  | _, _, .tup h r => .tup (same_n e h) (dqs_mono e r)
theorem dqs_mono {K : PySem.W.Frag} {H H' : Hp} (e : Same H H') : ∀ {vs : List V} {ds : List PyData}, DqAll K H vs ds → DqAll K H' vs ds
  | _, _, .nil => .nil
  | _, _, .cons h r => .cons (dq_mono e h) (dqs_mono e r)
end
theorem dqs_len {K : PySem.W.Frag} {H : Hp} {vs : List V} {ds : List PyData} (h : DqAll K H vs ds) : vs.length = ds.length := dps_len (dqs_dp h)
theorem dqs_get {K : PySem.W.Frag} {H : Hp} : ∀ {vs : List V} {ds : List PyData} {i : Nat} {d : PyData}, DqAll K H vs ds → ds[i]? = some d → ∃ v, vs[i]? = some v ∧ Dq K H v d
  | _, _, _, _, .nil, e => by simp at e
  | _, _, 0, _, .cons (v := v) h _, e => by
    simp at e
    subst e
    exact ⟨v, rfl, h⟩
  | _, _, i + 1, d, .cons _ r, e => by
    obtain ⟨v, h1, h2⟩ := dqs_get (i := i) (d := d) r (by simpa using e)
    exact ⟨v, by simpa using h1, h2⟩
theorem dqs_get2 {K : PySem.W.Frag} {H : Hp} {vs : List V} {ds : List PyData} {i : Nat} {v : V} (r : DqAll K H vs ds) (e : vs[i]? = some v) : ∃ d, ds[i]? = some d ∧ Dq K H v d := by
  have hl := dqs_len r
  have hi := (List.getElem?_eq_some_iff.mp e).1
  have e2 : ds[i]? = some (ds[i]'(hl ▸ hi)) := List.getElem?_eq_getElem _
  obtain ⟨v2, h1, h2⟩ := dqs_get r e2
  rw [e] at h1
  cases h1
  exact ⟨_, e2, h2⟩
theorem dqs_app {K : PySem.W.Frag} {H : Hp} : ∀ {vs ws : List V} {ds es : List PyData}, DqAll K H vs ds → DqAll K H ws es → DqAll K H (vs ++ ws) (ds ++ es)
  | _, _, _, _, .nil, s => s
  | _, _, _, _, .cons h r, s => .cons h (dqs_app r s)
theorem dqs_ints {K : PySem.W.Frag} {H : Hp} : ∀ ns : List Int, DqAll K H (ns.map V.int) (ns.map PyData.int)
  | [] => .nil
  | n :: r => .cons (.int n) (dqs_ints r)
theorem dqs_at {K : PySem.W.Frag} {H : Hp} {vs : List V} {ds : List PyData} {i : Int} {d : PyData} (r : DqAll K H vs ds) (e : atI ds i = some d) : ∃ v, atI vs i = some v ∧ Dq K H v d := by
  unfold atI at e ⊢
  rw [dqs_len r]
  cases q : ixN ds.length i with
  | none => rw [q] at e; cases e
  | some j =>
    rw [q] at e
    exact dqs_get r e
end Sh
/-! data: tuples of data, cuts, sums; the shapes -/
namespace Sh
open PySem PySem.Spec PyProof.Rows L2
section
variable {K : PySem.W.Frag} {σ : L2.St} {H H' : Hp} {Q : VK} {v u : V} {d : PyData} {te : TE} {tA : TA} {tl th : TO} {a D : Addr} {xs ys : List V}
/-! ### data that a change of a list does not touch -/
mutual
def tupO : PyData → Prop
  | .list _ => False
  | .dict _ => False
  | .tuple ds => tupOs ds
  | _ => True
def tupOs : List PyData → Prop
  | [] => True
  | d :: r => tupO d ∧ tupOs r
end
theorem sqn_lst {o : HO} (h : SqN K H a xs) (e : H D = some (.lst ys)) : SqN K (upd H D o) a xs := by
  rcases h with ⟨b, hd, h⟩ | h
  · refine .inl ⟨b, hd, ?_⟩
    rw [upd_ne fun z => by rw [z, e] at h; cases h]
    exact h
  · exact .inr h
mutual
theorem dq_lst {o : HO} (e : H D = some (.lst ys)) : ∀ {v : V} {d : PyData}, Dq K H v d → tupO d → Dq K (upd H D o) v d
  | _, _, .non, _ => .non
  | _, _, .bl b, _ => .bl b
  | _, _, .int i, _ => .int i
  | _, _, .str x, _ => .str x
  | _, _, .lst _ _, z => (show False from z).elim
  | _, _, .tup h r, z => .tup (sqn_lst h e) (dqs_lst e r z)
theorem dqs_lst {o : HO} (e : H D = some (.lst ys)) : ∀ {vs : List V} {ds : List PyData}, DqAll K H vs ds → tupOs ds → DqAll K (upd H D o) vs ds
  | _, _, .nil, _ => .nil
  | _, _, .cons h r, z => .cons (dq_lst e h z.1) (dqs_lst e r z.2)
end
theorem tupOs_of : ∀ {ds : List PyData}, (∀ d ∈ ds, tupO d) → tupOs ds
  | [], _ => trivial
  | _ :: _, h => ⟨h _ List.mem_cons_self, tupOs_of fun d hd => h d (List.mem_cons_of_mem _ hd)⟩
theorem tupOs_ints (ns : List Int) : tupOs (ns.map PyData.int) := tupOs_of fun d hd => by
  obtain ⟨n, _, rfl⟩ := List.mem_map.mp hd
  trivial
/-! ### ints -/
theorem dq_int {i : Int} (h : Dq K H v (.int i)) : v = .int i := by cases h; rfl
theorem dq_str {x : Str} (h : Dq K H v (.str x)) : v = .str x := by cases h; rfl
theorem dq_bl {b : Bool} (h : Dq K H v (.bool b)) : v = .bl b := by cases h; rfl
theorem dq_non (h : Dq K H v .none) : v = .non := by cases h; rfl
theorem dqs_int_of : ∀ {vs : List V} {ns : List Int}, DqAll K H vs (ns.map PyData.int) → vs = ns.map V.int
  | _, [], h => by cases h; rfl
  | _, n :: r, h => by
    cases h with
    | cons h1 h2 => rw [dq_int h1, dqs_int_of h2]; rfl
theorem dq_ti {ns : List Int} (h : Dq K H v (.tuple (ns.map PyData.int))) : ∃ a, v = .ref a ∧ SqN K H a (ns.map V.int) := by
  cases h with
  | tup h r => exact ⟨_, rfl, by rw [← dqs_int_of r]; exact h⟩
theorem dq_ofN {ns : List Int} (h : TupN H a (ns.map V.int)) : Dq K H (.ref a) (.tuple (ns.map PyData.int)) := .tup (.inl h) (dqs_ints ns)
theorem dq_tt {ds : List PyData} (h : Dq K H v (.tuple ds)) : ∃ a xs, v = .ref a ∧ SqN K H a xs ∧ DqAll K H xs ds := by
  cases h with
  | tup h r => exact ⟨_, _, rfl, h, r⟩
theorem dq_ll {ds : List PyData} (h : Dq K H v (.list ds)) : ∃ a xs, v = .ref a ∧ SqL K H a xs ∧ DqAll K H xs ds := by
  cases h with
  | lst h r => exact ⟨_, _, rfl, h, r⟩
theorem dq_new {ds : List PyData} (h : TupN H a xs) (r : DqAll K H xs ds) : Dq K H (.ref a) (.tuple ds) := .tup (.inl h) r
theorem dq_newl {ds : List PyData} (h : H a = some (.lst xs)) (r : DqAll K H xs ds) : Dq K H (.ref a) (.list ds) := .lst (SqL.of h) r
theorem dqs_one (h : Dq K H v d) : DqAll K H [v] [d] := .cons h .nil
theorem dqs_two {d2 : PyData} (h : Dq K H v d) (h2 : Dq K H u d2) : DqAll K H [v, u] [d, d2] := .cons h (.cons h2 .nil)
theorem dqs_mem {vs : List V} {ds : List PyData} {P : PyData → Prop} (r : DqAll K H vs ds) (h : ∀ d ∈ ds, P d) : ∀ x ∈ vs, ∃ d, Dq K H x d ∧ P d := fun x hx => by
  obtain ⟨i, hi⟩ := List.getElem?_of_mem hx
  obtain ⟨d, h1, h2⟩ := dqs_get2 r hi
  exact ⟨d, h2, h d (List.mem_of_getElem? h1)⟩
/-! ### items, lengths -/
theorem w_ixQL {ds : List PyData} {i : Int} (h : Dq K H v (.list ds)) (e : atI ds i = some d) (q : ∀ x, Dq K H x d → Q x H) : rIxU K v (.int i) H Q := by
  cases h with
  | lst h r =>
    obtain ⟨x, e1, e2⟩ := dqs_at r e
    exact w_ixl h e1 (q x e2)
theorem w_ixQT {ds : List PyData} {i : Int} (h : Dq K H v (.tuple ds)) (e : atI ds i = some d) (q : ∀ x, Dq K H x d → Q x H) : rIxU K v (.int i) H Q := by
  cases h with
  | tup h r =>
    obtain ⟨x, e1, e2⟩ := dqs_at r e
    exact w_ixt h.t e1 (q x e2)
theorem w_ixQTi {ds : List PyData} {i n : Int} (h : Dq K H v (.tuple ds)) (e : atI ds i = some (.int n)) (q : Q (.int n) H) : rIxU K v (.int i) H Q := w_ixQT h e fun x hx => by
  rw [dq_int hx]
  exact q
theorem w_ixQTs {ds : List PyData} {i : Int} {z : Str} (h : Dq K H v (.tuple ds)) (e : atI ds i = some (.str z)) (q : Q (.str z) H) : rIxU K v (.int i) H Q := w_ixQT h e fun x hx => by
  rw [dq_str hx]
  exact q
theorem w_lenQT {ds : List PyData} (h : Dq K H v (.tuple ds)) (q : Q (.int ds.length) H) : rLenU K [v] H Q := by
  cases h with
  | tup h r => exact w_lenT h.t (by rw [dqs_len r]; exact q)
theorem w_lenQL {ds : List PyData} (h : Dq K H v (.list ds)) (q : Q (.int ds.length) H) : rLenU K [v] H Q := by
  cases h with
  | lst h r => exact w_lenL h (by rw [dqs_len r]; exact q)
theorem w_tyQT {ds : List PyData} {R : Prop} (h : Dq K H v (.tuple ds)) (q : R) : TyN K v H ∧ R := by
  cases h with
  | tup h r => exact ⟨⟨_, _, rfl, h⟩, q⟩
/-! ### cuts -/
theorem w_sl (h : te σ H fun x H1 => tl σ H1 fun l H2 => th σ H2 fun u H3 => rSlU K x l u H3 Q) : tSl (rSlU K) te tl th σ H Q := h
theorem w_nopart {k : Option Int → Hp → Prop} (h : k none H) : tNoPart σ H k := h
theorem w_part {k : Option Int → Hp → Prop} (h : te σ H fun x H1 => ∃ i, x = .int i ∧ k (some i) H1) : tPart te σ H k := h
theorem w_ii {k : Int → Prop} {i : Int} (h : k i) : ∃ j, V.int i = .int j ∧ k j := ⟨i, rfl, h⟩
def cutD {α : Type} (xs : List α) (lo hi : Option Int) : List α := (xs.drop (HT.sIx xs.length 0 lo)).take (HT.sIx xs.length xs.length hi - HT.sIx xs.length 0 lo)
theorem dqs_drop : ∀ {vs : List V} {ds : List PyData} (n : Nat), DqAll K H vs ds → DqAll K H (vs.drop n) (ds.drop n)
  | _, _, 0, r => r
  | _, _, _ + 1, .nil => .nil
  | _, _, n + 1, .cons _ r => dqs_drop n r
theorem dqs_take : ∀ {vs : List V} {ds : List PyData} (n : Nat), DqAll K H vs ds → DqAll K H (vs.take n) (ds.take n)
  | _, _, 0, r => .nil
  | _, _, _ + 1, .nil => .nil
  | _, _, n + 1, .cons h r => .cons h (dqs_take n r)
theorem dqs_cut {ds : List PyData} {lo hi : Option Int} (r : DqAll K H xs ds) : DqAll K H (cutV xs lo hi) (cutD ds lo hi) := by
  unfold cutV cutD
  rw [dqs_len r]
  exact dqs_take _ (dqs_drop _ r)
theorem w_slQT {ds : List PyData} {lo hi : Option Int} (h : Dq K H v (.tuple ds)) (q : ∀ x H', Same H H' → Dq K H' x (.tuple (cutD ds lo hi)) → Q x H') : rSlU K v lo hi H Q := by
  obtain ⟨a, xs, rfl, hs, r⟩ := dq_tt h
  refine .inl ⟨a, xs, rfl, hs.t, fun hw => q _ _ (Same.refl _) (.tup hs ?_), fun _ p o hp hd => q _ _ (same_new hp) (.tup (SqN.of ⟨o, hd, upd_same⟩) (dqs_mono (same_new hp) (dqs_cut r)))⟩
  rw [dqs_len r] at hw
  have e : cutD ds lo hi = ds := by
    unfold cutD
    rw [hw.1, hw.2]
    simp
  rw [e]
  exact r
theorem w_slQL {ds : List PyData} {lo hi : Option Int} (h : Dq K H v (.list ds)) (q : ∀ x H', Same H H' → Dq K H' x (.list (cutD ds lo hi)) → Q x H') : rSlU K v lo hi H Q := by
  obtain ⟨a, xs, rfl, hs, r⟩ := dq_ll h
  exact .inr (.inr ⟨a, xs, rfl, hs, fun p hp => q _ _ (same_new hp) (.lst (SqL.of upd_same) (dqs_mono (same_new hp) (dqs_cut r)))⟩)
theorem w_slS {z : Str} {lo hi : Option Int} (h : z.length ≤ sizeLine) (q : Q (.str (cutS z lo hi)) H) : rSlU K (.str z) lo hi H Q := .inr (.inl ⟨z, rfl, h, q⟩)
theorem six_of {n i : Nat} (d : Nat) (h : i ≤ n) : HT.sIx n d (some (i : Int)) = i := by
  unfold HT.sIx
  dsimp only
  rw [if_neg (by omega)]
  omega
theorem cutD_to {α : Type} {xs : List α} {i : Int} (h0 : 0 ≤ i) (h1 : i ≤ xs.length) : cutD xs none (some i) = xs.take i.toNat := by
  obtain ⟨n, rfl⟩ : ∃ n : Nat, i = n := ⟨i.toNat, by omega⟩
  unfold cutD
  rw [six_of _ (by omega)]
  simp [HT.sIx]
theorem cutD_from {α : Type} {xs : List α} {i : Int} (h0 : 0 ≤ i) (h1 : i ≤ xs.length) : cutD xs (some i) none = xs.drop i.toNat := by
  obtain ⟨n, rfl⟩ : ∃ n : Nat, i = n := ⟨i.toNat, by omega⟩
  unfold cutD
  rw [six_of _ (by omega)]
  show (xs.drop n).take (xs.length - n) = _
  rw [List.take_of_length_le (by rw [List.length_drop]; exact Nat.le_refl _), Int.toNat_natCast]
/-! ### sums of tuples -/
theorem w_catQT {ds es : List PyData} (h : Dq K H v (.tuple ds)) (h' : Dq K H u (.tuple es)) (hl : ds.length + es.length ≤ sizeLine) (q : ∀ x H', Same H H' → Dq K H' x (.tuple (ds ++ es)) → Q x H') : rAddN K v u H Q := by
  obtain ⟨a, xs, rfl, hs, r⟩ := dq_tt h
  obtain ⟨b, ys, rfl, hs', r'⟩ := dq_tt h'
  have l1 := dqs_len r
  have l2 := dqs_len r'
  refine .inr (.inr (.inr ⟨a, b, xs, ys, rfl, rfl, hs.t, hs'.t, by omega, fun e => ?_, fun _ e => ?_, fun _ _ p o hp hd => q _ _ (same_new hp) (.tup (SqN.of ⟨o, hd, upd_same⟩) (dqs_mono (same_new hp) (dqs_app r r')))⟩))
  · subst e
    cases r
    exact q _ _ (Same.refl _) h'
  · subst e
    cases r'
    rw [List.append_nil] at q
    exact q _ _ (Same.refl _) h
theorem w_addN {i j : Int} (h : Q (.int (i + j)) H) : rAddN K (.int i) (.int j) H Q := .inl ⟨i, j, rfl, rfl, h⟩
theorem w_addsN {x y : Str} (hl : x.length + y.length ≤ sizeLine) (h : Q (.str (x ++ y)) H) : rAddN K (.str x) (.str y) H Q := .inr (.inl ⟨x, y, rfl, rfl, hl, h⟩)
/-! ### the list that grows -/
theorem w_bm {T : String} {r : V → List V → Hp → VK → Prop} {to : TE} (h : to σ H fun x H1 => tyV K T x H1 ∧ tA σ H1 fun xs H2 => r x xs H2 Q) : tBM K T r to tA σ H Q := h
theorem w_tyL {R : Prop} (h : H a = some (.lst xs)) (q : R) : tyV K "list" (.ref a) H ∧ R := ⟨.inl ⟨rfl, xs, SqL.of h⟩, q⟩
theorem w_append {y : V} (h : H a = some (.lst xs)) (hl : xs.length < 1000000) (q : Q .non (upd H a (.lst (xs ++ [y])))) : rAppend (.ref a) [y] H Q := ⟨a, xs, y, rfl, rfl, h, Nat.lt_trans hl (by decide), q⟩
theorem pot_lst {W : Wd} {o : HO} (h : PotAt W H v) (e : H D = some (.lst ys)) : PotAt W (upd H D o) v := by
  obtain ⟨p, rfl, h⟩ := h
  refine ⟨p, rfl, ?_⟩
  rw [upd_ne fun z => by rw [z, e] at h; cases h]
  exact h
theorem w_irest {R : Prop} {k : Prop} (h : k) (q : R) : k ∧ R := ⟨h, q⟩
end
section
variable {K : PySem.W.Frag} {σ : L2.St} {H : Hp} {tb : TS} {nx : L2.St → Hp → Prop} {rt : VK} {a : Addr} {xs : List V} {i1 i2 : Nat}
theorem forEL2 (I : Nat → L2.St → Hp → Prop) (h0 : I 0 σ H) (hI : ∀ i σ' H', I i σ' H' → SqL K H' a xs)
    (hs : ∀ (i : Nat) x σ' H', xs[i]? = some x → I i σ' H' → ∀ H2, Same H' H2 → tb ⟨I (i + 1), rt, nx, I (i + 1)⟩ ((σ'.set i1 (some (.int (i : Int)))).set i2 (some x)) H2) (hd : ∀ σ' H', I xs.length σ' H' → nx σ' H') :
    ForOk (Ite K a) (gTup K 2 (gCons (gName i1) (gCons (gName i2) gNil))) tb nx rt σ H := by
  refine ⟨fun i m σ' H' => m = xs.length - i ∧ i ≤ xs.length ∧ I i σ' H', ⟨_, rfl, Nat.zero_le _, h0⟩, fun i m σ' H1 ⟨em, hi, w1⟩ => ?_⟩
  have s1 := hI _ _ _ w1
  by_cases hlt : i < xs.length
  · refine .inr ⟨⟨xs, xs[i], s1, List.getElem?_eq_getElem hlt⟩, I (i + 1), fun σ2 H2 w2 => ⟨_, by omega, rfl, hlt, w2⟩, fun v H2 y => ?_⟩
    obtain ⟨T, x, rfl, hT, rfl, hy⟩ := y
    have ex := hy xs s1
    exact ⟨T, _, rfl, SqT.of upd_same, rfl, _, _, rfl, _, _, rfl, rfl, hs i x σ' H1 ex w1 _ (same_new hT)⟩
  · have e : i = xs.length := by omega
    subst e
    exact .inl ⟨⟨xs, s1, Nat.le_refl _⟩, hd σ' H1 w1⟩
theorem none_of {H H' : Hp} {D : Addr} (e : Same H H') (h : H' D = none) : H D = none := by
  cases hc : H D with
  | none => rfl
  | some u => rw [e _ _ hc] at h; cases h
end
section
variable {K : PySem.W.Frag} {H : Hp} {Q : VK} {v : V} {i : Int}
theorem atI_get {α : Type} {l : List α} (h0 : 0 ≤ i) (h1 : i < l.length) : ∃ x, l[i.toNat]? = some x ∧ atI l i = some x := by
  have hn : i.toNat < l.length := by omega
  refine ⟨l[i.toNat], List.getElem?_eq_getElem hn, ?_⟩
  unfold atI ixN
  rw [if_pos h0, if_pos (by omega)]
  simp [List.getElem?_eq_getElem hn]
theorem w_ixM {α : Type} {g : α → PyData} {l : List α} (h : Dq K H v (.tuple (l.map g))) (h0 : 0 ≤ i) (h1 : i < l.length) (q : ∀ f x, l[i.toNat]? = some f → Dq K H x (g f) → Q x H) : rIxU K v (.int i) H Q := by
  obtain ⟨f, e, e2⟩ := atI_get h0 h1
  exact w_ixQT h (d := g f) (by rw [atI_map, e2]; rfl) fun x hx => q f x e hx
theorem atI_mem {α : Type} {l : List α} (h0 : -(l.length : Int) ≤ i) (h1 : i < l.length) : ∃ x, atI l i = some x ∧ x ∈ l := by
  by_cases c : 0 ≤ i
  · exact atI_of c h1
  · have hn : (i + l.length).toNat < l.length := by omega
    refine ⟨l[(i + l.length).toNat], ?_, List.getElem_mem hn⟩
    unfold atI ixN
    rw [if_neg c, if_pos h0]
    simp [List.getElem?_eq_getElem hn]
theorem w_ixMm {α : Type} {g : α → PyData} {l : List α} (h : Dq K H v (.tuple (l.map g))) (h0 : -(l.length : Int) ≤ i) (h1 : i < l.length) (q : ∀ f x, f ∈ l → Dq K H x (g f) → Q x H) : rIxU K v (.int i) H Q := by
  obtain ⟨f, e, hm⟩ := atI_mem h0 h1
  exact w_ixQT h (d := g f) (by rw [atI_map, e]; rfl) fun x hx => q f x hm hx
theorem w_ixMim {l : List Int} (h : Dq K H v (.tuple (l.map PyData.int))) (h0 : -(l.length : Int) ≤ i) (h1 : i < l.length) (q : ∀ n, n ∈ l → Q (.int n) H) : rIxU K v (.int i) H Q :=
  w_ixMm h h0 h1 fun f x hm hx => by
    rw [dq_int hx]
    exact q f hm
theorem w_ixMi {l : List Int} (h : Dq K H v (.tuple (l.map PyData.int))) (h0 : 0 ≤ i) (h1 : i < l.length) (q : ∀ n, l[i.toNat]? = some n → Q (.int n) H) : rIxU K v (.int i) H Q :=
  w_ixM h h0 h1 fun f x e hx => by
    rw [dq_int hx]
    exact q f e
theorem w_lenQTm {α : Type} {g : α → PyData} {l : List α} (h : Dq K H v (.tuple (l.map g))) (q : Q (.int l.length) H) : rLenU K [v] H Q := w_lenQT h (by
  rw [List.length_map]
  exact q)
theorem w_lenQLm {α : Type} {g : α → PyData} {l : List α} (h : Dq K H v (.list (l.map g))) (q : Q (.int l.length) H) : rLenU K [v] H Q := w_lenQL h (by
  rw [List.length_map]
  exact q)
theorem w_it {p A B : Prop} [Decidable p] (h : p) (q : A) : if decide p = true then A else B := by
  rw [decide_eq_true h]
  exact iteT q
theorem w_if {p A B : Prop} [Decidable p] (h : ¬ p) (q : B) : if decide p = true then A else B := by
  rw [decide_eq_false h]
  exact iteF q
theorem w_cut {t : TT} {ts tz : TS} {nx bk ct : L2.St → Hp → Prop} {rt : VK} {σ : L2.St} (P : L2.St → Hp → Prop) (hz : ∀ σ' H', P σ' H' → nx σ' H') (h : ∀ nx' : L2.St → Hp → Prop, (∀ σ' H', P σ' H' → nx' σ' H') → t σ H fun b H1 => if b = true then ts ⟨nx', rt, bk, ct⟩ σ H1 else tz ⟨nx', rt, bk, ct⟩ σ H1) : tIfS t ts tz ⟨nx, rt, bk, ct⟩ σ H := h nx hz
theorem w_neb {b c : Bool} (h : Q (.bl (!decide (b = c))) H) : rNeU K (.bl b) (.bl c) H Q := .inl ⟨rfl, by
  have e : decide (V.bl b = V.bl c) = decide (b = c) := by cases b <;> cases c <;> rfl
  rw [e]
  exact h⟩
theorem w_eqb {b c : Bool} (h : Q (.bl (decide (b = c))) H) : rEqU K (.bl b) (.bl c) H Q := .inl ⟨rfl, by
  have e : decide (V.bl b = V.bl c) = decide (b = c) := by cases b <;> cases c <;> rfl
  rw [e]
  exact h⟩
theorem w_same {A B : Prop} [Decidable A] [Decidable B] {D E : Prop} (h : A ↔ B) (q : E) : if (!decide (decide A = decide B)) = true then D else E := by
  have e : decide A = decide B := by rw [decide_eq_decide]; exact h
  rw [e, decide_eq_true (rfl : decide B = decide B)]
  exact iteF q
theorem w_same2 {A B : Prop} [Decidable A] [Decidable B] {D E : Prop} (h : A ↔ B) (q : E) : if decide (decide A = decide B) = true then E else D := by
  have e : decide A = decide B := by rw [decide_eq_decide]; exact h
  rw [e, decide_eq_true (rfl : decide B = decide B)]
  exact iteT q
end
/-! ### the shapes -/
inductive Kd where
  | still
  | drawn
  | step (n : Int)
  | turn (ns : List Int)
  | wth (p b : Int)
def kdD : Kd → PyData
  | .still => .tuple [.str "still"]
  | .drawn => .tuple [.str "drawn"]
  | .step n => .tuple [.str "step", .int n]
  | .turn ns => .tuple [.str "turn", .tuple (ns.map .int)]
  | .wth p b => .tuple [.str "with", .int p, .int b]
structure Fd where
  nm : Str
  br : Int
  kd : Kd
def fdD (f : Fd) : PyData := .tuple [.str f.nm, .int f.br, kdD f.kd]
structure Shp where
  fs : List Fd
  m : Int
def shD (s : Shp) : PyData := .tuple [.tuple (s.fs.map fdD), .int s.m]
def OkKd (place : Nat) (b : Int) : Kd → Prop
  | .still => True
  | .drawn => True
  | .step n => 0 ≤ n ∧ n < p2 b
  | .turn ns => 2 ≤ ns.length ∧ ns.length ≤ 12 ∧ (∀ n ∈ ns, 0 ≤ n ∧ n < p2 b) ∧ ns.Nodup
  | .wth p z => 0 ≤ p ∧ p < place ∧ -99 ≤ z ∧ z ≤ 99
def OkNm (z : Str) : Prop := 1 ≤ z.length ∧ z.length ≤ 8 ∧ ∀ c ∈ z.cps.toList, 97 ≤ c ∧ c ≤ 122
structure OkFd (place : Nat) (f : Fd) : Prop where
  nm : OkNm f.nm
  b0 : 1 ≤ f.br
  b1 : f.br ≤ 40
  kd : OkKd place f.br f.kd
structure OkShp (s : Shp) : Prop where
  l0 : 1 ≤ s.fs.length
  l1 : s.fs.length ≤ 12
  fd : ∀ i f, s.fs[i]? = some f → OkFd i f
  nd : (s.fs.map Fd.nm).Nodup
  m0 : 1 ≤ s.m
  m1 : s.m ≤ 1000000
theorem tupO_kd (k : Kd) : tupO (kdD k) := by
  cases k with
  | turn ns => exact ⟨trivial, tupOs_ints ns, trivial⟩
  | _ => simp [kdD, tupO, tupOs]
theorem tupO_fd (f : Fd) : tupO (fdD f) := ⟨trivial, trivial, tupO_kd _, trivial⟩
theorem tupO_fds (fs : List Fd) : tupOs (fs.map fdD) := tupOs_of fun d hd => by
  obtain ⟨n, _, rfl⟩ := List.mem_map.mp hd
  exact tupO_fd n
/-- heads of a shape -/
def OkHead : List Fd → List Int → Prop
  | [], [] => True
  | f :: fs, n :: ns => (0 ≤ n ∧ n < p2 f.br) ∧ OkHead fs ns
  | _, _ => False
theorem okHead_len : ∀ {fs : List Fd} {ns : List Int}, OkHead fs ns → ns.length = fs.length
  | [], [], _ => rfl
  | _ :: _, _ :: _, h => congrArg (· + 1) (okHead_len h.2)
  | [], _ :: _, h => h.elim
  | _ :: _, [], h => h.elim
theorem okHead_get : ∀ {fs : List Fd} {ns : List Int} {i : Nat} {f : Fd} {n : Int}, OkHead fs ns → fs[i]? = some f → ns[i]? = some n → 0 ≤ n ∧ n < p2 f.br
  | f :: _, n :: _, 0, _, _, h, e1, e2 => by
    simp at e1 e2
    subst e1 e2
    exact h.1
  | _ :: _, _ :: _, i + 1, _, _, h, e1, e2 => okHead_get (i := i) h.2 (by simpa using e1) (by simpa using e2)
  | [], [], _, _, _, _, e1, _ => by simp at e1
  | [], _ :: _, _, _, _, h, _, _ => h.elim
  | _ :: _, [], _, _, _, h, _, _ => h.elim
theorem okHead_snoc : ∀ {fs : List Fd} {ns : List Int} {f : Fd} {n : Int}, OkHead fs ns → 0 ≤ n → n < p2 f.br → OkHead (fs ++ [f]) (ns ++ [n])
  | [], [], _, _, _, h0, h1 => ⟨⟨h0, h1⟩, trivial⟩
  | _ :: _, _ :: _, _, _, h, h0, h1 => ⟨h.1, okHead_snoc h.2 h0 h1⟩
  | [], _ :: _, _, _, h, _, _ => h.elim
  | _ :: _, [], _, _, h, _, _ => h.elim
/-- r is the value so many places on in its row, going round -/
def GoneR (ns : List Int) (v m r : Int) : Prop := (v ∉ ns → r = v) ∧ (v ∈ ns → ns[((((ns.idxOf v : Nat) : Int) + m) % (ns.length : Int)).toNat]? = some r)
theorem GoneR.one {ns : List Int} {v m r r' : Int} (h : GoneR ns v m r) (h' : GoneR ns v m r') : r = r' := by
  by_cases c : v ∈ ns
  · exact Option.some.inj ((h.2 c).symm.trans (h'.2 c))
  · rw [h.1 c, h'.1 c]
/-- r is what the field's kind lets look for, ahead of the rest -/
def ExpK (fo ah : List Int) (more v : Int) : Kd → Int → Prop
  | .still, r => r = v
  | .drawn, r => r = v
  | .step n, r => r = v + more * n
  | .turn ns, r => GoneR ns v more r
  | .wth p b, r => ∃ x y, ah[p.toNat]? = some x ∧ fo[p.toNat]? = some y ∧ r = v + b * (x - y)
theorem ExpK.one {fo ah : List Int} {more v : Int} {k : Kd} {r r' : Int} (h : ExpK fo ah more v k r) (h' : ExpK fo ah more v k r') : r = r' := by
  cases k with
  | turn ns => exact GoneR.one h h'
  | wth p b =>
    obtain ⟨x, y, e1, e2, rfl⟩ := h
    obtain ⟨x', y', e3, e4, rfl⟩ := h'
    obtain rfl := Option.some.inj (e1.symm.trans e3)
    obtain rfl := Option.some.inj (e2.symm.trans e4)
    rfl
  | _ => exact Eq.trans h (Eq.symm h')
end Sh
/-! set(xs) of a list of ints -/
namespace ShS
open PySem Sem PySem.Spec PyProof.Rows L2
/-- a set as it begins -/
abbrev ob0 (w : World) : Obj := { cls := .type "set", dict := none, data := .set #[] 0 (.fresh 0 0 (!w.params.followText "set-order")) }
/-- a list's iterator as it begins -/
abbrev it0 (l : Addr) : Obj := { cls := .type "list_iterator", data := .fields #[.ref l, .int 0 0] }
section
variable {P : Program} {w : World} {A : Around} {E : Value → Shared → Prop} {s : Shared}
set_option maxRecDepth 100000 in
set_option maxHeartbeats 3200000 in
theorem setL_call {l : Addr} {xs : Array Value} (ns : List Int) {Q : Value → Shared → Prop} (hc : A.handled = none) (pl : s.heap.IsList l xs) (hx : IntsAre xs.toList ns) (few : ns.length + 1 < scanBound)
    (q : ∀ (h2 : Heap) (t2 c : Nat), SetR w h2 s.heap.objs.size (fun j => decide (j ∈ ns)) c → c ≤ ns.length → (∀ b o, s.heap.get? b = some o → h2.get? b = some o) → Q (.ref s.heap.objs.size) { s with heap := h2, toks := t2 }) :
    wpAny (model P w) A (call (.type "set") [.ref l]) Q E s := by
  have exz : xs.size = ns.length := (Array.length_toList (xs := xs)).symm.trans (IntsAre.length hx)
  obtain ⟨mc, ml, hmro⟩ := F.called_set.mro
  have f1 := F.called_set.made
  have f2 := F.called_set.sub
  have f3 := F.called_set.notType
  have f4 := F.called_set.canCreate
  have f5 := F.typeCall_set_1 (.ref l)
  refine wpAny_call (codeAny_of_tree ?_)
  show wpAny _ _ (callAny (.type "set") _) _ _ _
  refine wpAny_pure ⟨Code.quiet_builtin _ (by decide +kernel), codeAny_builtin F.entry_type_call ?_⟩
  rw [Around.under_plain (weight_type_call_type "set" [.ref l] []) rfl]
  repeat (any_goals (first | assumption | wp_step))
  refine codeAny_mono (code_set_led1 (.ref l) (E := E) (Q₁ := fun o2 s2 => o2 = .ref s.heap.objs.size ∧ s2 = { s with heap := s.heap.push (ob0 w) }) ⟨rfl, rfl⟩) fun r s1 hr => ?_
  cases r with
  | error e => exact hr
  | ok fl =>
    cases fl with
    | ret o2 =>
      obtain ⟨rfl, rfl⟩ := hr
      have g0 : (s.heap.push (ob0 w)).get? s.heap.objs.size = some (ob0 w) := Heap.get?_push_size _ rfl
      have g1 : Shared.TypeIs { s with heap := s.heap.push (ob0 w) } (.ref s.heap.objs.size) "set" := ⟨_, g0, rfl⟩
      have g2 := F.called_set.init.lookup
      have g3 := F.called_set.init.bind (.ref s.heap.objs.size)
      repeat (any_goals (first | assumption | wp_step))
      refine codeAny_mono (codeAny_call_builtin (R := wants (fun r s2 => r = .none ∧ ∃ h2 t2 c, s2 = { s with heap := h2, toks := t2 } ∧ SetR w h2 s.heap.objs.size (fun j => decide (j ∈ ns)) c ∧ c ≤ ns.length ∧ (∀ b o, s.heap.get? b = some o → h2.get? b = some o)) E) F.called_set.init.plain F.entry_set_init (check_set_init_1 g1 ?_)) fun r2 s2 hr2 => ?_
      · obtain ⟨⟨lc, ld, la, ls⟩, hl, kc, nl, kd⟩ := pl
        simp only at kc kd
        subst kc
        subst kd
        have hl2 : (s.heap.push (ob0 w)).get? l = some { cls := .type "list", dict := ld, data := .seq xs nl, slots := ls } := Heap.get?_push_of_some _ hl
        have k1 := F.sub_list_set
        have k2 := F.sub_list_frozenset
        have k3 : (Value.type "list" == Value.type "dict") = false := by decide
        have pl2 : (s.heap.push (ob0 w)).IsList l xs := ⟨_, hl2, rfl, nl, rfl⟩
        unfold Builtin.«set.__init__» noKeywords Builtin.Frozenset.updateFrom
        generalize hit : pyIter = itr
        wp_walk
        subst hit
        refine wpAny_pyIter_list pl2 ?_
        refine wpAny_bind (wpAny_runValue ?_)
        have lt := Heap.lt_size hl
        have sz : (s.heap.push (ob0 w)).objs.size = s.heap.objs.size + 1 := Heap.size_push ..
        have c3 : A.in1.in1.in1.handled = none := by simp [hc]
        have ne1 : l ≠ (s.heap.push (ob0 w)).objs.size := by
          rw [sz]
          exact Nat.ne_of_lt (Nat.lt_succ_of_lt lt)
        have ne2 : s.heap.objs.size ∉ [(s.heap.push (ob0 w)).objs.size, l] := fun z => by
          rw [sz] at z
          rcases List.mem_cons.mp z with z | z
          · exact Nat.ne_of_lt (Nat.lt_succ_self _) z
          · exact Nat.ne_of_gt lt (List.mem_singleton.mp z)
        have each : ∀ (i : Nat) (v : Value), xs[i]? = some v → ∃ k t, ns[i]? = some k ∧ v = .int k t := fun i v hv => by
          have hi : i < ns.length := exz ▸ (Array.getElem?_eq_some_iff.mp hv).1
          obtain ⟨t, e⟩ := IntsAre.int_at hx i v ((Array.getElem?_toList (xs := xs)).trans hv)
          exact ⟨ns[i], t, List.getElem?_eq_getElem hi, by rw [e, List.getD_eq_getElem?_getD, List.getElem?_eq_getElem hi]; rfl⟩
        refine set_update_ints ((Walks.list c3 _ l ne1 xs).toS) s.heap.objs.size ne2 ns exz few each (xs.size - 0) 0 _ (by omega) (Nat.zero_le _) ⟨⟨_, Heap.get?_push_size _ rfl, rfl, rfl⟩, (pl2.push _)⟩ ?z1 ?z2
        case z1 =>
          have g4 : ((s.heap.push (ob0 w)).push (it0 l)).get? s.heap.objs.size = some (ob0 w) := Heap.get?_push_of_some _ g0
          exact ⟨0, Nat.le_refl 0, setR_new_at g4⟩
        case z2 =>
          intro s3 c3 mv le3 R3
          obtain ⟨h3, gn, dr, tk, os⟩ := s3
          have e1 : gn = s.gens := mv.gens
          have e2 : dr = s.drawn := mv.drawn
          have e3 : os = s.os := mv.os
          subst e1 e2 e3
          show wpAny _ _ _ _ _ _
          refine wpAny_pure ?_
          show wpAny _ _ (ret Value.none) _ _ _
          refine wpAny_pure ⟨rfl, h3, tk, c3, rfl, R3, exz ▸ le3, fun b o e => ?_⟩
          have lb := Heap.lt_size e
          refine mv.heap b o (fun z => ?_) (Heap.get?_push_of_some _ (Heap.get?_push_of_some _ e))
          rcases List.mem_cons.mp z with z | z
          · exact Nat.ne_of_lt lb z
          · have z2 := List.mem_singleton.mp z
            rw [sz] at z2
            exact Nat.ne_of_lt (Nat.lt_succ_of_lt lb) z2
      · cases r2 with
        | error e => exact hr2
        | ok f =>
          cases f with
          | ret r =>
            obtain ⟨rfl, h2, t2, c, rfl, R2, le2, keep2⟩ := hr2
            repeat (any_goals (first | assumption | wp_step))
            exact q _ _ _ R2 le2 keep2
          | _ => exact hr2.elim
    | _ => exact hr.elim
end
end ShS
namespace Sh
open PySem PySem.Spec PyProof.Rows L2
/-- set(xs) -/
def rSetL (K : PySem.W.Frag) (w : World) : List V → Hp → VK → Prop := fun vs H Q => ∃ (l : Addr) (ns : List Int), vs = [.ref l] ∧ SqL K H l (ns.map V.int) ∧ ns.length ≤ 60 ∧ ∀ (p : Addr) (c : Nat), H p = none → c ≤ ns.length → Q (.ref p) (upd H p (SetO w p (fun j => decide (j ∈ ns)) c))
theorem call_setL {X : Cx} (hc : X.calm = true) : CallR X (.type "set") (rSetL X.K X.w) := by
  intro pins s σ H vs us Q I r h
  obtain ⟨l, ns, rfl, hq, few, q⟩ := h
  rw [Vals.ref1 r]
  obtain ⟨its, rv, pl, hz⟩ := I.list hq
  refine ShS.setL_call ns (I.ok.hd hc) pl.isList (by simpa using rv.ints) (by unfold scanBound; omega) fun h2 t2 c R le keep => ?_
  have hn : H s.heap.objs.size = none := I.hok.fresh (Nat.le_refl _)
  exact ⟨.ref s.heap.objs.size, _, I.laid (o := SetO X.w s.heap.objs.size (fun j => decide (j ∈ ns)) c) keep (Nat.le_refl _) (setO_new R), rfl, q _ c hn le⟩
end Sh
/-! zip of two, sorted, min -/
namespace Sh
open PySem PySem.Spec PyProof.Rows L2
open RZ
section
variable {K : PySem.W.Frag} {σ : L2.St} {H : Hp} {Q : VK} {te : TE} {tt : TT} {tA : TA} {tb : TS} {nx : L2.St → Hp → Prop} {rt : VK} {a b : Addr} {xs ys : List V} {i1 i2 : Nat} {vs : List Nat}
def GoZip (K : PySem.W.Frag) (R : It → Hp → Prop) (vs : List V) (H1 : Hp) : Prop := ∃ a b xs ys, vs = [.ref a, .ref b] ∧ ((SqL K H1 a xs ∧ SqL K H1 b ys ∧ R (Itz K a b) H1) ∨ (SqT K H1 a xs ∧ SqT K H1 b ys ∧ R (ItzT K a b) H1))
theorem w_izip {R : It → Hp → Prop} (h : tA σ H fun vs H1 => GoZip K R vs H1) : iZipA K tA σ H R := h
theorem w_goZL {R : It → Hp → Prop} (h : SqL K H a xs) (h2 : SqL K H b ys) (q : R (Itz K a b) H) : GoZip K R [.ref a, .ref b] H := ⟨a, b, xs, ys, rfl, .inl ⟨h, h2, q⟩⟩
theorem w_goZT {R : It → Hp → Prop} (h : SqT K H a xs) (h2 : SqT K H b ys) (q : R (ItzT K a b) H) : GoZip K R [.ref a, .ref b] H := ⟨a, b, xs, ys, rfl, .inr ⟨h, h2, q⟩⟩
/-- for x, y in zip(xs, ys), lists of any lengths -/
theorem forZL (I : Nat → L2.St → Hp → Prop) (h0 : I 0 σ H) (hI : ∀ i σ' H', I i σ' H' → SqL K H' a xs ∧ SqL K H' b ys)
    (hs : ∀ (i : Nat) x y σ' H', xs[i]? = some x → ys[i]? = some y → I i σ' H' → ∀ H2, Same H' H2 → tb ⟨I (i + 1), rt, nx, I (i + 1)⟩ ((σ'.set i1 (some x)).set i2 (some y)) H2) (hd : ∀ σ' H', I (min xs.length ys.length) σ' H' → nx σ' H') :
    ForOk (Itz K a b) (gTup K 2 (gCons (gName i1) (gCons (gName i2) gNil))) tb nx rt σ H := by
  refine ⟨fun i m σ' H' => m = min xs.length ys.length - i ∧ i ≤ min xs.length ys.length ∧ I i σ' H', ⟨_, rfl, Nat.zero_le _, h0⟩, fun i m σ' H1 ⟨em, hi, w1⟩ => ?_⟩
  obtain ⟨s1, s2⟩ := hI _ _ _ w1
  by_cases hlt : i < min xs.length ys.length
  · have l1 : i < xs.length := by omega
    have l2 : i < ys.length := by omega
    refine .inr ⟨⟨xs, ys, xs[i], ys[i], s1, s2, List.getElem?_eq_getElem l1, List.getElem?_eq_getElem l2⟩, I (i + 1), fun σ2 H2 w2 => ⟨_, by omega, rfl, hlt, w2⟩, fun v H2 z => ?_⟩
    obtain ⟨T, x, y, rfl, hT, rfl, hx, hy⟩ := z
    exact ⟨T, _, rfl, SqT.of upd_same, rfl, _, _, rfl, _, _, rfl, rfl, hs i x y σ' H1 (hx xs s1) (hy ys s2) w1 _ (same_new hT)⟩
  · have e : i = min xs.length ys.length := by omega
    refine .inl ⟨⟨xs, ys, s1, s2, by omega⟩, hd σ' H1 ?_⟩
    rw [← e]
    exact w1
/-- [.. for x, y in zip(t, u)], tuples of any lengths -/
theorem lcZT (hx : SqT K H a xs) (hy : SqT K H b ys) (I : Nat → List V → Hp → Prop) (hst : Stb I) (hn : xs.length ≤ 1000000) (hI : ∀ i acc H', I i acc H' → acc.length ≤ i) (h0 : ∀ H', Same H H' → I 0 [] H')
    (hs : ∀ i x y acc H', xs[i]? = some x → ys[i]? = some y → Same H H' → I i acc H' → ∀ H2, Same H' H2 → ∀ (k : VK) (k' : Hp → Prop), (∀ z H4, Same H2 H4 → I (i + 1) (acc ++ [z]) H4 → k z H4) → (∀ H3, Same H2 H3 → I (i + 1) acc H3 → k' H3) →
      wipe (((wipe σ vs).set i1 (some x)).set i2 (some y)) vs = wipe σ vs ∧ tt (((wipe σ vs).set i1 (some x)).set i2 (some y)) H2 fun b H3 => if b = true then te (((wipe σ vs).set i1 (some x)).set i2 (some y)) H3 k else k' H3)
    (hd : ∀ D acc H', H D = none → Same H H' → H' D = some (.lst acc) → I (min xs.length ys.length) acc H' → Q (.ref D) H') :
    LcOk (ItzT K a b) (gTup K 2 (gCons (gName i1) (gCons (gName i2) gNil))) tt te vs σ Q H :=
  lc_gen (n := min xs.length ys.length) I hst (by omega) hI h0
    (fun i acc H' hi s1 _ => ⟨xs, ys, xs[i]'(by omega), ys[i]'(by omega), same_t s1 hx, same_t s1 hy, List.getElem?_eq_getElem (by omega), List.getElem?_eq_getElem (by omega)⟩)
    (fun _ _ s1 _ => ⟨xs, ys, same_t s1 hx, same_t s1 hy, by omega⟩)
    (fun i acc v H' H'' hi s1 w1 z => by
      obtain ⟨T, x, y, rfl, hT, rfl, ex, ey⟩ := z
      intro k k' hk hk'
      refine ⟨T, _, rfl, SqT.of upd_same, rfl, _, _, rfl, _, _, rfl, rfl, ?_⟩
      exact hs i x y acc H' (ex xs (same_t s1 hx)) (ey ys (same_t s1 hy)) s1 w1 _ (same_new hT) k k' (fun z H4 e => hk z H4 ((same_new hT).trans e)) fun H3 e => hk' H3 ((same_new hT).trans e))
    hd
theorem w_catL (h : H a = some (.lst xs)) (h2 : H b = some (.lst ys)) (hl : xs.length + ys.length ≤ 1000000) (q : ∀ p H', H p = none → Same H H' → H' p = some (.lst (xs ++ ys)) → Q (.ref p) H') : rAddN K (.ref a) (.ref b) H Q :=
  .inr (.inr (.inl ⟨a, b, xs, ys, rfl, rfl, h, h2, Nat.le_trans hl (by decide), fun p hp => q p _ hp (same_new hp) upd_same⟩))
theorem w_setL {w : World} {ns : List Int} (h : SqL K H a (ns.map V.int)) (hl : ns.length ≤ 60) (q : ∀ p c H', H p = none → Same H H' → c ≤ ns.length → H' p = some (SetO w p (fun j => decide (j ∈ ns)) c) → Q (.ref p) H') : rSetL K w [.ref a] H Q :=
  ⟨a, ns, rfl, h, hl, fun p c hp hc => q p c _ hp (same_new hp) hc upd_same⟩
theorem w_sortedSet {w : World} {S : Int → Bool} {n : Nat} (h : H a = some (SetO w a S n)) (hn : n < 64) (q : ∀ (ns : List Int) p H', ns.Pairwise (· < ·) → (∀ k, k ∈ ns ↔ S k = true) → ns.length = n → H p = none → Same H H' → H' p = some (.lst (ns.map V.int)) → Q (.ref p) H') : rSortedSet w [.ref a] H Q :=
  ⟨a, S, n, rfl, h, hn, fun ns p h1 h2 h3 hp => q ns p _ h1 h2 h3 hp (same_new hp) upd_same⟩
theorem w_min {ns : List Int} (h : SqL K H a (ns.map V.int)) (h0 : 0 < ns.length) (q : ∀ m, m ∈ ns → (∀ y, y ∈ ns → m ≤ y) → Q (.int m) H) : rMin K [.ref a] H Q := ⟨a, ns, rfl, h, h0, q⟩
def RgNew (Q : VK) (x : V) (H1 : Hp) : Prop := ∃ n : Int, x = .int n ∧ (RgOk 0 n ∧ ∀ q, H1 q = none → Q (.ref q) (upd H1 q (.lst (rgV 0 n))))
theorem w_lstRg {te : TE} (h : te σ H fun x H1 => RgNew Q x H1) : tLstRg (tRg1 te) σ H Q := h
theorem w_rgN {n : Int} (h0 : 0 ≤ n) (h1 : n ≤ 1000000) (q : ∀ p H', H p = none → Same H H' → H' p = some (.lst (((List.range n.toNat).map fun i : Nat => (i : Int)).map V.int)) → Q (.ref p) H') : RgNew Q (.int n) H :=
  ⟨n, rfl, RgOk.of_le (by omega) (by omega) (by omega) (by omega), fun p hp => q p _ hp (same_new hp) (by
    rw [upd_same, List.map_map]
    unfold rgV
    rw [Int.sub_zero]
    have e : (fun i : Nat => V.int (0 + (i : Int))) = V.int ∘ fun i : Nat => (i : Int) := by
      funext i
      show V.int (0 + (i : Int)) = V.int (i : Int)
      rw [Int.zero_add]
    rw [e])⟩
theorem w_neD {v u : V} {d e : PyData} (h : Dq K H v d) (h' : Dq K H u e) (s1 : SeqAt.shaped d = true) (s2 : SeqAt.shaped e = true) (q : Q (.bl (!PyData.eqv d e)) H) : rNeU K v u H Q := .inr ⟨d, e, dq_dp h, dq_dp h', s1, s2, q⟩
theorem w_eqD {v u : V} {d e : PyData} (h : Dq K H v d) (h' : Dq K H u e) (s1 : SeqAt.shaped d = true) (s2 : SeqAt.shaped e = true) (q : Q (.bl (PyData.eqv d e)) H) : rEqU K v u H Q := .inr ⟨d, e, dq_dp h, dq_dp h', s1, s2, q⟩
theorem eqv_nil (ns : List Int) : PyData.eqv (.list (ns.map .int)) (.list []) = decide (ns = []) := by
  cases ns with
  | nil => rfl
  | cons n r => rfl
theorem w_neNil {p : Addr} {ns : List Int} (h : SqL K H a (ns.map V.int)) (h' : SqL K H p []) (q : Q (.bl (!decide (ns = []))) H) : rNeU K (.ref a) (.ref p) H Q :=
  w_neD (.lst h (dqs_ints ns)) (.lst h' .nil) (PySem.W.shaped_ints ns) (PySem.W.shaped_ints []) (by rw [eqv_nil]; exact q)
end
theorem atI_zero {α : Type} {x : α} {r : List α} : atI (x :: r) 0 = some x := by
  unfold atI ixN
  rw [if_pos (by decide), if_pos (by rw [List.length_cons]; omega)]
  rfl
theorem ints_at {ns : List Int} {i : Nat} {x : V} (h : (ns.map V.int)[i]? = some x) : ∃ n, ns[i]? = some n ∧ x = .int n := by
  rw [List.getElem?_map] at h
  cases e : ns[i]? with
  | none => rw [e] at h; cases h
  | some n => rw [e] at h; exact ⟨n, rfl, (Option.some.inj h).symm⟩
theorem map_at {α : Type} {g : α → PyData} {l : List α} {i : Nat} {d : PyData} (h : (l.map g)[i]? = some d) : ∃ n, l[i]? = some n ∧ d = g n := by
  rw [List.getElem?_map] at h
  cases e : l[i]? with
  | none => rw [e] at h; cases h
  | some n => rw [e] at h; exact ⟨n, rfl, (Option.some.inj h).symm⟩
/-! ### the window's least width (k07) -/
def InWin (w : Int) (os : List Int) (wd bl : Int) : Prop := bl < p2 wd ∧ ∀ o ∈ os, (o + bl) % p2 w < p2 wd
structure Tight (w : Int) (os : List Int) (wd bl : Int) : Prop where
  w0 : 0 ≤ wd
  b0 : 0 ≤ bl
  win : InWin w os wd bl
  least : ∀ wd' bl', 0 ≤ wd' → 0 ≤ bl' → InWin w os wd' bl' → wd ≤ wd' ∧ (wd' = wd → bl ≤ bl')
theorem Tight.one {w : Int} {os : List Int} {wd bl wd' bl' : Int} (h : Tight w os wd bl) (h' : Tight w os wd' bl') : wd = wd' ∧ bl = bl' := by
  have a := h.least wd' bl' h'.w0 h'.b0 h'.win
  have b := h'.least wd bl h.w0 h.b0 h.win
  have e : wd = wd' := by omega
  have c := a.2 e.symm
  have d := b.2 e
  exact ⟨e, by omega⟩
theorem least_of {α : Type} (f : α → Int) : ∀ (a : α) (l : List α), ∃ m ∈ a :: l, ∀ x ∈ a :: l, f m ≤ f x
  | a, [] => ⟨a, List.mem_cons_self, fun x hx => by rw [List.mem_singleton.mp hx]; exact Int.le_refl _⟩
  | a, b :: r => by
    obtain ⟨m, hm, h⟩ := least_of f b r
    by_cases c : f a ≤ f m
    · refine ⟨a, List.mem_cons_self, fun x hx => ?_⟩
      rcases List.mem_cons.mp hx with rfl | hx
      · exact Int.le_refl _
      · exact Int.le_trans c (h x hx)
    · refine ⟨m, List.mem_cons_of_mem _ hm, fun x hx => ?_⟩
      rcases List.mem_cons.mp hx with rfl | hx
      · omega
      · exact h x hx
/-- below some place where an offset or nought begins, it is no worse -/
theorem win_cand {w : Int} {os : List Int} {wd bl : Int} (hw : wd ≤ w) (b0 : 0 ≤ bl) (h : InWin w os wd bl) : ∃ c, 0 ≤ c ∧ c ≤ bl ∧ InWin w os wd c ∧ (c = 0 ∨ ∃ o ∈ os, c = (0 - o) % p2 w) := by
  have pw := p2_pos w
  have le := p2_le hw
  have nn : ∀ x, 0 ≤ x % p2 w := fun x => Int.emod_nonneg _ (Int.ne_of_gt pw)
  obtain ⟨m, hm, hl⟩ := least_of (fun o => (o + bl) % p2 w) 0 os
  have hb : (0 + bl) % p2 w = bl := by rw [Int.zero_add]; exact Int.emod_eq_of_lt b0 (by have := h.1; omega)
  have h0 : (m + bl) % p2 w ≤ bl := by
    have z : (m + bl) % p2 w ≤ (0 + bl) % p2 w := hl 0 List.mem_cons_self
    omega
  have d0 := nn (m + bl)
  have e1 := Int.mul_ediv_add_emod (m + bl) (p2 w)
  refine ⟨bl - (m + bl) % p2 w, by omega, by omega, ⟨by have := h.1; omega, fun o ho => ?_⟩, ?_⟩
  · have e2 := Int.mul_ediv_add_emod (o + bl) (p2 w)
    have z : (m + bl) % p2 w ≤ (o + bl) % p2 w := hl o (List.mem_cons_of_mem _ ho)
    have z2 := h.2 o ho
    have lt := Int.emod_lt_of_pos (o + bl) pw
    have e3 : o + (bl - (m + bl) % p2 w) = ((o + bl) % p2 w - (m + bl) % p2 w) + p2 w * ((o + bl) / p2 w) := by omega
    rw [e3, Int.add_mul_emod_self_left, Int.emod_eq_of_lt (by omega) (by omega)]
    omega
  · rcases List.mem_cons.mp hm with rfl | hm
    · left
      omega
    · right
      refine ⟨m, hm, ?_⟩
      have e3 : 0 - m = (bl - (m + bl) % p2 w) + p2 w * (-((m + bl) / p2 w)) := by
        rw [Int.mul_neg]
        omega
      have lt := h.1
      rw [e3, Int.add_mul_emod_self_left]
      exact (Int.emod_eq_of_lt (by omega) (by omega)).symm
theorem tight_of {w : Int} {os : List Int} {wd bl : Int} (w0 : 0 ≤ wd) (hw : wd ≤ w) (b0 : 0 ≤ bl) (win : InWin w os wd bl)
    (least : ∀ wd' c, 0 ≤ wd' → wd' ≤ w → 0 ≤ c → InWin w os wd' c → (c = 0 ∨ ∃ o ∈ os, c = (0 - o) % p2 w) → wd ≤ wd' ∧ (wd' = wd → bl ≤ c)) : Tight w os wd bl := by
  refine ⟨w0, b0, win, fun wd' bl' h0 h1 hi => ?_⟩
  by_cases c : wd' ≤ w
  · obtain ⟨x, x0, x1, x2, x3⟩ := win_cand c h1 hi
    have z := least wd' x h0 c x0 x2 x3
    exact ⟨z.1, fun e => Int.le_trans (z.2 e) x1⟩
  · exact ⟨by omega, fun e => by omega⟩
end Sh
namespace Sh
open PySem PySem.Spec PyProof.Rows L2
open RZ
local macro_rules | `(tactic| walk_at "Zkt") => `(tactic| first | assumption | exact Same.refl _ | ((refine' Same.trans ?a ?b); (case b => assumption); walk_at "Zkt"))
local macro_rules | `(tactic| walk_at "Znum") => `(tactic| first | omega | decide +kernel | assumption | exact p2_pos _)
local macro_rules | `(tactic| walk_at "Zcmul") => `(tactic| first | exact .inr ⟨by decide, by decide⟩ | exact .inl ⟨by decide, by decide⟩ | exact .inl ⟨by omega, by omega⟩ | exact .inr ⟨by omega, by omega⟩)
local macro_rules | `(tactic| walk_at "Zs0") => `(tactic| first
  | with_reducible refine' w_seq ?_
  | with_reducible refine' w_asg ?_
  | ((with_reducible refine' w_var ?vv ?_); (case vv => exact rfl))
  | with_reducible refine' w_c ?_
  | with_reducible refine' w_gname ?_
  | with_reducible refine' w_op ?_
  | with_reducible refine' w_cons ?_
  | with_reducible refine' w_nil ?_
  | with_reducible refine' w_call ?_
  | with_reducible refine' w_cb ?_
  | with_reducible refine' w_test ?_
  | with_reducible refine' w_tB ?_
  | with_reducible refine' w_bl ?_
  | with_reducible refine' w_ret ?_
  | with_reducible refine' w_not ?_
  | with_reducible refine' w_and ?_
  | with_reducible refine' w_or ?_
  | with_reducible refine' w_ife ?_
  | with_reducible refine' w_andv ?_
  | with_reducible refine' w_orv ?_
  | with_reducible refine' w_notv ?_
  | with_reducible refine' w_chain ?_
  | with_reducible refine' w_tup ?_
  | with_reducible refine' w_lst ?_
  | with_reducible refine' w_un ?_
  | with_reducible refine' w_rU ?_
  | with_reducible refine' w_drop ?_
  | with_reducible refine' w_par ?_
  | with_reducible refine' w_two ?_
  | with_reducible refine' w_next ?_
  | with_reducible refine' w_retn ?_
  | ((with_reducible refine' w_aug ?vv ?_); (case vv => exact rfl))
  | with_reducible refine' w_nn ?_)
local macro_rules | `(tactic| walk_at "Zs1") => `(tactic| first | walk_at "Zs0" | with_reducible refine' w_ifs ?_)
local macro_rules | `(tactic| walk_at "Zs2") => `(tactic| first
  | with_reducible refine' w_add ?_
  | with_reducible refine' w_addN ?_
  | with_reducible refine' w_sub ?_
  | with_reducible refine' w_con ?_
  | with_reducible refine' w_lt ?_
  | with_reducible refine' w_le ?_
  | with_reducible refine' w_gt ?_
  | with_reducible refine' w_ge ?_
  | with_reducible refine' w_eqi ?_
  | with_reducible refine' w_nei ?_
  | with_reducible refine' w_eqs ?_
  | with_reducible refine' w_nes ?_
  | with_reducible refine' w_neb ?_
  | with_reducible refine' w_eqb ?_
  | ((with_reducible refine' w_lenQTm ?h ?_); (case h => walk_at "Zdq"))
  | ((with_reducible refine' w_lenQT ?h ?_); (case h => walk_at "Zdq"))
  | with_reducible refine' w_min2 ?_
  | with_reducible refine' w_max2 ?_
  | with_reducible refine' w_abs ?_
  | with_reducible refine' w_ipadd ?_
  | ((with_reducible refine' w_mod ?a ?_); (case a => walk_at "Znum"))
  | ((with_reducible refine' w_mul ?a ?_); (case a => walk_at "Zcmul"))
  | ((with_reducible refine' w_div1 ?a ?b ?_); (case a => walk_at "Znum"); (case b => walk_at "Znum"))
  | ((with_reducible refine' w_shl1 ?a ?b ?_); (case a => walk_at "Znum"); (case b => walk_at "Znum"))
  | with_reducible refine' w_intb ?_
  | with_reducible refine' w_inti ?_)
local macro_rules | `(tactic| walk_at "Zs3") => `(tactic| first
  | with_reducible refine' w_for ?_
  | with_reducible refine' w_irng1 ?_
  | with_reducible refine' w_irng2 ?_
  | ((with_reducible refine' w_rg1 ?a ?b ?_); (case a => walk_at "Znum"); (case b => walk_at "Znum"))
  | with_reducible refine' w_iany ?_
  | with_reducible refine' w_ienum ?_
  | with_reducible refine' w_izip ?_
  | with_reducible refine' w_N ?_
  | with_reducible refine' w_lc ?_
  | ((with_reducible refine' w_wp ?e ?_); (case e => exact rfl))
  | with_reducible refine' w_yes ?_
  | with_reducible refine' w_gsub ?_
  | ((with_reducible refine' w_new ?l ?_); (case l => (simp only [List.length_cons, List.length_nil]; decide)); intro p H' np e hp)
  | with_reducible refine' w_tupN ?_
  | with_reducible refine' w_tm ?_
  | with_reducible refine' w_lstRg ?_
  | ((with_reducible refine' w_newN ?l ?_); (case l => (simp only [List.length_cons, List.length_nil]; decide)); intro p H' np e hp)
  | with_reducible refine' w_gnil ?_
  | ((with_reducible refine' w_gtup ?h ?l ?_); (case h => first | assumption | exact SqT.of (by assumption) | exact SqN.t (SqN.of (by assumption)) | exact SqN.t (by assumption)); (case l => exact rfl))
  | with_reducible refine' w_sl ?_
  | with_reducible refine' w_nopart ?_
  | with_reducible refine' w_part ?_
  | with_reducible refine' w_ii ?_
  | with_reducible refine' w_bm ?_
  | with_reducible refine' w_gcons ?_)
local macro_rules | `(tactic| walk_at "Zix") => `(tactic| first
  | ((with_reducible refine' w_ixl ?h ?e ?_); (case h => first | assumption | exact SqL.of (by assumption)); (case e => exact rfl))
  | ((with_reducible refine' w_ixt ?h ?e ?_); (case h => first | assumption | exact SqT.of (by assumption) | exact SqN.t (SqN.of (by assumption)) | exact SqN.t (by assumption)); (case e => exact rfl)))
local macro_rules | `(tactic| walk_at "Zite") => `(tactic| first
  | ((with_reducible refine' w_itet ?h ?_); (case h => first | exact rfl | exact decide_eq_true (by omega)))
  | ((with_reducible refine' w_itef ?h ?_); (case h => first | exact rfl | exact decide_eq_false (by omega))))
local macro_rules | `(tactic| walk_at "Zpot") => `(tactic| first | assumption | ((refine' pot_mono ?e ?h); (case h => assumption); (case e => walk_at "Zkt")))
local macro_rules | `(tactic| walk_at "Zdp") => `(tactic| first | assumption | exact Dp.int _ | exact Dp.str _ | exact Dp.bl _ | exact Dp.non | ((refine' dp_mono ?e ?h); (case h => assumption); (case e => walk_at "Zkt")) | ((refine' dq_dp ?q); walk_at "Zdq"))
local macro_rules | `(tactic| walk_at "Zdq") => `(tactic| first | assumption | exact Dq.int _ | exact Dq.str _ | exact Dq.bl _ | exact Dq.non | ((refine' dq_mono ?e ?h); (case h => assumption); (case e => walk_at "Zkt")) | ((refine' dq_mono ?e (dq_ofN ?h)); (case h => assumption); (case e => walk_at "Zkt")))
local macro_rules | `(tactic| walk_at "Zsql") => `(tactic| first | assumption | exact SqL.of (by assumption) | ((refine' Same.seq ?e (SqL.of ?h)); (case h => assumption); (case e => walk_at "Zkt")) | ((refine' Same.seq ?e ?h); (case h => assumption); (case e => walk_at "Zkt")))
local macro_rules | `(tactic| walk_at "Zisi") => `(tactic| first | exact isI_nil | ((refine' isI_cons ?a ?b); (case a => first | exact trivial | omega | (dsimp only; omega)); (case b => walk_at "Zisi")))
local macro_rules | `(tactic| walk_at "Zlen") => `(tactic| (simp only [List.length_cons, List.length_nil]; omega))
local macro_rules | `(tactic| tbr_iter $P) => `(tactic| ((refine' w_ixI $P ?h ?h0 ?h1 ?hx ?_); (case h => walk_at "Zsql"); (case h0 => omega); (case h1 => walk_at "Zlen"); (case hx => walk_at "Zisi")))
local macro_rules | `(tactic| walk_at "Zc") => `(tactic| fail "no call")
local macro_rules | `(tactic| walk_at "Zs") => `(tactic| repeat (first | walk_at "Zs1" | walk_at "Zs2" | walk_at "Zs3" | walk_at "Zix" | walk_at "Zite" | walk_at "Zc"))
local macro_rules | `(tactic| walk_at "Zp") => `(tactic| repeat (first | walk_at "Zs0" | walk_at "Zs2" | walk_at "Zs3" | walk_at "Zix" | walk_at "Zite" | walk_at "Zc"))
def topS (i : Nat) : Stmt := PySem.Challenge.pw_shorthead_k07_tightest.main.body.getD i (.Pass ⟨0, 0, 0, 0⟩)
abbrev s_width_for : Stmt := topS 1
abbrev s_rest_of : Stmt := topS 3
abbrev s_arcs_of : Stmt := topS 4
abbrev s_tightest : Stmt := topS 5
abbrev s__law_pot : Stmt := topS 7
abbrev s__law_draw : Stmt := topS 8
abbrev s__law_value : Stmt := topS 9
abbrev s__law_whole : Stmt := topS 10
abbrev s__law_offset : Stmt := topS 11
abbrev s__law_in : Stmt := topS 12
abbrev s__law_belows : Stmt := topS 13
abbrev s__law_due : Stmt := topS 14
abbrev s_law : Stmt := topS 15
structure Bi (mg : Str → Option Value) : Prop where
  b_abs : mg "abs" = none
  b_all : mg "all" = none
  b_bool : mg "bool" = none
  b_int : mg "int" = none
  b_isinstance : mg "isinstance" = none
  b_len : mg "len" = none
  b_list : mg "list" = none
  b_min : mg "min" = none
  b_range : mg "range" = none
  b_set : mg "set" = none
  b_sorted : mg "sorted" = none
  b_tuple : mg "tuple" = none
  b_zip : mg "zip" = none
/-- the least width of so many unlike numbers -/
def IsW (m : Int) (n : Nat) : Prop := m ≤ 2 ^ n ∧ ∀ u : Nat, u < n → (2 : Int) ^ u < m
theorem isW_one {m : Int} {a b : Nat} (h : IsW m a) (h' : IsW m b) : a = b := by
  rcases Nat.lt_trichotomy a b with q | q | q
  · have := h'.2 a q
    have := h.1
    omega
  · exact q
  · have := h.2 b q
    have := h'.1
    omega
theorem pow_lt_of {a b : Nat} (h : (2 : Int) ^ a < 2 ^ b) : a < b := by
  have h2 : (2 : Nat) ^ a < 2 ^ b := by
    have e1 : ((2 ^ a : Nat) : Int) = (2 : Int) ^ a := by simp
    have e2 : ((2 ^ b : Nat) : Int) = (2 : Int) ^ b := by simp
    omega
  exact (Nat.pow_lt_pow_iff_right (by decide)).mp h2
def sp_width_for (W : Wd) : Sp := fun vs H Q _ => match vs with
  | [v_many] =>
  ∃ m : Int, v_many = .int m ∧ m ≤ 2 ^ 1000 ∧ ∀ n : Nat, IsW m n → Q (.int (n : Int)) H
  | _ => False
abbrev N_width_for : List Str := ["many", "width"]
theorem sc_width_for : FnScope N_width_for ["many"] (defScope s_width_for) := ⟨rfl, rfl, rfl, by decide +kernel, rfl, by decide +kernel, by decide +kernel⟩
theorem f_width_for {W : Wd} {mg : Str → Option Value} {base : Heap} (B : Bi mg) {f : Addr} {fd : FuncData} (F : Fun W.K "width_for" "width_for" s_width_for f fd)  : FnOk W.P W.w W.K mg base CX0 1 f fd ["many"] (sp_width_for W) := by
  have nd := sc_width_for.nd
  have F0 : FnOk W.P W.w W.K mg base CX0 1 f fd ["many"] (sp_width_for W) := by
    refine F.ok sc_width_for (fun vs H Q E h => ?_) (fun cdv A outer s H vs Q E hr h => ?_)
    · match vs, h with | [_], _ => rfl
    · match vs, h with
      | [v_many], h =>
        change sp_width_for W [v_many] H Q E at h
        refine ⟨tSeq (tAsg (tC (.int 0)) (gName 1)) (tSeq (tWhile (tTest (tOp (rLtU W.K) (tOp (rShlU) (tC (.int 1)) (tVar 1)) (tVar 0))) (tAug 1 (tC (.int 1)) (ipAddU W.K))) (tRet (tVar 1))), pss_cons (ps_set (i := 1) nd rfl (.inl rfl) (pe_int)) (pss_cons (ps_while PassesOwn.never (pt_cmpR u_lt (pe_op u_shl (pe_int) (pv 1)) (pv 0) (nomark _)) (pss_one (ps_aug (i := 1) nd rfl (.inl rfl) (pe_int) u_ipadd))) (pss_one (ps_ret (pv 1)))), ?_⟩
        clear hr
        rw [show L2.start N_width_for [v_many] = [some v_many, none] from rfl]
        obtain ⟨m, rfl, hm, q⟩ := h
        walk_at "Zs"
        refine w_while (fun k σ' H' => ∃ n : Nat, σ' = [some (.int m), some (.int n)] ∧ H' = H ∧ (∀ u : Nat, u < n → (2 : Int) ^ u < m) ∧ k + n = 1001 ∧ n ≤ 1001) 1001 ⟨0, rfl, rfl, fun u hu => by omega, rfl, by omega⟩ ?_
        rintro k σ' H' ⟨n, rfl, rfl, hu, hk, hn⟩
        walk_at "Zs"
        refine w_dec (fun hlt => ?_) (fun hge => ?_)
        · have hlt2 : (2 : Int) ^ n < m := hlt
          have hn1 : n < 1000 := pow_lt_of (Int.lt_of_lt_of_le hlt2 hm)
          walk_at "Zs"
          refine ⟨k - 1, by omega, n + 1, rfl, rfl, fun u h1 => ?_, by omega, by omega⟩
          by_cases e : u = n
          · subst e
            exact hlt2
          · exact hu u (by omega)
        · walk_at "Zs"
          exact q n ⟨Int.not_lt.mp hge, hu⟩
  exact F0
theorem c_width_for {W : Wd} {mg : Str → Option Value} {base : Heap} (B : Bi mg) (S : Src W.K mg "width_for" s_width_for)  : Cal W mg base "width_for" 1 ["many"] (sp_width_for W) := by
  obtain ⟨f, fd, g, F⟩ := S
  exact ⟨f, fd, g, f_width_for B F , F.kp, (F.binds (ps := ["many"]) fun _ _ _ _ _ _ us hl => match us, hl with | [_], _ => rfl)⟩
theorem go_width_for {W : Wd} {H : Hp} {Q : VK} {E : XK} {m : Int} (hm : m ≤ 2 ^ 1000) (k : ∀ n : Nat, IsW m n → Q (.int (n : Int)) H) : sp_width_for W [.int m] H Q E := ⟨m, rfl, hm, k⟩
local macro_rules | `(tactic| walk_at "Zc") => `(tactic| ((with_reducible refine' go_width_for ?hm ?_); (case hm => first | exact Int.le_trans (b := 2 ^ 200) (by omega) (by decide))))
theorem mod_rest (n P : Int) : (n - n % P) % P = 0 := by
  have e : n - n % P = P * (n / P) := by
    have := Int.mul_ediv_add_emod n P
    omega
  rw [e]
  exact Int.mul_emod_right P _
def sp_rest_of (W : Wd) : Sp := fun vs H Q _ => match vs with
  | [v_number, v_width] =>
  ∃ n w : Int, v_number = .int n ∧ v_width = .int w ∧ 0 ≤ w ∧ w ≤ 1000000 ∧ Q (.int (n % p2 w)) H
  | _ => False
abbrev N_rest_of : List Str := ["number", "width"]
theorem sc_rest_of : FnScope N_rest_of ["number", "width"] (defScope s_rest_of) := ⟨rfl, rfl, rfl, by decide +kernel, rfl, by decide +kernel, by decide +kernel⟩
theorem f_rest_of {W : Wd} {mg : Str → Option Value} {base : Heap} (B : Bi mg) {f : Addr} {fd : FuncData} (F : Fun W.K "rest_of" "rest_of" s_rest_of f fd)  : FnOk W.P W.w W.K mg base CX0 1 f fd ["number", "width"] (sp_rest_of W) := by
  have nd := sc_rest_of.nd
  have F0 : FnOk W.P W.w W.K mg base CX0 1 f fd ["number", "width"] (sp_rest_of W) := by
    refine F.ok sc_rest_of (fun vs H Q E h => ?_) (fun cdv A outer s H vs Q E hr h => ?_)
    · match vs, h with | [_, _], _ => rfl
    · match vs, h with
      | [v_number, v_width], h =>
        change sp_rest_of W [v_number, v_width] H Q E at h
        refine ⟨tRet (tOp (rModU) (tVar 0) (tOp (rShlU) (tC (.int 1)) (tVar 1))), pss_one (ps_ret (pe_op u_mod (pv 0) (pe_op u_shl (pe_int) (pv 1)))), ?_⟩
        clear hr
        rw [show L2.start N_rest_of [v_number, v_width] = [some v_number, some v_width] from rfl]
        obtain ⟨n, w, rfl, rfl, h0, h1, q⟩ := h
        walk_at "Zs"
        exact q
  exact F0
theorem c_rest_of {W : Wd} {mg : Str → Option Value} {base : Heap} (B : Bi mg) (S : Src W.K mg "rest_of" s_rest_of)  : Cal W mg base "rest_of" 1 ["number", "width"] (sp_rest_of W) := by
  obtain ⟨f, fd, g, F⟩ := S
  exact ⟨f, fd, g, f_rest_of B F , F.kp, (F.binds (ps := ["number", "width"]) fun _ _ _ _ _ _ us hl => match us, hl with | [_, _], _ => rfl)⟩
theorem go_rest_of {W : Wd} {H : Hp} {Q : VK} {E : XK} {n w : Int} (h0 : 0 ≤ w) (h1 : w ≤ 1000000) (q : ∀ r, r = n % p2 w → 0 ≤ r → r < p2 w → (n - r) % p2 w = 0 → Q (.int r) H) : sp_rest_of W [.int n, .int w] H Q E :=
  ⟨n, w, rfl, rfl, h0, h1, q _ rfl (Int.emod_nonneg _ (Int.ne_of_gt (p2_pos w))) (Int.emod_lt_of_pos _ (p2_pos w)) (mod_rest _ _)⟩
local macro_rules | `(tactic| walk_at "Zc") => `(tactic| ((with_reducible refine' go_rest_of ?h0 ?h1 ?_); (case h0 => walk_at "Znum"); (case h1 => walk_at "Znum"); intro r e h0 h1 h2))
/-- the arcs between neighbouring points: where each begins below, how long it is -/
def gapsL (P : Int) (ps : List Int) : List (Int × Int) := (ps.zip (ps.drop 1)).map fun ab => (P - ab.2, P - ab.2 + ab.1)
def arcD (a : Int × Int) : PyData := .tuple [.int a.1, .int a.2]
structure PtsOk (P : Int) (os ps : List Int) : Prop where
  up : ps.Pairwise (· < ·)
  mem : ∀ k, k ∈ ps ↔ k = 0 ∨ ∃ o ∈ os, o % P = k
  len : ps.length ≤ os.length + 1
theorem gaps_get {P : Int} {ps : List Int} {i : Nat} {a b : Int} (h : ps[i]? = some a) (h' : (ps.drop 1)[i]? = some b) : (gapsL P ps)[i]? = some (P - b, P - b + a) := by
  unfold gapsL
  rw [List.getElem?_map]
  have e : (ps.zip (ps.drop 1))[i]? = some (a, b) := List.getElem?_zip_eq_some.mpr ⟨h, h'⟩
  rw [e]
  rfl
theorem gaps_len {P : Int} {ps : List Int} : (gapsL P ps).length = min ps.length (ps.length - 1) := by
  unfold gapsL
  rw [List.length_map, List.length_zip, List.length_drop]
theorem gaps_mem {P c L : Int} {ps : List Int} (h : (c, L) ∈ gapsL P ps) : ∃ i a b, ps[i]? = some a ∧ ps[i + 1]? = some b ∧ c = P - b ∧ L = P - b + a := by
  obtain ⟨i, hi⟩ := List.getElem?_of_mem h
  unfold gapsL at hi
  rw [List.getElem?_map] at hi
  cases e : (ps.zip (ps.drop 1))[i]? with
  | none => rw [e] at hi; cases hi
  | some ab =>
    rw [e] at hi
    obtain ⟨a, b⟩ := ab
    obtain ⟨h1, h2⟩ := List.getElem?_zip_eq_some.mp e
    have hi2 := Option.some.inj hi
    rw [List.getElem?_drop, Nat.add_comm] at h2
    exact ⟨i, a, b, h1, h2, (congrArg Prod.fst hi2).symm, (congrArg Prod.snd hi2).symm⟩
/-- each arc begins at an offset's place, and is as long as the farthest offset from there -/
structure ArcsOk (P : Int) (os : List Int) (arcs : List (Int × Int)) : Prop where
  a1 : ∀ c L, (c, L) ∈ arcs → 0 ≤ c ∧ c ≤ L ∧ L < P ∧ (∀ o ∈ os, (o + c) % P ≤ L) ∧ (L = c ∨ ∃ o ∈ os, (o + c) % P = L)
  a2 : ∃ L, (0, L) ∈ arcs
  a3 : ∀ o ∈ os, ∃ L, ((0 - o) % P, L) ∈ arcs
  len : arcs.length ≤ os.length + 1
theorem arcs_ok {P z : Int} {os ps : List Int} (hP : 0 < P) (h : PtsOk P os ps) (hz : ps.getLast? = some z) : ArcsOk P os ((0, z) :: gapsL P ps) := by
  have rg : ∀ k ∈ ps, 0 ≤ k ∧ k < P := fun k hk => by
    rcases (h.mem k).mp hk with rfl | ⟨o, _, rfl⟩
    · exact ⟨Int.le_refl _, hP⟩
    · exact ⟨Int.emod_nonneg _ (Int.ne_of_gt hP), Int.emod_lt_of_pos _ hP⟩
  have up : ∀ {i j : Nat} {a b : Int}, ps[i]? = some a → ps[j]? = some b → i < j → a < b := fun {i j a b} h1 h2 hij => by
    obtain ⟨l1, e1⟩ := List.getElem?_eq_some_iff.mp h1
    obtain ⟨l2, e2⟩ := List.getElem?_eq_some_iff.mp h2
    rw [← e1, ← e2]
    exact List.pairwise_iff_getElem.mp h.up i j l1 l2 hij
  have m0 : (0 : Int) ∈ ps := (h.mem 0).mpr (.inl rfl)
  have l0 : 0 < ps.length := List.length_pos_of_mem m0
  have g0 : ps[0]? = some 0 := by
    obtain ⟨i, hi⟩ := List.getElem?_of_mem m0
    by_cases c : i = 0
    · rw [c] at hi
      exact hi
    · have e : ps[0]? = some ps[0] := List.getElem?_eq_getElem l0
      have z1 := up e hi (by omega)
      have z2 := (rg ps[0] (List.getElem_mem l0)).1
      omega
  have last : ∀ k ∈ ps, k ≤ z := fun k hk => by
    obtain ⟨i, hi⟩ := List.getElem?_of_mem hk
    have li := (List.getElem?_eq_some_iff.mp hi).1
    rw [List.getLast?_eq_getElem?] at hz
    by_cases c : i = ps.length - 1
    · rw [c, hz] at hi
      have e := Option.some.inj hi
      omega
    · exact Int.le_of_lt (up hi hz (by omega))
  have zm : z ∈ ps := List.mem_of_getLast? hz
  have inp : ∀ o ∈ os, o % P ∈ ps := fun o ho => (h.mem _).mpr (.inr ⟨o, ho, rfl⟩)
  have sh : ∀ o c : Int, (o + c) % P = (o % P + c) % P := fun o c => by rw [Int.emod_add_emod]
  refine ⟨fun c L hm => ?_, ⟨z, List.mem_cons_self⟩, fun o ho => ?_, ?_⟩
  · rcases List.mem_cons.mp hm with e | hm
    · obtain ⟨rfl, rfl⟩ : c = 0 ∧ L = z := ⟨congrArg Prod.fst e, congrArg Prod.snd e⟩
      refine ⟨Int.le_refl _, (rg _ zm).1, (rg _ zm).2, fun o ho => ?_, ?_⟩
      · have z1 := last _ (inp o ho)
        rw [show o + 0 = o by omega]
        exact z1
      · rcases (h.mem _).mp zm with e0 | ⟨o, ho, e0⟩
        · exact .inl e0
        · refine .inr ⟨o, ho, ?_⟩
          rw [show o + 0 = o by omega]
          exact e0
    · obtain ⟨i, a, b, ha, hb, rfl, rfl⟩ := gaps_mem hm
      have am := rg a (List.mem_of_getElem? ha)
      have bm := rg b (List.mem_of_getElem? hb)
      have ab := up ha hb (Nat.lt_succ_self i)
      refine ⟨by omega, by omega, by omega, fun o ho => ?_, ?_⟩
      · rw [sh]
        obtain ⟨j, hj⟩ := List.getElem?_of_mem (inp o ho)
        have om := rg _ (inp o ho)
        generalize o % P = p at hj om
        by_cases c : j ≤ i
        · have pa : p ≤ a := by
            by_cases c2 : j = i
            · rw [c2, ha] at hj
              have e := Option.some.inj hj
              omega
            · exact Int.le_of_lt (up hj ha (by omega))
          rw [Int.emod_eq_of_lt (by omega) (by omega)]
          omega
        · have pb : b ≤ p := by
            by_cases c2 : j = i + 1
            · rw [c2, hb] at hj
              have e := Option.some.inj hj
              omega
            · exact Int.le_of_lt (up hb hj (by omega))
          rw [show p + (P - b) = (p - b) + P * 1 by omega, Int.add_mul_emod_self_left, Int.emod_eq_of_lt (by omega) (by omega)]
          omega
      · rcases (h.mem a).mp (List.mem_of_getElem? ha) with e0 | ⟨o, ho, e0⟩
        · exact .inl (by omega)
        · refine .inr ⟨o, ho, ?_⟩
          rw [sh, e0, Int.emod_eq_of_lt (by omega) (by omega)]
          omega
  · have om := rg _ (inp o ho)
    obtain ⟨j, hj⟩ := List.getElem?_of_mem (inp o ho)
    have e1 := Int.mul_ediv_add_emod o P
    by_cases c : j = 0
    · rw [c, g0] at hj
      have e0 := Option.some.inj hj
      refine ⟨z, ?_⟩
      have e2 : (0 - o) % P = 0 := by
        have e3 : 0 - o = P * (-(o / P)) := by
          rw [Int.mul_neg]
          omega
        rw [e3]
        exact Int.mul_emod_right _ _
      rw [e2]
      exact List.mem_cons_self
    · have lj := (List.getElem?_eq_some_iff.mp hj).1
      obtain ⟨a, ha⟩ : ∃ a, ps[j - 1]? = some a := ⟨_, List.getElem?_eq_getElem (by omega)⟩
      have e0 : 0 < o % P := by
        have := up g0 hj (by omega)
        exact this
      have hd : (ps.drop 1)[j - 1]? = some (o % P) := by
        rw [List.getElem?_drop, show 1 + (j - 1) = j by omega]
        exact hj
      refine ⟨P - o % P + a, List.mem_cons_of_mem _ ?_⟩
      have e2 : (0 - o) % P = P - o % P := by
        have e3 : 0 - o = (P - o % P) + P * (-(o / P) - 1) := by
          rw [Int.mul_sub, Int.mul_neg]
          omega
        rw [e3, Int.add_mul_emod_self_left, Int.emod_eq_of_lt (by omega) (by omega)]
      rw [e2]
      exact List.mem_of_getElem? (gaps_get ha hd)
  · rw [List.length_cons, gaps_len]
    have := h.len
    omega
def sp_arcs_of (W : Wd) : Sp := fun vs H Q _ => match vs with
  | [v_w, v_offsets] =>
  ∃ (w : Int) (os : List Int), v_w = .int w ∧ Dq W.K H v_offsets (.tuple (os.map .int)) ∧ os.length ≤ 50 ∧ 0 ≤ w ∧ w ≤ 1000 ∧
    ∀ (arcs : List (Int × Int)) v H', Same H H' → ArcsOk (p2 w) os arcs → Dq W.K H' v (.list (arcs.map arcD)) → Q v H'
  | _ => False
abbrev N_arcs_of : List Str := ["w", "offsets", "size", "points", "arcs", "one", "following", "offset"]
theorem sc_arcs_of : FnScope N_arcs_of ["w", "offsets"] (defScope s_arcs_of) := ⟨rfl, rfl, rfl, by decide +kernel, rfl, by decide +kernel, by decide +kernel⟩
theorem f_arcs_of {W : Wd} {mg : Str → Option Value} {base : Heap} (B : Bi mg) {f : Addr} {fd : FuncData} (F : Fun W.K "arcs_of" "arcs_of" s_arcs_of f fd) (C_rest_of : Cal W mg base "rest_of" 1 ["number", "width"] (sp_rest_of W)) : FnOk W.P W.w W.K mg base CX0 2 f fd ["w", "offsets"] (sp_arcs_of W) := by
  obtain ⟨a_rest_of, d_rest_of, g_rest_of, F_rest_of, k_rest_of, b_rest_of⟩ := C_rest_of
  have nd := sc_arcs_of.nd
  have F0 : FnOk W.P W.w W.K mg base CX0 2 f fd ["w", "offsets"] (sp_arcs_of W) := by
    refine F.ok sc_arcs_of (fun vs H Q E h => ?_) (fun cdv A outer s H vs Q E hr h => ?_)
    · match vs, h with | [_, _], _ => rfl
    · match vs, h with
      | [v_w, v_offsets], h =>
        change sp_arcs_of W [v_w, v_offsets] H Q E at h
        refine ⟨tSeq (tAsg (tOp (rShlU) (tC (.int 1)) (tVar 0)) (gName 2)) (tSeq (tAsg (tCB (rSortedSet W.w) (tCons (tCB (rSetL W.K W.w) (tCons (tOp (rAddN W.K) (tLst (tCons (tC (.int 0)) (tNil))) (tLc (iAny W.K (tVar 1)) (gName 7) (tYes) (tCall (sp_rest_of W) [] E0 (tCons (tVar 7) (tCons (tVar 0) (tNil)))) [7])) (tNil))) (tNil))) (gName 3)) (tSeq (tAsg (tLst (tCons (tTupN (tCons (tC (.int 0)) (tCons (tOp (rIxU W.K) (tVar 3) (tUn (rU fun i => .int (-i)) (tC (.int 1)))) (tNil)))) (tNil))) (gName 4)) (tSeq (tFor (iZipA W.K (tCons (tVar 3) (tCons (tSl (rSlU W.K) (tVar 3) (tPart (tC (.int 1))) (tNoPart)) (tNil)))) (gTup W.K 2 (gCons (gName 5) (gCons (gName 6) (gNil)))) (tDrop (tBM W.K "list" rAppend (tVar 4) (tCons (tTupN (tCons (tOp (rSubU) (tVar 2) (tVar 6)) (tCons (tOp (rAddN W.K) (tOp (rSubU) (tVar 2) (tVar 6)) (tVar 5)) (tNil)))) (tNil))))) (tRet (tVar 4))))), pss_cons (ps_set (i := 2) nd rfl (.inl rfl) (pe_op u_shl (pe_int) (pv 0))) (pss_cons (ps_set (i := 3) nd rfl (.inl rfl) (pe_callB (cr_sortedSet (by rfl)) (by rfl) B.b_sorted (by decide +kernel) (pa_cons (pe_callTy (call_setL (by rfl)) (by rfl) B.b_set (by decide +kernel) (pa_cons (pe_op u_addN (pe_lst (pa_cons (pe_int) (pa_nil))) (pe_lc (own := [("offset", 7)]) rfl nd (pi_any (pv 1)) (blkOk_by (own := [("offset", 7)]) (N := N_arcs_of) (sc := defScope s_arcs_of) (by decide +kernel)) (fun _ _ _ _ _ => pg_name (i := 7) nd rfl (by first | exact Or.inl rfl | exact Or.inr rfl)) (fun _ _ _ _ _ => pts_nil) (fun _ _ _ _ _ => pe_call F_rest_of (hr.mono (by decide)) (by rfl) g_rest_of k_rest_of b_rest_of .nil pass0 (pa_cons (pv 7) (pa_cons (pv 0) (pa_nil)))))) (pa_nil))) (pa_nil)))) (pss_cons (ps_set (i := 4) nd rfl (.inl rfl) (pe_lst (pa_cons (pe_tupN (pa_cons (pe_int) (pa_cons (pe_ix u_ix (pv 3) (pe_un un_neg (pe_int)) (fun _ _ => rfl)) (pa_nil)))) (pa_nil)))) (pss_cons (ps_for PassesOwn.never rfl (pi_zipA (by rfl) B.b_zip (pa_cons (pv 3) (pa_cons (pe_slice u_sl (pv 3) (po_some (pe_int)) (po_none)) (pa_nil)))) (pg_tup rfl (pgs_cons (pg_name (i := 5) nd rfl (by first | exact Or.inl rfl | exact Or.inr rfl)) (pgs_cons (pg_name (i := 6) nd rfl (by first | exact Or.inl rfl | exact Or.inr rfl)) (pgs_nil)))) (pss_one (ps_expr (pe_bm PySem.F.plainAttrs_list PySem.F.slot_list_append PySem.F.type_list_append mt_append (pv 4) (pa_cons (pe_tupN (pa_cons (pe_op u_sub (pv 2) (pv 6)) (pa_cons (pe_op u_addN (pe_op u_sub (pv 2) (pv 6)) (pv 5)) (pa_nil)))) (pa_nil)))))) (pss_one (ps_ret (pv 4)))))), ?_⟩
        clear hr
        clear F_rest_of g_rest_of k_rest_of b_rest_of d_rest_of a_rest_of
        rw [show L2.start N_arcs_of [v_w, v_offsets] = [some v_w, some v_offsets, none, none, none, none, none, none] from rfl]
        obtain ⟨w, os, rfl, ho, hl, w0, w1, q⟩ := h
        obtain ⟨a, rfl, ha⟩ := dq_ti ho
        walk_at "Zs"
        rename_i p1 G1 np1 f1 h1
        have ha1 := same_t f1 ha.t
        refine w_goT ha1 ?_
        refine lcT ha1 (fun i acc _ => acc = (os.take i).map fun o => V.int (o % p2 w)) stb_pure (by rw [List.length_map]; omega) (fun i acc H' e => by rw [e, List.length_map, List.length_take]; omega) (fun H' _ => rfl) (fun i x acc H' hx e1 ea k k' hk hk' => ?_) fun D acc H2 hD e2 hD' ea => ?_
        · obtain ⟨b, eb, rfl⟩ : ∃ b, os[i]? = some b ∧ V.int b = x := by
            rw [List.getElem?_map] at hx
            cases e : os[i]? with
            | none => rw [e] at hx; cases hx
            | some b => rw [e] at hx; exact ⟨b, rfl, Option.some.inj hx⟩
          walk_at "Zs"
          rename_i r er _ _ _
          refine hk _ _ (Same.refl _) ?_
          rw [List.take_add_one, eb, List.map_append, ea, er]
          rfl
        · rw [List.length_map, List.take_length] at ea
          refine w_catL (e2 _ _ h1) hD' (by rw [ea, List.length_map]; simp only [List.length_cons, List.length_nil]; omega) fun p3 H3 np3 e3 h3 => ?_
          have h3b : H3 p3 = some (.lst ((0 :: os.map (· % p2 w)).map V.int)) := by
            rw [h3, ea, List.map_cons, List.map_map]
            rfl
          walk_at "Zs"
          refine w_setL (SqL.of h3b) (by rw [List.length_cons, List.length_map]; omega) fun p4 c H4 np4 e4 hc h4 => ?_
          rw [List.length_cons, List.length_map] at hc
          walk_at "Zs"
          refine w_sortedSet h4 (by omega) fun ps p5 H5 up mem len np5 e5 h5 => ?_
          walk_at "Zs"
          have m0 : (0 : Int) ∈ ps := (mem 0).mpr (decide_eq_true List.mem_cons_self)
          have lp : 0 < ps.length := List.length_pos_of_mem m0
          have hpts : PtsOk (p2 w) os ps := ⟨up, fun k => by
            rw [mem k, decide_eq_true_iff, List.mem_cons, List.mem_map], by omega⟩
          obtain ⟨z, hz⟩ : ∃ z, ps.getLast? = some z := ⟨_, List.getLast?_eq_some_getLast (List.ne_nil_of_length_pos lp)⟩
          have hat : atI (ps.map V.int) (-1) = some (.int z) := by
            rw [atI_map]
            have e : atI ps (-1) = ps.getLast? := by
              unfold atI ixN
              rw [if_neg (by decide), if_pos (by omega), List.getLast?_eq_getElem?]
              show ps[((-1 : Int) + ps.length).toNat]? = _
              rw [show ((-1 : Int) + ps.length).toNat = ps.length - 1 by omega]
            rw [e, hz]
            rfl
          have hok := arcs_ok (p2_pos w) hpts hz
          refine w_ixl (SqL.of h5) hat ?_
          walk_at "Zs"
          rename_i p6 H6 np6 e6 h6 p7 H7 np7 e7 h7
          have S7 : Same H H7 := by walk_at "Zkt"
          refine .inr (.inr ⟨p5, ps.map V.int, rfl, SqL.of (e7 _ _ (e6 _ _ h5)), fun p8 np8 => ?_⟩)
          have e8 : Same H7 (upd H7 p8 (.lst (cutV (ps.map V.int) (some 1) none))) := same_new np8
          have h8 : upd H7 p8 (.lst (cutV (ps.map V.int) (some 1) none)) p8 = some (.lst ((ps.drop 1).map V.int)) := by
            rw [upd_same]
            have e : cutV (ps.map V.int) (some 1) none = (ps.drop 1).map V.int := by
              show cutD (ps.map V.int) (some 1) none = _
              rw [cutD_from (by decide) (by rw [List.length_map]; omega), List.map_drop]
              rfl
            rw [e]
          generalize upd H7 p8 (.lst (cutV (ps.map V.int) (some 1) none)) = H8 at e8 h8
          walk_at "Zs"
          have h58 : H8 p5 = some (.lst (ps.map V.int)) := e8 _ _ (e7 _ _ (e6 _ _ h5))
          have h78 : H8 p7 = some (.lst [.ref p6]) := e8 _ _ h7
          have n7 : H p7 = none := none_of (by walk_at "Zkt") np7
          have ne5 : p5 ≠ p7 := fun z => by
            have z2 := e6 _ _ h5
            rw [z, np7] at z2
            cases z2
          have n8 : p8 ≠ p7 := fun z => by rw [z, h7] at np8; cases np8
          refine w_goZL (SqL.of h58) (SqL.of h8) ?_
          refine forZL (fun i σ' H' => (∃ y5 y6 y7, σ' = [some (.int w), some (.ref a), some (.int (p2 w)), some (.ref p5), some (.ref p7), y5, y6, y7]) ∧ Same H H' ∧ H' p5 = some (.lst (ps.map V.int)) ∧ H' p8 = some (.lst ((ps.drop 1).map V.int)) ∧ ∃ vs, H' p7 = some (.lst vs) ∧ DqAll W.K H' vs (((0, z) :: (gapsL (p2 w) ps).take i).map arcD)) ⟨⟨_, _, _, rfl⟩, S7.trans e8, h58, h8, _, h78, dqs_one (dq_mono (e7.trans e8) (dq_ofN (ns := [0, z]) h6))⟩ (fun i σ' H' h => ⟨SqL.of h.2.2.1, SqL.of h.2.2.2.1⟩) (fun i x y σ' H9 hx hy h H10 e10 => ?_) (fun σ' H9 h => ?_)
          · obtain ⟨⟨y5, y6, y7, rfl⟩, S9, h5', h8', vs, h7', hd⟩ := h
            obtain ⟨xa, hxa, rfl⟩ := ints_at hx
            obtain ⟨xb, hxb, rfl⟩ := ints_at hy
            have hg := gaps_get (P := p2 w) hxa hxb
            have hli := (List.getElem?_eq_some_iff.mp hxa).1
            walk_at "Zs"
            refine w_tyL (e10 _ _ h7') ?_
            walk_at "Zs"
            rename_i p11 H11 np11 e11 h11
            have h7b := e11 _ _ (e10 _ _ h7')
            have hvl := dqs_len hd
            rw [List.length_map, List.length_cons, List.length_take] at hvl
            refine w_append h7b (by omega) ?_
            walk_at "Zs"
            refine ⟨⟨_, _, _, rfl⟩, same_mut ((S9.trans e10).trans e11) n7, ?_, ?_, vs ++ [.ref p11], upd_same, ?_⟩
            · rw [upd_ne ne5]
              exact e11 _ _ (e10 _ _ h5')
            · rw [upd_ne n8]
              exact e11 _ _ (e10 _ _ h8')
            · rw [List.take_add_one, hg, ← List.cons_append, List.map_append]
              refine dqs_app (dqs_lst h7b (dqs_mono (e10.trans e11) hd) (tupOs_of fun d hd => ?_)) (dqs_one (dq_lst h7b (dq_ofN (ns := [p2 w - xb, p2 w - xb + xa]) h11) ⟨trivial, trivial, trivial⟩))
              obtain ⟨n, _, rfl⟩ := List.mem_map.mp hd
              exact ⟨trivial, trivial, trivial⟩
          · obtain ⟨⟨y5, y6, y7, rfl⟩, S9, h5', h8', vs, h7', hd⟩ := h
            walk_at "Zs"
            refine q ((0, z) :: gapsL (p2 w) ps) _ _ S9 hok (dq_newl h7' ?_)
            rw [List.take_of_length_le (by rw [gaps_len, List.length_map, List.length_map, List.length_drop]; exact Nat.le_refl _)] at hd
            exact hd
  exact F0
theorem c_arcs_of {W : Wd} {mg : Str → Option Value} {base : Heap} (B : Bi mg) (S : Src W.K mg "arcs_of" s_arcs_of) (C_rest_of : Cal W mg base "rest_of" 1 ["number", "width"] (sp_rest_of W)) : Cal W mg base "arcs_of" 2 ["w", "offsets"] (sp_arcs_of W) := by
  obtain ⟨f, fd, g, F⟩ := S
  exact ⟨f, fd, g, f_arcs_of B F C_rest_of, F.kp, (F.binds (ps := ["w", "offsets"]) fun _ _ _ _ _ _ us hl => match us, hl with | [_, _], _ => rfl)⟩
theorem go_arcs_of {W : Wd} {H : Hp} {Q : VK} {E : XK} {x : V} {w : Int} {os : List Int} (ho : Dq W.K H x (.tuple (os.map .int))) (hl : os.length ≤ 50) (w0 : 0 ≤ w) (w1 : w ≤ 1000)
    (q : ∀ (arcs : List (Int × Int)) v H', Same H H' → ArcsOk (p2 w) os arcs → Dq W.K H' v (.list (arcs.map arcD)) → Q v H') : sp_arcs_of W [.int w, x] H Q E := ⟨w, os, rfl, ho, hl, w0, w1, q⟩
/-- the least width, reckoned -/
def wf (m : Int) : Nat := if m ≤ 1 then 0 else (m - 1).toNat.log2 + 1
theorem wf_is (m : Int) : IsW m (wf m) := by
  unfold wf
  by_cases h : m ≤ 1
  · rw [if_pos h]
    exact ⟨by rw [Int.pow_zero]; exact h, fun u hu => absurd hu (Nat.not_lt_zero _)⟩
  · rw [if_neg h]
    have e : (((m - 1).toNat : Nat) : Int) = m - 1 := by omega
    refine ⟨?_, fun u hu => ?_⟩
    · have z := @Nat.lt_log2_self (m - 1).toNat
      have z2 : (((m - 1).toNat : Nat) : Int) < ((2 ^ ((m - 1).toNat.log2 + 1) : Nat) : Int) := Int.ofNat_lt.mpr z
      rw [Int.natCast_pow] at z2
      show m ≤ (2 : Int) ^ ((m - 1).toNat.log2 + 1)
      have z3 : (((2 : Nat) : Int)) ^ ((m - 1).toNat.log2 + 1) = (2 : Int) ^ ((m - 1).toNat.log2 + 1) := rfl
      omega
    · have z := Nat.log2_self_le (n := (m - 1).toNat) (by omega)
      have z1 : (2 : Nat) ^ u ≤ 2 ^ (m - 1).toNat.log2 := Nat.pow_le_pow_right (by decide) (by omega)
      have z2 : ((2 ^ u : Nat) : Int) ≤ (((m - 1).toNat : Nat) : Int) := Int.ofNat_le.mpr (Nat.le_trans z1 z)
      rw [Int.natCast_pow] at z2
      have z3 : (((2 : Nat) : Int)) ^ u = (2 : Int) ^ u := rfl
      omega
theorem wf_le {m w : Int} (h0 : 0 ≤ w) (h : m ≤ p2 w) : (wf m : Int) ≤ w := by
  by_cases c : (wf m : Int) ≤ w
  · exact c
  · have z := (wf_is m).2 w.toNat (by omega)
    unfold p2 at h
    omega
theorem wf_ge {m w : Int} (h : (wf m : Int) ≤ w) : m ≤ p2 w := by
  have z := (wf_is m).1
  have z2 := p2_le h
  have e : p2 (wf m : Int) = 2 ^ wf m := rfl
  omega
/-- the arcs tell the least window -/
theorem arcs_tight {w wd bl : Int} {os : List Int} {arcs : List (Int × Int)} (h0 : 0 ≤ w) (h : ArcsOk (p2 w) os arcs) (h1 : ∃ a ∈ arcs, (wf (a.2 + 1) : Int) = wd) (h2 : ∀ a ∈ arcs, wd ≤ (wf (a.2 + 1) : Int))
    (h3 : ∃ a ∈ arcs, (wf (a.2 + 1) : Int) ≤ wd ∧ a.1 = bl) (h4 : ∀ a ∈ arcs, (wf (a.2 + 1) : Int) ≤ wd → bl ≤ a.1) : Tight w os wd bl := by
  obtain ⟨L0, m0⟩ := h.a2
  have z0 := h.a1 0 L0 m0
  have zw := wf_le h0 (show L0 + 1 ≤ p2 w by omega)
  have hw : wd ≤ w := Int.le_trans (h2 _ m0) zw
  have hd0 : 0 ≤ wd := by
    obtain ⟨a, _, e⟩ := h1
    omega
  obtain ⟨⟨c, L⟩, ha, hb, hc⟩ := h3
  have z1 := h.a1 c L ha
  have hc2 : c = bl := hc
  have hb2 := wf_ge hb
  have hb3 : L + 1 ≤ p2 wd := hb2
  refine tight_of hd0 hw (by omega) ⟨by omega, fun o ho => ?_⟩ fun wd' x w0 w1 x0 hx hc => ?_
  · have z := z1.2.2.2.1 o ho
    rw [← hc2]
    omega
  · obtain ⟨L', hm⟩ : ∃ L', (x, L') ∈ arcs := by
      rcases hc with rfl | ⟨o, ho, rfl⟩
      · exact h.a2
      · exact h.a3 o ho
    have y := h.a1 x L' hm
    have y2 : L' + 1 ≤ p2 wd' := by
      have q1 := hx.1
      rcases y.2.2.2.2 with e | ⟨o, ho, e⟩
      · omega
      · have q2 := hx.2 o ho
        omega
    have y3 := wf_le w0 y2
    have y4 := h2 _ hm
    refine ⟨Int.le_trans y4 y3, fun e => ?_⟩
    have y5 := h4 _ hm (by rw [e] at y3; exact y3)
    exact y5
def sp_tightest (W : Wd) : Sp := fun vs H Q _ => match vs with
  | [v_w, v_offsets] =>
  ∃ (w : Int) (os : List Int), v_w = .int w ∧ Dq W.K H v_offsets (.tuple (os.map .int)) ∧ os.length ≤ 50 ∧ 0 ≤ w ∧ w ≤ 100 ∧
    ∀ (wd bl : Int) v H', Same H H' → Tight w os wd bl → Dq W.K H' v (.tuple [.int wd, .int bl]) → Q v H'
  | _ => False
abbrev N_tightest : List Str := ["w", "offsets", "arcs", "width", "below", "long"]
theorem sc_tightest : FnScope N_tightest ["w", "offsets"] (defScope s_tightest) := ⟨rfl, rfl, rfl, by decide +kernel, rfl, by decide +kernel, by decide +kernel⟩
theorem f_tightest {W : Wd} {mg : Str → Option Value} {base : Heap} (B : Bi mg) {f : Addr} {fd : FuncData} (F : Fun W.K "tightest" "tightest" s_tightest f fd) (C_width_for : Cal W mg base "width_for" 1 ["many"] (sp_width_for W)) (C_arcs_of : Cal W mg base "arcs_of" 2 ["w", "offsets"] (sp_arcs_of W)) : FnOk W.P W.w W.K mg base CX0 3 f fd ["w", "offsets"] (sp_tightest W) := by
  obtain ⟨a_width_for, d_width_for, g_width_for, F_width_for, k_width_for, b_width_for⟩ := C_width_for
  obtain ⟨a_arcs_of, d_arcs_of, g_arcs_of, F_arcs_of, k_arcs_of, b_arcs_of⟩ := C_arcs_of
  have nd := sc_tightest.nd
  have F0 : FnOk W.P W.w W.K mg base CX0 3 f fd ["w", "offsets"] (sp_tightest W) := by
    refine F.ok sc_tightest (fun vs H Q E h => ?_) (fun cdv A outer s H vs Q E hr h => ?_)
    · match vs, h with | [_, _], _ => rfl
    · match vs, h with
      | [v_w, v_offsets], h =>
        change sp_tightest W [v_w, v_offsets] H Q E at h
        refine ⟨tSeq (tAsg (tCall (sp_arcs_of W) [] E0 (tCons (tVar 0) (tCons (tVar 1) (tNil)))) (gName 2)) (tSeq (tAsg (tCB (rMin W.K) (tCons (tLc (iAny W.K (tVar 2)) (gTup W.K 2 (gCons (gName 4) (gCons (gName 5) (gNil)))) (tYes) (tCall (sp_width_for W) [] E0 (tCons (tOp (rAddN W.K) (tVar 5) (tC (.int 1))) (tNil))) [4, 5]) (tNil))) (gName 3)) (tRet (tTupN (tCons (tVar 3) (tCons (tCB (rMin W.K) (tCons (tLc (iAny W.K (tVar 2)) (gTup W.K 2 (gCons (gName 4) (gCons (gName 5) (gNil)))) (tTest (tOp (rLeU) (tCall (sp_width_for W) [] E0 (tCons (tOp (rAddN W.K) (tVar 5) (tC (.int 1))) (tNil))) (tVar 3))) (tVar 4) [4, 5]) (tNil))) (tNil)))))), pss_cons (ps_set (i := 2) nd rfl (.inl rfl) (pe_call F_arcs_of (hr.mono (by decide)) (by rfl) g_arcs_of k_arcs_of b_arcs_of .nil pass0 (pa_cons (pv 0) (pa_cons (pv 1) (pa_nil))))) (pss_cons (ps_set (i := 3) nd rfl (.inr rfl) (pe_callB (cr_min rfl) (by rfl) B.b_min (by decide +kernel) (pa_cons (pe_lc (own := [("below", 4), ("long", 5)]) rfl nd (pi_any (pv 2)) (blkOk_by (own := [("below", 4), ("long", 5)]) (N := N_tightest) (sc := defScope s_tightest) (by decide +kernel)) (fun _ _ _ _ _ => pg_tup rfl (pgs_cons (pg_name (i := 4) nd rfl (by first | exact Or.inl rfl | exact Or.inr rfl)) (pgs_cons (pg_name (i := 5) nd rfl (by first | exact Or.inl rfl | exact Or.inr rfl)) (pgs_nil)))) (fun _ _ _ _ _ => pts_nil) (fun _ _ _ _ _ => pe_call F_width_for (hr.mono (by decide)) (by rfl) g_width_for k_width_for b_width_for .nil pass0 (pa_cons (pe_op u_addN (pv 5) (pe_int)) (pa_nil)))) (pa_nil)))) (pss_one (ps_ret (pe_tupN (pa_cons (pv 3) (pa_cons (pe_callB (cr_min rfl) (by rfl) B.b_min (by decide +kernel) (pa_cons (pe_lc (own := [("below", 4), ("long", 5)]) rfl nd (pi_any (pv 2)) (blkOk_by (own := [("below", 4), ("long", 5)]) (N := N_tightest) (sc := defScope s_tightest) (by decide +kernel)) (fun _ _ _ _ _ => pg_tup rfl (pgs_cons (pg_name (i := 4) nd rfl (by first | exact Or.inl rfl | exact Or.inr rfl)) (pgs_cons (pg_name (i := 5) nd rfl (by first | exact Or.inl rfl | exact Or.inr rfl)) (pgs_nil)))) (fun _ _ _ _ _ => pts_one (pt_cmpR u_le (pe_call F_width_for (hr.mono (by decide)) (by rfl) g_width_for k_width_for b_width_for .nil pass0 (pa_cons (pe_op u_addN (pv 5) (pe_int)) (pa_nil))) (pv 3) (nomark _))) (fun _ _ _ _ _ => pv 4)) (pa_nil))) (pa_nil))))))), ?_⟩
        clear hr
        clear F_width_for g_width_for k_width_for b_width_for d_width_for a_width_for
        clear F_arcs_of g_arcs_of k_arcs_of b_arcs_of d_arcs_of a_arcs_of
        rw [show L2.start N_tightest [v_w, v_offsets] = [some v_w, some v_offsets, none, none, none, none] from rfl]
        obtain ⟨w, os, rfl, ho, hl, w0, w1, q⟩ := h
        walk_at "Zs"
        refine go_arcs_of ho hl w0 (by omega) fun arcs va H1 e1 hok hva => ?_
        walk_at "Zs"
        obtain ⟨a, xs, rfl, hxs, hds⟩ := dq_ll hva
        have hxl := dqs_len hds
        rw [List.length_map] at hxl
        have hal := hok.len
        have pw : p2 w ≤ 2 ^ 100 := p2_le (show w ≤ 100 by omega)
        have hL : ∀ c L, (c, L) ∈ arcs → L + 1 ≤ 2 ^ 1000 := fun c L hm => by
          have z := hok.a1 c L hm
          exact Int.le_trans (show L + 1 ≤ 2 ^ 100 by omega) (by decide)
        refine w_goL hxs ?_
        refine lcL hxs (fun i acc _ => acc = (arcs.take i).map fun b => V.int (wf (b.2 + 1) : Nat)) stb_pure (by omega) (fun i acc H' e => by rw [e, List.length_map, List.length_take]; omega) (fun H' _ => rfl) (fun i x acc H' hx e2 ea k k' hk hk' => ?_) fun D acc H2 hD e2 hD' ea => ?_
        · obtain ⟨d, hd, hxd⟩ := dqs_get2 hds hx
          obtain ⟨⟨c, L⟩, hcl, rfl⟩ := map_at hd
          obtain ⟨t, rfl, ht⟩ := dq_ti (ns := [c, L]) hxd
          refine w_gtup (xs := [.int c, .int L]) (same_n e2 ht).t rfl ?_
          walk_at "Zs"
          refine go_width_for (hL c L (List.mem_of_getElem? hcl)) fun n hn => ?_
          refine hk _ _ (Same.refl _) ?_
          rw [List.take_add_one, hcl, List.map_append, ea, isW_one hn (wf_is _)]
          rfl
        rw [List.take_of_length_le (by omega)] at ea
        walk_at "Zs"
        obtain ⟨L0, m0⟩ := hok.a2
        refine w_min (ns := arcs.map fun b => (wf (b.2 + 1) : Int)) (SqL.of (by rw [hD', ea, List.map_map]; rfl)) (by rw [List.length_map]; exact List.length_pos_of_mem m0) fun wd hwd hle => ?_
        walk_at "Zs"
        have hxs2 := e2.seq hxs
        refine w_goL hxs2 ?_
        refine lcL hxs2 (fun i acc _ => acc = ((arcs.take i).filter fun b => decide ((wf (b.2 + 1) : Int) ≤ wd)).map fun b => V.int b.1) stb_pure (by omega) (fun i acc H' e => by rw [e, List.length_map]; exact Nat.le_trans (List.length_filter_le _ _) (by rw [List.length_take]; omega)) (fun H' _ => rfl) (fun i x acc H' hx e3 ea k k' hk hk' => ?_) fun D2 acc2 H3 hD2 e3 hD2' ea2 => ?_
        · obtain ⟨d, hd, hxd⟩ := dqs_get2 hds hx
          obtain ⟨⟨c, L⟩, hcl, rfl⟩ := map_at hd
          obtain ⟨t, rfl, ht⟩ := dq_ti (ns := [c, L]) hxd
          refine w_gtup (xs := [.int c, .int L]) (same_n (e2.trans e3) ht).t rfl ?_
          walk_at "Zs"
          refine go_width_for (hL c L (List.mem_of_getElem? hcl)) fun n hn => ?_
          have et : arcs.take (i + 1) = arcs.take i ++ [(c, L)] := by rw [List.take_add_one, hcl]; rfl
          obtain rfl := isW_one hn (wf_is _)
          walk_at "Zs"
          refine w_dec (fun hc => ?_) (fun hc => ?_)
          · walk_at "Zs"
            refine hk _ _ (Same.refl _) ?_
            rw [et, List.filter_append, List.map_append, ea]
            simp [hc]
          · walk_at "Zs"
            refine hk' _ (Same.refl _) ?_
            rw [et, List.filter_append, List.map_append, ea]
            simp [hc]
        rw [List.take_of_length_le (by omega)] at ea2
        walk_at "Zs"
        obtain ⟨⟨c1, L1⟩, hm1, he1⟩ := List.mem_map.mp hwd
        have hf1 : ((c1, L1) : Int × Int) ∈ arcs.filter fun b => decide ((wf (b.2 + 1) : Int) ≤ wd) := List.mem_filter.mpr ⟨hm1, decide_eq_true (Int.le_of_eq he1)⟩
        refine w_min (ns := (arcs.filter fun b => decide ((wf (b.2 + 1) : Int) ≤ wd)).map fun b => b.1) (SqL.of (by rw [hD2', ea2, List.map_map]; rfl)) (by rw [List.length_map]; exact List.length_pos_of_mem hf1) fun bl hbl hle2 => ?_
        walk_at "Zs"
        rename_i p5 H5 np5 e5 h5
        refine q wd bl _ _ (by walk_at "Zkt") ?_ (dq_ofN (ns := [wd, bl]) h5)
        obtain ⟨⟨c2, L2⟩, hm2, he2⟩ := List.mem_map.mp hbl
        have hf2 := List.mem_filter.mp hm2
        refine arcs_tight w0 hok ⟨_, hm1, he1⟩ (fun a ha => hle _ (List.mem_map.mpr ⟨a, ha, rfl⟩)) ⟨_, hf2.1, of_decide_eq_true hf2.2, he2⟩ fun a ha hw => hle2 _ (List.mem_map.mpr ⟨a, List.mem_filter.mpr ⟨ha, decide_eq_true hw⟩, rfl⟩)
  exact F0
theorem c_tightest {W : Wd} {mg : Str → Option Value} {base : Heap} (B : Bi mg) (S : Src W.K mg "tightest" s_tightest) (C_width_for : Cal W mg base "width_for" 1 ["many"] (sp_width_for W)) (C_arcs_of : Cal W mg base "arcs_of" 2 ["w", "offsets"] (sp_arcs_of W)) : Cal W mg base "tightest" 3 ["w", "offsets"] (sp_tightest W) := by
  obtain ⟨f, fd, g, F⟩ := S
  exact ⟨f, fd, g, f_tightest B F C_width_for C_arcs_of, F.kp, (F.binds (ps := ["w", "offsets"]) fun _ _ _ _ _ _ us hl => match us, hl with | [_, _], _ => rfl)⟩
theorem go_tightest {W : Wd} {H : Hp} {Q : VK} {E : XK} {x : V} {w : Int} {os : List Int} (ho : Dq W.K H x (.tuple (os.map .int))) (hl : os.length ≤ 50) (w0 : 0 ≤ w) (w1 : w ≤ 100)
    (q : ∀ (wd bl : Int) v H', Same H H' → Tight w os wd bl → Dq W.K H' v (.tuple [.int wd, .int bl]) → Q v H') : sp_tightest W [.int w, x] H Q E := ⟨w, os, rfl, ho, hl, w0, w1, q⟩
def sp__law_pot (W : Wd) : Sp := fun vs H Q _ => match vs with
  | [v_script, v_k] =>
  ∃ (a : Addr) (ns : List Int) (k : Int), v_script = .ref a ∧ v_k = .int k ∧ SqL W.K H a (ns.map V.int) ∧ 0 ≤ k ∧ ∀ v H', Same H H' → PotAt W H' v → Q v H'
  | _ => False
def sp0__law_pot (W : Wd) : Sp := fun vs H Q _ => match vs with
  | [v_script, v_k] =>
  ∃ (a : Addr) (ns : List Int) (k : Int), v_script = .ref a ∧ v_k = .int k ∧ SqL W.K H a (ns.map V.int) ∧ 0 ≤ k ∧ ∀ (p : Addr) (g s : Int) H', Same H H' → H p = none → H' p = some (.lst [.int g, .int s]) → 0 ≤ g → 0 ≤ s → s < 2305843009213693951 → Q (.ref p) H'
  | _ => False
abbrev N__law_pot : List Str := ["_law_script", "_law_k", "_law_cell", "_law_great"]
theorem sc__law_pot : FnScope N__law_pot ["_law_script", "_law_k"] (defScope s__law_pot) := ⟨rfl, rfl, rfl, by decide +kernel, rfl, by decide +kernel, by decide +kernel⟩
theorem f__law_pot {W : Wd} {mg : Str → Option Value} {base : Heap} (B : Bi mg) {f : Addr} {fd : FuncData} (F : Fun W.K "_law_pot" "_law_pot" s__law_pot f fd)  : FnOk W.P W.w W.K mg base CX0 1 f fd ["_law_script", "_law_k"] (sp__law_pot W) := by
  have nd := sc__law_pot.nd
  have F0 : FnOk W.P W.w W.K mg base CX0 1 f fd ["_law_script", "_law_k"] (sp0__law_pot W) := by
    refine F.ok sc__law_pot (fun vs H Q E h => ?_) (fun cdv A outer s H vs Q E hr h => ?_)
    · match vs, h with | [_, _], _ => rfl
    · match vs, h with
      | [v_script, v_k], h =>
        change sp0__law_pot W [v_script, v_k] H Q E at h
        refine ⟨tSeq (tAsg (tIf (tTest (tOp (rLtU W.K) (tVar 1) (tCB (rLenU W.K) (tCons (tVar 0) (tNil))))) (tOp (rIxU W.K) (tVar 0) (tVar 1)) (tOp (rAddN W.K) (tCB (rLenU W.K) (tCons (tVar 0) (tNil))) (tVar 1))) (gName 2)) (tSeq (tAsg (tOp (rMulU W.K) (tOp (rModU) (tCB (rAbs) (tCons (tVar 2) (tNil))) (tC (.int farN))) (tCB (rIntU) (tCons (tOp (rGeU) (tCB (rAbs) (tCons (tVar 2) (tNil))) (tOp (rCon 10 18 1000000000000000000) (tC (.int 10)) (tC (.int 18)))) (tNil)))) (gName 3)) (tRet (tLst (tCons (tVar 3) (tCons (tOp (rModU) (tOp (rMulU W.K) (tOp (rAddN W.K) (tOp (rAddN W.K) (tOp (rModU) (tVar 2) (tC (.int 2305843009213693921))) (tOp (rMulU W.K) (tC (.int 104729)) (tVar 1))) (tC (.int 5))) (tC (.int 48271))) (tC (.int 2305843009213693951))) (tNil)))))), pss_cons (ps_set (i := 2) nd rfl (.inl rfl) (pe_ifExp (pt_cmpR u_lt (pv 1) (pe_callB u_len (by rfl) B.b_len (by decide +kernel) (pa_cons (pv 0) (pa_nil))) (nomark _)) (pe_ix u_ix (pv 0) (pv 1) (fun _ _ => rfl)) (pe_op u_addN (pe_callB u_len (by rfl) B.b_len (by decide +kernel) (pa_cons (pv 0) (pa_nil))) (pv 1)))) (pss_cons (ps_set (i := 3) nd rfl (.inl rfl) (pe_op u_mul (pe_op u_mod (pe_callB call_abs (by rfl) B.b_abs (by decide +kernel) (pa_cons (pv 2) (pa_nil))) (pe_far (by rfl) B.b_int)) (pe_callTy u_int (by rfl) B.b_int (by decide +kernel) (pa_cons (pe_cmpR u_ge (pe_callB call_abs (by rfl) B.b_abs (by decide +kernel) (pa_cons (pv 2) (pa_nil))) (pe_op (u_powc ⟨by decide, by decide, by decide⟩ (by decide +kernel)) pe_int pe_int) (nomark _)) (pa_nil))))) (pss_one (ps_ret (pe_lst (pa_cons (pv 3) (pa_cons (pe_op u_mod (pe_op u_mul (pe_op u_addN (pe_op u_addN (pe_op u_mod (pv 2) (pe_int)) (pe_op u_mul (pe_int) (pv 1))) (pe_int)) (pe_int)) (pe_int)) (pa_nil))))))), ?_⟩
        clear hr
        rw [show L2.start N__law_pot [v_script, v_k] = [some v_script, some v_k, none, none] from rfl]
        obtain ⟨a, ns, k, rfl, rfl, hS, hk, q⟩ := h
        walk_at "Zs"
        refine w_lenL hS ?_
        walk_at "Zs"
        have fin : ∀ (c s : Int) (p : Addr) (H' : Hp), H p = none → Same H H' → H' p = some (.lst [.int ((if c < 0 then -c else c) % farN * if decide (1000000000000000000 ≤ if c < 0 then -c else c) = true then 1 else 0), .int (s % 2305843009213693951)]) → Q (.ref p) H' := by
          intro c s p H' hp e1 e2
          refine q p _ _ H' e1 hp e2 ?_ (by omega) (by omega)
          have h1 := Int.emod_nonneg (if c < 0 then -c else c) (Int.ne_of_gt far_pos)
          by_cases hc : decide (1000000000000000000 ≤ (if c < 0 then -c else c)) = true
          · rw [if_pos hc, Int.mul_one]
            exact h1
          · rw [if_neg hc, Int.mul_zero]
            exact Int.le_refl 0
        refine w_dec (fun hlt => ?_) (fun hge => ?_)
        · walk_at "Zs"
          have hl : k.toNat < ns.length := by
            rw [List.length_map] at hlt
            omega
          refine w_ixl hS (x := .int (ns[k.toNat])) ?_ ?_
          · unfold atI ixN
            rw [if_pos hk, if_pos hlt]
            simp [List.getElem?_eq_getElem hl]
          walk_at "Zs"
          rename_i p H' hp e1 e2
          exact fin _ _ p H' hp e1 e2
        · walk_at "Zs"
          refine w_lenL hS ?_
          walk_at "Zs"
          rename_i p H' hp e1 e2
          exact fin _ _ p H' hp e1 e2
  refine fn_seal pot_flat F0 (fun vs H Q E h => ?_) fun vs H Q E h => ?_
  · match vs, h with | [_, _], _ => rfl
  · match vs, h with
    | [v1, v2], h =>
      obtain ⟨a, ns, k, rfl, rfl, hS, hk, q⟩ := h
      refine ⟨a, ns, k, rfl, rfl, hS, hk, fun p g s H' e1 hp e2 h1 h2 h3 => ?_⟩
      exact ⟨p, _, ⟨g, s, rfl, h1, h2, h3⟩, e2, q _ _ (same_mut e1 hp) ⟨p, rfl, upd_same⟩⟩
theorem c__law_pot {W : Wd} {mg : Str → Option Value} {base : Heap} (B : Bi mg) (S : Src W.K mg "_law_pot" s__law_pot)  : Cal W mg base "_law_pot" 1 ["_law_script", "_law_k"] (sp__law_pot W) := by
  obtain ⟨f, fd, g, F⟩ := S
  exact ⟨f, fd, g, f__law_pot B F , F.kp, (F.binds (ps := ["_law_script", "_law_k"]) fun _ _ _ _ _ _ us hl => match us, hl with | [_, _], _ => rfl)⟩
theorem go__law_pot {W : Wd} {H : Hp} {Q : VK} {E : XK} {a : Addr} {ns : List Int} {k : Int} (hS : SqL W.K H a (ns.map V.int)) (h0 : 0 ≤ k) (q : ∀ v H', Same H H' → PotAt W H' v → Q v H') : sp__law_pot W [.ref a, .int k] H Q E := ⟨a, ns, k, rfl, rfl, hS, h0, q⟩
theorem ne_lst {H : Hp} {a b : Addr} {o u : HO} (h : H a = some o) (h' : H b = none) : a ≠ b := ne_of_none h h'
def sp__law_draw (W : Wd) : Sp := fun vs H Q _ => match vs with
  | [v_pot_here, v_many] =>
  ∃ m : Int, PotAt W H v_pot_here ∧ v_many = .int m ∧ 0 < m ∧ m < 1267650600228229401496703205376 ∧ ∀ (d : Int) H', Same H H' → 0 ≤ d → d < m → Q (.int d) H'
  | _ => False
def sp0__law_draw (W : Wd) : Sp := fun vs H Q _ => match vs with
  | [v_pot_here, v_many] =>
  ∃ (p : Addr) (g s m : Int), v_pot_here = .ref p ∧ v_many = .int m ∧ H p = some (.lst [.int g, .int s]) ∧ 0 ≤ g ∧ 0 ≤ s ∧ s < 2305843009213693951 ∧ 0 < m ∧ m < 1267650600228229401496703205376 ∧
    ∀ (d g' s' : Int) H', (∀ b o, b ≠ p → H b = some o → H' b = some o) → H' p = some (.lst [.int g', .int s']) → 0 ≤ g' → 0 ≤ s' → s' < 2305843009213693951 → 0 ≤ d → d < m → Q (.int d) H'
  | _ => False
abbrev N__law_draw : List Str := ["_law_pot_here", "_law_many", "_law_digit", "_law_mixed"]
theorem sc__law_draw : FnScope N__law_draw ["_law_pot_here", "_law_many"] (defScope s__law_draw) := ⟨rfl, rfl, rfl, by decide +kernel, rfl, by decide +kernel, by decide +kernel⟩
theorem f__law_draw {W : Wd} {mg : Str → Option Value} {base : Heap} (B : Bi mg) {f : Addr} {fd : FuncData} (F : Fun W.K "_law_draw" "_law_draw" s__law_draw f fd)  : FnOk W.P W.w W.K mg base CX0 1 f fd ["_law_pot_here", "_law_many"] (sp__law_draw W) := by
  have nd := sc__law_draw.nd
  have F0 : FnOk W.P W.w W.K mg base CX0 1 f fd ["_law_pot_here", "_law_many"] (sp0__law_draw W) := by
    refine F.ok sc__law_draw (fun vs H Q E h => ?_) (fun cdv A outer s H vs Q E hr h => ?_)
    · match vs, h with | [_, _], _ => rfl
    · match vs, h with
      | [v_pot_here, v_many], h =>
        change sp0__law_draw W [v_pot_here, v_many] H Q E at h
        refine ⟨tSeq (tIfS (tTest (tOp (rGtU) (tOp (rIxU W.K) (tVar 0) (tC (.int 0))) (tC (.int 0)))) (tSeq (tAsg (tTupN (tCons (tOp (rDivU) (tOp (rIxU W.K) (tVar 0) (tC (.int 0))) (tVar 1)) (tCons (tOp (rModU) (tOp (rIxU W.K) (tVar 0) (tC (.int 0))) (tVar 1)) (tNil)))) (gTup W.K 2 (gCons (gSub (tVar 0) (tC (.int 0)) rSetU) (gCons (gName 2) (gNil))))) (tRet (tVar 2))) (tNext)) (tSeq (tAsg (tOp (rModU) (tOp (rAddN W.K) (tOp (rMulU W.K) (tOp (rIxU W.K) (tVar 0) (tC (.int 1))) (tC (.int 6364136223846793005))) (tC (.int 1442695040888963407))) (tC (.int 2305843009213693951))) (gSub (tVar 0) (tC (.int 1)) rSetU)) (tSeq (tAsg (tOp (rDivU) (tOp (rIxU W.K) (tVar 0) (tC (.int 1))) (tC (.int 131071))) (gName 3)) (tRet (tOp (rModU) (tOp (rDivU) (tOp (rModU) (tOp (rMulU W.K) (tVar 3) (tVar 3)) (tC (.int 1000000007))) (tC (.int 7))) (tVar 1))))), pss_cons (ps_if (pt_cmpR u_gt (pe_ix u_ix (pv 0) (pe_int) (fun _ _ => rfl)) (pe_int) (nomark _)) (pss_cons (ps_asg (pe_tupN (pa_cons (pe_op u_div (pe_ix u_ix (pv 0) (pe_int) (fun _ _ => rfl)) (pv 1)) (pa_cons (pe_op u_mod (pe_ix u_ix (pv 0) (pe_int) (fun _ _ => rfl)) (pv 1)) (pa_nil)))) (pg_tup rfl (pgs_cons (pg_sub (pv 0) (pe_int) (u_set hr.units)) (pgs_cons (pg_name (i := 2) nd rfl (by first | exact Or.inl rfl | exact Or.inr rfl)) (pgs_nil))))) (pss_one (ps_ret (pv 2)))) (pss_nil)) (pss_cons (ps_asg (pe_op u_mod (pe_op u_addN (pe_op u_mul (pe_ix u_ix (pv 0) (pe_int) (fun _ _ => rfl)) (pe_int)) (pe_int)) (pe_int)) (pg_sub (pv 0) (pe_int) (u_set hr.units))) (pss_cons (ps_set (i := 3) nd rfl (.inl rfl) (pe_op u_div (pe_ix u_ix (pv 0) (pe_int) (fun _ _ => rfl)) (pe_int))) (pss_one (ps_ret (pe_op u_mod (pe_op u_div (pe_op u_mod (pe_op u_mul (pv 3) (pv 3)) (pe_int)) (pe_int)) (pv 1)))))), ?_⟩
        clear hr
        rw [show L2.start N__law_draw [v_pot_here, v_many] = [some v_pot_here, some v_many, none, none] from rfl]
        obtain ⟨p, g, s, m, rfl, rfl, hp, hg, hs, hs2, hm, hm2, q⟩ := h
        walk_at "Zs"
        refine w_dec (fun h0 => ?_) (fun h0 => ?_)
        · walk_at "Zs"
          rename_i t H1 ht e1 e2
          have hp1 := e1 _ _ hp
          refine w_setl hp1 (j := 0) rfl ?_
          walk_at "Zs"
          refine q _ (g / m) s _ (fun b o hb e => ?_) upd_same (Int.ediv_nonneg hg (by omega)) hs hs2 (Int.emod_nonneg _ (by omega)) (Int.emod_lt_of_pos _ hm)
          rw [upd_ne hb]
          exact e1 _ _ e
        · walk_at "Zs"
          refine w_setl hp (j := 1) rfl ?_
          have hp1 : upd H p (.lst [.int g, .int ((s * 6364136223846793005 + 1442695040888963407) % 2305843009213693951)]) p = some (.lst [.int g, .int ((s * 6364136223846793005 + 1442695040888963407) % 2305843009213693951)]) := upd_same
          walk_at "Zs"
          refine q _ g _ _ (fun b o hb e => ?_) upd_same hg (by omega) (by omega) (Int.emod_nonneg _ (by omega)) (Int.emod_lt_of_pos _ hm)
          rw [upd_ne hb]
          exact e
  refine fn_view pot_flat F0 (fun vs H Q E h => ?_) fun vs H Q E h => ?_
  · match vs, h with | [_, _], _ => rfl
  · match vs, h with
    | [v1, v2], h =>
      obtain ⟨m, ⟨p, rfl, hp⟩, rfl, hm, hm2, q⟩ := h
      refine ⟨p, hp, fun u hu => ?_⟩
      obtain ⟨g, s, rfl, hg, hs, hs2⟩ := hu
      refine ⟨p, g, s, m, rfl, rfl, upd_same, hg, hs, hs2, hm, hm2, fun d g' s' H' e1 e2 h1 h2 h3 h4 h5 => ?_⟩
      refine ⟨_, ⟨g', s', rfl, h1, h2, h3⟩, e2, q d _ (fun b o e => ?_) h4 h5⟩
      by_cases hb : b = p
      · subst hb
        rw [upd_same, ← hp, e]
      · rw [upd_ne hb]
        exact e1 b o hb (by rw [upd_ne hb]; exact e)
theorem c__law_draw {W : Wd} {mg : Str → Option Value} {base : Heap} (B : Bi mg) (S : Src W.K mg "_law_draw" s__law_draw)  : Cal W mg base "_law_draw" 1 ["_law_pot_here", "_law_many"] (sp__law_draw W) := by
  obtain ⟨f, fd, g, F⟩ := S
  exact ⟨f, fd, g, f__law_draw B F , F.kp, (F.binds (ps := ["_law_pot_here", "_law_many"]) fun _ _ _ _ _ _ us hl => match us, hl with | [_, _], _ => rfl)⟩
theorem go__law_draw {W : Wd} {H : Hp} {Q : VK} {E : XK} {v : V} {m : Int} (hp : PotAt W H v) (h0 : 0 < m) (h1 : m < 1267650600228229401496703205376) (k : ∀ (d : Int) H', Same H H' → 0 ≤ d → d < m → Q (.int d) H') : sp__law_draw W [v, .int m] H Q E := ⟨m, hp, rfl, h0, h1, k⟩
local macro_rules | `(tactic| walk_at "Zc") => `(tactic| ((with_reducible refine' go__law_draw ?hp ?h0 ?h1 ?_); (case hp => walk_at "Zpot"); (case h0 => walk_at "Znum"); (case h1 => walk_at "Znum"); intro d H' e h0 h1))
def sp__law_value (W : Wd) : Sp := fun vs H Q _ => match vs with
  | [v_pot_here, v_breadth] =>
  ∃ b : Int, PotAt W H v_pot_here ∧ v_breadth = .int b ∧ 0 ≤ b ∧ b ≤ 60 ∧ ∀ (n : Int) H', Same H H' → 0 ≤ n → n < p2 b → Q (.int n) H'
  | _ => False
abbrev N__law_value : List Str := ["_law_pot_here", "_law_breadth", "_law_top", "_law_far", "_law_turn", "_law_some"]
theorem sc__law_value : FnScope N__law_value ["_law_pot_here", "_law_breadth"] (defScope s__law_value) := ⟨rfl, rfl, rfl, by decide +kernel, rfl, by decide +kernel, by decide +kernel⟩
theorem f__law_value {W : Wd} {mg : Str → Option Value} {base : Heap} (B : Bi mg) {f : Addr} {fd : FuncData} (F : Fun W.K "_law_value" "_law_value" s__law_value f fd) (C__law_draw : Cal W mg base "_law_draw" 1 ["_law_pot_here", "_law_many"] (sp__law_draw W)) : FnOk W.P W.w W.K mg base CX0 2 f fd ["_law_pot_here", "_law_breadth"] (sp__law_value W) := by
  obtain ⟨a__law_draw, d__law_draw, g__law_draw, F__law_draw, k__law_draw, b__law_draw⟩ := C__law_draw
  have nd := sc__law_value.nd
  have F0 : FnOk W.P W.w W.K mg base CX0 2 f fd ["_law_pot_here", "_law_breadth"] (sp__law_value W) := by
    refine F.ok sc__law_value (fun vs H Q E h => ?_) (fun cdv A outer s H vs Q E hr h => ?_)
    · match vs, h with | [_, _], _ => rfl
    · match vs, h with
      | [v_pot_here, v_breadth], h =>
        change sp__law_value W [v_pot_here, v_breadth] H Q E at h
        refine ⟨tSeq (tAsg (tOp (rSubU) (tOp (rShlU) (tC (.int 1)) (tVar 1)) (tC (.int 1))) (gName 2)) (tSeq (tAsg (tC (.int 0)) (gName 3)) (tSeq (tFor (iRng1 (tCons (tC (.int 3)) (tNil))) (gName 4) (tAsg (tOp (rAddN W.K) (tOp (rMulU W.K) (tVar 3) (tOp (rCon 1 20 1048576) (tC (.int 1)) (tC (.int 20)))) (tCall (sp__law_draw W) [] E0 (tCons (tVar 0) (tCons (tOp (rCon 1 20 1048576) (tC (.int 1)) (tC (.int 20))) (tNil))))) (gName 3))) (tSeq (tAsg (tLst (tCons (tC (.int 0)) (tCons (tVar 2) (tCons (tOp (rDivU) (tVar 2) (tC (.int 2))) (tCons (tCB (rMin2) (tCons (tVar 2) (tCons (tOp (rAddN W.K) (tOp (rDivU) (tVar 2) (tC (.int 2))) (tC (.int 1))) (tNil)))) (tCons (tCB (rMin2) (tCons (tVar 2) (tCons (tCall (sp__law_draw W) [] E0 (tCons (tVar 0) (tCons (tC (.int 4)) (tNil)))) (tNil)))) (tCons (tOp (rModU) (tVar 3) (tOp (rAddN W.K) (tVar 2) (tC (.int 1)))) (tCons (tOp (rModU) (tVar 3) (tOp (rAddN W.K) (tVar 2) (tC (.int 1)))) (tNil))))))))) (gName 5)) (tRet (tOp (rIxU W.K) (tVar 5) (tCall (sp__law_draw W) [] E0 (tCons (tVar 0) (tCons (tC (.int 7)) (tNil))))))))), pss_cons (ps_set (i := 2) nd rfl (.inl rfl) (pe_op u_sub (pe_op u_shl (pe_int) (pv 1)) (pe_int))) (pss_cons (ps_set (i := 3) nd rfl (.inl rfl) (pe_int)) (pss_cons (ps_for PassesOwn.never rfl (pi_range1 (by rfl) B.b_range (pa_cons (pe_int) (pa_nil))) (pg_name (i := 4) nd rfl (by first | exact Or.inl rfl | exact Or.inr rfl)) (pss_one (ps_set (i := 3) nd rfl (.inl rfl) (pe_op u_addN (pe_op u_mul (pv 3) (pe_op (u_shlc ⟨by decide, by decide, by decide⟩ (by decide +kernel)) pe_int pe_int)) (pe_call F__law_draw (hr.mono (by decide)) (by rfl) g__law_draw k__law_draw b__law_draw .nil pass0 (pa_cons (pv 0) (pa_cons (pe_op (u_shlc ⟨by decide, by decide, by decide⟩ (by decide +kernel)) pe_int pe_int) (pa_nil)))))))) (pss_cons (ps_set (i := 5) nd rfl (.inl rfl) (pe_lst (pa_cons (pe_int) (pa_cons (pv 2) (pa_cons (pe_op u_div (pv 2) (pe_int)) (pa_cons (pe_callB (call_min2 rfl) (by rfl) B.b_min (by decide +kernel) (pa_cons (pv 2) (pa_cons (pe_op u_addN (pe_op u_div (pv 2) (pe_int)) (pe_int)) (pa_nil)))) (pa_cons (pe_callB (call_min2 rfl) (by rfl) B.b_min (by decide +kernel) (pa_cons (pv 2) (pa_cons (pe_call F__law_draw (hr.mono (by decide)) (by rfl) g__law_draw k__law_draw b__law_draw .nil pass0 (pa_cons (pv 0) (pa_cons (pe_int) (pa_nil)))) (pa_nil)))) (pa_cons (pe_op u_mod (pv 3) (pe_op u_addN (pv 2) (pe_int))) (pa_cons (pe_op u_mod (pv 3) (pe_op u_addN (pv 2) (pe_int))) (pa_nil)))))))))) (pss_one (ps_ret (pe_ix u_ix (pv 5) (pe_call F__law_draw (hr.mono (by decide)) (by rfl) g__law_draw k__law_draw b__law_draw .nil pass0 (pa_cons (pv 0) (pa_cons (pe_int) (pa_nil)))) (fun _ _ => rfl))))))), ?_⟩
        clear hr
        clear F__law_draw g__law_draw k__law_draw b__law_draw d__law_draw a__law_draw
        rw [show L2.start N__law_value [v_pot_here, v_breadth] = [some v_pot_here, some v_breadth, none, none, none, none] from rfl]
        obtain ⟨b, hp, rfl, hb0, hb1, q⟩ := h
        walk_at "Zs"
        refine forR0 (fun j σ' H' => Same H H' ∧ ∃ far y4 y5, σ' = [some v_pot_here, some (.int b), some (.int (p2 b - 1)), some (.int far), y4, y5] ∧ 0 ≤ far ∧ far < 1048576 ^ j) ⟨Same.refl _, 0, _, _, rfl, by decide, by decide⟩ (fun j σ' H' hj h => ?_) (fun σ' H' h => ?_)
        · obtain ⟨g1, far, y4, y5, rfl, hf1, hf2⟩ := h
          walk_at "Zs"
          refine ⟨?_, _, _, _, rfl, by omega, ?_⟩
          · walk_at "Zkt"
          · rw [Int.pow_succ]
            omega
        · obtain ⟨g1, far, y4, y5, rfl, hf1, hf2⟩ := h
          have pb := p2_pos b
          have m1 := Int.emod_nonneg far (Int.ne_of_gt pb)
          have m2 := Int.emod_lt_of_pos far pb
          have e1 : p2 b - 1 + 1 = p2 b := by omega
          walk_at "Zs"
          rw [e1] at *
          tbr_iter (fun n => 0 ≤ n ∧ n < p2 b)
          intro n hn
          refine q n _ ?_ hn.1 hn.2
          walk_at "Zkt"
  exact F0
theorem c__law_value {W : Wd} {mg : Str → Option Value} {base : Heap} (B : Bi mg) (S : Src W.K mg "_law_value" s__law_value) (C__law_draw : Cal W mg base "_law_draw" 1 ["_law_pot_here", "_law_many"] (sp__law_draw W)) : Cal W mg base "_law_value" 2 ["_law_pot_here", "_law_breadth"] (sp__law_value W) := by
  obtain ⟨f, fd, g, F⟩ := S
  exact ⟨f, fd, g, f__law_value B F C__law_draw, F.kp, (F.binds (ps := ["_law_pot_here", "_law_breadth"]) fun _ _ _ _ _ _ us hl => match us, hl with | [_, _], _ => rfl)⟩
theorem go__law_value {W : Wd} {H : Hp} {Q : VK} {E : XK} {v : V} {b : Int} (hp : PotAt W H v) (h0 : 0 ≤ b) (h1 : b ≤ 60) (q : ∀ (n : Int) H', Same H H' → 0 ≤ n → n < p2 b → Q (.int n) H') : sp__law_value W [v, .int b] H Q E := ⟨b, hp, rfl, h0, h1, q⟩
local macro_rules | `(tactic| walk_at "Zc") => `(tactic| ((with_reducible refine' go__law_value ?hp ?h0 ?h1 ?_); (case hp => walk_at "Zpot"); (case h0 => walk_at "Znum"); (case h1 => walk_at "Znum"); intro n H' e h0 h1))
def sp__law_whole (W : Wd) : Sp := fun vs H Q _ => match vs with
  | [v_thing] =>
  ∃ d, Dp W.K H v_thing d ∧ Q (.bl (isIntD d)) H
  | _ => False
abbrev N__law_whole : List Str := ["_law_thing"]
theorem sc__law_whole : FnScope N__law_whole ["_law_thing"] (defScope s__law_whole) := ⟨rfl, rfl, rfl, by decide +kernel, rfl, by decide +kernel, by decide +kernel⟩
theorem f__law_whole {W : Wd} {mg : Str → Option Value} {base : Heap} (B : Bi mg) {f : Addr} {fd : FuncData} (F : Fun W.K "_law_whole" "_law_whole" s__law_whole f fd)  : FnOk W.P W.w W.K mg base CX0 1 f fd ["_law_thing"] (sp__law_whole W) := by
  have nd := sc__law_whole.nd
  have F0 : FnOk W.P W.w W.K mg base CX0 1 f fd ["_law_thing"] (sp__law_whole W) := by
    refine F.ok sc__law_whole (fun vs H Q E h => ?_) (fun cdv A outer s H vs Q E hr h => ?_)
    · match vs, h with | [_], _ => rfl
    · match vs, h with
      | [v_thing], h =>
        change sp__law_whole W [v_thing] H Q E at h
        refine ⟨tRet (tAndV (tCB (rIsi W.K) (tCons (tVar 0) (tCons (tC (.ty "int")) tNil))) (tNotV (tCB (rIsi W.K) (tCons (tVar 0) (tCons (tC (.ty "bool")) tNil))))), pss_one (ps_ret (pe_and (pe_callB call_isi (by rfl) B.b_isinstance (by decide +kernel) (pa_cons (pv 0) (pa_cons (pe_bltn (v := .ty "int") (u := .type "int") (by rfl) B.b_int (by decide +kernel) rfl) pa_nil))) (pe_one (pe_not (pe_callB call_isi (by rfl) B.b_isinstance (by decide +kernel) (pa_cons (pv 0) (pa_cons (pe_bltn (v := .ty "bool") (u := .type "bool") (by rfl) B.b_bool (by decide +kernel) rfl) pa_nil))))))), ?_⟩
        clear hr
        rw [show L2.start N__law_whole [v_thing] = [some v_thing] from rfl]
        obtain ⟨d, hd, q⟩ := h
        walk_at "Zs"
        refine w_isint' hd ?_
        cases d with
        | int i =>
          walk_at "Zs"
          refine w_isbool' hd ?_
          walk_at "Zs"
          exact q
        | bool b =>
          walk_at "Zs"
          refine w_isbool' hd ?_
          walk_at "Zs"
          exact q
        | _ =>
          walk_at "Zs"
          exact q
  exact F0
theorem c__law_whole {W : Wd} {mg : Str → Option Value} {base : Heap} (B : Bi mg) (S : Src W.K mg "_law_whole" s__law_whole)  : Cal W mg base "_law_whole" 1 ["_law_thing"] (sp__law_whole W) := by
  obtain ⟨f, fd, g, F⟩ := S
  exact ⟨f, fd, g, f__law_whole B F , F.kp, (F.binds (ps := ["_law_thing"]) fun _ _ _ _ _ _ us hl => match us, hl with | [_], _ => rfl)⟩
theorem go__law_whole {W : Wd} {H : Hp} {Q : VK} {E : XK} {v : V} {d : PyData} (hd : Dp W.K H v d) (k : Q (.bl (isIntD d)) H) : sp__law_whole W [v] H Q E := ⟨d, hd, k⟩
local macro_rules | `(tactic| walk_at "Zc") => `(tactic| ((with_reducible refine' go__law_whole ?hd ?_); (case hd => walk_at "Zdp")))
def sp__law_offset (W : Wd) : Sp := fun vs H Q _ => match vs with
  | [v_pot_here, v_w] =>
  ∃ w : Int, PotAt W H v_pot_here ∧ v_w = .int w ∧ 1 ≤ w ∧ w ≤ 40 ∧ ∀ (n : Int) H', Same H H' → 0 ≤ n → n < p2 w → Q (.int n) H'
  | _ => False
abbrev N__law_offset : List Str := ["_law_pot_here", "_law_w", "_law_size", "_law_far", "_law_some"]
theorem sc__law_offset : FnScope N__law_offset ["_law_pot_here", "_law_w"] (defScope s__law_offset) := ⟨rfl, rfl, rfl, by decide +kernel, rfl, by decide +kernel, by decide +kernel⟩
theorem f__law_offset {W : Wd} {mg : Str → Option Value} {base : Heap} (B : Bi mg) {f : Addr} {fd : FuncData} (F : Fun W.K "_law_offset" "_law_offset" s__law_offset f fd) (C__law_draw : Cal W mg base "_law_draw" 1 ["_law_pot_here", "_law_many"] (sp__law_draw W)) (C__law_value : Cal W mg base "_law_value" 2 ["_law_pot_here", "_law_breadth"] (sp__law_value W)) : FnOk W.P W.w W.K mg base CX0 3 f fd ["_law_pot_here", "_law_w"] (sp__law_offset W) := by
  obtain ⟨a__law_draw, d__law_draw, g__law_draw, F__law_draw, k__law_draw, b__law_draw⟩ := C__law_draw
  obtain ⟨a__law_value, d__law_value, g__law_value, F__law_value, k__law_value, b__law_value⟩ := C__law_value
  have nd := sc__law_offset.nd
  have F0 : FnOk W.P W.w W.K mg base CX0 3 f fd ["_law_pot_here", "_law_w"] (sp__law_offset W) := by
    refine F.ok sc__law_offset (fun vs H Q E h => ?_) (fun cdv A outer s H vs Q E hr h => ?_)
    · match vs, h with | [_, _], _ => rfl
    · match vs, h with
      | [v_pot_here, v_w], h =>
        change sp__law_offset W [v_pot_here, v_w] H Q E at h
        refine ⟨tSeq (tAsg (tOp (rShlU) (tC (.int 1)) (tVar 1)) (gName 2)) (tSeq (tAsg (tOp (rSubU) (tOp (rAddN W.K) (tOp (rShlU) (tC (.int 1)) (tCall (sp__law_draw W) [] E0 (tCons (tVar 0) (tCons (tVar 1) (tNil))))) (tCall (sp__law_draw W) [] E0 (tCons (tVar 0) (tCons (tC (.int 3)) (tNil))))) (tC (.int 1))) (gName 3)) (tSeq (tAsg (tLst (tCons (tC (.int 0)) (tCons (tCall (sp__law_draw W) [] E0 (tCons (tVar 0) (tCons (tC (.int 4)) (tNil)))) (tCons (tOp (rSubU) (tC (.int 0)) (tCall (sp__law_draw W) [] E0 (tCons (tVar 0) (tCons (tC (.int 4)) (tNil))))) (tCons (tVar 3) (tCons (tOp (rSubU) (tC (.int 0)) (tVar 3)) (tCons (tCall (sp__law_value W) [] E0 (tCons (tVar 0) (tCons (tVar 1) (tNil)))) (tNil)))))))) (gName 4)) (tRet (tOp (rModU) (tOp (rIxU W.K) (tVar 4) (tCall (sp__law_draw W) [] E0 (tCons (tVar 0) (tCons (tC (.int 6)) (tNil))))) (tVar 2))))), pss_cons (ps_set (i := 2) nd rfl (.inl rfl) (pe_op u_shl (pe_int) (pv 1))) (pss_cons (ps_set (i := 3) nd rfl (.inl rfl) (pe_op u_sub (pe_op u_addN (pe_op u_shl (pe_int) (pe_call F__law_draw (hr.mono (by decide)) (by rfl) g__law_draw k__law_draw b__law_draw .nil pass0 (pa_cons (pv 0) (pa_cons (pv 1) (pa_nil))))) (pe_call F__law_draw (hr.mono (by decide)) (by rfl) g__law_draw k__law_draw b__law_draw .nil pass0 (pa_cons (pv 0) (pa_cons (pe_int) (pa_nil))))) (pe_int))) (pss_cons (ps_set (i := 4) nd rfl (.inl rfl) (pe_lst (pa_cons (pe_int) (pa_cons (pe_call F__law_draw (hr.mono (by decide)) (by rfl) g__law_draw k__law_draw b__law_draw .nil pass0 (pa_cons (pv 0) (pa_cons (pe_int) (pa_nil)))) (pa_cons (pe_op u_sub (pe_int) (pe_call F__law_draw (hr.mono (by decide)) (by rfl) g__law_draw k__law_draw b__law_draw .nil pass0 (pa_cons (pv 0) (pa_cons (pe_int) (pa_nil))))) (pa_cons (pv 3) (pa_cons (pe_op u_sub (pe_int) (pv 3)) (pa_cons (pe_call F__law_value (hr.mono (by decide)) (by rfl) g__law_value k__law_value b__law_value .nil pass0 (pa_cons (pv 0) (pa_cons (pv 1) (pa_nil)))) (pa_nil))))))))) (pss_one (ps_ret (pe_op u_mod (pe_ix u_ix (pv 4) (pe_call F__law_draw (hr.mono (by decide)) (by rfl) g__law_draw k__law_draw b__law_draw .nil pass0 (pa_cons (pv 0) (pa_cons (pe_int) (pa_nil)))) (fun _ _ => rfl)) (pv 2)))))), ?_⟩
        clear hr
        clear F__law_draw g__law_draw k__law_draw b__law_draw d__law_draw a__law_draw
        clear F__law_value g__law_value k__law_value b__law_value d__law_value a__law_value
        rw [show L2.start N__law_offset [v_pot_here, v_w] = [some v_pot_here, some v_w, none, none, none] from rfl]
        obtain ⟨w, hp, rfl, h0, h1, q⟩ := h
        have pw := p2_pos w
        walk_at "Zs"
        tbr_iter (fun _ => True)
        intro x _
        walk_at "Zs"
        refine q _ _ ?_ (Int.emod_nonneg _ (Int.ne_of_gt pw)) (Int.emod_lt_of_pos _ pw)
        walk_at "Zkt"
  exact F0
theorem c__law_offset {W : Wd} {mg : Str → Option Value} {base : Heap} (B : Bi mg) (S : Src W.K mg "_law_offset" s__law_offset) (C__law_draw : Cal W mg base "_law_draw" 1 ["_law_pot_here", "_law_many"] (sp__law_draw W)) (C__law_value : Cal W mg base "_law_value" 2 ["_law_pot_here", "_law_breadth"] (sp__law_value W)) : Cal W mg base "_law_offset" 3 ["_law_pot_here", "_law_w"] (sp__law_offset W) := by
  obtain ⟨f, fd, g, F⟩ := S
  exact ⟨f, fd, g, f__law_offset B F C__law_draw C__law_value, F.kp, (F.binds (ps := ["_law_pot_here", "_law_w"]) fun _ _ _ _ _ _ us hl => match us, hl with | [_, _], _ => rfl)⟩
theorem go__law_offset {W : Wd} {H : Hp} {Q : VK} {E : XK} {v : V} {w : Int} (hp : PotAt W H v) (h0 : 1 ≤ w) (h1 : w ≤ 40) (q : ∀ (n : Int) H', Same H H' → 0 ≤ n → n < p2 w → Q (.int n) H') : sp__law_offset W [v, .int w] H Q E := ⟨w, hp, rfl, h0, h1, q⟩
local macro_rules | `(tactic| walk_at "Zc") => `(tactic| ((with_reducible refine' go__law_offset ?hp ?h0 ?h1 ?_); (case hp => walk_at "Zpot"); (case h0 => walk_at "Znum"); (case h1 => walk_at "Znum"); intro n H' e h0 h1))
def inB (w width below : Int) (x : Int) : Bool := decide ((x + below) % p2 w < p2 width)
def sp__law_in (W : Wd) : Sp := fun vs H Q _ => match vs with
  | [v_w, v_offsets, v_width, v_below] =>
  ∃ (w width below : Int) (os : List Int), v_w = .int w ∧ v_width = .int width ∧ v_below = .int below ∧ Dq W.K H v_offsets (.tuple (os.map .int)) ∧ os.length ≤ 1000 ∧ 0 ≤ w ∧ w ≤ 1000 ∧ 0 ≤ width ∧ width ≤ 1000 ∧ ∀ H', Same H H' → Q (.bl (decide (below < p2 width) && os.all (inB w width below))) H'
  | _ => False
abbrev N__law_in : List Str := ["_law_w", "_law_offsets", "_law_width", "_law_below", "_law_power", "_law_size", "_law_offset_here"]
theorem sc__law_in : FnScope N__law_in ["_law_w", "_law_offsets", "_law_width", "_law_below"] (defScope s__law_in) := ⟨rfl, rfl, rfl, by decide +kernel, rfl, by decide +kernel, by decide +kernel⟩
theorem f__law_in {W : Wd} {mg : Str → Option Value} {base : Heap} (B : Bi mg) {f : Addr} {fd : FuncData} (F : Fun W.K "_law_in" "_law_in" s__law_in f fd)  : FnOk W.P W.w W.K mg base CX0 1 f fd ["_law_w", "_law_offsets", "_law_width", "_law_below"] (sp__law_in W) := by
  have nd := sc__law_in.nd
  have F0 : FnOk W.P W.w W.K mg base CX0 1 f fd ["_law_w", "_law_offsets", "_law_width", "_law_below"] (sp__law_in W) := by
    refine F.ok sc__law_in (fun vs H Q E h => ?_) (fun cdv A outer s H vs Q E hr h => ?_)
    · match vs, h with | [_, _, _, _], _ => rfl
    · match vs, h with
      | [v_w, v_offsets, v_width, v_below], h =>
        change sp__law_in W [v_w, v_offsets, v_width, v_below] H Q E at h
        refine ⟨tSeq (tAsg (tTupN (tCons (tOp (rShlU) (tC (.int 1)) (tVar 0)) (tCons (tOp (rShlU) (tC (.int 1)) (tVar 2)) (tNil)))) (gTup W.K 2 (gCons (gName 4) (gCons (gName 5) (gNil))))) (tRet (tAndV (tOp (rLtU W.K) (tVar 3) (tVar 5)) (tCB (rAll W.K) (tCons (tLc (iAny W.K (tVar 1)) (gName 6) (tYes) (tOp (rLtU W.K) (tOp (rModU) (tOp (rAddN W.K) (tVar 6) (tVar 3)) (tVar 4)) (tVar 5)) [6]) (tNil))))), pss_cons (ps_asg (pe_tupN (pa_cons (pe_op u_shl (pe_int) (pv 0)) (pa_cons (pe_op u_shl (pe_int) (pv 2)) (pa_nil)))) (pg_tup rfl (pgs_cons (pg_name (i := 4) nd rfl (by first | exact Or.inl rfl | exact Or.inr rfl)) (pgs_cons (pg_name (i := 5) nd rfl (by first | exact Or.inl rfl | exact Or.inr rfl)) (pgs_nil))))) (pss_one (ps_ret (pe_and (pe_cmpR u_lt (pv 3) (pv 5) (nomark _)) (pe_one (pe_callB (cr_all rfl) (by rfl) B.b_all (by decide +kernel) (pa_cons (pe_lc (own := [("_law_offset_here", 6)]) rfl nd (pi_any (pv 1)) (blkOk_by (own := [("_law_offset_here", 6)]) (N := N__law_in) (sc := defScope s__law_in) (by decide +kernel)) (fun _ _ _ _ _ => pg_name (i := 6) nd rfl (by first | exact Or.inl rfl | exact Or.inr rfl)) (fun _ _ _ _ _ => pts_nil) (fun _ _ _ _ _ => pe_cmpR u_lt (pe_op u_mod (pe_op u_addN (pv 6) (pv 3)) (pv 4)) (pv 5) (nomark _))) (pa_nil))))))), ?_⟩
        clear hr
        rw [show L2.start N__law_in [v_w, v_offsets, v_width, v_below] = [some v_w, some v_offsets, some v_width, some v_below, none, none, none] from rfl]
        obtain ⟨w, width, below, os, rfl, rfl, rfl, ho, hl, w0, w1, d0, d1, q⟩ := h
        obtain ⟨a, rfl, ha⟩ := dq_ti ho
        have pw := p2_pos w
        walk_at "Zs"
        rename_i p1 G1 np1 f1 h1
        cases c : decide (below < p2 width) with
        | false =>
          rw [c, Bool.false_and] at q
          walk_at "Zs"
          exact q _ f1
        | true =>
          rw [c, Bool.true_and] at q
          walk_at "Zs"
          have ha1 := same_t f1 ha.t
          refine w_goT ha1 ?_
          refine lcT ha1 (fun i acc _ => acc = (os.take i).map fun b => V.bl (inB w width below b)) stb_pure (by rw [List.length_map]; omega) (fun i acc H' e => by rw [e, List.length_map, List.length_take]; omega) (fun H' _ => rfl) (fun i x acc H' hx e1 ea k k' hk hk' => ?_) fun D acc H' hD e1 hD' ea => ?_
          · obtain ⟨b, eb, rfl⟩ : ∃ b, os[i]? = some b ∧ V.int b = x := by
              rw [List.getElem?_map] at hx
              cases e : os[i]? with
              | none => rw [e] at hx; cases hx
              | some b => rw [e] at hx; exact ⟨b, rfl, Option.some.inj hx⟩
            walk_at "Zs"
            refine hk _ _ (Same.refl _) ?_
            rw [List.take_add_one, eb, List.map_append, ea]
            rfl
          · rw [List.length_map, List.take_length] at ea
            refine w_all (bs := os.map (inB w width below)) ?_ ?_
            · refine SqL.of ?_
              rw [hD', ea, List.map_map]
              rfl
            · have e : (os.map (inB w width below)).all id = os.all (inB w width below) := by
                rw [List.all_map]
                rfl
              rw [e]
              exact q H' (f1.trans e1)
  exact F0
theorem c__law_in {W : Wd} {mg : Str → Option Value} {base : Heap} (B : Bi mg) (S : Src W.K mg "_law_in" s__law_in)  : Cal W mg base "_law_in" 1 ["_law_w", "_law_offsets", "_law_width", "_law_below"] (sp__law_in W) := by
  obtain ⟨f, fd, g, F⟩ := S
  exact ⟨f, fd, g, f__law_in B F , F.kp, (F.binds (ps := ["_law_w", "_law_offsets", "_law_width", "_law_below"]) fun _ _ _ _ _ _ us hl => match us, hl with | [_, _, _, _], _ => rfl)⟩
theorem go__law_in {W : Wd} {H : Hp} {Q : VK} {E : XK} {x : V} {w width below : Int} {os : List Int} (ho : Dq W.K H x (.tuple (os.map .int))) (hl : os.length ≤ 1000) (w0 : 0 ≤ w) (w1 : w ≤ 1000) (d0 : 0 ≤ width) (d1 : width ≤ 1000) (q : ∀ H', Same H H' → Q (.bl (decide (below < p2 width) && os.all (inB w width below))) H') :
    sp__law_in W [.int w, x, .int width, .int below] H Q E := ⟨w, width, below, os, rfl, rfl, rfl, ho, hl, w0, w1, d0, d1, q⟩
def sp__law_belows (W : Wd) : Sp := fun vs H Q _ => match vs with
  | [v_w, v_offsets] =>
  ∃ (w : Int) (os : List Int), v_w = .int w ∧ Dq W.K H v_offsets (.tuple (os.map .int)) ∧ os.length ≤ 50 ∧ 0 ≤ w ∧ w ≤ 100 ∧
    ∀ (bs : List Int) p H', Same H H' → H' p = some (.lst (bs.map V.int)) → bs.Pairwise (· < ·) → (∀ b ∈ bs, 0 ≤ b) → 0 ∈ bs → (∀ o ∈ os, (0 - o) % p2 w ∈ bs) → bs.length ≤ 128 → Q (.ref p) H'
  | _ => False
abbrev N__law_belows : List Str := ["_law_w", "_law_offsets", "_law_offset_here"]
theorem sc__law_belows : FnScope N__law_belows ["_law_w", "_law_offsets"] (defScope s__law_belows) := ⟨rfl, rfl, rfl, by decide +kernel, rfl, by decide +kernel, by decide +kernel⟩
theorem f__law_belows {W : Wd} {mg : Str → Option Value} {base : Heap} (B : Bi mg) {f : Addr} {fd : FuncData} (F : Fun W.K "_law_belows" "_law_belows" s__law_belows f fd)  : FnOk W.P W.w W.K mg base CX0 1 f fd ["_law_w", "_law_offsets"] (sp__law_belows W) := by
  have nd := sc__law_belows.nd
  have F0 : FnOk W.P W.w W.K mg base CX0 1 f fd ["_law_w", "_law_offsets"] (sp__law_belows W) := by
    refine F.ok sc__law_belows (fun vs H Q E h => ?_) (fun cdv A outer s H vs Q E hr h => ?_)
    · match vs, h with | [_, _], _ => rfl
    · match vs, h with
      | [v_w, v_offsets], h =>
        change sp__law_belows W [v_w, v_offsets] H Q E at h
        refine ⟨tSeq (tIfS (tTest (tOp (rLtU W.K) (tVar 0) (tC (.int 7)))) (tRet (tLstRg (tRg1 (tOp (rShlU) (tC (.int 1)) (tVar 0))))) (tNext)) (tRet (tCB (rSortedSet W.w) (tCons (tCB (rSetL W.K W.w) (tCons (tOp (rAddN W.K) (tLst (tCons (tC (.int 0)) (tNil))) (tLc (iAny W.K (tVar 1)) (gName 2) (tYes) (tOp (rModU) (tOp (rSubU) (tC (.int 0)) (tVar 2)) (tOp (rShlU) (tC (.int 1)) (tVar 0))) [2])) (tNil))) (tNil)))), pss_cons (ps_if (pt_cmpR u_lt (pv 0) (pe_int) (nomark _)) (pss_one (ps_ret (pe_listRg (by rfl) (by rfl) B.b_list (prg_1 (by rfl) B.b_range (pe_op u_shl (pe_int) (pv 0)))))) (pss_nil)) (pss_one (ps_ret (pe_callB (cr_sortedSet (by rfl)) (by rfl) B.b_sorted (by decide +kernel) (pa_cons (pe_callTy (call_setL (by rfl)) (by rfl) B.b_set (by decide +kernel) (pa_cons (pe_op u_addN (pe_lst (pa_cons (pe_int) (pa_nil))) (pe_lc (own := [("_law_offset_here", 2)]) rfl nd (pi_any (pv 1)) (blkOk_by (own := [("_law_offset_here", 2)]) (N := N__law_belows) (sc := defScope s__law_belows) (by decide +kernel)) (fun _ _ _ _ _ => pg_name (i := 2) nd rfl (by first | exact Or.inl rfl | exact Or.inr rfl)) (fun _ _ _ _ _ => pts_nil) (fun _ _ _ _ _ => pe_op u_mod (pe_op u_sub (pe_int) (pv 2)) (pe_op u_shl (pe_int) (pv 0))))) (pa_nil))) (pa_nil))))), ?_⟩
        clear hr
        rw [show L2.start N__law_belows [v_w, v_offsets] = [some v_w, some v_offsets, none] from rfl]
        obtain ⟨w, os, rfl, ho, hl, w0, w1, q⟩ := h
        have pw := p2_pos w
        walk_at "Zs"
        refine w_dec (fun hlt => ?_) (fun hge => ?_)
        · walk_at "Zs"
          have le : p2 w ≤ 64 := p2_le (show w ≤ 6 by omega)
          refine w_rgN (by omega) (by omega) fun p H1 np e1 h1 => ?_
          have mem : ∀ x : Int, 0 ≤ x → x < p2 w → x ∈ (List.range (p2 w).toNat).map fun i : Nat => (i : Int) := fun x h0 h1 => List.mem_map.mpr ⟨x.toNat, List.mem_range.mpr (by omega), by omega⟩
          refine q _ p H1 e1 h1 ?_ (fun b hb => ?_) (mem 0 (Int.le_refl _) pw) (fun o _ => mem _ (Int.emod_nonneg _ (Int.ne_of_gt pw)) (Int.emod_lt_of_pos _ pw)) ?_
          · rw [List.pairwise_map]
            exact List.Pairwise.imp (fun h => Int.ofNat_lt.mpr h) List.pairwise_lt_range
          · obtain ⟨x, _, rfl⟩ := List.mem_map.mp hb
            exact Int.natCast_nonneg _
          · rw [List.length_map, List.length_range]
            omega
        · obtain ⟨a, rfl, ha⟩ := dq_ti ho
          walk_at "Zs"
          rename_i p1 G1 np1 f1 h1
          have ha1 := same_t f1 ha.t
          refine w_goT ha1 ?_
          refine lcT ha1 (fun i acc _ => acc = (os.take i).map fun o => V.int ((0 - o) % p2 w)) stb_pure (by rw [List.length_map]; omega) (fun i acc H' e => by rw [e, List.length_map, List.length_take]; omega) (fun H' _ => rfl) (fun i x acc H' hx e1 ea k k' hk hk' => ?_) fun D acc H2 hD e2 hD' ea => ?_
          · obtain ⟨b, eb, rfl⟩ := ints_at hx
            walk_at "Zs"
            refine hk _ _ (Same.refl _) ?_
            rw [List.take_add_one, eb, List.map_append, ea]
            rfl
          · rw [List.length_map, List.take_length] at ea
            refine w_catL (e2 _ _ h1) hD' (by rw [ea, List.length_map]; simp only [List.length_cons, List.length_nil]; omega) fun p3 H3 np3 e3 h3 => ?_
            have h3b : H3 p3 = some (.lst ((0 :: os.map fun o => (0 - o) % p2 w).map V.int)) := by
              rw [h3, ea, List.map_cons, List.map_map]
              rfl
            walk_at "Zs"
            refine w_setL (SqL.of h3b) (by rw [List.length_cons, List.length_map]; omega) fun p4 c H4 np4 e4 hc h4 => ?_
            rw [List.length_cons, List.length_map] at hc
            walk_at "Zs"
            refine w_sortedSet h4 (by omega) fun ps p5 H5 up mem len np5 e5 h5 => ?_
            refine q ps p5 H5 (by walk_at "Zkt") h5 up (fun b hb => ?_) ((mem 0).mpr (decide_eq_true List.mem_cons_self)) (fun o ho => (mem _).mpr (decide_eq_true (List.mem_cons_of_mem _ (List.mem_map.mpr ⟨o, ho, rfl⟩)))) (by omega)
            have z := of_decide_eq_true ((mem b).mp hb)
            rcases List.mem_cons.mp z with rfl | z
            · exact Int.le_refl _
            · obtain ⟨o, _, rfl⟩ := List.mem_map.mp z
              exact Int.emod_nonneg _ (Int.ne_of_gt pw)
  exact F0
theorem c__law_belows {W : Wd} {mg : Str → Option Value} {base : Heap} (B : Bi mg) (S : Src W.K mg "_law_belows" s__law_belows)  : Cal W mg base "_law_belows" 1 ["_law_w", "_law_offsets"] (sp__law_belows W) := by
  obtain ⟨f, fd, g, F⟩ := S
  exact ⟨f, fd, g, f__law_belows B F , F.kp, (F.binds (ps := ["_law_w", "_law_offsets"]) fun _ _ _ _ _ _ us hl => match us, hl with | [_, _], _ => rfl)⟩
theorem go__law_belows {W : Wd} {H : Hp} {Q : VK} {E : XK} {x : V} {w : Int} {os : List Int} (ho : Dq W.K H x (.tuple (os.map .int))) (hl : os.length ≤ 50) (w0 : 0 ≤ w) (w1 : w ≤ 100)
    (q : ∀ (bs : List Int) p H', Same H H' → H' p = some (.lst (bs.map V.int)) → bs.Pairwise (· < ·) → (∀ b ∈ bs, 0 ≤ b) → 0 ∈ bs → (∀ o ∈ os, (0 - o) % p2 w ∈ bs) → bs.length ≤ 128 → Q (.ref p) H') : sp__law_belows W [.int w, x] H Q E := ⟨w, os, rfl, ho, hl, w0, w1, q⟩
def inWB (w wd : Int) (os : List Int) (b : Int) : Bool := decide (b < p2 wd) && os.all (inB w wd b)
theorem inWB_iff {w wd b : Int} {os : List Int} : inWB w wd os b = true ↔ InWin w os wd b := by
  unfold inWB InWin inB
  rw [Bool.and_eq_true, List.all_eq_true, decide_eq_true_iff]
  constructor
  · exact fun h => ⟨h.1, fun o ho => of_decide_eq_true (h.2 o ho)⟩
  · exact fun h => ⟨h.1, fun o ho => decide_eq_true (h.2 o ho)⟩
def sp__law_due (W : Wd) : Sp := fun vs H Q _ => match vs with
  | [v_w, v_offsets] =>
  ∃ (w : Int) (os : List Int), v_w = .int w ∧ Dq W.K H v_offsets (.tuple (os.map .int)) ∧ os.length ≤ 50 ∧ 0 ≤ w ∧ w ≤ 100 ∧
    ∀ (wd bl : Int) v H', Same H H' → Tight w os wd bl → Dq W.K H' v (.tuple [.int wd, .int bl]) → Q v H'
  | _ => False
abbrev N__law_due : List Str := ["_law_w", "_law_offsets", "_law_width", "_law_some", "_law_below"]
theorem sc__law_due : FnScope N__law_due ["_law_w", "_law_offsets"] (defScope s__law_due) := ⟨rfl, rfl, rfl, by decide +kernel, rfl, by decide +kernel, by decide +kernel⟩
theorem f__law_due {W : Wd} {mg : Str → Option Value} {base : Heap} (B : Bi mg) {f : Addr} {fd : FuncData} (F : Fun W.K "_law_due" "_law_due" s__law_due f fd) (C__law_belows : Cal W mg base "_law_belows" 1 ["_law_w", "_law_offsets"] (sp__law_belows W)) (C__law_in : Cal W mg base "_law_in" 1 ["_law_w", "_law_offsets", "_law_width", "_law_below"] (sp__law_in W)) : FnOk W.P W.w W.K mg base CX0 2 f fd ["_law_w", "_law_offsets"] (sp__law_due W) := by
  obtain ⟨a__law_belows, d__law_belows, g__law_belows, F__law_belows, k__law_belows, b__law_belows⟩ := C__law_belows
  obtain ⟨a__law_in, d__law_in, g__law_in, F__law_in, k__law_in, b__law_in⟩ := C__law_in
  have nd := sc__law_due.nd
  have F0 : FnOk W.P W.w W.K mg base CX0 2 f fd ["_law_w", "_law_offsets"] (sp__law_due W) := by
    refine F.ok sc__law_due (fun vs H Q E h => ?_) (fun cdv A outer s H vs Q E hr h => ?_)
    · match vs, h with | [_, _], _ => rfl
    · match vs, h with
      | [v_w, v_offsets], h =>
        change sp__law_due W [v_w, v_offsets] H Q E at h
        refine ⟨tSeq (tFor (iRng1 (tCons (tOp (rAddN W.K) (tVar 0) (tC (.int 1))) (tNil))) (gName 2) (tSeq (tAsg (tLc (iAny W.K (tCall (sp__law_belows W) [] E0 (tCons (tVar 0) (tCons (tVar 1) (tNil))))) (gName 4) (tB (tCall (sp__law_in W) [] E0 (tCons (tVar 0) (tCons (tVar 1) (tCons (tVar 2) (tCons (tVar 4) (tNil))))))) (tVar 4) [4]) (gName 3)) (tIfS (tTest (tOp (rNeU W.K) (tVar 3) (tLst (tNil)))) (tRet (tTupN (tCons (tVar 2) (tCons (tOp (rIxU W.K) (tVar 3) (tC (.int 0))) (tNil))))) (tNext)))) (tRet (tC .non)), pss_cons (ps_for PassesOwn.never rfl (pi_range1 (by rfl) B.b_range (pa_cons (pe_op u_addN (pv 0) (pe_int)) (pa_nil))) (pg_name (i := 2) nd rfl (by first | exact Or.inl rfl | exact Or.inr rfl)) (pss_cons (ps_setLc (i := 3) (own := [("_law_below", 4)]) rfl nd rfl rfl (sw_true rfl rfl rfl (by decide +kernel)) (pi_any (pe_call F__law_belows (hr.mono (by decide)) (by rfl) g__law_belows k__law_belows b__law_belows .nil pass0 (pa_cons (pv 0) (pa_cons (pv 1) (pa_nil))))) (blkOk_by (own := [("_law_below", 4)]) (N := N__law_due) (sc := defScope s__law_due) (by decide +kernel)) (fun _ _ _ _ _ => pg_name (i := 4) nd rfl (by first | exact Or.inl rfl | exact Or.inr rfl)) (fun _ _ _ _ _ => pts_one (pt_val (pe_call F__law_in (hr.mono (by decide)) (by rfl) g__law_in k__law_in b__law_in .nil pass0 (pa_cons (pv 0) (pa_cons (pv 1) (pa_cons (pv 2) (pa_cons (pv 4) (pa_nil)))))))) (fun _ _ _ _ _ => pv 4)) (pss_one (ps_if (pt_cmpR (u_ne hr.units) (pv 3) (pe_lst (pa_nil)) (nomark _)) (pss_one (ps_ret (pe_tupN (pa_cons (pv 2) (pa_cons (pe_ix u_ix (pv 3) (pe_int) (fun _ _ => rfl)) (pa_nil)))))) (pss_nil))))) (pss_one (ps_ret (pe_non))), ?_⟩
        clear hr
        clear F__law_belows g__law_belows k__law_belows b__law_belows d__law_belows a__law_belows
        clear F__law_in g__law_in k__law_in b__law_in d__law_in a__law_in
        rw [show L2.start N__law_due [v_w, v_offsets] = [some v_w, some v_offsets, none, none, none] from rfl]
        obtain ⟨w, os, rfl, ho, hl, w0, w1, q⟩ := h
        walk_at "Zs"
        refine forR0 (fun i σ' H' => (∃ y2 y3 y4, σ' = [some (.int w), some v_offsets, y2, y3, y4]) ∧ Same H H' ∧ ∀ wd' c, 0 ≤ wd' → wd' < (i : Int) → 0 ≤ c → ¬ InWin w os wd' c) ⟨⟨_, _, _, rfl⟩, Same.refl _, fun wd' c h0 h1 => by omega⟩ (fun i σ' H1 hi h => ?_) (fun σ' H1 h => ?_)
        · obtain ⟨⟨y2, y3, y4, rfl⟩, e1, hno⟩ := h
          have ho1 := dq_mono e1 ho
          walk_at "Zs"
          refine go__law_belows ho1 hl w0 w1 fun bs pb H2 e2 h2 up nn m0 mo bl => ?_
          have hlen : (bs.map V.int).length ≤ 128 := by rw [List.length_map]; exact bl
          walk_at "Zs"
          refine w_goL (SqL.of h2) ?_
          refine lcL (SqL.of h2) (fun j acc _ => acc = ((bs.take j).filter (inWB w i os)).map V.int) stb_pure (by omega) (fun j acc H' e => by rw [e, List.length_map]; exact Nat.le_trans (List.length_filter_le _ _) (by rw [List.length_take]; omega)) (fun H' _ => rfl) (fun j x acc H' hx e3 ea k k' hk hk' => ?_) fun D acc H3 hD e3 hD' ea => ?_
          · obtain ⟨b, eb, rfl⟩ := ints_at hx
            walk_at "Zs"
            refine go__law_in (dq_mono (e2.trans e3) ho1) (by omega) w0 (by omega) (by omega) (by omega) fun H4 e4 => ?_
            walk_at "Zs"
            have et : bs.take (j + 1) = bs.take j ++ [b] := by rw [List.take_add_one, eb]; rfl
            cases c : (decide (b < p2 i) && os.all (inB w i b)) with
            | true =>
              walk_at "Zs"
              refine hk _ _ e4 ?_
              rw [et, List.filter_append, List.map_append, ea]
              have c2 : inWB w i os b = true := c
              simp [c2]
            | false =>
              walk_at "Zs"
              refine hk' _ e4 ?_
              rw [et, List.filter_append, List.map_append, ea]
              have c2 : inWB w i os b = false := c
              simp [c2]
          · rw [List.length_map, List.take_length] at ea
            walk_at "Zs"
            rename_i p4 H4 np4 e4 h4
            refine w_neNil (ns := bs.filter (inWB w i os)) (SqL.of (e4 _ _ (by rw [hD', ea]))) (SqL.of h4) ?_
            walk_at "Zs"
            have least : ∀ wd' c, 0 ≤ wd' → 0 ≤ c → InWin w os wd' c → (c = 0 ∨ ∃ o ∈ os, c = (0 - o) % p2 w) → c ∈ bs := fun wd' c _ _ _ hc => by
              rcases hc with rfl | ⟨o, ho, rfl⟩
              · exact m0
              · exact mo o ho
            cases hf : bs.filter (inWB w i os) with
            | nil =>
              walk_at "Zs"
              refine ⟨⟨_, _, _, rfl⟩, by walk_at "Zkt", fun wd' c h0 h1 h2 h3 => ?_⟩
              by_cases ew : wd' < (i : Int)
              · exact hno wd' c h0 ew h2 h3
              · have ew2 : wd' = i := by omega
                subst ew2
                obtain ⟨c', c0, c1, c2, c3⟩ := win_cand (by omega) h2 h3
                have z := List.mem_filter.mpr ⟨least _ _ h0 c0 c2 c3, inWB_iff.mpr c2⟩
                rw [hf] at z
                cases z
            | cons b r =>
              have hb : b ∈ bs.filter (inWB w i os) := by rw [hf]; exact List.mem_cons_self
              have hb2 := List.mem_filter.mp hb
              have hp : (b :: r).Pairwise (· < ·) := by rw [← hf]; exact up.filter _
              walk_at "Zs"
              refine w_ixl (x := .int b) (SqL.of (e4 _ _ hD')) ?_ ?_
              · rw [ea, hf]
                exact atI_zero
              walk_at "Zs"
              rename_i p5 H5 np5 e5 h5
              refine q i b _ _ (by walk_at "Zkt") ?_ (dq_ofN (ns := [(i : Int), b]) h5)
              refine tight_of (by omega) (by omega) (nn b hb2.1) (inWB_iff.mp hb2.2) fun wd' c h0 h1 h2 h3 h4 => ?_
              have z : ¬ wd' < (i : Int) := fun ew => hno wd' c h0 ew h2 h3
              refine ⟨by omega, fun ew => ?_⟩
              subst ew
              have z := List.mem_filter.mpr ⟨least _ _ h0 h2 h3 h4, inWB_iff.mpr h3⟩
              rw [hf] at z
              rcases List.mem_cons.mp z with rfl | z
              · exact Int.le_refl _
              · exact Int.le_of_lt ((List.pairwise_cons.mp hp).1 c z)
        · obtain ⟨⟨y2, y3, y4, rfl⟩, e1, hno⟩ := h
          refine absurd ?_ (hno w 0 w0 (by omega) (Int.le_refl _))
          exact ⟨p2_pos w, fun o _ => Int.emod_lt_of_pos _ (p2_pos w)⟩
  exact F0
theorem c__law_due {W : Wd} {mg : Str → Option Value} {base : Heap} (B : Bi mg) (S : Src W.K mg "_law_due" s__law_due) (C__law_belows : Cal W mg base "_law_belows" 1 ["_law_w", "_law_offsets"] (sp__law_belows W)) (C__law_in : Cal W mg base "_law_in" 1 ["_law_w", "_law_offsets", "_law_width", "_law_below"] (sp__law_in W)) : Cal W mg base "_law_due" 2 ["_law_w", "_law_offsets"] (sp__law_due W) := by
  obtain ⟨f, fd, g, F⟩ := S
  exact ⟨f, fd, g, f__law_due B F C__law_belows C__law_in, F.kp, (F.binds (ps := ["_law_w", "_law_offsets"]) fun _ _ _ _ _ _ us hl => match us, hl with | [_, _], _ => rfl)⟩
theorem go__law_due {W : Wd} {H : Hp} {Q : VK} {E : XK} {x : V} {w : Int} {os : List Int} (ho : Dq W.K H x (.tuple (os.map .int))) (hl : os.length ≤ 50) (w0 : 0 ≤ w) (w1 : w ≤ 100)
    (q : ∀ (wd bl : Int) v H', Same H H' → Tight w os wd bl → Dq W.K H' v (.tuple [.int wd, .int bl]) → Q v H') : sp__law_due W [.int w, x] H Q E := ⟨w, os, rfl, ho, hl, w0, w1, q⟩
def sp_law (W : Wd) : Sp := fun vs H Q _ => match vs with
  | [v_script] =>
  ∃ (a : Addr) (ns : List Int), v_script = .ref a ∧ SqL W.K H a (ns.map V.int) ∧ ns.length ≤ 63 ∧ (∀ z ∈ ns, Builtin.Int.intBits z ≤ 1048576) ∧ ∀ H', Q (.bl true) H'
  | _ => False
abbrev N_law : List Str := ["_law_script", "_law_k", "_law_pot_here", "_law_turn", "_law_w", "_law_offsets", "_law_found", "_law_j", "_law_one"]
theorem sc_law : FnScope N_law ["_law_script"] (defScope s_law) := ⟨rfl, rfl, rfl, by decide +kernel, rfl, by decide +kernel, by decide +kernel⟩
theorem f_law {W : Wd} {mg : Str → Option Value} {base : Heap} (B : Bi mg) {f : Addr} {fd : FuncData} (F : Fun W.K "law" "law" s_law f fd) (C_tightest : Cal W mg base "tightest" 3 ["w", "offsets"] (sp_tightest W)) (C__law_draw : Cal W mg base "_law_draw" 1 ["_law_pot_here", "_law_many"] (sp__law_draw W)) (C__law_pot : Cal W mg base "_law_pot" 1 ["_law_script", "_law_k"] (sp__law_pot W)) (C__law_due : Cal W mg base "_law_due" 2 ["_law_w", "_law_offsets"] (sp__law_due W)) (C__law_whole : Cal W mg base "_law_whole" 1 ["_law_thing"] (sp__law_whole W)) (C__law_offset : Cal W mg base "_law_offset" 3 ["_law_pot_here", "_law_w"] (sp__law_offset W)) : FnOk W.P W.w W.K mg base CX0 4 f fd ["_law_script"] (sp_law W) := by
  obtain ⟨a_tightest, d_tightest, g_tightest, F_tightest, k_tightest, b_tightest⟩ := C_tightest
  obtain ⟨a__law_draw, d__law_draw, g__law_draw, F__law_draw, k__law_draw, b__law_draw⟩ := C__law_draw
  obtain ⟨a__law_pot, d__law_pot, g__law_pot, F__law_pot, k__law_pot, b__law_pot⟩ := C__law_pot
  obtain ⟨a__law_due, d__law_due, g__law_due, F__law_due, k__law_due, b__law_due⟩ := C__law_due
  obtain ⟨a__law_whole, d__law_whole, g__law_whole, F__law_whole, k__law_whole, b__law_whole⟩ := C__law_whole
  obtain ⟨a__law_offset, d__law_offset, g__law_offset, F__law_offset, k__law_offset, b__law_offset⟩ := C__law_offset
  have nd := sc_law.nd
  have F0 : FnOk W.P W.w W.K mg base CX0 4 f fd ["_law_script"] (sp_law W) := by
    refine F.ok sc_law (fun vs H Q E h => ?_) (fun cdv A outer s H vs Q E hr h => ?_)
    · match vs, h with | [_], _ => rfl
    · match vs, h with
      | [v_script], h =>
        change sp_law W [v_script] H Q E at h
        refine ⟨tSeq (tFor (iRng1 (tCons (tOp (rAddN W.K) (tC (.int 2)) (tCB (rMin2) (tCons (tC (.int 14)) (tCons (tCB (rLenU W.K) (tCons (tVar 0) (tNil))) (tNil))))) (tNil))) (gName 1) (tSeq (tAsg (tCall (sp__law_pot W) [] E0 (tCons (tVar 0) (tCons (tVar 1) (tNil)))) (gName 2)) (tFor (iRng1 (tCons (tC (.int 3)) (tNil))) (gName 3) (tSeq (tAsg (tOp (rIxU W.K) (tLst (tCons (tC (.int 1)) (tCons (tC (.int 2)) (tCons (tOp (rAddN W.K) (tC (.int 1)) (tCall (sp__law_draw W) [] E0 (tCons (tVar 2) (tCons (tC (.int 6)) (tNil))))) (tCons (tOp (rAddN W.K) (tC (.int 1)) (tCall (sp__law_draw W) [] E0 (tCons (tVar 2) (tCons (tC (.int 40)) (tNil))))) (tCons (tC (.int 40)) (tNil))))))) (tCall (sp__law_draw W) [] E0 (tCons (tVar 2) (tCons (tC (.int 5)) (tNil))))) (gName 4)) (tSeq (tAsg (tCB (rTupleOfN W.K) (tCons (tLc (iRng1 (tCons (tCall (sp__law_draw W) [] E0 (tCons (tVar 2) (tCons (tC (.int 8)) (tNil)))) (tNil))) (gName 7) (tYes) (tCall (sp__law_offset W) [] E0 (tCons (tVar 2) (tCons (tVar 4) (tNil)))) [7]) (tNil))) (gName 5)) (tSeq (tAsg (tCall (sp_tightest W) [] E0 (tCons (tVar 4) (tCons (tVar 5) (tNil)))) (gName 6)) (tSeq (tIfS (tOr (tNot (tB (tCB (rIsi W.K) (tCons (tVar 6) (tCons (tC (.ty "tuple")) tNil))))) (tOr (tTest (tOp (rNeU W.K) (tCB (rLenU W.K) (tCons (tVar 6) (tNil))) (tC (.int 2)))) (tNot (tB (tCB (rAll W.K) (tCons (tLc (iAny W.K (tVar 6)) (gName 8) (tYes) (tCall (sp__law_whole W) [] E0 (tCons (tVar 8) (tNil))) [8]) (tNil))))))) (tRet (tC (.bl false))) (tNext)) (tIfS (tTest (tOp (rNeU W.K) (tVar 6) (tCall (sp__law_due W) [] E0 (tCons (tVar 4) (tCons (tVar 5) (tNil)))))) (tRet (tC (.bl false))) (tNext))))))))) (tRet (tOp (rEqU W.K) (tCall (sp_tightest W) [] E0 (tCons (tOp (rAddN W.K) (tC (.int 1)) (tCall (sp__law_draw W) [] E0 (tCons (tCall (sp__law_pot W) [] E0 (tCons (tVar 0) (tCons (tC (.int 0)) (tNil)))) (tCons (tC (.int 40)) (tNil))))) (tCons (tTupN (tNil)) (tNil)))) (tTupN (tCons (tC (.int 0)) (tCons (tC (.int 0)) (tNil)))))), pss_cons (ps_for PassesOwn.never rfl (pi_range1 (by rfl) B.b_range (pa_cons (pe_op u_addN (pe_int) (pe_callB (call_min2 rfl) (by rfl) B.b_min (by decide +kernel) (pa_cons (pe_int) (pa_cons (pe_callB u_len (by rfl) B.b_len (by decide +kernel) (pa_cons (pv 0) (pa_nil))) (pa_nil))))) (pa_nil))) (pg_name (i := 1) nd rfl (by first | exact Or.inl rfl | exact Or.inr rfl)) (pss_cons (ps_set (i := 2) nd rfl (.inr rfl) (pe_call F__law_pot (hr.mono (by decide)) (by rfl) g__law_pot k__law_pot b__law_pot .nil pass0 (pa_cons (pv 0) (pa_cons (pv 1) (pa_nil))))) (pss_one (ps_for PassesOwn.never rfl (pi_range1 (by rfl) B.b_range (pa_cons (pe_int) (pa_nil))) (pg_name (i := 3) nd rfl (by first | exact Or.inl rfl | exact Or.inr rfl)) (pss_cons (ps_set (i := 4) nd rfl (.inr rfl) (pe_ix u_ix (pe_lst (pa_cons (pe_int) (pa_cons (pe_int) (pa_cons (pe_op u_addN (pe_int) (pe_call F__law_draw (hr.mono (by decide)) (by rfl) g__law_draw k__law_draw b__law_draw .nil pass0 (pa_cons (pv 2) (pa_cons (pe_int) (pa_nil))))) (pa_cons (pe_op u_addN (pe_int) (pe_call F__law_draw (hr.mono (by decide)) (by rfl) g__law_draw k__law_draw b__law_draw .nil pass0 (pa_cons (pv 2) (pa_cons (pe_int) (pa_nil))))) (pa_cons (pe_int) (pa_nil))))))) (pe_call F__law_draw (hr.mono (by decide)) (by rfl) g__law_draw k__law_draw b__law_draw .nil pass0 (pa_cons (pv 2) (pa_cons (pe_int) (pa_nil)))) (fun _ _ => rfl))) (pss_cons (ps_set (i := 5) nd rfl (.inl rfl) (pe_callTy call_tuple_ofN (by rfl) B.b_tuple (by decide +kernel) (pa_cons (pe_lc (own := [("_law_j", 7)]) rfl nd (pi_range1 (by rfl) B.b_range (pa_cons (pe_call F__law_draw (hr.mono (by decide)) (by rfl) g__law_draw k__law_draw b__law_draw .nil pass0 (pa_cons (pv 2) (pa_cons (pe_int) (pa_nil)))) (pa_nil))) (blkOk_by (own := [("_law_j", 7)]) (N := N_law) (sc := defScope s_law) (by decide +kernel)) (fun _ _ _ _ _ => pg_name (i := 7) nd rfl (by first | exact Or.inl rfl | exact Or.inr rfl)) (fun _ _ _ _ _ => pts_nil) (fun _ _ _ _ _ => pe_call F__law_offset (hr.mono (by decide)) (by rfl) g__law_offset k__law_offset b__law_offset .nil pass0 (pa_cons (pv 2) (pa_cons (pv 4) (pa_nil))))) (pa_nil)))) (pss_cons (ps_set (i := 6) nd rfl (.inl rfl) (pe_call F_tightest (hr.mono (by decide)) (by rfl) g_tightest k_tightest b_tightest .nil pass0 (pa_cons (pv 4) (pa_cons (pv 5) (pa_nil))))) (pss_cons (ps_if (PW.pt (pw_or (pt_not (pt_val (pe_callB call_isi (by rfl) B.b_isinstance (by decide +kernel) (pa_cons (pv 6) (pa_cons (pe_bltn (v := .ty "tuple") (u := .type "tuple") (by rfl) B.b_tuple (by decide +kernel) rfl) pa_nil))))) (pw_or (pt_cmpR (u_ne hr.units) (pe_callB u_len (by rfl) B.b_len (by decide +kernel) (pa_cons (pv 6) (pa_nil))) (pe_int) (nomark _)) (pw_or1 (pt_not (pt_val (pe_callB (cr_all rfl) (by rfl) B.b_all (by decide +kernel) (pa_cons (pe_lc (own := [("_law_one", 8)]) rfl nd (pi_any (pv 6)) (blkOk_by (own := [("_law_one", 8)]) (N := N_law) (sc := defScope s_law) (by decide +kernel)) (fun _ _ _ _ _ => pg_name (i := 8) nd rfl (by first | exact Or.inl rfl | exact Or.inr rfl)) (fun _ _ _ _ _ => pts_nil) (fun _ _ _ _ _ => pe_call F__law_whole (hr.mono (by decide)) (by rfl) g__law_whole k__law_whole b__law_whole .nil pass0 (pa_cons (pv 8) (pa_nil)))) (pa_nil))))))))) (pss_one (ps_ret (pe_bl))) (pss_nil)) (pss_one (ps_if (pt_cmpR (u_ne hr.units) (pv 6) (pe_call F__law_due (hr.mono (by decide)) (by rfl) g__law_due k__law_due b__law_due .nil pass0 (pa_cons (pv 4) (pa_cons (pv 5) (pa_nil)))) (nomark _)) (pss_one (ps_ret (pe_bl))) (pss_nil))))))))))) (pss_one (ps_ret (pe_cmpR (u_eq hr.units) (pe_call F_tightest (hr.mono (by decide)) (by rfl) g_tightest k_tightest b_tightest .nil pass0 (pa_cons (pe_op u_addN (pe_int) (pe_call F__law_draw (hr.mono (by decide)) (by rfl) g__law_draw k__law_draw b__law_draw .nil pass0 (pa_cons (pe_call F__law_pot (hr.mono (by decide)) (by rfl) g__law_pot k__law_pot b__law_pot .nil pass0 (pa_cons (pv 0) (pa_cons (pe_int) (pa_nil)))) (pa_cons (pe_int) (pa_nil))))) (pa_cons (pe_tupN (pa_nil)) (pa_nil)))) (pe_tupN (pa_cons (pe_int) (pa_cons (pe_int) (pa_nil)))) (nomark _)))), ?_⟩
        clear hr
        clear F_tightest g_tightest k_tightest b_tightest d_tightest a_tightest
        clear F__law_draw g__law_draw k__law_draw b__law_draw d__law_draw a__law_draw
        clear F__law_pot g__law_pot k__law_pot b__law_pot d__law_pot a__law_pot
        clear F__law_due g__law_due k__law_due b__law_due d__law_due a__law_due
        clear F__law_whole g__law_whole k__law_whole b__law_whole d__law_whole a__law_whole
        clear F__law_offset g__law_offset k__law_offset b__law_offset d__law_offset a__law_offset
        rw [show L2.start N_law [v_script] = [some v_script, none, none, none, none, none, none, none, none] from rfl]
        obtain ⟨a, ns, rfl, hS, hlen, hb, q⟩ := h
        walk_at "Zs"
        refine w_lenL hS ?_
        rw [List.length_map]
        walk_at "Zs"
        refine forR0 (fun i σ' H' => Same H H' ∧ ∃ y1 y2 y3 y4 y5 y6 y7 y8, σ' = [some (.ref a), y1, y2, y3, y4, y5, y6, y7, y8]) ⟨Same.refl _, _, _, _, _, _, _, _, _, rfl⟩ (fun i σ' H1 hi h => ?_) (fun σ' H1 h => ?_)
        · obtain ⟨e1, y1, y2, y3, y4, y5, y6, y7, y8, rfl⟩ := h
          walk_at "Zs"
          refine go__law_pot (e1.seq hS) (by omega) fun v H2 e2 hp => ?_
          walk_at "Zs"
          refine forR0 (fun j σ' H' => Same H2 H' ∧ ∃ y3 y4 y5 y6 y7 y8, σ' = [some (.ref a), some (.int i), some v, y3, y4, y5, y6, y7, y8]) ⟨Same.refl _, _, _, _, _, _, _, rfl⟩ (fun j σ' H3 hj h => ?_) (fun σ' H3 h => ?_)
          · obtain ⟨f1, y3, y4, y5, y6, y7, y8, rfl⟩ := h
            walk_at "Zs"
            tbr_iter (fun n => 1 ≤ n ∧ n ≤ 40)
            intro w hw
            have pw := p2_pos w
            walk_at "Zs"
            rename_i d5 G5 f5 h5 h5'
            refine lcR (n := d5.toNat) (fun i acc _ => acc.length = i ∧ ∀ x ∈ acc, isI (fun _ => True) x) stb_pure (by omega) (fun i acc _ h => Nat.le_of_eq h.1) (fun _ _ => ⟨rfl, isI_nil⟩) (fun i acc H' hi e6 ea k k' hk hk' => ?_) fun D acc H6 hD e6 hD' ea => ?_
            · walk_at "Zs"
              rename_i n G7 f7 h7 h7'
              exact hk _ _ f7 ⟨by rw [List.length_append, ea.1]; rfl, isI_app ea.2 trivial⟩
            obtain ⟨hl, hi⟩ := ea
            obtain ⟨os, rfl, hos⟩ := ints_of hi
            rw [List.length_map] at hl
            walk_at "Zs"
            refine w_tupleN (SqL.of hD') fun p H7 np e7 hT => ?_
            walk_at "Zs"
            have ho := dq_ofN hT (K := W.K)
            refine go_tightest ho (by omega) (by omega) (by omega) fun wd bl u H8 e8 ht hu => ?_
            walk_at "Zs"
            refine w_istup' (dq_dp hu) ?_
            walk_at "Zs"
            obtain ⟨t, rfl, htn⟩ := dq_ti (ns := [wd, bl]) hu
            refine w_goT htn.t ?_
            refine lcT htn.t (fun i acc _ => acc = List.replicate i (V.bl true)) stb_pure (by simp only [List.length_map, List.length_cons, List.length_nil]; decide) (fun i acc H' e => by rw [e, List.length_replicate]; exact Nat.le_refl _) (fun H' _ => rfl) (fun i x acc H' hx e9 ea k k' hk hk' => ?_) fun D2 acc2 H9 hD2 e9 hD2' ea2 => ?_
            · obtain ⟨b, eb, rfl⟩ := ints_at (ns := [wd, bl]) hx
              walk_at "Zs"
              refine hk _ _ (Same.refl _) ?_
              rw [ea, List.replicate_succ']
              rfl
            walk_at "Zs"
            refine w_all (bs := [true, true]) (SqL.of (by rw [hD2', ea2]; rfl)) ?_
            walk_at "Zs"
            refine go__law_due (dq_mono (e8.trans e9) ho) (by omega) (by omega) (by omega) fun wd2 bl2 u2 H10 e10 ht2 hu2 => ?_
            obtain ⟨rfl, rfl⟩ := Tight.one ht ht2
            refine w_neD (dq_mono (e9.trans e10) hu) hu2 rfl rfl ?_
            have ee : PyData.eqv (.tuple [.int wd, .int bl]) (.tuple [.int wd, .int bl]) = true := by simp [PyData.eqv, PyData.eqvAll]
            rw [ee]
            walk_at "Zs"
            refine ⟨?_, _, _, _, _, _, _, rfl⟩
            walk_at "Zkt"
          · obtain ⟨f1, y3, y4, y5, y6, y7, y8, rfl⟩ := h
            refine ⟨?_, _, _, _, _, _, _, _, _, rfl⟩
            walk_at "Zkt"
        · obtain ⟨e1, y1, y2, y3, y4, y5, y6, y7, y8, rfl⟩ := h
          walk_at "Zs"
          refine go__law_pot (e1.seq hS) (by omega) fun v H2 e2 hp => ?_
          walk_at "Zs"
          rename_i d G3 e3 h0 h1 p4 G4 np4 e4 h4
          refine go_tightest (os := []) (dq_ofN (ns := []) h4) (by decide) (by omega) (by omega) fun wd bl u H8 e8 ht hu => ?_
          walk_at "Zs"
          rename_i p9 G9 np9 e9 h9
          have z := ht.least 0 0 (Int.le_refl _) (Int.le_refl _) ⟨by decide, fun o ho => nomatch ho⟩
          have w0 := ht.w0
          have b0 := ht.b0
          have ew : wd = 0 := by omega
          have eb : bl = 0 := by
            have := z.2 ew.symm
            omega
          subst ew
          subst eb
          refine w_eqD (dq_mono e9 hu) (dq_ofN (ns := [0, 0]) h9) rfl rfl ?_
          exact q _
  exact F0
theorem c_law {W : Wd} {mg : Str → Option Value} {base : Heap} (B : Bi mg) (S : Src W.K mg "law" s_law) (C_tightest : Cal W mg base "tightest" 3 ["w", "offsets"] (sp_tightest W)) (C__law_draw : Cal W mg base "_law_draw" 1 ["_law_pot_here", "_law_many"] (sp__law_draw W)) (C__law_pot : Cal W mg base "_law_pot" 1 ["_law_script", "_law_k"] (sp__law_pot W)) (C__law_due : Cal W mg base "_law_due" 2 ["_law_w", "_law_offsets"] (sp__law_due W)) (C__law_whole : Cal W mg base "_law_whole" 1 ["_law_thing"] (sp__law_whole W)) (C__law_offset : Cal W mg base "_law_offset" 3 ["_law_pot_here", "_law_w"] (sp__law_offset W)) : Cal W mg base "law" 4 ["_law_script"] (sp_law W) := by
  obtain ⟨f, fd, g, F⟩ := S
  exact ⟨f, fd, g, f_law B F C_tightest C__law_draw C__law_pot C__law_due C__law_whole C__law_offset, F.kp, (F.binds (ps := ["_law_script"]) fun _ _ _ _ _ _ us hl => match us, hl with | [_], _ => rfl)⟩
theorem all_ok {W : Wd} {mg : Str → Option Value} {base : Heap} (B : Bi mg) (S_width_for : Src W.K mg "width_for" s_width_for) (S_rest_of : Src W.K mg "rest_of" s_rest_of) (S_arcs_of : Src W.K mg "arcs_of" s_arcs_of) (S_tightest : Src W.K mg "tightest" s_tightest) (S__law_pot : Src W.K mg "_law_pot" s__law_pot) (S__law_draw : Src W.K mg "_law_draw" s__law_draw) (S__law_value : Src W.K mg "_law_value" s__law_value) (S__law_whole : Src W.K mg "_law_whole" s__law_whole) (S__law_offset : Src W.K mg "_law_offset" s__law_offset) (S__law_in : Src W.K mg "_law_in" s__law_in) (S__law_belows : Src W.K mg "_law_belows" s__law_belows) (S__law_due : Src W.K mg "_law_due" s__law_due) {f : Addr} {fd : FuncData} (F : Fun W.K "law" "law" s_law f fd) : FnOk W.P W.w W.K mg base CX0 4 f fd ["_law_script"] (sp_law W) := by
  have C_width_for := c_width_for (base := base) B S_width_for 
  have C_rest_of := c_rest_of (base := base) B S_rest_of 
  have C_arcs_of := c_arcs_of (base := base) B S_arcs_of C_rest_of
  have C_tightest := c_tightest (base := base) B S_tightest C_width_for C_arcs_of
  have C__law_pot := c__law_pot (base := base) B S__law_pot 
  have C__law_draw := c__law_draw (base := base) B S__law_draw 
  have C__law_value := c__law_value (base := base) B S__law_value C__law_draw
  have C__law_whole := c__law_whole (base := base) B S__law_whole 
  have C__law_offset := c__law_offset (base := base) B S__law_offset C__law_draw C__law_value
  have C__law_in := c__law_in (base := base) B S__law_in 
  have C__law_belows := c__law_belows (base := base) B S__law_belows 
  have C__law_due := c__law_due (base := base) B S__law_due C__law_belows C__law_in
  exact f_law B F C_tightest C__law_draw C__law_pot C__law_due C__law_whole C__law_offset
theorem all_mk {P : Program} {w : World} {K : PySem.W.Frag} {mg : Str → Option Value} {fa : Addr} (hfa : mg "law" = some (.ref fa)) (B : Bi mg) (S_width_for : Src K mg "width_for" s_width_for) (S_rest_of : Src K mg "rest_of" s_rest_of) (S_arcs_of : Src K mg "arcs_of" s_arcs_of) (S_tightest : Src K mg "tightest" s_tightest) (S__law_pot : Src K mg "_law_pot" s__law_pot) (S__law_draw : Src K mg "_law_draw" s__law_draw) (S__law_value : Src K mg "_law_value" s__law_value) (S__law_whole : Src K mg "_law_whole" s__law_whole) (S__law_offset : Src K mg "_law_offset" s__law_offset) (S__law_in : Src K mg "_law_in" s__law_in) (S__law_belows : Src K mg "_law_belows" s__law_belows) (S__law_due : Src K mg "_law_due" s__law_due) (S_law : Src K mg "law" s_law) :
    ∃ fd : FuncData, (∀ (s : Shared) (v : Value), BindsTo s fd ⟨[v], []⟩ [("_law_script", v)]) ∧ ∀ base : Heap, K.In base → base.Ns mainGlobals mg → FnOk P w K mg base CX0 4 fa fd ["_law_script"] (sp_law ⟨P, w, K⟩) := by
  obtain ⟨f, fd, g, F⟩ := S_law
  have e := hfa.symm.trans g
  cases e
  refine ⟨fd, fun s v => ?_, fun base _ _ => all_ok (W := ⟨P, w, K⟩) B S_width_for S_rest_of S_arcs_of S_tightest S__law_pot S__law_draw S__law_value S__law_whole S__law_offset S__law_in S__law_belows S__law_due F⟩
  obtain ⟨oc, od, kV, doc, pm, an, cdv, ct, osl, rfl, lk, hcd⟩ := F.ex
  exact .of_eq rfl
theorem walk {l : PySem.W.OpenLaw} {q : Program} {loose : List Str} {XP : (Str → Option Value) → Heap → Prop} {YP : World → Heap → Prop} {d : DefRec} {K : Params → PySem.W.Frag} (hn : l.most = some 63) (hdf : d.params.defaults = [])
    (hY : ∀ (w : World) (h : Heap), YP w h → (K w.params).In h)
    (F : ∀ (w : World) (mg : Str → Option Value) (fa : Addr) (h : Heap), (K w.params).In h → h.Ns mainGlobals mg → mg d.name = some (.ref fa) →
      ∃ fd : FuncData, (∀ (s : Shared) (u : Value), BindsTo s fd ⟨[u], []⟩ [("_law_script", u)]) ∧ ∀ base : Heap, (K w.params).In base → base.Ns mainGlobals mg → FnOk l.prog w (K w.params) mg base CX0 4 fa fd ["_law_script"] (sp_law ⟨l.prog, w, K w.params⟩)) :
    PySem.W.WalkO q loose XP YP l.row.toRowW d [] (fun f vs => PySem.call f vs) :=
  L2.walk_ofB (n := 63) (k := 4) (x := "_law_script") (CX := fun _ => CX0) (sp := fun w => sp_law ⟨l.prog, w, K w.params⟩) hn (by decide) hdf ⟨rfl, by decide, by decide⟩ hY F (fun _ _ a ns hl hb _ hS => ⟨a, ns, rfl, hS, hl, hb, fun _ => rfl⟩) fun _ _ _ _ _ z => z
end Sh
open PySem PySem.W PyProof.Rows in
set_option maxRecDepth 100000 in
set_option maxHeartbeats 0 in
theorem PySem.Challenge.cw_shorthead_k07_tightest_holds : PySem.Challenge.rw_shorthead_k07_tightest.Holds := by
  w_on; o_law; k_head; (case hw => w_witness2)
  k_fill
  refine Sh.walk (l := PySem.Challenge.rw_shorthead_k07_tightest) rfl rfl (fun w h Y => PySem.W.kIn_of Y) ?F
  case F =>
    intro w mg fa h KX G hmg
    refine' Sh.all_mk hmg ?B ?S_width_for ?S_rest_of ?S_arcs_of ?S_tightest ?S__law_pot ?S__law_draw ?S__law_value ?S__law_whole ?S__law_offset ?S__law_in ?S__law_belows ?S__law_due ?S_law
    case B =>
      refine' ⟨PySem.W.mg_none_of KX G ?z_abs, PySem.W.mg_none_of KX G ?z_all, PySem.W.mg_none_of KX G ?z_bool, PySem.W.mg_none_of KX G ?z_int, PySem.W.mg_none_of KX G ?z_isinstance, PySem.W.mg_none_of KX G ?z_len, PySem.W.mg_none_of KX G ?z_list, PySem.W.mg_none_of KX G ?z_min, PySem.W.mg_none_of KX G ?z_range, PySem.W.mg_none_of KX G ?z_set, PySem.W.mg_none_of KX G ?z_sorted, PySem.W.mg_none_of KX G ?z_tuple, PySem.W.mg_none_of KX G ?z_zip⟩
      (case z_abs => k_is)
      (case z_all => k_is)
      (case z_bool => k_is)
      (case z_int => k_is)
      (case z_isinstance => k_is)
      (case z_len => k_is)
      (case z_list => k_is)
      (case z_min => k_is)
      (case z_range => k_is)
      (case z_set => k_is)
      (case z_sorted => k_is)
      (case z_tuple => k_is)
      (case z_zip => k_is)
    case S_width_for =>
      refine' Sh.src_mk KX G ?a ?l ?c ?k
      (case a => k_is)
      (case l => k_is)
      (case c => k_is)
      (case k => k_is)
    case S_rest_of =>
      refine' Sh.src_mk KX G ?a ?l ?c ?k
      (case a => k_is)
      (case l => k_is)
      (case c => k_is)
      (case k => k_is)
    case S_arcs_of =>
      refine' Sh.src_mk KX G ?a ?l ?c ?k
      (case a => k_is)
      (case l => k_is)
      (case c => k_is)
      (case k => k_is)
    case S_tightest =>
      refine' Sh.src_mk KX G ?a ?l ?c ?k
      (case a => k_is)
      (case l => k_is)
      (case c => k_is)
      (case k => k_is)
    case S__law_pot =>
      refine' Sh.src_mk KX G ?a ?l ?c ?k
      (case a => k_is)
      (case l => k_is)
      (case c => k_is)
      (case k => k_is)
    case S__law_draw =>
      refine' Sh.src_mk KX G ?a ?l ?c ?k
      (case a => k_is)
      (case l => k_is)
      (case c => k_is)
      (case k => k_is)
    case S__law_value =>
      refine' Sh.src_mk KX G ?a ?l ?c ?k
      (case a => k_is)
      (case l => k_is)
      (case c => k_is)
      (case k => k_is)
    case S__law_whole =>
      refine' Sh.src_mk KX G ?a ?l ?c ?k
      (case a => k_is)
      (case l => k_is)
      (case c => k_is)
      (case k => k_is)
    case S__law_offset =>
      refine' Sh.src_mk KX G ?a ?l ?c ?k
      (case a => k_is)
      (case l => k_is)
      (case c => k_is)
      (case k => k_is)
    case S__law_in =>
      refine' Sh.src_mk KX G ?a ?l ?c ?k
      (case a => k_is)
      (case l => k_is)
      (case c => k_is)
      (case k => k_is)
    case S__law_belows =>
      refine' Sh.src_mk KX G ?a ?l ?c ?k
      (case a => k_is)
      (case l => k_is)
      (case c => k_is)
      (case k => k_is)
    case S__law_due =>
      refine' Sh.src_mk KX G ?a ?l ?c ?k
      (case a => k_is)
      (case l => k_is)
      (case c => k_is)
      (case k => k_is)
    case S_law =>
      refine' Sh.src_mk KX G ?a ?l ?c ?k
      (case a => k_is)
      (case l => k_is)
      (case c => k_is)
      (case k => k_is)
