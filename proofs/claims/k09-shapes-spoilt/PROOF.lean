import PyProof.Rows.All
import Wide.All
import OpenK.AllK
import Wide.FinOn
import HandS.ForMost
import HandS.EndBits
import HandS.Wide
import HandS.IsInst
import HandS.TupAny
import HandS.Small
import HandS.TupMul
import HandS.WideBits
import KE.IntTextLaws
import HandS.SortInts
import HandS.Zip
import HandS.Strs
import HandS.SetFor
import HandS.Steps
import KE.KIndexOf
import KE.GoesEnum
import KE.GoesMore
import HandS.Conv
import HandS.Rev
import HandS.Style
import KE.GoesZip
import HandS.Conv
import PySem.Challenge.RW_shorthead_k09_shapes_spoilt
set_option Elab.async false
set_option linter.all false
set_option maxRecDepth 100000
set_option maxHeartbeats 4000000
/-! heaps, data -/
namespace Sh
open PySem PySem.Spec PyProof.Rows L2

theorem same_new {H : Hp} {p : Addr} {o : HO} (h : H p = none) : Same H (upd H p o) := fun a u e => by
  rw [upd_ne (ne_of_none e h)]
  exact e
theorem same_mut {H H' : Hp} {p : Addr} {o : HO} (e : Same H H') (h : H p = none) : Same H (upd H' p o) := fun a u ha => by
  rw [upd_ne (ne_of_none ha h)]
  exact e a u ha
theorem same_t {K : PySem.W.Frag} {H H' : Hp} {a : Addr} {xs : List V} (e : Same H H') (h : SqT K H a xs) : SqT K H' a xs := by
  rcases h with (h | ⟨o, h⟩) | h
  · exact .inl (.inl (e _ _ h))
  · exact .inl (.inr ⟨o, e _ _ h⟩)
  · exact .inr h
mutual
theorem dp_mono {K : PySem.W.Frag} {H H' : Hp} (e : Same H H') : ∀ {v : V} {d : PyData}, Dp K H v d → Dp K H' v d
  | _, _, .non => .non
  | _, _, .bl b => .bl b
  | _, _, .int i => .int i
  | _, _, .str x => .str x
  | _, _, .lst h r => .lst (e.seq h) (dps_mono e r)
  | _, _, .tup h r => .tup (same_t e h) (dps_mono e r)
theorem dps_mono {K : PySem.W.Frag} {H H' : Hp} (e : Same H H') : ∀ {vs : List V} {ds : List PyData}, DpAll K H vs ds → DpAll K H' vs ds
  | _, _, .nil => .nil
  | _, _, .cons h r => .cons (dp_mono e h) (dps_mono e r)
end
theorem dps_len {K : PySem.W.Frag} {H : Hp} : ∀ {vs : List V} {ds : List PyData}, DpAll K H vs ds → vs.length = ds.length
  | _, _, .nil => rfl
  | _, _, .cons _ r => congrArg (· + 1) (dps_len r)
theorem dps_get {K : PySem.W.Frag} {H : Hp} : ∀ {vs : List V} {ds : List PyData} {i : Nat} {d : PyData}, DpAll K H vs ds → ds[i]? = some d → ∃ v, vs[i]? = some v ∧ Dp K H v d
  | _, _, _, _, .nil, e => by simp at e
  | _, _, 0, _, .cons (v := v) h _, e => by
    simp at e
    subst e
    exact ⟨v, rfl, h⟩
  | _, _, i + 1, d, .cons _ r, e => by
    obtain ⟨v, h1, h2⟩ := dps_get (i := i) (d := d) r (by simpa using e)
    exact ⟨v, by simpa using h1, h2⟩
theorem dps_get2 {K : PySem.W.Frag} {H : Hp} {vs : List V} {ds : List PyData} {i : Nat} {v : V} (r : DpAll K H vs ds) (e : vs[i]? = some v) : ∃ d, ds[i]? = some d ∧ Dp K H v d := by
  have hl := dps_len r
  have hi := (List.getElem?_eq_some_iff.mp e).1
  have e2 : ds[i]? = some (ds[i]'(hl ▸ hi)) := List.getElem?_eq_getElem _
  obtain ⟨v2, h1, h2⟩ := dps_get r e2
  rw [e] at h1
  cases h1
  exact ⟨_, e2, h2⟩
theorem dps_app {K : PySem.W.Frag} {H : Hp} : ∀ {vs ws : List V} {ds es : List PyData}, DpAll K H vs ds → DpAll K H ws es → DpAll K H (vs ++ ws) (ds ++ es)
  | _, _, _, _, .nil, s => s
  | _, _, _, _, .cons h r, s => .cons h (dps_app r s)
theorem dps_ints {K : PySem.W.Frag} {H : Hp} : ∀ ns : List Int, DpAll K H (ns.map V.int) (ns.map PyData.int)
  | [] => .nil
  | n :: r => .cons (.int n) (dps_ints r)
theorem atI_map {α β : Type} (f : α → β) (xs : List α) (i : Int) : atI (xs.map f) i = (atI xs i).map f := by
  unfold atI
  rw [List.length_map]
  cases ixN xs.length i with
  | none => rfl
  | some j => simp
theorem dps_at {K : PySem.W.Frag} {H : Hp} {vs : List V} {ds : List PyData} {i : Int} {d : PyData} (r : DpAll K H vs ds) (e : atI ds i = some d) : ∃ v, atI vs i = some v ∧ Dp K H v d := by
  unfold atI at e ⊢
  rw [dps_len r]
  cases q : ixN ds.length i with
  | none => rw [q] at e; cases e
  | some j =>
    rw [q] at e
    exact dps_get r e

/-! ### rules that join -/
section
variable {X : Cx}
theorem opor {f : Value → Value → Sem Value} {r r' : R2} (h : OpR X f r) (h' : OpR X f r') : OpR X f (fun x y H Q => r x y H Q ∨ r' x y H Q) := by
  intro pins s σ H x y v u Q I rx ry q
  rcases q with q | q
  · exact h pins s σ H x y v u Q I rx ry q
  · exact h' pins s σ H x y v u Q I rx ry q
def rAddU (K : PySem.W.Frag) : R2 := fun x y H Q => rI0 (fun i j => .int (i + j)) x y H Q ∨ (∃ i j, x = .str i ∧ y = .str j ∧ i.length + j.length ≤ sizeLine ∧ Q (.str (i ++ j)) H) ∨ rCat x y H Q ∨ rCatA K x y H Q
theorem u_add : OpR X (binaryOp .Add) (rAddU X.K) := opor op_add (opor op_add_str (opor op_cat op_catA))
def rSubU : R2 := rI0 fun i j => .int (i - j)
theorem u_sub : OpR X (binaryOp .Sub) rSubU := op_sub
/-- x * n of a text -/
def rMulS : R2 := fun x y H Q => ∃ a n, x = .str a ∧ y = .int n ∧ MulOk a n ∧ Q (.str (Txt.mul a n)) H
theorem op_mulS {X : Cx} : OpR X (binaryOp .Mult) rMulS := by
  intro pins s σ H x y v u Q I rx ry q
  obtain ⟨a, n, rfl, rfl, hm, q⟩ := q
  obtain ⟨t, rfl⟩ := rx
  obtain ⟨t2, rfl⟩ := ry
  exact SB.mul hm fun t' k => ⟨.str (Txt.mul a n), H, I.tok _, ⟨_, rfl⟩, q⟩
def rMulU (K : PySem.W.Frag) : R2 := fun x y H Q => rI CMul (fun i j => .int (i * j)) x y H Q ∨ rI CMulW (fun i j => .int (i * j)) x y H Q ∨ rMulS x y H Q ∨ rRep x y H Q ∨ rRepT K x y H Q
theorem u_mul : OpR X (binaryOp .Mult) (rMulU X.K) := opor op_mul (opor op_mulW (opor op_mulS (opor op_rep op_repT)))
def rDivU : R2 := rI CDivW fun i j => .int (i / j)
theorem u_div : OpR X (binaryOp .FloorDiv) rDivU := op_fdivW
def rModU : R2 := rI (fun _ j => 0 < j) fun i j => .int (i % j)
theorem u_mod : OpR X (binaryOp .Mod) rModU := op_mod
def rShlU : R2 := rI CPow fun i j => .int (i * 2 ^ j.toNat)
theorem u_shl : OpR X (binaryOp .LShift) rShlU := op_shl
def rPowU : R2 := rI CPow fun i j => .int (i ^ j.toNat)
theorem u_pow : OpR X (binaryOp .Pow) rPowU := op_pow
def rEqU (K : PySem.W.Frag) : R2 := fun x y H Q => rEq x y H Q ∨ rEqD K x y H Q
theorem u_eq (hu : X.A.units + 64 < cLine) : OpR X (compareOp .Eq) (rEqU X.K) := opor op_eq (op_eqD hu)
def rNeU (K : PySem.W.Frag) : R2 := fun x y H Q => rNe x y H Q ∨ rNeD K x y H Q
theorem u_ne (hu : X.A.units + 64 < cLine) : OpR X (compareOp .NotEq) (rNeU X.K) := opor op_ne (op_neD hu)
def rLtU (K : PySem.W.Frag) : R2 := rI0 fun i j => .bl (decide (i < j))
theorem u_lt : OpR X (compareOp .Lt) (rLtU X.K) := op_lt
def rLeU : R2 := fun x y H Q => rI0 (fun i j => .bl (decide (i ≤ j))) x y H Q ∨ (∃ i j, x = .str i ∧ y = .str j ∧ Q (.bl (!decide (j.cps.toList < i.cps.toList))) H)
theorem u_le : OpR X (compareOp .LtE) rLeU := opor op_le op_le_str
def rGtU : R2 := rI0 fun i j => .bl (decide (j < i))
theorem u_gt : OpR X (compareOp .Gt) rGtU := op_gt
def rGeU : R2 := rI0 fun i j => .bl (decide (j ≤ i))
theorem u_ge : OpR X (compareOp .GtE) rGeU := op_ge
end
/-! ### readings, step by step -/
section
variable {K : PySem.W.Frag} {σ : L2.St} {H : Hp} {Q : VK} {R : Bool → Hp → Prop} {te ta tb tc : TE} {t u : TT} {tA tr : TA} {ts tz : TS} {nx bk ct : L2.St → Hp → Prop} {rt : VK} {x y v : V} {i j : Int} {r r' : R2} {g : TG} {n : Nat} {D : Ends}
theorem w_seq (h : ts ⟨tz ⟨nx, rt, bk, ct⟩, rt, bk, ct⟩ σ H) : tSeq ts tz ⟨nx, rt, bk, ct⟩ σ H := h
theorem w_next (h : nx σ H) : tNext ⟨nx, rt, bk, ct⟩ σ H := h
theorem w_asg (h : te σ H fun x H1 => g x σ H1 nx) : tAsg te g ⟨nx, rt, bk, ct⟩ σ H := h
theorem w_gname {k : L2.St → Hp → Prop} (h : k (σ.set n (some v)) H) : gName n v σ H k := h
theorem w_drop (h : te σ H fun _ H1 => nx σ H1) : tDrop te ⟨nx, rt, bk, ct⟩ σ H := h
theorem w_ret (h : te σ H rt) : tRet te ⟨nx, rt, bk, ct⟩ σ H := h
theorem w_retn (h : rt .non H) : tRetN ⟨nx, rt, bk, ct⟩ σ H := h
theorem w_ifs (h : t σ H fun b H1 => if b = true then ts ⟨nx, rt, bk, ct⟩ σ H1 else tz ⟨nx, rt, bk, ct⟩ σ H1) : tIfS t ts tz ⟨nx, rt, bk, ct⟩ σ H := h
theorem w_aug {ti : TIp} (hx : σ[n]? = some (some x)) (h : te σ H fun y H1 => ti x y H1 fun z H2 => nx (σ.set n (some z)) H2) : tAug n te ti ⟨nx, rt, bk, ct⟩ σ H := ⟨x, hx, h⟩
theorem w_ip {f : Int → Int → Int} (h : Q (.int (f i j)) H) : ipI f (.int i) (.int j) H Q := ⟨i, j, rfl, rfl, h⟩
theorem w_par {m : Nat} (h : tA σ H fun vs H1 => ∃ v w, vs = [v, w] ∧ nx ((σ.set n (some v)).set m (some w)) H1) : tPar n m tA ⟨nx, rt, bk, ct⟩ σ H := h
theorem w_two {k : V → V → Prop} (h : k x y) : ∃ v w, [x, y] = [v, w] ∧ k v w := ⟨x, y, rfl, h⟩
theorem w_var (h : σ[n]? = some (some v)) (q : Q v H) : tVar n σ H Q := ⟨v, h, q⟩
theorem w_c (q : Q v H) : tC v σ H Q := q
theorem w_op (h : ta σ H fun x H1 => tb σ H1 fun y H2 => r x y H2 Q) : tOp r ta tb σ H Q := h
theorem w_un {r : V → Hp → VK → Prop} (h : ta σ H fun x H1 => r x H1 Q) : tUn r ta σ H Q := h
theorem w_rU {g : Int → V} (h : Q (g i) H) : rU g (.int i) H Q := ⟨i, rfl, h⟩
theorem w_nil {k : List V → Hp → Prop} (q : k [] H) : tNil σ H k := q
theorem w_cons {k : List V → Hp → Prop} (h : ta σ H fun x H1 => tr σ H1 fun xs H2 => k (x :: xs) H2) : tCons ta tr σ H k := h
theorem w_cb {r : List V → Hp → VK → Prop} (h : tA σ H fun vs H1 => r vs H1 Q) : tCB r tA σ H Q := h
theorem w_call {sp : Sp} {E : XK} (h : tA σ H fun vs H1 => sp vs H1 Q E) : tCall sp [] E tA σ H Q := by
  show tA σ H fun vs H1 => sp (vs ++ []) H1 Q E
  have e : (fun vs H1 => sp (vs ++ []) H1 Q E) = fun vs H1 => sp vs H1 Q E := by
    funext vs H1
    rw [List.append_nil]
  rw [e]
  exact h
theorem w_test (h : te σ H fun x H1 => ∃ k, x = .bl k ∧ R k H1) : tTest te σ H R := h
theorem w_tB (h : te σ H fun x H1 => ∃ k, x = .bl k ∧ R k H1) : tB te σ H R := h
theorem w_bl {b : Bool} {k : Bool → Prop} (h : k b) : ∃ c, V.bl b = .bl c ∧ k c := ⟨b, rfl, h⟩
theorem w_and (h : t σ H fun c H1 => if c = true then u σ H1 R else R false H1) : tAnd t u σ H R := h
theorem w_or (h : t σ H fun c H1 => if c = true then R true H1 else u σ H1 R) : tOr t u σ H R := h
theorem w_not (h : t σ H fun c H1 => R (!c) H1) : tNot t σ H R := h
theorem w_andv (h : ta σ H fun x H1 => ∃ c, x = .bl c ∧ if c = true then tb σ H1 Q else Q (.bl false) H1) : tAndV ta tb σ H Q := h
theorem w_orv (h : ta σ H fun x H1 => ∃ c, x = .bl c ∧ if c = true then Q (.bl true) H1 else tb σ H1 Q) : tOrV ta tb σ H Q := h
theorem w_notv (h : ta σ H fun x H1 => ∃ c, x = .bl c ∧ Q (.bl (!c)) H1) : tNotV ta σ H Q := h
theorem w_ife (h : t σ H fun c H1 => if c = true then ta σ H1 Q else tb σ H1 Q) : tIf t ta tb σ H Q := h
theorem w_chain (h : ta σ H fun x H1 => tb σ H1 fun y H2 => r x y H2 fun z H3 => ∃ k, z = .bl k ∧ if k = true then tc σ H3 fun w H4 => r' y w H4 Q else Q (.bl false) H3) : tChain r r' ta tb tc σ H Q := h
/-- a new object is laid -/
def NewT (xs : List V) (o : HO) (Q : VK) (H : Hp) : Prop := xs.length ≤ sizeLine ∧ ∀ p, H p = none → Q (.ref p) (upd H p o)
theorem w_tup (h : tA σ H fun xs H1 => NewT xs (.tup xs) Q H1) : tTup tA σ H Q := h
theorem w_lst (h : tA σ H fun xs H1 => NewT xs (.lst xs) Q H1) : tLst tA σ H Q := h
/-- a new object: it is there, all else is kept -/
theorem w_new {xs : List V} {o : HO} (hl : xs.length ≤ sizeLine) (h : ∀ p H', H p = none → Same H H' → H' p = some o → Q (.ref p) H') : NewT xs o Q H :=
  ⟨hl, fun p hp => h p _ hp (same_new hp) upd_same⟩
theorem w_dec {p : Prop} [Decidable p] {A B : Prop} (h1 : p → A) (h2 : ¬ p → B) : if decide p = true then A else B := by
  by_cases h : p
  · rw [decide_eq_true h]
    exact iteT (h1 h)
  · rw [decide_eq_false h]
    exact iteF (h2 h)
theorem w_ndec {p : Prop} [Decidable p] {A B : Prop} (h1 : ¬ p → A) (h2 : p → B) : if (!decide p) = true then A else B := by
  by_cases h : p
  · rw [decide_eq_true h]
    exact iteF (h2 h)
  · rw [decide_eq_false h]
    exact iteT (h1 h)
theorem w_itet {b : Bool} {A B : Prop} (h : b = true) (q : A) : if b = true then A else B := by
  rw [h]
  exact iteT q
theorem w_itef {b : Bool} {A B : Prop} (h : b = false) (q : B) : if b = true then A else B := by
  rw [h]
  exact iteF q
theorem w_nn {b : Bool} {A B : Prop} (h : if b = true then B else A) : if (!b) = true then A else B := by
  cases b
  · exact h
  · exact h
theorem w_bool {b : Bool} {A B : Prop} (h1 : b = true → A) (h2 : b = false → B) : if b = true then A else B := by
  cases b
  · exact iteF (h2 rfl)
  · exact iteT (h1 rfl)
theorem w_add (h : Q (.int (i + j)) H) : rAddU K (.int i) (.int j) H Q := .inl ⟨i, j, rfl, rfl, h⟩
theorem w_adds {a b : Str} (hl : a.length + b.length ≤ sizeLine) (h : Q (.str (a ++ b)) H) : rAddU K (.str a) (.str b) H Q := .inr (.inl ⟨a, b, rfl, rfl, hl, h⟩)
theorem w_sub (h : Q (.int (i - j)) H) : rSubU (.int i) (.int j) H Q := ⟨i, j, rfl, rfl, h⟩
theorem w_mul (hc : CMul i j) (h : Q (.int (i * j)) H) : rMulU K (.int i) (.int j) H Q := .inl ⟨i, j, rfl, rfl, hc, h⟩
theorem w_mulw (hc : CMulW i j) (h : Q (.int (i * j)) H) : rMulU K (.int i) (.int j) H Q := .inr (.inl ⟨i, j, rfl, rfl, hc, h⟩)
theorem w_div (h0 : 0 < j) (hc : j.natAbs.log2 < 9000) (h : Q (.int (i / j)) H) : rDivU (.int i) (.int j) H Q := ⟨i, j, rfl, rfl, ⟨h0, hc⟩, h⟩
theorem w_mod (h0 : 0 < j) (h : Q (.int (i % j)) H) : rModU (.int i) (.int j) H Q := ⟨i, j, rfl, rfl, h0, h⟩
theorem w_shl (hc : CPow i j) (h : Q (.int (i * 2 ^ j.toNat)) H) : rShlU (.int i) (.int j) H Q := ⟨i, j, rfl, rfl, hc, h⟩
theorem w_pow (hc : CPow i j) (h : Q (.int (i ^ j.toNat)) H) : rPowU (.int i) (.int j) H Q := ⟨i, j, rfl, rfl, hc, h⟩
theorem w_lt (h : Q (.bl (decide (i < j))) H) : rLtU K (.int i) (.int j) H Q := ⟨i, j, rfl, rfl, h⟩
theorem w_le (h : Q (.bl (decide (i ≤ j))) H) : rLeU (.int i) (.int j) H Q := .inl ⟨i, j, rfl, rfl, h⟩
theorem w_gt (h : Q (.bl (decide (j < i))) H) : rGtU (.int i) (.int j) H Q := ⟨i, j, rfl, rfl, h⟩
theorem w_ge (h : Q (.bl (decide (j ≤ i))) H) : rGeU (.int i) (.int j) H Q := ⟨i, j, rfl, rfl, h⟩
theorem dec_ii : decide (V.int i = V.int j) = decide (i = j) := by
  by_cases h : i = j
  · subst h; simp
  · simp [h]
theorem dec_ss {a b : Str} : decide (V.str a = V.str b) = decide (a = b) := by
  by_cases h : a = b
  · subst h; simp
  · simp [h]
theorem w_eqi (h : Q (.bl (decide (i = j))) H) : rEqU K (.int i) (.int j) H Q := .inl ⟨rfl, by rw [dec_ii]; exact h⟩
theorem w_eqs {a b : Str} (h : Q (.bl (decide (a = b))) H) : rEqU K (.str a) (.str b) H Q := .inl ⟨rfl, by rw [dec_ss]; exact h⟩
theorem w_nei (h : Q (.bl (!decide (i = j))) H) : rNeU K (.int i) (.int j) H Q := .inl ⟨rfl, by rw [dec_ii]; exact h⟩
theorem w_nes {a b : Str} (h : Q (.bl (!decide (a = b))) H) : rNeU K (.str a) (.str b) H Q := .inl ⟨rfl, by rw [dec_ss]; exact h⟩
theorem w_div1 (h0 : 0 < j) (hb : j < 1267650600228229401496703205376) (h : Q (.int (i / j)) H) : rDivU (.int i) (.int j) H Q := by
  refine ⟨i, j, rfl, rfl, ⟨h0, ?_⟩, h⟩
  have hn : j.natAbs < 2 ^ 100 := by omega
  exact Nat.lt_of_lt_of_le (PySem.Flt.log2_lt_of (by decide) hn) (by decide)
def p2 (n : Int) : Int := 2 ^ n.toNat
theorem p2_pos (n : Int) : 0 < p2 n := Int.pow_pos (by decide)
theorem ipow_le {a : Nat} (ha : 0 < a) {m n : Nat} (h : m ≤ n) : (a : Int) ^ m ≤ (a : Int) ^ n := by
  rw [← Int.natCast_pow, ← Int.natCast_pow]
  exact Int.ofNat_le.mpr (Nat.pow_le_pow_right ha h)
theorem p2_le {m n : Int} (h : m ≤ n) : p2 m ≤ p2 n := by
  have h1 : m.toNat ≤ n.toNat := by omega
  have h2 : (2 : Nat) ^ m.toNat ≤ 2 ^ n.toNat := Nat.pow_le_pow_right (by decide) h1
  have e1 : ((2 ^ m.toNat : Nat) : Int) = (2 : Int) ^ m.toNat := by simp
  have e2 : ((2 ^ n.toNat : Nat) : Int) = (2 : Int) ^ n.toNat := by simp
  show (2 : Int) ^ m.toNat ≤ 2 ^ n.toNat
  omega
theorem w_shl1 (h0 : 0 ≤ j) (h1 : j ≤ 1000000) (h : Q (.int (p2 j)) H) : rShlU (.int 1) (.int j) H Q := ⟨1, j, rfl, rfl, ⟨h0, h1, by decide⟩, by
  show Q (V.int (1 * 2 ^ j.toNat)) H
  rw [Int.one_mul]
  exact h⟩
abbrev rMin2 : List V → Hp → VK → Prop := fun xs H Q => ∃ i j, xs = [V.int i, V.int j] ∧ Q (.int (if j < i then j else i)) H
abbrev rMax2 : List V → Hp → VK → Prop := fun xs H Q => ∃ i j, xs = [V.int i, V.int j] ∧ Q (.int (if j > i then j else i)) H
abbrev rAbs : List V → Hp → VK → Prop := fun xs H Q => ∃ i, xs = [V.int i] ∧ Q (.int (if i < 0 then -i else i)) H
theorem w_min2 (h : Q (.int (if j < i then j else i)) H) : rMin2 [.int i, .int j] H Q := ⟨i, j, rfl, h⟩
theorem w_max2 (h : Q (.int (if j > i then j else i)) H) : rMax2 [.int i, .int j] H Q := ⟨i, j, rfl, h⟩
theorem w_abs (h : Q (.int (if i < 0 then -i else i)) H) : rAbs [.int i] H Q := ⟨i, rfl, h⟩
abbrev rIntU : List V → Hp → VK → Prop := fun xs H Q => (∃ i, xs = [V.int i] ∧ Q (.int i) H) ∨ ∃ k, xs = [V.bl k] ∧ Q (.int (if k then 1 else 0)) H
theorem u_int {X : Cx} : CallR X (.type "int") rIntU := call_int1
theorem w_inti (h : Q (.int i) H) : rIntU [.int i] H Q := .inl ⟨i, rfl, h⟩
theorem w_intb {b : Bool} (h : Q (.int (if b = true then 1 else 0)) H) : rIntU [.bl b] H Q := .inr ⟨b, rfl, h⟩
def ipAddU (K : PySem.W.Frag) : TIp := ipI fun i j => i + j
theorem w_ipadd (h : Q (.int (i + j)) H) : ipAddU K (.int i) (.int j) H Q := ⟨i, j, rfl, rfl, h⟩
theorem u_ipadd {X : Cx} : PIp X .Add (ipAddU X.K) := ip_add
end
/-! ### what the law's text is made of -/
/-- a def of the text -/
def Src (K : PySem.W.Frag) (mg : Str → Option Value) (x : Str) (st : Stmt) : Prop := ∃ f fd, mg x = some (.ref f) ∧ Fun K x x st f fd
/-- the program, the world, the written part -/
structure Wd where
  P : Program
  w : World
  K : PySem.W.Frag
/-- a def that keeps a promise -/
def Cal (W : Wd) (mg : Str → Option Value) (base : Heap) (x : Str) (k : Nat) (ps : List Str) (sp : Sp) : Prop :=
  ∃ f fd, mg x = some (.ref f) ∧ FnOk W.P W.w W.K mg base CX0 k f fd ps sp ∧ PySem.W.keepIn W.K (.ref f) = true ∧ Binds W.K fd ps []
/-- an object of which no more is said than that it is one of U -/
def flatO : HO → Prop
  | .lst _ => True
  | .dK _ => True
  | _ => False
theorem ok_flat {P : Program} {w : World} {H H' : Hp} {h : Heap} {a : Addr} {u : HO} (hf : flatO u) (x : ObjOk P w H h a u) : ObjOk P w H' h a u := by
  cases u with
  | lst xs =>
    obtain ⟨z, its, n, r, e⟩ := x
    exact ⟨z, its, n, r, e⟩
  | dK kvs =>
    obtain ⟨z, y, vs, r, m⟩ := x
    exact ⟨z, y, vs, r, m⟩
  | _ => exact hf.elim
theorem flat_there {P : Program} {w : World} {H : Hp} {h : Heap} {a : Addr} {u : HO} (hf : flatO u) (x : ObjOk P w H h a u) : ∃ o, h.get? a = some o := by
  cases u with
  | lst xs =>
    obtain ⟨z, its, n, r, e⟩ := x
    exact ⟨_, e⟩
  | dK kvs =>
    obtain ⟨z, y, vs, r, o, es, ep, e, _⟩ := x
    exact ⟨_, e⟩
  | _ => exact hf.elim
def vw (W : Wd) (U : HO → Prop) (a : Addr) : HO := .ext fun h => ∃ u, U u ∧ flatO u ∧ ObjOk W.P W.w (fun _ => none) h a u
theorem vw_ok {W : Wd} {U : HO → Prop} {H H' : Hp} {h : Heap} {a : Addr} {u : HO} (hu : U u) (hf : flatO u) (x : ObjOk W.P W.w H h a u) : ObjOk W.P W.w H' h a (vw W U a) := by
  have x0 : ObjOk W.P W.w (fun _ => none) h a u := ok_flat hf x
  refine ⟨⟨u, hu, hf, x0⟩, flat_there hf x, fun h1 h2 ⟨u1, a1, a2, a3⟩ k => ⟨u1, a1, a2, ?_⟩⟩
  refine a3.stay (fun b o hb e => ?_) (fun _ q => q) fun _ _ q => q
  rcases hb with rfl | hb
  · exact k _ e
  · cases hb
theorem flat_cases {u : HO} (h : flatO u) : (∃ x, u = .lst x) ∨ ∃ k, u = .dK k := by
  cases u <;> first | exact .inl ⟨_, rfl⟩ | exact .inr ⟨_, rfl⟩ | exact h.elim
/-- p's object shown as one of U: all else is as it was -/
theorem hok_seal {W : Wd} {U : HO → Prop} {H : Hp} {h : Heap} {p : Addr} {u : HO} (x : HOk W.P W.w H h) (hp : H p = some u) (hu : U u) (hf : flatO u) : HOk W.P W.w (upd H p (vw W U p)) h := fun a o e => by
  by_cases ha : a = p
  · subst ha
    rw [upd_same] at e
    cases e
    exact vw_ok hu hf (x a u hp)
  · rw [upd_ne ha] at e
    refine (x a o e).stay (fun _ _ _ q => q) (fun b q => ?_) fun b xs q => ?_
    · have nb : b ≠ p := fun z => by
        rw [z, hp] at q
        cases q
        exact hf
      rw [upd_ne nb]
      exact q
    · have nb : b ≠ p := fun z => by
        rw [z, hp] at q
        cases q
        exact hf
      rw [upd_ne nb]
      exact q
theorem hok_open {W : Wd} {U : HO → Prop} {H : Hp} {h : Heap} {p : Addr} (x : HOk W.P W.w H h) (hp : H p = some (vw W U p)) : ∃ u, U u ∧ flatO u ∧ HOk W.P W.w (upd H p u) h := by
  obtain ⟨⟨u, hu, hf, o⟩, _, _⟩ := (show ObjOk W.P W.w H h p (vw W U p) from x p _ hp)
  refine ⟨u, hu, hf, fun a ob e => ?_⟩
  by_cases ha : a = p
  · subst ha
    rw [upd_same] at e
    cases e
    exact ok_flat hf o
  · rw [upd_ne ha] at e
    refine (x a ob e).stay (fun _ _ _ q => q) (fun b q => ?_) fun b xs q => ?_
    · have nb : b ≠ p := fun z => by
        rw [z, hp] at q
        cases q
      rw [upd_ne nb]
      exact q
    · have nb : b ≠ p := fun z => by
        rw [z, hp] at q
        cases q
      rw [upd_ne nb]
      exact q
theorem un_seal {W : Wd} {U : HO → Prop} {fs ex : List Addr} {H H' : Hp} {h h' : Heap} {p : Addr} {u : HO} (x : Un fs ex H H' h h') (hp : H' p = some u) (hf : flatO u) : Un fs ex H (upd H' p (vw W U p)) h h' where
  keep := x.keep
  slot := x.slot
  free := fun b o q n he => by
    have e := x.free b o q n he
    have nb : b ≠ p := fun z => by
      rw [z, hp] at e
      cases e
    rw [upd_ne nb]
    exact e
  there := x.there
  tups := fun b xs q => by
    have e := x.tups b xs q
    have nb : b ≠ p := fun z => by
      rw [z, hp] at e
      cases e
      exact hf
    rw [upd_ne nb]
    exact e
  frzs := fun b o v q => by
    have e := x.frzs b o v q
    have nb : b ≠ p := fun z => by
      rw [z, hp] at e
      cases e
      exact hf
    rw [upd_ne nb]
    exact e
  tbls := fun b ps q => by
    obtain ⟨m, e⟩ := x.tbls b ps q
    have nb : b ≠ p := fun z => by
      rw [z, hp] at e
      cases e
      exact hf
    exact ⟨m, by rw [upd_ne nb]; exact e⟩
theorem un_open {W : Wd} {U : HO → Prop} {fs ex : List Addr} {H H' : Hp} {h h' : Heap} {p : Addr} {u : HO} (x : Un fs ex (upd H p u) H' h h') (hp : H p = some (vw W U p)) : Un fs ex H H' h h' := by
  have nb : ∀ b, H b = none → b ≠ p := fun b e z => by
    rw [z, hp] at e
    cases e
  have up : ∀ b, b ≠ p → upd H p u b = H b := fun b z => upd_ne z
  have no : ∀ b o, H b = some o → (∀ φ, o ≠ .ext φ) → b ≠ p := fun b o e z q => by
    rw [q, hp] at e
    exact z _ (Option.some.inj e).symm
  refine ⟨fun b o q n => x.keep b o q (by rw [up b (nb b n)]; exact n), fun b o q n => x.slot b o q (by rw [up b (nb b n)]; exact n), fun b o q n => x.free b o q (by rw [up b (nb b n)]; exact n), x.there,
    fun b xs q => x.tups b xs ?_, fun b o v q => x.frzs b o v ?_, fun b ps q => x.tbls b ps ?_⟩
  · rw [up b (no b _ q fun φ z => by cases z)]
    exact q
  · rw [up b (no b _ q fun φ z => by cases z)]
    exact q
  · rw [up b (no b _ q fun φ z => by cases z)]
    exact q
/-- a def that has a promise by the object itself has one by its view -/
theorem fn_view {W : Wd} {mg : Str → Option Value} {base : Heap} {k : Nat} {f : Addr} {fd : FuncData} {ps : List Str} {sp sp' : Sp} {U : HO → Prop} (hU : ∀ u, U u → flatO u) (F : FnOk W.P W.w W.K mg base CX0 k f fd ps sp)
    (hl : ∀ vs H Q E, sp' vs H Q E → vs.length = ps.length)
    (h : ∀ vs H Q E, sp' vs H Q E → ∃ p, H p = some (vw W U p) ∧ ∀ u, U u → sp vs (upd H p u) (fun v H' => ∃ u', U u' ∧ H' p = some u' ∧ Q v (upd H' p (vw W U p))) E) :
    FnOk W.P W.w W.K mg base CX0 k f fd ps sp' := by
  refine ⟨hl, fun A outer s H args us vs Q E hr e0 hb hv hs => ?_⟩
  obtain ⟨p, hp, k⟩ := h _ _ _ _ hs
  obtain ⟨u, hu, hf, hok⟩ := hok_open e0.hok hp
  have np : ∀ b, H b = none → upd H p u b = none := fun b e => by
    have nb : b ≠ p := fun z => by
      rw [z, hp] at e
      cases e
    rw [upd_ne nb]
    exact e
  have e1 : Env0 W.P W.w W.K mg base A outer s (upd H p u) := ⟨e0.frames, e0.mod, fun b o q => ⟨(e0.bs b o q).1, np b (e0.bs b o q).2⟩, e0.bsz, e0.funs, fun b q => np b (e0.frf b q), hok, e0.bare⟩
  refine codeAny_mono (F.run A outer s (upd H p u) args us vs _ E hr e1 hb hv (k u hu)) fun r s' q => ?_
  cases r with
  | error e => exact q
  | ok fl =>
    cases fl with
    | ret v =>
      obtain ⟨v1, H', q1, q2, q3, q4, q5, u', hu', hp', q6⟩ := q
      exact ⟨v1, _, q1, q2, un_open (un_seal q3 hp' (hU _ hu')) hp, hok_seal q4 hp' hu' (hU _ hu'), q5, q6⟩
    | next => exact q
    | brk => exact q
    | cont => exact q
theorem fn_seal {W : Wd} {mg : Str → Option Value} {base : Heap} {k : Nat} {f : Addr} {fd : FuncData} {ps : List Str} {sp sp' : Sp} {U : HO → Prop} (hU : ∀ u, U u → flatO u) (F : FnOk W.P W.w W.K mg base CX0 k f fd ps sp)
    (hl : ∀ vs H Q E, sp' vs H Q E → vs.length = ps.length)
    (h : ∀ vs H Q E, sp' vs H Q E → sp vs H (fun v H' => ∃ p u', U u' ∧ H' p = some u' ∧ Q v (upd H' p (vw W U p))) E) :
    FnOk W.P W.w W.K mg base CX0 k f fd ps sp' := by
  refine ⟨hl, fun A outer s H args us vs Q E hr e0 hb hv hs => ?_⟩
  refine codeAny_mono (F.run A outer s H args us vs _ E hr e0 hb hv (h _ _ _ _ hs)) fun r s' q => ?_
  cases r with
  | error e => exact q
  | ok fl =>
    cases fl with
    | ret v =>
      obtain ⟨v1, H', q1, q2, q3, q4, q5, p, u', hu', hp', q6⟩ := q
      exact ⟨v1, _, q1, q2, un_seal q3 hp' (hU _ hu'), hok_seal q4 hp' hu' (hU _ hu'), q5, q6⟩
    | next => exact q
    | brk => exact q
    | cont => exact q
theorem src_mk {K : PySem.W.Frag} {mg : Str → Option Value} {h : Heap} {x : Str} {st : Stmt} {f : Addr} {oc : Value} {od an : Option Addr} {osl : Array (Option Value)} {kV doc pm cdv ct : Value} (X : K.In h) (G : h.Ns mainGlobals mg)
    (a : PySem.W.nsIn K mainGlobals x = some (some (.ref f))) (l : K.lookup f = some ⟨oc, od, .func (PySem.W.fnOf x x (defArgs st) (defBody st) (defScope st) .none kV doc pm an cdv ct), osl⟩)
    (c : PySem.W.codeIn K cdv x = true) (k : PySem.W.keepIn K (.ref f) = true) : Src K mg x st := ⟨f, _, PySem.W.mg_of X G a, fun_mk l c k⟩
/-! ### loops -/
section
variable {K : PySem.W.Frag} {σ : L2.St} {H : Hp} {Q : VK} {te : TE} {tA : TA} {tb : TS} {nx bk ct : L2.St → Hp → Prop} {rt : VK} {g : TG} {n : Nat} {wi : TI} {c : TT}
/-- what a for asks once its iterator has come -/
def ForOk (J : It) (g : TG) (tb : TS) (nx : L2.St → Hp → Prop) (rt : VK) (σ : L2.St) (H1 : Hp) : Prop := ∃ W : Nat → Nat → L2.St → Hp → Prop, (∃ m, W 0 m σ H1) ∧ ∀ i m σ H, W i m σ H →
  (J.stop i H ∧ nx σ H) ∨ (J.go i H ∧ ∃ N : L2.St → Hp → Prop, (∀ σ' H', N σ' H' → ∃ m', m' < m ∧ W (i + 1) m' σ' H') ∧ ∀ x H', J.yld i H x H' → g x σ H' fun σ2 H2 => tb ⟨N, rt, nx, N⟩ σ2 H2)
theorem w_for (h : wi σ H fun J H1 => ForOk J g tb nx rt σ H1) : tFor wi g tb ⟨nx, rt, bk, ct⟩ σ H := h
def Rg1 (R : It → Hp → Prop) (vs : List V) (H : Hp) : Prop := ∃ j : Int, vs = [.int j] ∧ -(2 ^ 62) ≤ j ∧ j < 2 ^ 62 ∧ R (Itr 0 j.toNat) H
def Rg2 (R : It → Hp → Prop) (vs : List V) (H : Hp) : Prop := ∃ i j : Int, vs = [.int i, .int j] ∧ (-(2 ^ 62) ≤ i ∧ i < 2 ^ 62 ∧ -(2 ^ 62) ≤ j ∧ j < 2 ^ 62) ∧ R (Itr i (j - i).toNat) H
theorem w_irng1 {R : It → Hp → Prop} (h : tA σ H fun vs H1 => Rg1 R vs H1) : iRng1 tA σ H R := h
theorem w_irng2 {R : It → Hp → Prop} (h : tA σ H fun vs H1 => Rg2 R vs H1) : iRng2 tA σ H R := h
theorem w_rg1 {R : It → Hp → Prop} {j : Int} (h0 : -(2 ^ 62) ≤ j) (h1 : j < 2 ^ 62) (h : R (Itr 0 j.toNat) H) : Rg1 R [.int j] H := ⟨j, rfl, h0, h1, h⟩
theorem w_rg2 {R : It → Hp → Prop} {i j : Int} (h0 : -(2 ^ 62) ≤ i ∧ i < 2 ^ 62 ∧ -(2 ^ 62) ≤ j ∧ j < 2 ^ 62) (h : R (Itr i (j - i).toNat) H) : Rg2 R [.int i, .int j] H := ⟨i, j, rfl, h0, h⟩
theorem forR {lo : Int} (I : Nat → L2.St → Hp → Prop) (h0 : I 0 σ H) (hs : ∀ i σ H, i < n → I i σ H → g (.int (lo + i)) σ H fun σ2 H2 => tb ⟨I (i + 1), rt, nx, I (i + 1)⟩ σ2 H2) (hd : ∀ σ H, I n σ H → nx σ H) : ForOk (Itr lo n) g tb nx rt σ H :=
  for_range (D := ⟨nx, rt, fun _ _ => False, fun _ _ => False⟩) I h0 hs hd
theorem forR0 (I : Nat → L2.St → Hp → Prop) (h0 : I 0 σ H) (hs : ∀ (i : Nat) σ H, i < n → I i σ H → g (.int (i : Int)) σ H fun σ2 H2 => tb ⟨I (i + 1), rt, nx, I (i + 1)⟩ σ2 H2) (hd : ∀ σ H, I n σ H → nx σ H) : ForOk (Itr 0 n) g tb nx rt σ H :=
  forR I h0 (fun i σ H hi q => by
    rw [Int.zero_add]
    exact hs i σ H hi q) hd
theorem w_while (I : Nat → L2.St → Hp → Prop) (m0 : Nat) (h0 : I m0 σ H) (hs : ∀ m σ H, I m σ H → c σ H fun b H1 => if b = true then ∃ N : L2.St → Hp → Prop, (∀ σ' H', N σ' H' → ∃ m', m' < m ∧ I m' σ' H') ∧ tb ⟨N, rt, nx, N⟩ σ H1 else nx σ H1) :
    tWhile c tb ⟨nx, rt, bk, ct⟩ σ H := ⟨I, ⟨m0, h0⟩, hs⟩
theorem w_N {P : (L2.St → Hp → Prop) → Prop} {J : L2.St → Hp → Prop} (h : P J) : ∃ N : L2.St → Hp → Prop, (∀ σ' H', N σ' H' → J σ' H') ∧ P N := ⟨J, fun _ _ h => h, h⟩
def GoAny (K : PySem.W.Frag) (R : It → Hp → Prop) (x : V) (H1 : Hp) : Prop := (∃ a, x = .ref a ∧ ((∃ xs, SqL K H1 a xs) ∧ R (Itl K a) H1 ∨ (∃ xs, SqT K H1 a xs) ∧ R (Itt K a) H1)) ∨ ∃ s, x = .str s ∧ R (Its s) H1
def iAny (K : PySem.W.Frag) (te : TE) : TI := fun σ H R => te σ H fun x H1 => GoAny K R x H1
theorem w_iany {R : It → Hp → Prop} (h : te σ H fun x H1 => GoAny K R x H1) : iAny K te σ H R := h
theorem w_goL {R : It → Hp → Prop} {a : Addr} {xs : List V} (h : SqL K H a xs) (q : R (Itl K a) H) : GoAny K R (.ref a) H := .inl ⟨a, rfl, .inl ⟨⟨xs, h⟩, q⟩⟩
theorem w_goT {R : It → Hp → Prop} {a : Addr} {xs : List V} (h : SqT K H a xs) (q : R (Itt K a) H) : GoAny K R (.ref a) H := .inl ⟨a, rfl, .inr ⟨⟨xs, h⟩, q⟩⟩
theorem w_goS {R : It → Hp → Prop} {z : Str} (q : R (Its z) H) : GoAny K R (.str z) H := .inr ⟨z, rfl, q⟩
theorem pi_any {X : Cx} {tg l : Expr} {tl : TE} (hl : PE X l tl) : PI X tg l (iAny X.K tl) := ⟨fun pins s σ H R I h => thn (hl.run pins s σ H _ I h) fun v s1 z => by
  obtain ⟨x, H1, J, rx, z⟩ := z
  have fp : ∀ b ∈ [s1.heap.objs.size], FpOk X pins H1 b := fun b hb => by
    rw [List.mem_singleton.mp hb]
    exact J.fpOk (Nat.le_refl _) (J.hok.fresh (Nat.le_refl _))
  rcases z with ⟨a, rfl, z⟩ | ⟨z, rfl, q⟩
  · obtain rfl : v = Value.ref a := rx
    rcases z with ⟨⟨xs, hs⟩, q⟩ | ⟨⟨xs, hs⟩, q⟩
    · obtain ⟨_, _, pl, _⟩ := J.list hs
      exact wpAny_pyIter_list pl.isList
        ⟨_, _, _, _, H1, rfl, J.kept (t' := s1.toks) (fun _ _ e => Heap.get?_push_of_some _ e), turn_list a _, ⟨_, Heap.get?_push_size _ rfl, rfl, rfl⟩, fp, q⟩
    · obtain ⟨_, _, pl, _⟩ := J.tuple hs
      exact wpAny_pyIter_tuple pl
        ⟨_, _, _, _, H1, rfl, J.kept (t' := s1.toks) (fun _ _ e => Heap.get?_push_of_some _ e), turn_tuple a _, ⟨_, Heap.get?_push_size _ rfl, rfl, rfl⟩, fp, q⟩
  · obtain ⟨t, rfl⟩ := rx
    cases ha : z.cps.all (· < 128) with
    | false => exact wpAny_pyIter_wide ha (pi_one (tk := s1.toks) J _ (turn_str _ z t "str_iterator" (.inr rfl)) ⟨_, Heap.get?_push_size _ rfl, rfl, rfl⟩ q)
    | true => exact wpAny_pyIter_ascii ha (pi_one (tk := s1.toks) J _ (turn_str _ z t "str_ascii_iterator" (.inl rfl)) ⟨_, Heap.get?_push_size _ rfl, rfl, rfl⟩ q)⟩
theorem forL {a : Addr} {xs : List V} (I : Nat → L2.St → Hp → Prop) (h0 : I 0 σ H) (hl : ∀ i σ H, i ≤ xs.length → I i σ H → SqL K H a xs)
    (hs : ∀ i x σ H, xs[i]? = some x → I i σ H → g x σ H fun σ2 H2 => tb ⟨I (i + 1), rt, nx, I (i + 1)⟩ σ2 H2) (hd : ∀ σ H, I xs.length σ H → nx σ H) : ForOk (Itl K a) g tb nx rt σ H :=
  for_list (D := ⟨nx, rt, fun _ _ => False, fun _ _ => False⟩) I h0 hl hs hd
theorem forT {a : Addr} {xs : List V} (I : Nat → L2.St → Hp → Prop) (h0 : I 0 σ H) (hl : ∀ i σ H, i ≤ xs.length → I i σ H → SqT K H a xs)
    (hs : ∀ i x σ H, xs[i]? = some x → I i σ H → g x σ H fun σ2 H2 => tb ⟨I (i + 1), rt, nx, I (i + 1)⟩ σ2 H2) (hd : ∀ σ H, I xs.length σ H → nx σ H) : ForOk (Itt K a) g tb nx rt σ H :=
  for_tup (D := ⟨nx, rt, fun _ _ => False, fun _ _ => False⟩) I h0 hl hs hd
end
/-! ### types, lengths, items -/
def tyD : PyData → String
  | .none => "NoneType"
  | .bool _ => "bool"
  | .int _ => "int"
  | .str _ => "str"
  | .list _ => "list"
  | .tuple _ => "tuple"
  | .dict _ => "dict"
theorem ty_of {K : PySem.W.Frag} {H : Hp} {v : V} {d : PyData} (h : Dp K H v d) : TyX K H v (.type (tyD d)) := by
  cases h with
  | non => exact .base .non
  | bl b => exact .base (.bl b)
  | int i => exact .base (.int i)
  | str x => exact .base (.str x)
  | lst h r =>
    rcases h with (h | ⟨o, h⟩) | ⟨o, its, n, h, c, _⟩
    · exact .base (.lst h)
    · exact .base (.frz h)
    · exact .kList h c
  | tup h r =>
    rcases h with (h | ⟨o, h⟩) | ⟨o, its, n, h, c, _⟩
    · exact .base (.tup h)
    · exact .fTuple h
    · exact .kTuple h c
def isIntD : PyData → Bool
  | .int _ => true
  | _ => false
def isIntB : PyData → Bool
  | .int _ => true
  | .bool _ => true
  | _ => false
def isBoolD : PyData → Bool
  | .bool _ => true
  | _ => false
def isStrD : PyData → Bool
  | .str _ => true
  | _ => false
def isTupD : PyData → Bool
  | .tuple _ => true
  | _ => false
def isListD : PyData → Bool
  | .list _ => true
  | _ => false
section
variable {K : PySem.W.Frag} {H : Hp} {Q : VK} {v : V} {d : PyData}
theorem w_isi {b : String} {r : Bool} (h : Dp K H v d) (hk : kitB (tyD d) b = some r) (q : Q (.bl r) H) : rIsi K [v, .ty b] H Q := ⟨v, .ty b, _, _, r, rfl, .ty b, ty_of h, kit_ty hk, q⟩
theorem w_isint (h : Dp K H v d) (hd : tyD d ≠ "dict") (q : Q (.bl (isIntB d)) H) : rIsi K [v, .ty "int"] H Q := w_isi h (by cases d <;> first | exact (hd rfl).elim | (simp only [tyD, isIntB]; decide +kernel)) q
theorem w_isbool (h : Dp K H v d) (hd : tyD d ≠ "dict") (q : Q (.bl (isBoolD d)) H) : rIsi K [v, .ty "bool"] H Q := w_isi h (by cases d <;> first | exact (hd rfl).elim | (simp only [tyD, isBoolD]; decide +kernel)) q
theorem w_isstr (h : Dp K H v d) (hd : tyD d ≠ "dict") (q : Q (.bl (isStrD d)) H) : rIsi K [v, .ty "str"] H Q := w_isi h (by cases d <;> first | exact (hd rfl).elim | (simp only [tyD, isStrD]; decide +kernel)) q
theorem w_istup (h : Dp K H v d) (hd : tyD d ≠ "dict") (q : Q (.bl (isTupD d)) H) : rIsi K [v, .ty "tuple"] H Q := w_isi h (by cases d <;> first | exact (hd rfl).elim | (simp only [tyD, isTupD]; decide +kernel)) q
theorem dp_nodict (h : Dp K H v d) : tyD d ≠ "dict" := by
  cases h <;> (intro z; simp [tyD] at z)
theorem w_isint' (h : Dp K H v d) (q : Q (.bl (isIntB d)) H) : rIsi K [v, .ty "int"] H Q := w_isint h (dp_nodict h) q
theorem w_isbool' (h : Dp K H v d) (q : Q (.bl (isBoolD d)) H) : rIsi K [v, .ty "bool"] H Q := w_isbool h (dp_nodict h) q
theorem w_isstr' (h : Dp K H v d) (q : Q (.bl (isStrD d)) H) : rIsi K [v, .ty "str"] H Q := w_isstr h (dp_nodict h) q
theorem w_istup' (h : Dp K H v d) (q : Q (.bl (isTupD d)) H) : rIsi K [v, .ty "tuple"] H Q := w_istup h (dp_nodict h) q
abbrev rLenU (K : PySem.W.Frag) : List V → Hp → VK → Prop := fun xs H Q => ∃ x n, xs = [x] ∧ LenV K x H n ∧ Q (.int n) H
theorem u_len {X : Cx} : CallR X (.builtin "len") (rLenU X.K) := call_len
theorem w_lenL {a : Addr} {xs : List V} (h : SqL K H a xs) (q : Q (.int xs.length) H) : rLenU K [.ref a] H Q := ⟨_, _, rfl, .inl ⟨xs, h, rfl⟩, q⟩
theorem w_lenT {a : Addr} {xs : List V} (h : SqT K H a xs) (q : Q (.int xs.length) H) : rLenU K [.ref a] H Q := ⟨_, _, rfl, .inr ⟨xs, h, rfl⟩, q⟩
theorem w_lenS {z : Str} (h : z.length ≤ sizeLine) (q : Q (.int z.length) H) : rLenU K [.str z] H Q := ⟨_, _, rfl, ⟨h, rfl⟩, q⟩
theorem w_lenDL {ds : List PyData} (h : Dp K H v (.list ds)) (q : Q (.int ds.length) H) : rLenU K [v] H Q := by
  cases h with
  | lst h r => exact w_lenL h (by rw [dps_len r]; exact q)
theorem w_lenDT {ds : List PyData} (h : Dp K H v (.tuple ds)) (q : Q (.int ds.length) H) : rLenU K [v] H Q := by
  cases h with
  | tup h r => exact w_lenT h (by rw [dps_len r]; exact q)
abbrev rIxU (K : PySem.W.Frag) : R2 := rIx K
theorem u_ix {X : Cx} : IxR X (rIxU X.K) := ix_seq
theorem w_ixl {a : Addr} {xs : List V} {i : Int} {x : V} (h : SqL K H a xs) (e : atI xs i = some x) (q : Q x H) : rIxU K (.ref a) (.int i) H Q := .inl ⟨a, xs, i, x, rfl, rfl, h, e, q⟩
theorem w_ixt {a : Addr} {xs : List V} {i : Int} {x : V} (h : SqT K H a xs) (e : atI xs i = some x) (q : Q x H) : rIxU K (.ref a) (.int i) H Q := .inr (.inl ⟨a, xs, i, x, rfl, rfl, h, e, q⟩)
theorem w_ixP {a : Addr} {xs : List V} {i : Int} (P : V → Prop) (h : SqL K H a xs) (h0 : 0 ≤ i) (h1 : i < xs.length) (hx : ∀ x ∈ xs, P x) (q : ∀ x, P x → Q x H) : rIxU K (.ref a) (.int i) H Q := by
  have hn : i.toNat < xs.length := by omega
  refine w_ixl h (x := xs[i.toNat]) ?_ (q _ (hx _ (List.getElem_mem hn)))
  unfold atI ixN
  rw [if_pos h0, if_pos (by omega)]
  simp [List.getElem?_eq_getElem hn]
def isI (P : Int → Prop) (x : V) : Prop := ∃ n, x = .int n ∧ P n
theorem w_ixI {a : Addr} {xs : List V} {i : Int} (P : Int → Prop) (h : SqL K H a xs) (h0 : 0 ≤ i) (h1 : i < xs.length) (hx : ∀ x ∈ xs, isI P x) (q : ∀ n, P n → Q (.int n) H) : rIxU K (.ref a) (.int i) H Q :=
  w_ixP (isI P) h h0 h1 hx fun x ⟨n, e, hn⟩ => by
    rw [e]
    exact q n hn
theorem isI_at {P : Int → Prop} {xs : List V} {i : Nat} {x : V} (h : ∀ x ∈ xs, isI P x) (e : xs[i]? = some x) : ∃ n, x = .int n ∧ P n := h x (List.mem_of_getElem? e)
theorem isI_nil {P : Int → Prop} : ∀ x ∈ ([] : List V), isI P x := fun x hx => nomatch hx
theorem isI_cons {P : Int → Prop} {n : Int} {r : List V} (h : P n) (hr : ∀ x ∈ r, isI P x) : ∀ x ∈ V.int n :: r, isI P x := fun x hx => by
  rcases List.mem_cons.mp hx with rfl | hx
  · exact ⟨n, rfl, h⟩
  · exact hr x hx
theorem w_ixs {z : Str} {i : Int} {c : Nat} (h : z.length ≤ sizeLine) (e : atI z.cps.toList i = some c) (q : Q (.str ⟨#[c]⟩) H) : rIxU K (.str z) (.int i) H Q := .inr (.inr ⟨z, i, c, rfl, rfl, h, e, q⟩)
theorem w_ixDL {ds : List PyData} {i : Int} (h : Dp K H v (.list ds)) (e : atI ds i = some d) (q : ∀ x, Dp K H x d → Q x H) : rIxU K v (.int i) H Q := by
  cases h with
  | lst h r =>
    obtain ⟨x, e1, e2⟩ := dps_at r e
    exact w_ixl h e1 (q x e2)
theorem w_ixDT {ds : List PyData} {i : Int} (h : Dp K H v (.tuple ds)) (e : atI ds i = some d) (q : ∀ x, Dp K H x d → Q x H) : rIxU K v (.int i) H Q := by
  cases h with
  | tup h r =>
    obtain ⟨x, e1, e2⟩ := dps_at r e
    exact w_ixt h e1 (q x e2)
theorem dp_int {i : Int} (h : Dp K H v (.int i)) : v = .int i := by cases h; rfl
theorem dp_str {x : Str} (h : Dp K H v (.str x)) : v = .str x := by cases h; rfl
theorem dp_bl {b : Bool} (h : Dp K H v (.bool b)) : v = .bl b := by cases h; rfl
theorem dp_non (h : Dp K H v .none) : v = .non := by cases h; rfl
theorem w_ixDLi {ds : List PyData} {i n : Int} (h : Dp K H v (.list ds)) (e : atI ds i = some (.int n)) (q : Q (.int n) H) : rIxU K v (.int i) H Q := w_ixDL h e fun x hx => by
  rw [dp_int hx]
  exact q
theorem w_ixDTi {ds : List PyData} {i n : Int} (h : Dp K H v (.tuple ds)) (e : atI ds i = some (.int n)) (q : Q (.int n) H) : rIxU K v (.int i) H Q := w_ixDT h e fun x hx => by
  rw [dp_int hx]
  exact q
theorem atI_of {α : Type} {xs : List α} {i : Int} (h0 : 0 ≤ i) (h1 : i < xs.length) : ∃ x, atI xs i = some x ∧ x ∈ xs := by
  have hn : i.toNat < xs.length := by omega
  refine ⟨xs[i.toNat], ?_, List.getElem_mem hn⟩
  unfold atI ixN
  rw [if_pos h0, if_pos (by omega)]
  simp [List.getElem?_eq_getElem hn]
end
def rSetU : TSet := fun o i v H Q => rSetL o i v H Q ∨ rSetD o i v H Q
theorem u_set {X : Cx} (hu : X.A.units + 64 < cLine) : PSet X rSetU := by
  intro pins s σ H o i v ov iv u Q I r1 r2 r3 q
  rcases q with q | q
  · exact set_list pins s σ H o i v ov iv u Q I r1 r2 r3 q
  · exact set_dict (Nat.lt_of_le_of_lt (Nat.add_le_add_left (by decide) _) hu) pins s σ H o i v ov iv u Q I r1 r2 r3 q
theorem w_gsub {to ti : TE} {t : TSet} {v : V} {σ : L2.St} {H : Hp} {k : L2.St → Hp → Prop} (h : to σ H fun o H1 => ti σ H1 fun i H2 => t o i v H2 fun H3 => k σ H3) : gSub to ti t v σ H k := h
theorem w_gnil {σ : L2.St} {H : Hp} {k : L2.St → Hp → Prop} (h : k σ H) : gNil [] σ H k := ⟨rfl, h⟩
theorem w_gcons {t : TG} {u : TGs} {v : V} {r : List V} {σ : L2.St} {H : Hp} {k : L2.St → Hp → Prop} (h : t v σ H fun σ' H' => u r σ' H' k) : gCons t u (v :: r) σ H k := ⟨v, r, rfl, h⟩
theorem w_gtup {K : PySem.W.Frag} {n : Nat} {t : TGs} {a : Addr} {xs : List V} {σ : L2.St} {H : Hp} {k : L2.St → Hp → Prop} (h : SqT K H a xs) (hl : xs.length = n) (q : t xs σ H k) : gTup K n t (.ref a) σ H k := ⟨a, xs, rfl, h, hl, q⟩
theorem w_setl {a : Addr} {xs : List V} {i : Int} {j : Nat} {v : V} {H : Hp} {k : Hp → Prop} (h : H a = some (.lst xs)) (e : ixN xs.length i = some j) (q : k (upd H a (.lst (xs.set j v)))) : rSetU (.ref a) (.int i) v H k := .inl ⟨a, xs, i, j, rfl, rfl, h, e, q⟩
/-! ### comprehensions -/
section
variable {K : PySem.W.Frag} {σ : L2.St} {H : Hp} {Q : VK} {te : TE} {tt : TT} {g : TG} {wi : TI} {vs : List Nat} {n : Nat}
def LcOk (J : It) (g : TG) (tt : TT) (te : TE) (vs : List Nat) (σ : L2.St) (Q : VK) (H1 : Hp) : Prop := ∀ D, H1 D = none → ∃ W : Nat → Nat → Hp → Prop, (∃ m, W 0 m (upd H1 D (.lst []))) ∧ ∀ i m H, W i m H →
  (J.stop i H ∧ Q (.ref D) H) ∨ (J.go i H ∧ ∃ Nx : Hp → Prop, (∀ H', Nx H' → ∃ m', m' < m ∧ W (i + 1) m' H') ∧ ∀ x H', J.yld i H x H' → g x (wipe σ vs) H' fun σ2 H2 => wipe σ2 vs = wipe σ vs ∧ tt σ2 H2 fun b H3 =>
    if b = true then te σ2 H3 fun y H4 => ∃ acc, H4 D = some (.lst acc) ∧ acc.length < sizeLine ∧ Nx (upd H4 D (.lst (acc ++ [y]))) else Nx H3)
theorem w_lc (h : wi σ H fun J H1 => LcOk J g tt te vs σ Q H1) : tLc wi g tt te vs σ H Q := h
theorem w_wp {σ2 : L2.St} {R : Prop} (e : wipe σ2 vs = wipe σ vs) (h : R) : wipe σ2 vs = wipe σ vs ∧ R := ⟨e, h⟩
theorem w_yes {R : Bool → Hp → Prop} (h : R true H) : tYes σ H R := h
/-- a word about a comprehension's list and the heap is not hurt by a list's change -/
def Stb (I : Nat → List V → Hp → Prop) : Prop := ∀ i acc H' D xs ys, H' D = some (.lst xs) → I i acc H' → I i acc (upd H' D (.lst ys))
theorem lc_gen {J : It} (I : Nat → List V → Hp → Prop) (hst : Stb I) (hn : n ≤ 1000000) (hI : ∀ i acc H', I i acc H' → acc.length ≤ i) (h0 : ∀ H', Same H H' → I 0 [] H')
    (hgo : ∀ i acc H', i < n → Same H H' → I i acc H' → J.go i H') (hstop : ∀ acc H', Same H H' → I n acc H' → J.stop n H')
    (hs : ∀ i acc x H' H'', i < n → Same H H' → I i acc H' → J.yld i H' x H'' → ∀ (k : VK) (k' : Hp → Prop), (∀ y H4, Same H' H4 → I (i + 1) (acc ++ [y]) H4 → k y H4) → (∀ H3, Same H' H3 → I (i + 1) acc H3 → k' H3) →
      g x (wipe σ vs) H'' fun σ2 H2 => wipe σ2 vs = wipe σ vs ∧ tt σ2 H2 fun b H3 => if b = true then te σ2 H3 k else k' H3)
    (hd : ∀ D acc H', H D = none → Same H H' → H' D = some (.lst acc) → I n acc H' → Q (.ref D) H') : LcOk J g tt te vs σ Q H := fun D hD => by
  refine ⟨fun i m H' => m = n - i ∧ i ≤ n ∧ ∃ acc, Same H H' ∧ H' D = some (.lst acc) ∧ I i acc H', ⟨n, by omega, by omega, [], same_new hD, upd_same, h0 _ (same_new hD)⟩, fun i m H1 ⟨em, hi, acc, s1, hD1, w1⟩ => ?_⟩
  by_cases hlt : i < n
  · refine .inr ⟨hgo i acc H1 hlt s1 w1, fun H' => i + 1 ≤ n ∧ ∃ acc, Same H H' ∧ H' D = some (.lst acc) ∧ I (i + 1) acc H', fun H' ⟨a, b⟩ => ⟨n - (i + 1), by omega, rfl, a, b⟩, fun x H' y => ?_⟩
    refine hs i acc x H1 H' hlt s1 w1 y _ _ (fun y H4 s4 w4 => ⟨acc, s4 _ _ hD1, ?_, hlt, _, same_mut (s1.trans s4) hD, upd_same, hst _ _ _ _ _ _ (s4 _ _ hD1) w4⟩) fun H3 s3 w3 => ⟨hlt, acc, s1.trans s3, s3 _ _ hD1, w3⟩
    have l1 := hI i acc H1 w1
    exact Nat.lt_of_le_of_lt (m := 1000000) (by omega) (by decide)
  · have e : i = n := by omega
    subst e
    exact .inl ⟨hstop acc H1 s1 w1, hd D acc H1 hD s1 hD1 w1⟩
theorem lcR (I : Nat → List V → Hp → Prop) (hst : Stb I) (hn : n ≤ 1000000) (hI : ∀ i acc H', I i acc H' → acc.length ≤ i) (h0 : ∀ H', Same H H' → I 0 [] H')
    (hs : ∀ (i : Nat) acc H', i < n → Same H H' → I i acc H' → ∀ (k : VK) (k' : Hp → Prop), (∀ y H4, Same H' H4 → I (i + 1) (acc ++ [y]) H4 → k y H4) → (∀ H3, Same H' H3 → I (i + 1) acc H3 → k' H3) →
      g (.int (i : Int)) (wipe σ vs) H' fun σ2 H2 => wipe σ2 vs = wipe σ vs ∧ tt σ2 H2 fun b H3 => if b = true then te σ2 H3 k else k' H3)
    (hd : ∀ D acc H', H D = none → Same H H' → H' D = some (.lst acc) → I n acc H' → Q (.ref D) H') : LcOk (Itr 0 n) g tt te vs σ Q H :=
  lc_gen I hst hn hI h0 (fun _ _ _ h _ _ => h) (fun _ _ _ _ => Nat.le_refl _) (fun i acc x H' H'' hi s1 w1 y => by
    obtain ⟨e1, e2⟩ := y
    rw [Int.zero_add] at e2
    subst e1
    subst e2
    exact hs i acc _ hi s1 w1) hd
theorem lcL {a : Addr} {xs : List V} (hx : SqL K H a xs) (I : Nat → List V → Hp → Prop) (hst : Stb I) (hn : xs.length ≤ 1000000) (hI : ∀ i acc H', I i acc H' → acc.length ≤ i) (h0 : ∀ H', Same H H' → I 0 [] H')
    (hs : ∀ i x acc H', xs[i]? = some x → Same H H' → I i acc H' → ∀ (k : VK) (k' : Hp → Prop), (∀ y H4, Same H' H4 → I (i + 1) (acc ++ [y]) H4 → k y H4) → (∀ H3, Same H' H3 → I (i + 1) acc H3 → k' H3) →
      g x (wipe σ vs) H' fun σ2 H2 => wipe σ2 vs = wipe σ vs ∧ tt σ2 H2 fun b H3 => if b = true then te σ2 H3 k else k' H3)
    (hd : ∀ D acc H', H D = none → Same H H' → H' D = some (.lst acc) → I xs.length acc H' → Q (.ref D) H') : LcOk (Itl K a) g tt te vs σ Q H :=
  lc_gen I hst hn hI h0 (fun i acc H' hi s1 _ => ⟨xs, xs[i], s1.seq hx, List.getElem?_eq_getElem hi⟩) (fun _ _ s1 _ => ⟨xs, s1.seq hx, Nat.le_refl _⟩) (fun i acc x H' H'' hi s1 w1 y => by
    obtain ⟨e1, e2⟩ := y
    subst e1
    exact hs i x acc _ (e2 xs (s1.seq hx)) s1 w1) hd
theorem lcT {a : Addr} {xs : List V} (hx : SqT K H a xs) (I : Nat → List V → Hp → Prop) (hst : Stb I) (hn : xs.length ≤ 1000000) (hI : ∀ i acc H', I i acc H' → acc.length ≤ i) (h0 : ∀ H', Same H H' → I 0 [] H')
    (hs : ∀ i x acc H', xs[i]? = some x → Same H H' → I i acc H' → ∀ (k : VK) (k' : Hp → Prop), (∀ y H4, Same H' H4 → I (i + 1) (acc ++ [y]) H4 → k y H4) → (∀ H3, Same H' H3 → I (i + 1) acc H3 → k' H3) →
      g x (wipe σ vs) H' fun σ2 H2 => wipe σ2 vs = wipe σ vs ∧ tt σ2 H2 fun b H3 => if b = true then te σ2 H3 k else k' H3)
    (hd : ∀ D acc H', H D = none → Same H H' → H' D = some (.lst acc) → I xs.length acc H' → Q (.ref D) H') : LcOk (Itt K a) g tt te vs σ Q H :=
  lc_gen I hst hn hI h0 (fun i acc H' hi s1 _ => ⟨xs, xs[i], same_t s1 hx, List.getElem?_eq_getElem hi⟩) (fun _ _ s1 _ => ⟨xs, same_t s1 hx, Nat.le_refl _⟩) (fun i acc x H' H'' hi s1 w1 y => by
    obtain ⟨e1, e2⟩ := y
    subst e1
    exact hs i x acc _ (e2 xs (same_t s1 hx)) s1 w1) hd
/-- words that do not speak of the heap -/
theorem stb_pure {P : Nat → List V → Prop} : Stb fun i acc _ => P i acc := fun _ _ _ _ _ _ _ h => h
abbrev rTupleOf (K : PySem.W.Frag) : List V → Hp → VK → Prop := fun xs H Q => ∃ p ys, xs = [.ref p] ∧ ((SqL K H p ys ∧ ∀ l, H l = none → Q (.ref l) (upd H l (.tup ys))) ∨ (SqT K H p ys ∧ Q (.ref p) H))
abbrev rListOf (K : PySem.W.Frag) : List V → Hp → VK → Prop := fun xs H Q => ∃ p ys, xs = [.ref p] ∧ (SqL K H p ys ∨ SqT K H p ys) ∧ ∀ l, H l = none → Q (.ref l) (upd H l (.lst ys))
theorem w_tupleL {a : Addr} {xs : List V} (h : SqL K H a xs) (q : ∀ p H', H p = none → Same H H' → H' p = some (.tup xs) → Q (.ref p) H') : rTupleOf K [.ref a] H Q := ⟨a, xs, rfl, .inl ⟨h, fun p hp => q p _ hp (same_new hp) upd_same⟩⟩
theorem w_listL {a : Addr} {xs : List V} (h : SqL K H a xs) (q : ∀ p H', H p = none → Same H H' → H' p = some (.lst xs) → Q (.ref p) H') : rListOf K [.ref a] H Q := ⟨a, xs, rfl, .inl h, fun p hp => q p _ hp (same_new hp) upd_same⟩
theorem w_listT {a : Addr} {xs : List V} (h : SqT K H a xs) (q : ∀ p H', H p = none → Same H H' → H' p = some (.lst xs) → Q (.ref p) H') : rListOf K [.ref a] H Q := ⟨a, xs, rfl, .inr h, fun p hp => q p _ hp (same_new hp) upd_same⟩
theorem w_all {a : Addr} {bs : List Bool} (h : SqL K H a (bs.map V.bl)) (q : Q (.bl (bs.all id)) H) : rAll K [.ref a] H Q := ⟨a, bs, rfl, h, q⟩
theorem w_any {a : Addr} {bs : List Bool} (h : SqL K H a (bs.map V.bl)) (q : Q (.bl (bs.any id)) H) : rAny K [.ref a] H Q := ⟨a, bs, rfl, h, q⟩
/-- ints of a list of values -/
theorem ints_of {P : Int → Prop} : ∀ {xs : List V}, (∀ x ∈ xs, isI P x) → ∃ ns : List Int, xs = ns.map V.int ∧ ∀ n ∈ ns, P n
  | [], _ => ⟨[], rfl, fun _ h => nomatch h⟩
  | x :: r, h => by
    obtain ⟨ns, e, hn⟩ := ints_of (xs := r) fun y hy => h y (List.mem_cons_of_mem _ hy)
    obtain ⟨n, rfl, h1⟩ := h x List.mem_cons_self
    refine ⟨n :: ns, by rw [e]; rfl, fun m hm => ?_⟩
    rcases List.mem_cons.mp hm with rfl | hm
    · exact h1
    · exact hn m hm
theorem isI_app {P : Int → Prop} {xs : List V} {n : Int} (h : ∀ x ∈ xs, isI P x) (hn : P n) : ∀ x ∈ xs ++ [V.int n], isI P x := fun x hx => by
  rcases List.mem_append.mp hx with hx | hx
  · exact h x hx
  · rw [List.mem_singleton.mp hx]
    exact ⟨n, rfl, hn⟩
end
/-! ### the pot -/
def PotU : HO → Prop := fun u => ∃ g s : Int, u = .lst [.int g, .int s] ∧ 0 ≤ g ∧ 0 ≤ s ∧ s < 2305843009213693951
theorem pot_flat : ∀ u, PotU u → flatO u := fun u ⟨_, _, e, _⟩ => by
  rw [e]
  trivial
def PotAt (W : Wd) (H : Hp) (v : V) : Prop := ∃ p, v = .ref p ∧ H p = some (vw W PotU p)
theorem pot_mono {W : Wd} {H H' : Hp} {v : V} (e : Same H H') (h : PotAt W H v) : PotAt W H' v := by
  obtain ⟨p, rfl, h⟩ := h
  exact ⟨p, rfl, e _ _ h⟩
/-! ### const operations -/
def rCon (a b c : Int) : R2 := fun x y H Q => x = .int a ∧ y = .int b ∧ Q (.int c) H
theorem u_powc {X : Cx} {a b c : Int} (hc : CPow a b) (h : a ^ b.toNat = c) : OpR X (binaryOp .Pow) (rCon a b c) := by
  intro pins s σ H x y v u Q I rx ry q
  obtain ⟨rfl, rfl, q⟩ := q
  exact op_pow pins s σ H _ _ v u Q I rx ry ⟨a, b, rfl, rfl, hc, by show Q (V.int (a ^ b.toNat)) H; rw [h]; exact q⟩
theorem u_shlc {X : Cx} {a b c : Int} (hc : CPow a b) (h : a * 2 ^ b.toNat = c) : OpR X (binaryOp .LShift) (rCon a b c) := by
  intro pins s σ H x y v u Q I rx ry q
  obtain ⟨rfl, rfl, q⟩ := q
  exact op_shl pins s σ H _ _ v u Q I rx ry ⟨a, b, rfl, rfl, hc, by show Q (V.int (a * 2 ^ b.toNat)) H; rw [h]; exact q⟩
theorem w_con {H : Hp} {Q : VK} {a b c : Int} (h : Q (.int c) H) : rCon a b c (.int a) (.int b) H Q := ⟨rfl, rfl, h⟩
/-- int('1' + '0' * 300) -/
def farN : Int := 10 ^ 300
theorem far_rep : ∀ (n : Nat) (acc : Array Nat), ((List.replicate n (#[48] : Array Nat)).foldl (· ++ ·) acc).toList = acc.toList ++ List.replicate n 48
  | 0, acc => by simp
  | n + 1, acc => by
    rw [List.replicate_succ, List.foldl_cons, far_rep n, Array.toList_append, List.replicate_succ]
    simp
theorem far_a : (("1" : Str) ++ Txt.mul ("0" : Str) 300).cps.toList = 49 :: List.replicate 300 48 := by
  have e : Txt.mul ("0" : Str) 300 = ⟨(List.replicate 300 (#[48] : Array Nat)).foldl (· ++ ·) #[]⟩ := by
    unfold Txt.mul
    rw [if_neg (by decide), if_neg (by decide +kernel)]
    rfl
  rw [e]
  show (("1" : Str).cps ++ _).toList = _
  rw [Array.toList_append, far_rep]
  rfl
theorem far_val : ∀ (n v : Nat), (List.replicate n 48).foldl (fun acc c => acc * 10 + (c - 48)) v = v * 10 ^ n
  | 0, v => by simp
  | n + 1, v => by
    rw [List.replicate_succ, List.foldl_cons, far_val n, Nat.pow_succ, Nat.mul_comm (10 ^ n) 10, ← Nat.mul_assoc]
    rfl
theorem far_len : (("1" : Str) ++ Txt.mul ("0" : Str) 300).length = 301 := by
  have h : (("1" : Str) ++ Txt.mul ("0" : Str) 300).cps.toList.length = 301 := by
    rw [far_a, List.length_cons, List.length_replicate]
  rw [Array.length_toList] at h
  exact h
theorem far_txt : PySem.intText? (("1" : Str) ++ Txt.mul ("0" : Str) 300) = some farN := by
  have hd : NumText.AllDigits (("1" : Str) ++ Txt.mul ("0" : Str) 300).cps.toList := by
    rw [far_a]
    intro c hc
    rcases List.mem_cons.mp hc with rfl | hc
    · exact ⟨by decide, by decide⟩
    · have e := List.eq_of_mem_replicate hc
      subst e
      exact ⟨by decide, by decide⟩
  rw [PySem.intText_digits hd (by rw [far_a]; simp) (by rw [far_len]; decide), far_a]
  have e : NumText.digitsVal (49 :: List.replicate 300 48) = 1 * 10 ^ 300 := by
    unfold NumText.digitsVal
    rw [List.foldl_cons]
    exact far_val 300 1
  rw [e]
  decide +kernel
theorem far_pos : 0 < farN := by decide +kernel
theorem far_mul : MulOk ("0" : Str) 300 := ⟨by decide +kernel, by decide +kernel, by decide +kernel⟩
theorem far_len2 : (("1" : Str) ++ Txt.mul ("0" : Str) 300).length ≤ 640 := by
  rw [far_len]
  decide
theorem far_sz : ("1" : Str).length + (Txt.mul ("0" : Str) 300).length ≤ sizeLine := by decide +kernel
theorem pe_far {X : Cx} {p p1 p2 p3 p4 pos : Pos} {k1 k2 k3 : Nat} (hg : Gl X "int") (hm : X.mg "int" = none) (hs : starEach [.BinOp (.Constant (.str "1") k1 p1) .Add (.BinOp (.Constant (.str "0") k2 p2) .Mult (.Constant (.int 300) k3 p3) p4) pos] X.env = [(false, eval (.BinOp (.Constant (.str "1") k1 p1) .Add (.BinOp (.Constant (.str "0") k2 p2) .Mult (.Constant (.int 300) k3 p3) p4) pos) X.env)] := by rfl)
    {ps : Pos} : PE X (.Call (.Name "int" p) [.BinOp (.Constant (.str "1") k1 p1) .Add (.BinOp (.Constant (.str "0") k2 p2) .Mult (.Constant (.int 300) k3 p3) p4) pos] [] ps) (tC (.int farN)) := by
  have h : PE X (.Call (.Name "int" p) [.BinOp (.Constant (.str "1") k1 p1) .Add (.BinOp (.Constant (.str "0") k2 p2) .Mult (.Constant (.int 300) k3 p3) p4) pos] [] ps) (tCB _ _) := pe_callTy call_int_str hg hm (by decide +kernel) (pa_cons (pe_op op_add_str pe_str (pe_op op_mulS pe_str pe_int)) pa_nil)
  refine ⟨fun pins s σ H Q I q => h.run pins s σ H Q I ?_⟩
  exact ⟨_, _, rfl, rfl, far_mul, _, _, rfl, rfl, far_sz, _, _, rfl, far_txt, far_len2, q⟩
end Sh
/-! enumerate over a tuple; over a list or a tuple -/
namespace ShE
open PySem Sem
open AutoSeq1 (wpAny_loadPart')
theorem enumT_new {v : Value} {ob : Obj} {Hb : Heap → Prop} (B : Begins v ob Hb) : Meets (Builtin.«enumerate.__new__» ⟨[.type "enumerate", v], []⟩) (fun _ R s => Hb s.heap ∧
    R (.ok (.ret (.ref (s.heap.push ob).objs.size))) { s with heap := (s.heap.push ob).push ⟨.type "enumerate", none, .fields #[.none, .bool false, .ref s.heap.objs.size, rawInt 0, .none, .none], #[]⟩ }) :=
  .of_wp fun prog w A R s z => by
    obtain ⟨hp, g, dr, tk, os⟩ := s
    have sub := sub_enumerate
    have it : ∀ {A2 : Around} {E2 : Value → Shared → Prop} {Q2 : Value → Shared → Prop}, Q2 (.ref hp.objs.size) ⟨hp.push ob, g, dr, tk, os⟩ → wpAny (model prog w) A2 (pyIter v) Q2 E2 ⟨hp, g, dr, tk, os⟩ := fun q => B.iter _ _ _ _ _ _ z.1 q
    wp_walk using it
    refine wpAny_stack_any fun _ => wpAny_pure ?_
    split
    · next c _ _ _ _ _ =>
      cases (c == Value.type "enumerate") <;> (wp_walk using it; exact ⟨_, rfl, z.2⟩)
    · wp_walk using it; exact ⟨_, rfl, z.2⟩
theorem enumT_call {prog : Program} {w : World} {A : Around} {E : Value → Shared → Prop} {s : Shared} {v : Value} {ob : Obj} {Hb : Heap → Prop} {Q : Value → Shared → Prop} (B : Begins v ob Hb) (hb : Hb s.heap)
    (q : ∀ h2, IsEnum h2 (s.heap.objs.size + 1) s.heap.objs.size 0 .none → h2.get? s.heap.objs.size = some ob → (∀ b o, s.heap.get? b = some o → h2.get? b = some o) → Q (.ref (s.heap.objs.size + 1)) { s with heap := h2 }) :
    wpAny (model prog w) A (call (.type "enumerate") [v]) Q E s := by
  have z : (s.heap.push ob).objs.size = s.heap.objs.size + 1 := Heap.size_push ..
  have old : ∀ (o2 : Obj) b o, s.heap.get? b = some o → ((s.heap.push ob).push o2).get? b = some o := fun _ _ _ e => Heap.get?_push_of_some _ (Heap.get?_push_of_some _ e)
  have new : IsEnum ((s.heap.push ob).push ⟨.type "enumerate", none, .fields #[.none, .bool false, .ref s.heap.objs.size, rawInt 0, .none, .none], #[]⟩) (s.heap.objs.size + 1) s.heap.objs.size 0 .none := by
    rw [← z]
    exact Heap.get?_push_size _ rfl
  refine callType_new F.called_enumerate (by decide) (F.typeCall_enumerate_1 _) (F.newCall_enumerate_1 _) (fun o => F.args_object_init_2 o _) F.entry_enumerate_new (enumT_new B) ⟨hb, ?_⟩
  show _ ∧ _
  rw [z]
  exact ⟨⟨_, new, rfl⟩, q _ new (Heap.get?_push_of_some _ (Heap.get?_push_size _ B.free)) (old _)⟩
end ShE
namespace Sh
open PySem PySem.Spec PyProof.Rows L2
/-- the tuple at a, its items with their places -/
def IteT (K : PySem.W.Frag) (a : Addr) : It where
  go i H := ∃ xs x, SqT K H a xs ∧ xs[i]? = some x
  yld i H v H' := ∃ T x, v = .ref T ∧ H T = none ∧ H' = upd H T (.tup [.int (i : Nat), x]) ∧ ∀ xs, SqT K H a xs → xs[i]? = some x
  stop i H := ∃ xs, SqT K H a xs ∧ xs.length ≤ i
theorem turn_enumT {P : Program} {w : World} {K : PySem.W.Frag} {es : List Expr} {kk : Nat} {tp : Pos} (a e it : Addr) :
    Turn P w K (.Tuple es kk tp) (IteT K a) [e, it] e (fun i h => (∃ old, IsEnum h e it (i : Int) old) ∧ h.IsTupleIter it a i ∧ e ≠ it) where
  mem := List.mem_cons_self
  obj i h st b hb := by
    obtain ⟨⟨old, he⟩, ⟨o, ho, _, hd⟩, _⟩ := st
    rcases List.mem_cons.mp hb with rfl | hb
    · exact ⟨_, he, fun v q => nomatch q⟩
    · rw [List.mem_singleton.mp hb]
      exact ⟨o, ho, fun v q => by rw [hd] at q; cases q⟩
  keep i h h' st k := by
    obtain ⟨⟨old, he⟩, hi, hne⟩ := st
    exact ⟨⟨old, k e List.mem_cons_self _ he⟩, hi.at fun o q => k it (List.mem_cons_of_mem _ List.mem_cons_self) o q, hne⟩
  item X hP hw hK hc i pins s σ H E I hf st hg := by
    subst hP hw hK
    obtain ⟨⟨old, he⟩, hit, hne⟩ := st
    obtain ⟨xs, x, hq, hx⟩ := hg
    obtain ⟨its, rv, p, _⟩ := I.tuple hq
    obtain ⟨u, hu, ru⟩ := rv.get hx
    have pt : s.heap.IsTuple a its.toArray := p
    have ane : a ≠ it := fun z => by
      obtain ⟨o1, h1, c1, _⟩ := p
      obtain ⟨o2, h2, c2, _⟩ := hit
      rw [z, h2] at h1
      cases h1
      rw [c2] at c1
      injection c1 with c1
      exact absurd c1 (by decide)
    have ene : e ≠ a := fun z => by
      obtain ⟨o1, h1, c1, _⟩ := p
      rw [← z, he] at h1
      cases h1
      injection c1 with c1
      exact absurd c1 (by decide)
    have hil : it < s.heap.objs.size := by obtain ⟨_, q, _⟩ := hit; exact Heap.lt_size q
    have hel : e < s.heap.objs.size := Heap.lt_size he
    have lt : i < its.toArray.size := by
      have l1 := (List.getElem?_eq_some_iff.mp hu).1
      simpa using l1
    refine wpAny_pyNext_enum_itemD (Draws.tuple (show X.A.in1.handled = none from I.ok.hd hc) it a ane its.toArray) he ⟨hit, pt⟩ lt hne (fun z => ?_) fun x1 h1 tk px ho st1 hT hsz hk => ?_
    · rcases List.mem_cons.mp z with z | z
      · exact hne z
      · exact ene (List.mem_singleton.mp z)
    have ex : x1 = u := by
      have px2 : its.toArray[i]? = some x1 := px
      rw [List.getElem?_toArray, hu] at px2
      exact (Option.some.inj px2).symm
    subst ex
    refine ⟨_, rfl, wpAny_letOwnedTupleGo_enum (s := { s with heap := h1, toks := tk + 1 }) ho fun h2 he2 sb => ?_⟩
    have hT2 : h2.get? s.heap.objs.size = some { cls := .type "tuple", data := .seq #[.int i tk, x1] } := (sb.2 _ (Nat.ne_of_gt hel)).trans hT
    have new : ObjOk X.prog X.w (upd H s.heap.objs.size (.tup [.int (i : Nat), x])) h2 s.heap.objs.size (.tup [.int (i : Nat), x]) :=
      ⟨(by decide : 2 ≤ sizeLine), _, .cons ⟨tk, rfl⟩ (.cons ru .nil), ⟨_, hT2, rfl, _, rfl⟩⟩
    have ne2 : ∀ b, b ∉ [e, it] → b ≠ e ∧ b ≠ it := fun b z => ⟨fun q => z (by rw [q]; exact List.mem_cons_self), fun q => z (by rw [q]; exact List.mem_cons_of_mem _ List.mem_cons_self)⟩
    have J : Inv X pins σ (upd H s.heap.objs.size (.tup [.int (i : Nat), x])) { s with heap := h2, toks := tk + 1 } :=
      I.turnedNew (ch := [e, it]) (fun b ob z q => (sb.2 b (ne2 b z).1).trans (hk b ob (ne2 b z).1 (ne2 b z).2 q)) hf (Nat.le_refl _) new
    refine ⟨.ref s.heap.objs.size, _, J, rfl, ⟨s.heap.objs.size, x, rfl, I.hok.fresh (Nat.le_refl _), rfl, fun ys hy => by rw [I.tuple_inj hy hq]; exact hx⟩, ⟨⟨x1, ?_⟩, st1.1.at fun o q => (sb.2 it (Ne.symm hne)).trans q, hne⟩, fun b hb => ?_⟩
    · have e1 : ((i + 1 : Nat) : Int) = (i : Int) + 1 := Int.natCast_succ i
      rw [e1]
      exact he2
    · have lb : b < s.heap.objs.size := by
        rcases List.mem_cons.mp hb with rfl | hb
        · exact hel
        · rw [List.mem_singleton.mp hb]
          exact hil
      rw [upd_ne (Nat.ne_of_lt lb)]
      exact (hf b hb).1
  done X hP hw hK hc i pins s σ H E I hf st hg := by
    subst hP hw hK
    obtain ⟨⟨old, he⟩, hit, hne⟩ := st
    obtain ⟨xs, hq, hx⟩ := hg
    obtain ⟨its, rv, p, _⟩ := I.tuple hq
    have pt : s.heap.IsTuple a its.toArray := p
    have ane : a ≠ it := fun z => by
      obtain ⟨o1, h1, c1, _⟩ := p
      obtain ⟨o2, h2, c2, _⟩ := hit
      rw [z, h2] at h1
      cases h1
      rw [c2] at c1
      injection c1 with c1
      exact absurd c1 (by decide)
    obtain ⟨f0, f1, f2, f3, f4, f5⟩ := hf it (List.mem_cons_of_mem _ List.mem_cons_self)
    have hl := rv.length
    have hT : s.TypeIs (.ref e) "enumerate" := ⟨_, he, rfl⟩
    unfold pyNext
    refine wpAny_bind (wpAny_attempt (wpAny_callSpecial?_slot (name := Str.ofString "__next__") hT F.slot_enumerate_next
      (wpAny_call_entry F.slot_enumerate_next hT F.entry_enumerate_next ?_ (F.args_enumerate_next_1 _))))
    show wpAny _ _ (field (.ref e) 2 >>= _) _ _ _
    refine wpAny_bind (wpAny_field he rfl (x := .ref it) rfl ?_)
    refine wpAny_bind (wpAny_nextOf_tuple_end (I.ok.hd hc) hit pt (by simp; omega) fun h1 er k1 z1 => ?_)
    obtain ⟨oe, z2, z3⟩ := z1
    refine wpAny_bind (wpAny_isInstance (T := "StopIteration") (b := true) ⟨oe, z2, z3⟩ isSubtype_stop (wpAny_pure ?_))
    exact ⟨rfl, I.turned (t' := s.toks) (fun b o hb q => k1 b o hb q) f0 f1 f3 f4 f5⟩
  self A i s Q E st q := by
    obtain ⟨⟨_, he⟩, _⟩ := st
    exact wpAny_pyIter_enum he q
/-- enumerate of a list or a tuple -/
def GoEnum (K : PySem.W.Frag) (R : It → Hp → Prop) (vs : List V) (H : Hp) : Prop := ∃ a, vs = [.ref a] ∧ ((∃ xs, SqL K H a xs) ∧ R (Ite K a) H ∨ (∃ xs, SqT K H a xs) ∧ R (IteT K a) H)
def iEnumU (K : PySem.W.Frag) (ta : TA) : TI := fun σ H R => ta σ H fun vs H1 => GoEnum K R vs H1
theorem pi_enumU {X : Cx} {e : Expr} {ta : TA} {p pos tpos : Pos} {elts : List Expr} {kk : Nat} (hg : Gl X "enumerate") (hm : X.mg "enumerate" = none) (ha : PA X [e] ta) (hs : starEach [e] X.env = [(false, eval e X.env)] := by rfl) :
    PI X (.Tuple elts kk tpos) (.Call (.Name "enumerate" p) [e] [] pos) (iEnumU X.K ta) := ⟨fun pins s σ H R I h =>
  Call_ (ld_blt I hg hm boot_enumerate (PyProof.Rows.callWith_type1 (thn (ha.run pos pins s σ H _ I h) fun us s1 z => by
    obtain ⟨vs, H1, J, rv, a, rfl, z⟩ := z
    cases rv with
    | cons r rr =>
      cases rr
      obtain rfl := r
      have fp : ∀ b ∈ [s1.heap.objs.size + 1, s1.heap.objs.size], FpOk X pins H1 b := fun b hb => by
        have hle : s1.heap.objs.size ≤ b := by
          rcases List.mem_cons.mp hb with rfl | hb
          · exact Nat.le_succ _
          · rw [List.mem_singleton.mp hb]
            exact Nat.le_refl _
        exact J.fpOk hle (J.hok.fresh hle)
      rcases z with ⟨⟨xs, hq⟩, q⟩ | ⟨⟨xs, hq⟩, q⟩
      · obtain ⟨its, _, pl, _⟩ := J.list hq
        refine call_enumerate_list pl.isList fun h2 he hit _ hk => wpAny_pyIter_enum he ?_
        exact ⟨_, _, _, _, H1, rfl, J.kept (t' := s1.toks) hk, turn_enum a (s1.heap.objs.size + 1) s1.heap.objs.size, ⟨⟨_, he⟩, hit, Nat.succ_ne_self _⟩, fp, q⟩
      · obtain ⟨its, _, pl, _⟩ := J.tuple hq
        have pt : s1.heap.IsTuple a its.toArray := pl
        refine ShE.enumT_call (begins_tuple a its.toArray) pt fun h2 he hit hk => wpAny_pyIter_enum he ?_
        exact ⟨_, _, _, _, H1, rfl, J.kept (t' := s1.toks) hk, turn_enumT a (s1.heap.objs.size + 1) s1.heap.objs.size, ⟨⟨_, he⟩, ⟨_, hit, rfl, rfl⟩, Nat.succ_ne_self _⟩, fp, q⟩) hs rfl))⟩
section
variable {K : PySem.W.Frag} {σ : L2.St} {H : Hp} {Q : VK} {te : TE} {tt : TT} {tA : TA} {tb : TS} {nx : L2.St → Hp → Prop} {rt : VK} {g : TG} {vs : List Nat}
theorem w_ienum {R : It → Hp → Prop} (h : tA σ H fun vs H1 => GoEnum K R vs H1) : iEnumU K tA σ H R := h
theorem w_goEL {R : It → Hp → Prop} {a : Addr} {xs : List V} (h : SqL K H a xs) (q : R (Ite K a) H) : GoEnum K R [.ref a] H := ⟨a, rfl, .inl ⟨⟨xs, h⟩, q⟩⟩
theorem w_goET {R : It → Hp → Prop} {a : Addr} {xs : List V} (h : SqT K H a xs) (q : R (IteT K a) H) : GoEnum K R [.ref a] H := ⟨a, rfl, .inr ⟨⟨xs, h⟩, q⟩⟩
/-- for place, item in enumerate(..): the target is two names -/
theorem forET {a : Addr} {xs : List V} {i1 i2 : Nat} (hx : SqT K H a xs) (I : Nat → L2.St → Hp → Prop) (h0 : I 0 σ H) (hI : ∀ i σ' H', I i σ' H' → Same H H')
    (hs : ∀ (i : Nat) x σ' H', xs[i]? = some x → I i σ' H' → ∀ H2, Same H' H2 → tb ⟨I (i + 1), rt, nx, I (i + 1)⟩ ((σ'.set i1 (some (.int (i : Int)))).set i2 (some x)) H2) (hd : ∀ σ' H', I xs.length σ' H' → nx σ' H') :
    ForOk (IteT K a) (gTup K 2 (gCons (gName i1) (gCons (gName i2) gNil))) tb nx rt σ H := by
  refine ⟨fun i m σ' H' => m = xs.length - i ∧ i ≤ xs.length ∧ I i σ' H', ⟨_, rfl, Nat.zero_le _, h0⟩, fun i m σ' H1 ⟨em, hi, w1⟩ => ?_⟩
  have s1 := hI _ _ _ w1
  by_cases hlt : i < xs.length
  · refine .inr ⟨⟨xs, xs[i], same_t s1 hx, List.getElem?_eq_getElem hlt⟩, I (i + 1), fun σ2 H2 w2 => ⟨_, by omega, rfl, hlt, w2⟩, fun v H2 y => ?_⟩
    obtain ⟨T, x, rfl, hT, rfl, hy⟩ := y
    have ex := hy xs (same_t s1 hx)
    exact ⟨T, _, rfl, SqT.of upd_same, rfl, _, _, rfl, _, _, rfl, rfl, hs i x σ' H1 ex w1 _ (same_new hT)⟩
  · have e : i = xs.length := by omega
    subst e
    exact .inl ⟨⟨xs, same_t s1 hx, Nat.le_refl _⟩, hd σ' H1 w1⟩
theorem forEL {a : Addr} {xs : List V} {i1 i2 : Nat} (hx : SqL K H a xs) (I : Nat → L2.St → Hp → Prop) (h0 : I 0 σ H) (hI : ∀ i σ' H', I i σ' H' → Same H H')
    (hs : ∀ (i : Nat) x σ' H', xs[i]? = some x → I i σ' H' → ∀ H2, Same H' H2 → tb ⟨I (i + 1), rt, nx, I (i + 1)⟩ ((σ'.set i1 (some (.int (i : Int)))).set i2 (some x)) H2) (hd : ∀ σ' H', I xs.length σ' H' → nx σ' H') :
    ForOk (Ite K a) (gTup K 2 (gCons (gName i1) (gCons (gName i2) gNil))) tb nx rt σ H := by
  refine ⟨fun i m σ' H' => m = xs.length - i ∧ i ≤ xs.length ∧ I i σ' H', ⟨_, rfl, Nat.zero_le _, h0⟩, fun i m σ' H1 ⟨em, hi, w1⟩ => ?_⟩
  have s1 := hI _ _ _ w1
  by_cases hlt : i < xs.length
  · refine .inr ⟨⟨xs, xs[i], s1.seq hx, List.getElem?_eq_getElem hlt⟩, I (i + 1), fun σ2 H2 w2 => ⟨_, by omega, rfl, hlt, w2⟩, fun v H2 y => ?_⟩
    obtain ⟨T, x, rfl, hT, rfl, hy⟩ := y
    have ex := hy xs (s1.seq hx)
    exact ⟨T, _, rfl, SqT.of upd_same, rfl, _, _, rfl, _, _, rfl, rfl, hs i x σ' H1 ex w1 _ (same_new hT)⟩
  · have e : i = xs.length := by omega
    subst e
    exact .inl ⟨⟨xs, s1.seq hx, Nat.le_refl _⟩, hd σ' H1 w1⟩
end
end Sh
/-! data whose tuples have no dict (so that their methods may be called); new tuples are such -/
namespace Sh
open PySem PySem.Spec PyProof.Rows L2
def TupN (H : Hp) (a : Addr) (xs : List V) : Prop := ∃ o : Obj, o.dict = none ∧ H a = some (.frz o (.tup xs))
def SqN (K : PySem.W.Frag) (H : Hp) (a : Addr) (xs : List V) : Prop :=
  TupN H a xs ∨ ∃ (o : Obj) (its : Array Value) (n : Nat), K.lookup a = some o ∧ o.dict = none ∧ o.cls = .type "tuple" ∧ o.data = .seq its n ∧ its.size ≤ sizeLine ∧ Vals xs its.toList
section
variable {K : PySem.W.Frag} {H H' : Hp} {a : Addr} {xs : List V}
theorem SqN.t (h : SqN K H a xs) : SqT K H a xs := by
  rcases h with ⟨o, _, h⟩ | ⟨o, its, n, h1, _, h2, h3, h4, h5⟩
  · exact .inl (.inr ⟨o, h⟩)
  · exact .inr ⟨o, its, n, h1, h2, h3, h4, h5⟩
theorem SqN.of (h : TupN H a xs) : SqN K H a xs := .inl h
theorem TupN.mono (e : Same H H') (h : TupN H a xs) : TupN H' a xs := by
  obtain ⟨o, d, h⟩ := h
  exact ⟨o, d, e _ _ h⟩
theorem same_n (e : Same H H') (h : SqN K H a xs) : SqN K H' a xs := by
  rcases h with h | h
  · exact .inl (h.mono e)
  · exact .inr h
end
/-! ### new ones -/
def NewN (xs : List V) (Q : VK) (H : Hp) : Prop := xs.length ≤ sizeLine ∧ ∀ (p : Addr) (o : Obj), H p = none → o.dict = none → Q (.ref p) (upd H p (.frz o (.tup xs)))
def tTupN (t : TA) : TE := fun σ H Q => t σ H fun xs H1 => NewN xs Q H1
section
variable {X : Cx} {es : List Expr} {t : TA} {pos : Pos}
theorem pe_tupN {x1} (h : PA X es t) : PE X (.Tuple es x1 pos) (tTupN t) := by
  refine ⟨fun pins s σ H Q I hq => ?_⟩
  refine wpAny_Tuple_spliced (thn (h.run pos pins s σ H _ I hq) fun us s1 z0 => ?_)
  obtain ⟨xs, H1, I1, r, z, q⟩ := z0
  refine ⟨by rw [← r.length]; exact z, ?_⟩
  have hf : H1 s1.heap.objs.size = none := I1.hok.fresh (Nat.le_refl _)
  have hg := Heap.get?_push_size s1.heap (o := { cls := .type "tuple", data := .seq us.toArray }) rfl
  exact ⟨.ref s1.heap.objs.size, _, I1.laid (o := .frz { cls := .type "tuple", data := .seq us.toArray } (.tup xs)) (t' := s1.toks) (fun b u e => Heap.get?_push_of_some _ e) (Nat.le_refl _) ⟨hg, z, us, r, ⟨_, hg, rfl, _, rfl⟩⟩, rfl, q _ _ hf rfl⟩
def rTupleOfN (K : PySem.W.Frag) : List V → Hp → VK → Prop := fun xs H Q => ∃ p ys, xs = [.ref p] ∧ ((SqL K H p ys ∧ ∀ (l : Addr) (o : Obj), H l = none → o.dict = none → Q (.ref l) (upd H l (.frz o (.tup ys)))) ∨ (SqT K H p ys ∧ Q (.ref p) H))
theorem call_tuple_ofN : CallR X (.type "tuple") (rTupleOfN X.K) := by
  intro pins s σ H xs us Q I r h
  obtain ⟨p, ys, rfl, h⟩ := h
  obtain ⟨u, rfl, rx⟩ := vals1 r
  cases rx
  rcases h with ⟨hq, q⟩ | ⟨hq, q⟩
  · obtain ⟨its, rv, pl, hz⟩ := I.list hq
    have hlen := rv.length
    refine call_tuple_list pl.isList (fun h' kp => ?_) (by simp only [List.size_toArray] <;> omega)
    have I1 : Inv X pins σ H { s with heap := h' } := I.kept (t' := s.toks) kp
    have hg := Heap.get?_push_size h' (o := { cls := .type "tuple", data := .seq its.toArray }) rfl
    exact ⟨.ref h'.objs.size, _, I1.laid (o := .frz { cls := .type "tuple", data := .seq its.toArray } (.tup ys)) (t' := s.toks) (fun b o e => Heap.get?_push_of_some _ e) (Nat.le_refl _) ⟨hg, hz, its, rv, IsTup.new _ _⟩, rfl, q _ _ (I1.hok.fresh (Nat.le_refl _)) rfl⟩
  · obtain ⟨its, rv, pl, hz⟩ := I.tuple hq
    exact call_tuple_same pl ⟨.ref p, H, I, rfl, q⟩
/-- t + u -/
def rCatN (K : PySem.W.Frag) : R2 := fun x y H Q => ∃ a b xs ys, x = .ref a ∧ y = .ref b ∧ SqT K H a xs ∧ SqT K H b ys ∧ xs.length + ys.length ≤ sizeLine ∧
  (xs = [] → Q (.ref b) H) ∧ (xs ≠ [] → ys = [] → Q (.ref a) H) ∧ (xs ≠ [] → ys ≠ [] → ∀ (p : Addr) (o : Obj), H p = none → o.dict = none → Q (.ref p) (upd H p (.frz o (.tup (xs ++ ys)))))
theorem op_catN : OpR X (binaryOp .Add) (rCatN X.K) := by
  intro pins s σ H x y v u Q I rx ry h
  obtain ⟨a, b, xs, ys, rfl, rfl, ha, hb, hz, q0, q1, q2⟩ := h
  cases rx
  cases ry
  obtain ⟨its, r1, p1, _⟩ := I.tuple ha
  obtain ⟨its2, r2, p2, _⟩ := I.tuple hb
  by_cases hx : xs = []
  · subst hx
    cases r1
    exact cat_tup0 p1 p2 ⟨.ref b, H, I, rfl, q0 rfl⟩
  · refine HT.cat_tup p1 p2 (fun z => hx (r1.nil_iff.mp z)) (fun z => ⟨.ref a, H, I, rfl, q1 hx (r2.nil_iff.mp z)⟩) (fun z => ?_) (by rw [← r1.length, ← r2.length]; exact hz)
    have hg := Heap.get?_push_size s.heap (o := { cls := .type "tuple", data := .seq (its ++ its2).toArray }) rfl
    exact ⟨.ref s.heap.objs.size, _, I.laid (t' := s.toks) (o := .frz { cls := .type "tuple", data := .seq (its ++ its2).toArray } (.tup (xs ++ ys))) (fun b ob q => Heap.get?_push_of_some _ q) (Nat.le_refl _) ⟨hg, by rw [List.length_append]; exact hz, _, r1.append r2, IsTup.new _ _⟩, rfl,
      q2 hx (fun w => z (r2.nil_iff.mpr w)) _ _ (I.hok.fresh (Nat.le_refl _)) rfl⟩
/-- t[lo:hi] -/
def rSlN (K : PySem.W.Frag) : V → Option Int → Option Int → Hp → VK → Prop := fun x lo hi H Q => ∃ a xs, x = .ref a ∧ SqT K H a xs ∧
  (HT.sIx xs.length 0 lo = 0 ∧ HT.sIx xs.length xs.length hi = xs.length → Q (.ref a) H) ∧
  (¬ (HT.sIx xs.length 0 lo = 0 ∧ HT.sIx xs.length xs.length hi = xs.length) → ∀ (p : Addr) (o : Obj), H p = none → o.dict = none → Q (.ref p) (upd H p (.frz o (.tup (cutV xs lo hi)))))
theorem sl_tupN : SlR X (rSlN X.K) := by
  intro pins s σ H x v vl vu lo hi sl Q I rx hs pl pu h
  obtain ⟨a, xs, rfl, hx, q1, q2⟩ := h
  cases rx
  obtain ⟨its, r, ht, hz⟩ := I.tuple hx
  have hlen : its.toArray.size = xs.length := by rw [List.size_toArray]; exact r.length.symm
  refine ⟨"tuple", _, PyProof.Rows.slot_tuple_getitem.lookup, ht.typeIs, ?_⟩
  by_cases hw : HT.sIx xs.length 0 lo = 0 ∧ HT.sIx xs.length xs.length hi = xs.length
  · exact getItem_tuple_whole ht hs pl pu (by rw [hlen]; exact hw) ⟨.ref a, H, I, rfl, q1 hw⟩
  · refine HT.getItem_tuple_cut ht hs pl pu (by rw [hlen]; exact hw) ?_ (by rw [hlen]; exact hz)
    rw [hlen]
    have hg := Heap.get?_push_size s.heap (o := { cls := .type "tuple", data := .seq ((its.drop (HT.sIx xs.length 0 lo)).take (HT.sIx xs.length xs.length hi - HT.sIx xs.length 0 lo)).toArray }) rfl
    exact ⟨.ref s.heap.objs.size, _, I.laid (t' := s.toks) (o := .frz { cls := .type "tuple", data := .seq ((its.drop (HT.sIx xs.length 0 lo)).take (HT.sIx xs.length xs.length hi - HT.sIx xs.length 0 lo)).toArray } (.tup (cutV xs lo hi))) (fun b ob q => Heap.get?_push_of_some _ q) (Nat.le_refl _)
      ⟨hg, Nat.le_trans (cutV_length xs lo hi) hz, _, (r.drop (HT.sIx xs.length 0 lo)).take (HT.sIx xs.length xs.length hi - HT.sIx xs.length 0 lo), IsTup.new _ _⟩, rfl, q2 hw _ _ (I.hok.fresh (Nat.le_refl _)) rfl⟩
/-! ### methods of tuples -/
def TyN (K : PySem.W.Frag) (x : V) (H : Hp) : Prop := ∃ a xs, x = .ref a ∧ SqN K H a xs
theorem tyN_is {pins : List (Addr × Obj)} {σ : L2.St} {H : Hp} {s : Shared} {x : V} {v : Value} (I : Inv X pins σ H s) (r : RelV x v) (ty : TyN X.K x H) : s.TypeIs v "tuple" ∧ ∀ a, v = .ref a → ∃ ob, s.heap.get? a = some ob ∧ ob.dict = none := by
  obtain ⟨a, xs, rfl, h⟩ := ty
  cases r
  obtain ⟨its, rv, pl, _⟩ := I.tuple h.t
  refine ⟨pl.typeIs, fun b e => ?_⟩
  cases e
  rcases h with ⟨o, d, h⟩ | ⟨o, _, _, h, d, _⟩
  · obtain ⟨g, _⟩ := (show ObjOk X.prog X.w H s.heap a (.frz o (.tup xs)) from I.hok a _ h)
    exact ⟨o, g, d⟩
  · exact ⟨o, I.kIn _ _ h, d⟩
def tTM (K : PySem.W.Frag) (r : V → List V → Hp → VK → Prop) (to : TE) (t : TA) : TE := fun σ H Q => to σ H fun x H1 => TyN K x H1 ∧ t σ H1 fun xs H2 => r x xs H2 Q
theorem pe_tm {o e : Expr} {es : List Expr} {to : TE} {t : TA} {name : Str} {apos cpos : Pos} {id : String} {r : V → List V → Hp → VK → Prop} (slot : Slot "tuple" name id) (hty : typeOf (.builtin id) = pure (.type "method_descriptor")) (hm : MtR X id r) (ho : PE X o to) (ha : PA X (e :: es) t)
    (hbase : attributeBase o name X.env (eval o X.env) = eval o X.env := by rfl)
    (hfew : ((backTo cpos (starEach (e :: es) X.env)).all (fun x => !x.1) && (backToKw cpos (keywordEach [] X.env)).all (fun x => x.1.isSome)
      && decide ((e :: es).length + ([] : List Keyword).length + (if ([] : List Keyword).isEmpty then 0 else 1) < 30)) = true := by rfl)
    (hline : (apos.endLine == cpos.line) = true := by rfl) (hs : starEach (e :: es) X.env = (false, eval e X.env) :: starEach es X.env := by rfl) (hplain : (backTo cpos (starEach es X.env)).any (·.1) = false := by rfl) :
    PE X (.Call (.Attribute o name apos) (e :: es) [] cpos) (tTM X.K r to t) := by
  refine ⟨fun pins s σ H Q I h => ?_⟩
  refine wpAny_Call_method_late hbase hfew hline rfl (thn (ho.run pins s σ H _ I h) fun v s1 z => ?_)
  obtain ⟨x, H1, I1, r1, ty, q1⟩ := z
  obtain ⟨h1, h2⟩ := tyN_is I1 r1 ty
  refine ⟨"tuple", id, PySem.F.plainAttrs_tuple, slot, hty, h1, h2, ?_⟩
  have hA := ha.run cpos pins s1 σ H1 _ I1 q1
  rw [hs] at hA ⊢
  refine Calls.callWith_builtin (by show (false || (backTo cpos (starEach es X.env)).any (·.1)) = false; rw [hplain] <;> rfl) (Calls.evalArgs_plain ?_)
  refine thn hA fun us s2 z2 => ?_
  obtain ⟨vs, H2, I2, r2, q2⟩ := z2
  exact hm pins s2 σ H2 x vs v us Q I2 r1 r2 q2
/-- t.index(n) of ints, n among them -/
def rIndexT (K : PySem.W.Frag) : V → List V → Hp → VK → Prop := fun x xs H Q => ∃ (a : Addr) (ns : List Int) (n : Int), x = .ref a ∧ xs = [.int n] ∧ SqT K H a (ns.map V.int) ∧ n ∈ ns ∧ Q (.int (ns.idxOf n : Nat)) H
theorem mt_indexT : MtR X "tuple.index" (rIndexT X.K) := by
  intro pins s σ H x xs v us Q I rx rs h
  obtain ⟨a, ns, n, rfl, rfl, hq, hn, q⟩ := h
  cases rx
  obtain ⟨u, rfl, t, rfl⟩ := vals1 rs
  obtain ⟨its, r, pl, hz⟩ := I.tuple hq
  exact PySem.SeqAt.tuple_index_ints pl (intsAre_of r) hn ⟨.int (ns.idxOf n : Nat), H, I.tok _, ⟨_, rfl⟩, q⟩
end
/-! ### among -/
def rInU (K : PySem.W.Frag) : R2 := fun x y H Q => rIn K false x y H Q ∨ rInS x y H Q
theorem u_in {X : Cx} (_ : X.A.units + 64 < cLine) : OpR X (compareOp .In) (rInU X.K) := opor op_in_seq op_inS
def rNotInU (K : PySem.W.Frag) : R2 := rIn K true
theorem u_notin {X : Cx} (_ : X.A.units + 64 < cLine) : OpR X (compareOp .NotIn) (rNotInU X.K) := op_notIn_seq
theorem inV_ints (n : Int) : ∀ ns : List Int, inV (.int n) (ns.map V.int) = decide (n ∈ ns)
  | [] => rfl
  | m :: r => by
    have z := inV_ints n r
    unfold inV at z ⊢
    rw [List.map_cons, List.any_cons, z]
    show (m == n || decide (n ∈ r)) = decide (n ∈ m :: r)
    by_cases h : m = n
    · subst h
      simp
    · have h2 : ¬ n = m := fun e => h e.symm
      simp [h, h2]
theorem flat_ints (ns : List Int) : (ns.map V.int).all flatV = true := by
  rw [List.all_map]
  exact List.all_eq_true.mpr fun _ _ => rfl
section
variable {K : PySem.W.Frag} {H : Hp} {Q : VK} {σ : L2.St} {a : Addr} {ns : List Int} {n : Int} {xs : List V}
theorem w_inT (h : SqT K H a (ns.map V.int)) (q : Q (.bl (decide (n ∈ ns))) H) : rInU K (.int n) (.ref a) H Q := .inl ⟨a, _, rfl, .inr h, rfl, flat_ints ns, by rw [inV_ints]; exact q⟩
theorem w_inL (h : SqL K H a (ns.map V.int)) (q : Q (.bl (decide (n ∈ ns))) H) : rInU K (.int n) (.ref a) H Q := .inl ⟨a, _, rfl, .inl h, rfl, flat_ints ns, by rw [inV_ints]; exact q⟩
theorem w_ninT (h : SqT K H a (ns.map V.int)) (q : Q (.bl (!decide (n ∈ ns))) H) : rNotInU K (.int n) (.ref a) H Q := ⟨a, _, rfl, .inr h, rfl, flat_ints ns, by rw [inV_ints]; exact q⟩
theorem w_tm {to : TE} {t : TA} {r : V → List V → Hp → VK → Prop} (h : to σ H fun x H1 => TyN K x H1 ∧ t σ H1 fun xs H2 => r x xs H2 Q) : tTM K r to t σ H Q := h
theorem w_tyN {R : Prop} (h : SqN K H a xs) (q : R) : TyN K (.ref a) H ∧ R := ⟨⟨a, xs, rfl, h⟩, q⟩
theorem w_indexT (h : SqT K H a (ns.map V.int)) (hn : n ∈ ns) (q : Q (.int (ns.idxOf n : Nat)) H) : rIndexT K (.ref a) [.int n] H Q := ⟨a, ns, n, rfl, rfl, h, hn, q⟩
theorem w_tupN {tA : TA} (h : tA σ H fun xs H1 => NewN xs Q H1) : tTupN tA σ H Q := h
theorem w_newN (hl : xs.length ≤ sizeLine) (h : ∀ p H', H p = none → Same H H' → TupN H' p xs → Q (.ref p) H') : NewN xs Q H := ⟨hl, fun p o hp hd => h p _ hp (same_new hp) ⟨o, hd, upd_same⟩⟩
theorem w_tupleN (h : SqL K H a xs) (q : ∀ p H', H p = none → Same H H' → TupN H' p xs → Q (.ref p) H') : rTupleOfN K [.ref a] H Q := ⟨a, xs, rfl, .inl ⟨h, fun p o hp hd => q p _ hp (same_new hp) ⟨o, hd, upd_same⟩⟩⟩
theorem w_tupleT (h : SqT K H a xs) (q : Q (.ref a) H) : rTupleOfN K [.ref a] H Q := ⟨a, xs, rfl, .inr ⟨h, q⟩⟩
end
/-! ### sums, cuts -/
def rAddN (K : PySem.W.Frag) : R2 := fun x y H Q => rI0 (fun i j => .int (i + j)) x y H Q ∨ (∃ i j, x = .str i ∧ y = .str j ∧ i.length + j.length ≤ sizeLine ∧ Q (.str (i ++ j)) H) ∨ rCat x y H Q ∨ rCatN K x y H Q
theorem u_addN {X : Cx} : OpR X (binaryOp .Add) (rAddN X.K) := opor op_add (opor op_add_str (opor op_cat op_catN))
def rSlU (K : PySem.W.Frag) : V → Option Int → Option Int → Hp → VK → Prop := fun x lo hi H Q => rSlN K x lo hi H Q ∨ rSlS x lo hi H Q ∨ rSlL K x lo hi H Q
theorem u_sl {X : Cx} : SlR X (rSlU X.K) := .or sl_tupN (.or sl_str sl_list)
/-! ### data -/
mutual
inductive Dq (K : PySem.W.Frag) (H : Hp) : V → PyData → Prop
  | non : Dq K H .non .none
  | bl (b : Bool) : Dq K H (.bl b) (.bool b)
  | int (i : Int) : Dq K H (.int i) (.int i)
  | str (x : Str) : Dq K H (.str x) (.str x)
  | lst {a : Addr} {xs : List V} {ds : List PyData} : SqL K H a xs → DqAll K H xs ds → Dq K H (.ref a) (.list ds)
  | tup {a : Addr} {xs : List V} {ds : List PyData} : SqN K H a xs → DqAll K H xs ds → Dq K H (.ref a) (.tuple ds)
inductive DqAll (K : PySem.W.Frag) (H : Hp) : List V → List PyData → Prop
  | nil : DqAll K H [] []
  | cons {v : V} {vs : List V} {d : PyData} {ds : List PyData} : Dq K H v d → DqAll K H vs ds → DqAll K H (v :: vs) (d :: ds)
end
mutual
theorem dq_dp {K : PySem.W.Frag} {H : Hp} : ∀ {v : V} {d : PyData}, Dq K H v d → Dp K H v d
  | _, _, .non => .non
  | _, _, .bl b => .bl b
  | _, _, .int i => .int i
  | _, _, .str x => .str x
  | _, _, .lst h r => .lst h (dqs_dp r)
  | _, _, .tup h r => .tup h.t (dqs_dp r)
theorem dqs_dp {K : PySem.W.Frag} {H : Hp} : ∀ {vs : List V} {ds : List PyData}, DqAll K H vs ds → DpAll K H vs ds
  | _, _, .nil => .nil
  | _, _, .cons h r => .cons (dq_dp h) (dqs_dp r)
end
mutual
theorem dq_mono {K : PySem.W.Frag} {H H' : Hp} (e : Same H H') : ∀ {v : V} {d : PyData}, Dq K H v d → Dq K H' v d
  | _, _, .non => .non
  | _, _, .bl b => .bl b
  | _, _, .int i => .int i
  | _, _, .str x => .str x
  | _, _, .lst h r => .lst (e.seq h) (dqs_mono e r)
  | _, _, .tup h r => .tup (same_n e h) (dqs_mono e r)
theorem dqs_mono {K : PySem.W.Frag} {H H' : Hp} (e : Same H H') : ∀ {vs : List V} {ds : List PyData}, DqAll K H vs ds → DqAll K H' vs ds
  | _, _, .nil => .nil
  | _, _, .cons h r => .cons (dq_mono e h) (dqs_mono e r)
end
theorem dqs_len {K : PySem.W.Frag} {H : Hp} {vs : List V} {ds : List PyData} (h : DqAll K H vs ds) : vs.length = ds.length := dps_len (dqs_dp h)
theorem dqs_get {K : PySem.W.Frag} {H : Hp} : ∀ {vs : List V} {ds : List PyData} {i : Nat} {d : PyData}, DqAll K H vs ds → ds[i]? = some d → ∃ v, vs[i]? = some v ∧ Dq K H v d
  | _, _, _, _, .nil, e => by simp at e
  | _, _, 0, _, .cons (v := v) h _, e => by
    simp at e
    subst e
    exact ⟨v, rfl, h⟩
  | _, _, i + 1, d, .cons _ r, e => by
    obtain ⟨v, h1, h2⟩ := dqs_get (i := i) (d := d) r (by simpa using e)
    exact ⟨v, by simpa using h1, h2⟩
theorem dqs_get2 {K : PySem.W.Frag} {H : Hp} {vs : List V} {ds : List PyData} {i : Nat} {v : V} (r : DqAll K H vs ds) (e : vs[i]? = some v) : ∃ d, ds[i]? = some d ∧ Dq K H v d := by
  have hl := dqs_len r
  have hi := (List.getElem?_eq_some_iff.mp e).1
  have e2 : ds[i]? = some (ds[i]'(hl ▸ hi)) := List.getElem?_eq_getElem _
  obtain ⟨v2, h1, h2⟩ := dqs_get r e2
  rw [e] at h1
  cases h1
  exact ⟨_, e2, h2⟩
theorem dqs_app {K : PySem.W.Frag} {H : Hp} : ∀ {vs ws : List V} {ds es : List PyData}, DqAll K H vs ds → DqAll K H ws es → DqAll K H (vs ++ ws) (ds ++ es)
  | _, _, _, _, .nil, s => s
  | _, _, _, _, .cons h r, s => .cons h (dqs_app r s)
theorem dqs_ints {K : PySem.W.Frag} {H : Hp} : ∀ ns : List Int, DqAll K H (ns.map V.int) (ns.map PyData.int)
  | [] => .nil
  | n :: r => .cons (.int n) (dqs_ints r)
theorem dqs_at {K : PySem.W.Frag} {H : Hp} {vs : List V} {ds : List PyData} {i : Int} {d : PyData} (r : DqAll K H vs ds) (e : atI ds i = some d) : ∃ v, atI vs i = some v ∧ Dq K H v d := by
  unfold atI at e ⊢
  rw [dqs_len r]
  cases q : ixN ds.length i with
  | none => rw [q] at e; cases e
  | some j =>
    rw [q] at e
    exact dqs_get r e
end Sh
/-! data: tuples of data, cuts, sums; the shapes -/
namespace Sh
open PySem PySem.Spec PyProof.Rows L2
section
variable {K : PySem.W.Frag} {σ : L2.St} {H H' : Hp} {Q : VK} {v u : V} {d : PyData} {te : TE} {tA : TA} {tl th : TO} {a D : Addr} {xs ys : List V}
/-! ### data that a change of a list does not touch -/
mutual
def tupO : PyData → Prop
  | .list _ => False
  | .dict _ => False
  | .tuple ds => tupOs ds
  | _ => True
def tupOs : List PyData → Prop
  | [] => True
  | d :: r => tupO d ∧ tupOs r
end
theorem sqn_lst {o : HO} (h : SqN K H a xs) (e : H D = some (.lst ys)) : SqN K (upd H D o) a xs := by
  rcases h with ⟨b, hd, h⟩ | h
  · refine .inl ⟨b, hd, ?_⟩
    rw [upd_ne fun z => by rw [z, e] at h; cases h]
    exact h
  · exact .inr h
mutual
theorem dq_lst {o : HO} (e : H D = some (.lst ys)) : ∀ {v : V} {d : PyData}, Dq K H v d → tupO d → Dq K (upd H D o) v d
  | _, _, .non, _ => .non
  | _, _, .bl b, _ => .bl b
  | _, _, .int i, _ => .int i
  | _, _, .str x, _ => .str x
  | _, _, .lst _ _, z => (show False from z).elim
  | _, _, .tup h r, z => .tup (sqn_lst h e) (dqs_lst e r z)
theorem dqs_lst {o : HO} (e : H D = some (.lst ys)) : ∀ {vs : List V} {ds : List PyData}, DqAll K H vs ds → tupOs ds → DqAll K (upd H D o) vs ds
  | _, _, .nil, _ => .nil
  | _, _, .cons h r, z => .cons (dq_lst e h z.1) (dqs_lst e r z.2)
end
theorem tupOs_of : ∀ {ds : List PyData}, (∀ d ∈ ds, tupO d) → tupOs ds
  | [], _ => trivial
  | _ :: _, h => ⟨h _ List.mem_cons_self, tupOs_of fun d hd => h d (List.mem_cons_of_mem _ hd)⟩
theorem tupOs_ints (ns : List Int) : tupOs (ns.map PyData.int) := tupOs_of fun d hd => by
  obtain ⟨n, _, rfl⟩ := List.mem_map.mp hd
  trivial
/-! ### ints -/
theorem dq_int {i : Int} (h : Dq K H v (.int i)) : v = .int i := by cases h; rfl
theorem dq_str {x : Str} (h : Dq K H v (.str x)) : v = .str x := by cases h; rfl
theorem dq_bl {b : Bool} (h : Dq K H v (.bool b)) : v = .bl b := by cases h; rfl
theorem dq_non (h : Dq K H v .none) : v = .non := by cases h; rfl
theorem dqs_int_of : ∀ {vs : List V} {ns : List Int}, DqAll K H vs (ns.map PyData.int) → vs = ns.map V.int
  | _, [], h => by cases h; rfl
  | _, n :: r, h => by
    cases h with
    | cons h1 h2 => rw [dq_int h1, dqs_int_of h2]; rfl
theorem dq_ti {ns : List Int} (h : Dq K H v (.tuple (ns.map PyData.int))) : ∃ a, v = .ref a ∧ SqN K H a (ns.map V.int) := by
  cases h with
  | tup h r => exact ⟨_, rfl, by rw [← dqs_int_of r]; exact h⟩
theorem dq_ofN {ns : List Int} (h : TupN H a (ns.map V.int)) : Dq K H (.ref a) (.tuple (ns.map PyData.int)) := .tup (.inl h) (dqs_ints ns)
theorem dq_tt {ds : List PyData} (h : Dq K H v (.tuple ds)) : ∃ a xs, v = .ref a ∧ SqN K H a xs ∧ DqAll K H xs ds := by
  cases h with
  | tup h r => exact ⟨_, _, rfl, h, r⟩
theorem dq_ll {ds : List PyData} (h : Dq K H v (.list ds)) : ∃ a xs, v = .ref a ∧ SqL K H a xs ∧ DqAll K H xs ds := by
  cases h with
  | lst h r => exact ⟨_, _, rfl, h, r⟩
theorem dq_new {ds : List PyData} (h : TupN H a xs) (r : DqAll K H xs ds) : Dq K H (.ref a) (.tuple ds) := .tup (.inl h) r
theorem dq_newl {ds : List PyData} (h : H a = some (.lst xs)) (r : DqAll K H xs ds) : Dq K H (.ref a) (.list ds) := .lst (SqL.of h) r
theorem dqs_one (h : Dq K H v d) : DqAll K H [v] [d] := .cons h .nil
theorem dqs_two {d2 : PyData} (h : Dq K H v d) (h2 : Dq K H u d2) : DqAll K H [v, u] [d, d2] := .cons h (.cons h2 .nil)
theorem dqs_mem {vs : List V} {ds : List PyData} {P : PyData → Prop} (r : DqAll K H vs ds) (h : ∀ d ∈ ds, P d) : ∀ x ∈ vs, ∃ d, Dq K H x d ∧ P d := fun x hx => by
  obtain ⟨i, hi⟩ := List.getElem?_of_mem hx
  obtain ⟨d, h1, h2⟩ := dqs_get2 r hi
  exact ⟨d, h2, h d (List.mem_of_getElem? h1)⟩
/-! ### items, lengths -/
theorem w_ixQL {ds : List PyData} {i : Int} (h : Dq K H v (.list ds)) (e : atI ds i = some d) (q : ∀ x, Dq K H x d → Q x H) : rIxU K v (.int i) H Q := by
  cases h with
  | lst h r =>
    obtain ⟨x, e1, e2⟩ := dqs_at r e
    exact w_ixl h e1 (q x e2)
theorem w_ixQT {ds : List PyData} {i : Int} (h : Dq K H v (.tuple ds)) (e : atI ds i = some d) (q : ∀ x, Dq K H x d → Q x H) : rIxU K v (.int i) H Q := by
  cases h with
  | tup h r =>
    obtain ⟨x, e1, e2⟩ := dqs_at r e
    exact w_ixt h.t e1 (q x e2)
theorem w_ixQTi {ds : List PyData} {i n : Int} (h : Dq K H v (.tuple ds)) (e : atI ds i = some (.int n)) (q : Q (.int n) H) : rIxU K v (.int i) H Q := w_ixQT h e fun x hx => by
  rw [dq_int hx]
  exact q
theorem w_ixQTs {ds : List PyData} {i : Int} {z : Str} (h : Dq K H v (.tuple ds)) (e : atI ds i = some (.str z)) (q : Q (.str z) H) : rIxU K v (.int i) H Q := w_ixQT h e fun x hx => by
  rw [dq_str hx]
  exact q
theorem w_lenQT {ds : List PyData} (h : Dq K H v (.tuple ds)) (q : Q (.int ds.length) H) : rLenU K [v] H Q := by
  cases h with
  | tup h r => exact w_lenT h.t (by rw [dqs_len r]; exact q)
theorem w_lenQL {ds : List PyData} (h : Dq K H v (.list ds)) (q : Q (.int ds.length) H) : rLenU K [v] H Q := by
  cases h with
  | lst h r => exact w_lenL h (by rw [dqs_len r]; exact q)
theorem w_tyQT {ds : List PyData} {R : Prop} (h : Dq K H v (.tuple ds)) (q : R) : TyN K v H ∧ R := by
  cases h with
  | tup h r => exact ⟨⟨_, _, rfl, h⟩, q⟩
/-! ### cuts -/
theorem w_sl (h : te σ H fun x H1 => tl σ H1 fun l H2 => th σ H2 fun u H3 => rSlU K x l u H3 Q) : tSl (rSlU K) te tl th σ H Q := h
theorem w_nopart {k : Option Int → Hp → Prop} (h : k none H) : tNoPart σ H k := h
theorem w_part {k : Option Int → Hp → Prop} (h : te σ H fun x H1 => ∃ i, x = .int i ∧ k (some i) H1) : tPart te σ H k := h
theorem w_ii {k : Int → Prop} {i : Int} (h : k i) : ∃ j, V.int i = .int j ∧ k j := ⟨i, rfl, h⟩
def cutD {α : Type} (xs : List α) (lo hi : Option Int) : List α := (xs.drop (HT.sIx xs.length 0 lo)).take (HT.sIx xs.length xs.length hi - HT.sIx xs.length 0 lo)
theorem dqs_drop : ∀ {vs : List V} {ds : List PyData} (n : Nat), DqAll K H vs ds → DqAll K H (vs.drop n) (ds.drop n)
  | _, _, 0, r => r
  | _, _, _ + 1, .nil => .nil
  | _, _, n + 1, .cons _ r => dqs_drop n r
theorem dqs_take : ∀ {vs : List V} {ds : List PyData} (n : Nat), DqAll K H vs ds → DqAll K H (vs.take n) (ds.take n)
  | _, _, 0, r => .nil
  | _, _, _ + 1, .nil => .nil
  | _, _, n + 1, .cons h r => .cons h (dqs_take n r)
theorem dqs_cut {ds : List PyData} {lo hi : Option Int} (r : DqAll K H xs ds) : DqAll K H (cutV xs lo hi) (cutD ds lo hi) := by
  unfold cutV cutD
  rw [dqs_len r]
  exact dqs_take _ (dqs_drop _ r)
theorem w_slQT {ds : List PyData} {lo hi : Option Int} (h : Dq K H v (.tuple ds)) (q : ∀ x H', Same H H' → Dq K H' x (.tuple (cutD ds lo hi)) → Q x H') : rSlU K v lo hi H Q := by
  obtain ⟨a, xs, rfl, hs, r⟩ := dq_tt h
  refine .inl ⟨a, xs, rfl, hs.t, fun hw => q _ _ (Same.refl _) (.tup hs ?_), fun _ p o hp hd => q _ _ (same_new hp) (.tup (SqN.of ⟨o, hd, upd_same⟩) (dqs_mono (same_new hp) (dqs_cut r)))⟩
  rw [dqs_len r] at hw
  have e : cutD ds lo hi = ds := by
    unfold cutD
    rw [hw.1, hw.2]
    simp
  rw [e]
  exact r
theorem w_slQL {ds : List PyData} {lo hi : Option Int} (h : Dq K H v (.list ds)) (q : ∀ x H', Same H H' → Dq K H' x (.list (cutD ds lo hi)) → Q x H') : rSlU K v lo hi H Q := by
  obtain ⟨a, xs, rfl, hs, r⟩ := dq_ll h
  exact .inr (.inr ⟨a, xs, rfl, hs, fun p hp => q _ _ (same_new hp) (.lst (SqL.of upd_same) (dqs_mono (same_new hp) (dqs_cut r)))⟩)
theorem w_slS {z : Str} {lo hi : Option Int} (h : z.length ≤ sizeLine) (q : Q (.str (cutS z lo hi)) H) : rSlU K (.str z) lo hi H Q := .inr (.inl ⟨z, rfl, h, q⟩)
theorem six_of {n i : Nat} (d : Nat) (h : i ≤ n) : HT.sIx n d (some (i : Int)) = i := by
  unfold HT.sIx
  dsimp only
  rw [if_neg (by omega)]
  omega
theorem cutD_to {α : Type} {xs : List α} {i : Int} (h0 : 0 ≤ i) (h1 : i ≤ xs.length) : cutD xs none (some i) = xs.take i.toNat := by
  obtain ⟨n, rfl⟩ : ∃ n : Nat, i = n := ⟨i.toNat, by omega⟩
  unfold cutD
  rw [six_of _ (by omega)]
  simp [HT.sIx]
theorem cutD_from {α : Type} {xs : List α} {i : Int} (h0 : 0 ≤ i) (h1 : i ≤ xs.length) : cutD xs (some i) none = xs.drop i.toNat := by
  obtain ⟨n, rfl⟩ : ∃ n : Nat, i = n := ⟨i.toNat, by omega⟩
  unfold cutD
  rw [six_of _ (by omega)]
  show (xs.drop n).take (xs.length - n) = _
  rw [List.take_of_length_le (by rw [List.length_drop]; exact Nat.le_refl _), Int.toNat_natCast]
/-! ### sums of tuples -/
theorem w_catQT {ds es : List PyData} (h : Dq K H v (.tuple ds)) (h' : Dq K H u (.tuple es)) (hl : ds.length + es.length ≤ sizeLine) (q : ∀ x H', Same H H' → Dq K H' x (.tuple (ds ++ es)) → Q x H') : rAddN K v u H Q := by
  obtain ⟨a, xs, rfl, hs, r⟩ := dq_tt h
  obtain ⟨b, ys, rfl, hs', r'⟩ := dq_tt h'
  have l1 := dqs_len r
  have l2 := dqs_len r'
  refine .inr (.inr (.inr ⟨a, b, xs, ys, rfl, rfl, hs.t, hs'.t, by omega, fun e => ?_, fun _ e => ?_, fun _ _ p o hp hd => q _ _ (same_new hp) (.tup (SqN.of ⟨o, hd, upd_same⟩) (dqs_mono (same_new hp) (dqs_app r r')))⟩))
  · subst e
    cases r
    exact q _ _ (Same.refl _) h'
  · subst e
    cases r'
    rw [List.append_nil] at q
    exact q _ _ (Same.refl _) h
theorem w_addN {i j : Int} (h : Q (.int (i + j)) H) : rAddN K (.int i) (.int j) H Q := .inl ⟨i, j, rfl, rfl, h⟩
theorem w_addsN {x y : Str} (hl : x.length + y.length ≤ sizeLine) (h : Q (.str (x ++ y)) H) : rAddN K (.str x) (.str y) H Q := .inr (.inl ⟨x, y, rfl, rfl, hl, h⟩)
/-! ### the list that grows -/
theorem w_bm {T : String} {r : V → List V → Hp → VK → Prop} {to : TE} (h : to σ H fun x H1 => tyV K T x H1 ∧ tA σ H1 fun xs H2 => r x xs H2 Q) : tBM K T r to tA σ H Q := h
theorem w_tyL {R : Prop} (h : H a = some (.lst xs)) (q : R) : tyV K "list" (.ref a) H ∧ R := ⟨.inl ⟨rfl, xs, SqL.of h⟩, q⟩
theorem w_append {y : V} (h : H a = some (.lst xs)) (hl : xs.length < 1000000) (q : Q .non (upd H a (.lst (xs ++ [y])))) : rAppend (.ref a) [y] H Q := ⟨a, xs, y, rfl, rfl, h, Nat.lt_trans hl (by decide), q⟩
theorem pot_lst {W : Wd} {o : HO} (h : PotAt W H v) (e : H D = some (.lst ys)) : PotAt W (upd H D o) v := by
  obtain ⟨p, rfl, h⟩ := h
  refine ⟨p, rfl, ?_⟩
  rw [upd_ne fun z => by rw [z, e] at h; cases h]
  exact h
theorem w_irest {R : Prop} {k : Prop} (h : k) (q : R) : k ∧ R := ⟨h, q⟩
end
section
variable {K : PySem.W.Frag} {σ : L2.St} {H : Hp} {tb : TS} {nx : L2.St → Hp → Prop} {rt : VK} {a : Addr} {xs : List V} {i1 i2 : Nat}
theorem forEL2 (I : Nat → L2.St → Hp → Prop) (h0 : I 0 σ H) (hI : ∀ i σ' H', I i σ' H' → SqL K H' a xs)
    (hs : ∀ (i : Nat) x σ' H', xs[i]? = some x → I i σ' H' → ∀ H2, Same H' H2 → tb ⟨I (i + 1), rt, nx, I (i + 1)⟩ ((σ'.set i1 (some (.int (i : Int)))).set i2 (some x)) H2) (hd : ∀ σ' H', I xs.length σ' H' → nx σ' H') :
    ForOk (Ite K a) (gTup K 2 (gCons (gName i1) (gCons (gName i2) gNil))) tb nx rt σ H := by
  refine ⟨fun i m σ' H' => m = xs.length - i ∧ i ≤ xs.length ∧ I i σ' H', ⟨_, rfl, Nat.zero_le _, h0⟩, fun i m σ' H1 ⟨em, hi, w1⟩ => ?_⟩
  have s1 := hI _ _ _ w1
  by_cases hlt : i < xs.length
  · refine .inr ⟨⟨xs, xs[i], s1, List.getElem?_eq_getElem hlt⟩, I (i + 1), fun σ2 H2 w2 => ⟨_, by omega, rfl, hlt, w2⟩, fun v H2 y => ?_⟩
    obtain ⟨T, x, rfl, hT, rfl, hy⟩ := y
    have ex := hy xs s1
    exact ⟨T, _, rfl, SqT.of upd_same, rfl, _, _, rfl, _, _, rfl, rfl, hs i x σ' H1 ex w1 _ (same_new hT)⟩
  · have e : i = xs.length := by omega
    subst e
    exact .inl ⟨⟨xs, s1, Nat.le_refl _⟩, hd σ' H1 w1⟩
theorem none_of {H H' : Hp} {D : Addr} (e : Same H H') (h : H' D = none) : H D = none := by
  cases hc : H D with
  | none => rfl
  | some u => rw [e _ _ hc] at h; cases h
end
section
variable {K : PySem.W.Frag} {H : Hp} {Q : VK} {v : V} {i : Int}
theorem atI_get {α : Type} {l : List α} (h0 : 0 ≤ i) (h1 : i < l.length) : ∃ x, l[i.toNat]? = some x ∧ atI l i = some x := by
  have hn : i.toNat < l.length := by omega
  refine ⟨l[i.toNat], List.getElem?_eq_getElem hn, ?_⟩
  unfold atI ixN
  rw [if_pos h0, if_pos (by omega)]
  simp [List.getElem?_eq_getElem hn]
theorem w_ixM {α : Type} {g : α → PyData} {l : List α} (h : Dq K H v (.tuple (l.map g))) (h0 : 0 ≤ i) (h1 : i < l.length) (q : ∀ f x, l[i.toNat]? = some f → Dq K H x (g f) → Q x H) : rIxU K v (.int i) H Q := by
  obtain ⟨f, e, e2⟩ := atI_get h0 h1
  exact w_ixQT h (d := g f) (by rw [atI_map, e2]; rfl) fun x hx => q f x e hx
theorem atI_mem {α : Type} {l : List α} (h0 : -(l.length : Int) ≤ i) (h1 : i < l.length) : ∃ x, atI l i = some x ∧ x ∈ l := by
  by_cases c : 0 ≤ i
  · exact atI_of c h1
  · have hn : (i + l.length).toNat < l.length := by omega
    refine ⟨l[(i + l.length).toNat], ?_, List.getElem_mem hn⟩
    unfold atI ixN
    rw [if_neg c, if_pos h0]
    simp [List.getElem?_eq_getElem hn]
theorem w_ixMm {α : Type} {g : α → PyData} {l : List α} (h : Dq K H v (.tuple (l.map g))) (h0 : -(l.length : Int) ≤ i) (h1 : i < l.length) (q : ∀ f x, f ∈ l → Dq K H x (g f) → Q x H) : rIxU K v (.int i) H Q := by
  obtain ⟨f, e, hm⟩ := atI_mem h0 h1
  exact w_ixQT h (d := g f) (by rw [atI_map, e]; rfl) fun x hx => q f x hm hx
theorem w_ixMim {l : List Int} (h : Dq K H v (.tuple (l.map PyData.int))) (h0 : -(l.length : Int) ≤ i) (h1 : i < l.length) (q : ∀ n, n ∈ l → Q (.int n) H) : rIxU K v (.int i) H Q :=
  w_ixMm h h0 h1 fun f x hm hx => by
    rw [dq_int hx]
    exact q f hm
theorem w_ixMi {l : List Int} (h : Dq K H v (.tuple (l.map PyData.int))) (h0 : 0 ≤ i) (h1 : i < l.length) (q : ∀ n, l[i.toNat]? = some n → Q (.int n) H) : rIxU K v (.int i) H Q :=
  w_ixM h h0 h1 fun f x e hx => by
    rw [dq_int hx]
    exact q f e
theorem w_lenQTm {α : Type} {g : α → PyData} {l : List α} (h : Dq K H v (.tuple (l.map g))) (q : Q (.int l.length) H) : rLenU K [v] H Q := w_lenQT h (by
  rw [List.length_map]
  exact q)
theorem w_lenQLm {α : Type} {g : α → PyData} {l : List α} (h : Dq K H v (.list (l.map g))) (q : Q (.int l.length) H) : rLenU K [v] H Q := w_lenQL h (by
  rw [List.length_map]
  exact q)
theorem w_it {p A B : Prop} [Decidable p] (h : p) (q : A) : if decide p = true then A else B := by
  rw [decide_eq_true h]
  exact iteT q
theorem w_if {p A B : Prop} [Decidable p] (h : ¬ p) (q : B) : if decide p = true then A else B := by
  rw [decide_eq_false h]
  exact iteF q
theorem w_cut {t : TT} {ts tz : TS} {nx bk ct : L2.St → Hp → Prop} {rt : VK} {σ : L2.St} (P : L2.St → Hp → Prop) (hz : ∀ σ' H', P σ' H' → nx σ' H') (h : ∀ nx' : L2.St → Hp → Prop, (∀ σ' H', P σ' H' → nx' σ' H') → t σ H fun b H1 => if b = true then ts ⟨nx', rt, bk, ct⟩ σ H1 else tz ⟨nx', rt, bk, ct⟩ σ H1) : tIfS t ts tz ⟨nx, rt, bk, ct⟩ σ H := h nx hz
theorem w_neb {b c : Bool} (h : Q (.bl (!decide (b = c))) H) : rNeU K (.bl b) (.bl c) H Q := .inl ⟨rfl, by
  have e : decide (V.bl b = V.bl c) = decide (b = c) := by cases b <;> cases c <;> rfl
  rw [e]
  exact h⟩
theorem w_eqb {b c : Bool} (h : Q (.bl (decide (b = c))) H) : rEqU K (.bl b) (.bl c) H Q := .inl ⟨rfl, by
  have e : decide (V.bl b = V.bl c) = decide (b = c) := by cases b <;> cases c <;> rfl
  rw [e]
  exact h⟩
theorem w_same {A B : Prop} [Decidable A] [Decidable B] {D E : Prop} (h : A ↔ B) (q : E) : if (!decide (decide A = decide B)) = true then D else E := by
  have e : decide A = decide B := by rw [decide_eq_decide]; exact h
  rw [e, decide_eq_true (rfl : decide B = decide B)]
  exact iteF q
theorem w_same2 {A B : Prop} [Decidable A] [Decidable B] {D E : Prop} (h : A ↔ B) (q : E) : if decide (decide A = decide B) = true then E else D := by
  have e : decide A = decide B := by rw [decide_eq_decide]; exact h
  rw [e, decide_eq_true (rfl : decide B = decide B)]
  exact iteT q
end
/-! ### the shapes -/
inductive Kd where
  | still
  | drawn
  | step (n : Int)
  | turn (ns : List Int)
  | wth (p b : Int)
def kdD : Kd → PyData
  | .still => .tuple [.str "still"]
  | .drawn => .tuple [.str "drawn"]
  | .step n => .tuple [.str "step", .int n]
  | .turn ns => .tuple [.str "turn", .tuple (ns.map .int)]
  | .wth p b => .tuple [.str "with", .int p, .int b]
structure Fd where
  nm : Str
  br : Int
  kd : Kd
def fdD (f : Fd) : PyData := .tuple [.str f.nm, .int f.br, kdD f.kd]
structure Shp where
  fs : List Fd
  m : Int
def shD (s : Shp) : PyData := .tuple [.tuple (s.fs.map fdD), .int s.m]
def OkKd (place : Nat) (b : Int) : Kd → Prop
  | .still => True
  | .drawn => True
  | .step n => 0 ≤ n ∧ n < p2 b
  | .turn ns => 2 ≤ ns.length ∧ ns.length ≤ 12 ∧ (∀ n ∈ ns, 0 ≤ n ∧ n < p2 b) ∧ ns.Nodup
  | .wth p z => 0 ≤ p ∧ p < place ∧ -99 ≤ z ∧ z ≤ 99
def OkNm (z : Str) : Prop := 1 ≤ z.length ∧ z.length ≤ 8 ∧ ∀ c ∈ z.cps.toList, 97 ≤ c ∧ c ≤ 122
structure OkFd (place : Nat) (f : Fd) : Prop where
  nm : OkNm f.nm
  b0 : 1 ≤ f.br
  b1 : f.br ≤ 40
  kd : OkKd place f.br f.kd
structure OkShp (s : Shp) : Prop where
  l0 : 1 ≤ s.fs.length
  l1 : s.fs.length ≤ 12
  fd : ∀ i f, s.fs[i]? = some f → OkFd i f
  nd : (s.fs.map Fd.nm).Nodup
  m0 : 1 ≤ s.m
  m1 : s.m ≤ 1000000
theorem tupO_kd (k : Kd) : tupO (kdD k) := by
  cases k with
  | turn ns => exact ⟨trivial, tupOs_ints ns, trivial⟩
  | _ => simp [kdD, tupO, tupOs]
theorem tupO_fd (f : Fd) : tupO (fdD f) := ⟨trivial, trivial, tupO_kd _, trivial⟩
theorem tupO_fds (fs : List Fd) : tupOs (fs.map fdD) := tupOs_of fun d hd => by
  obtain ⟨n, _, rfl⟩ := List.mem_map.mp hd
  exact tupO_fd n
/-- heads of a shape -/
def OkHead : List Fd → List Int → Prop
  | [], [] => True
  | f :: fs, n :: ns => (0 ≤ n ∧ n < p2 f.br) ∧ OkHead fs ns
  | _, _ => False
theorem okHead_len : ∀ {fs : List Fd} {ns : List Int}, OkHead fs ns → ns.length = fs.length
  | [], [], _ => rfl
  | _ :: _, _ :: _, h => congrArg (· + 1) (okHead_len h.2)
  | [], _ :: _, h => h.elim
  | _ :: _, [], h => h.elim
theorem okHead_get : ∀ {fs : List Fd} {ns : List Int} {i : Nat} {f : Fd} {n : Int}, OkHead fs ns → fs[i]? = some f → ns[i]? = some n → 0 ≤ n ∧ n < p2 f.br
  | f :: _, n :: _, 0, _, _, h, e1, e2 => by
    simp at e1 e2
    subst e1 e2
    exact h.1
  | _ :: _, _ :: _, i + 1, _, _, h, e1, e2 => okHead_get (i := i) h.2 (by simpa using e1) (by simpa using e2)
  | [], [], _, _, _, _, e1, _ => by simp at e1
  | [], _ :: _, _, _, _, h, _, _ => h.elim
  | _ :: _, [], _, _, _, h, _, _ => h.elim
theorem okHead_snoc : ∀ {fs : List Fd} {ns : List Int} {f : Fd} {n : Int}, OkHead fs ns → 0 ≤ n → n < p2 f.br → OkHead (fs ++ [f]) (ns ++ [n])
  | [], [], _, _, _, h0, h1 => ⟨⟨h0, h1⟩, trivial⟩
  | _ :: _, _ :: _, _, _, h, h0, h1 => ⟨h.1, okHead_snoc h.2 h0 h1⟩
  | [], _ :: _, _, _, h, _, _ => h.elim
  | _ :: _, [], _, _, h, _, _ => h.elim
/-- r is the value so many places on in its row, going round -/
def GoneR (ns : List Int) (v m r : Int) : Prop := (v ∉ ns → r = v) ∧ (v ∈ ns → ns[((((ns.idxOf v : Nat) : Int) + m) % (ns.length : Int)).toNat]? = some r)
theorem GoneR.one {ns : List Int} {v m r r' : Int} (h : GoneR ns v m r) (h' : GoneR ns v m r') : r = r' := by
  by_cases c : v ∈ ns
  · exact Option.some.inj ((h.2 c).symm.trans (h'.2 c))
  · rw [h.1 c, h'.1 c]
/-- r is what the field's kind lets look for, ahead of the rest -/
def ExpK (fo ah : List Int) (more v : Int) : Kd → Int → Prop
  | .still, r => r = v
  | .drawn, r => r = v
  | .step n, r => r = v + more * n
  | .turn ns, r => GoneR ns v more r
  | .wth p b, r => ∃ x y, ah[p.toNat]? = some x ∧ fo[p.toNat]? = some y ∧ r = v + b * (x - y)
theorem ExpK.one {fo ah : List Int} {more v : Int} {k : Kd} {r r' : Int} (h : ExpK fo ah more v k r) (h' : ExpK fo ah more v k r') : r = r' := by
  cases k with
  | turn ns => exact GoneR.one h h'
  | wth p b =>
    obtain ⟨x, y, e1, e2, rfl⟩ := h
    obtain ⟨x', y', e3, e4, rfl⟩ := h'
    obtain rfl := Option.some.inj (e1.symm.trans e3)
    obtain rfl := Option.some.inj (e2.symm.trans e4)
    rfl
  | _ => exact Eq.trans h (Eq.symm h')
end Sh
/-! set(xs) of a list of ints -/
namespace ShS
open PySem Sem PySem.Spec PyProof.Rows L2
/-- a set as it begins -/
abbrev ob0 (w : World) : Obj := { cls := .type "set", dict := none, data := .set #[] 0 (.fresh 0 0 (!w.params.followText "set-order")) }
/-- a list's iterator as it begins -/
abbrev it0 (l : Addr) : Obj := { cls := .type "list_iterator", data := .fields #[.ref l, .int 0 0] }
section
variable {P : Program} {w : World} {A : Around} {E : Value → Shared → Prop} {s : Shared}
set_option maxRecDepth 100000 in
set_option maxHeartbeats 3200000 in
theorem setL_call {l : Addr} {xs : Array Value} (ns : List Int) {Q : Value → Shared → Prop} (hc : A.handled = none) (pl : s.heap.IsList l xs) (hx : IntsAre xs.toList ns) (few : ns.length + 1 < scanBound)
    (q : ∀ (h2 : Heap) (t2 c : Nat), SetR w h2 s.heap.objs.size (fun j => decide (j ∈ ns)) c → c ≤ ns.length → (∀ b o, s.heap.get? b = some o → h2.get? b = some o) → Q (.ref s.heap.objs.size) { s with heap := h2, toks := t2 }) :
    wpAny (model P w) A (call (.type "set") [.ref l]) Q E s := by
  have exz : xs.size = ns.length := (Array.length_toList (xs := xs)).symm.trans (IntsAre.length hx)
  obtain ⟨mc, ml, hmro⟩ := F.called_set.mro
  have f1 := F.called_set.made
  have f2 := F.called_set.sub
  have f3 := F.called_set.notType
  have f4 := F.called_set.canCreate
  have f5 := F.typeCall_set_1 (.ref l)
  refine wpAny_call (codeAny_of_tree ?_)
  show wpAny _ _ (callAny (.type "set") _) _ _ _
  refine wpAny_pure ⟨Code.quiet_builtin _ (by decide +kernel), codeAny_builtin F.entry_type_call ?_⟩
  rw [Around.under_plain (weight_type_call_type "set" [.ref l] []) rfl]
  repeat (any_goals (first | assumption | wp_step))
  refine codeAny_mono (code_set_led1 (.ref l) (E := E) (Q₁ := fun o2 s2 => o2 = .ref s.heap.objs.size ∧ s2 = { s with heap := s.heap.push (ob0 w) }) ⟨rfl, rfl⟩) fun r s1 hr => ?_
  cases r with
  | error e => exact hr
  | ok fl =>
    cases fl with
    | ret o2 =>
      obtain ⟨rfl, rfl⟩ := hr
      have g0 : (s.heap.push (ob0 w)).get? s.heap.objs.size = some (ob0 w) := Heap.get?_push_size _ rfl
      have g1 : Shared.TypeIs { s with heap := s.heap.push (ob0 w) } (.ref s.heap.objs.size) "set" := ⟨_, g0, rfl⟩
      have g2 := F.called_set.init.lookup
      have g3 := F.called_set.init.bind (.ref s.heap.objs.size)
      repeat (any_goals (first | assumption | wp_step))
      refine codeAny_mono (codeAny_call_builtin (R := wants (fun r s2 => r = .none ∧ ∃ h2 t2 c, s2 = { s with heap := h2, toks := t2 } ∧ SetR w h2 s.heap.objs.size (fun j => decide (j ∈ ns)) c ∧ c ≤ ns.length ∧ (∀ b o, s.heap.get? b = some o → h2.get? b = some o)) E) F.called_set.init.plain F.entry_set_init (check_set_init_1 g1 ?_)) fun r2 s2 hr2 => ?_
      · obtain ⟨⟨lc, ld, la, ls⟩, hl, kc, nl, kd⟩ := pl
        simp only at kc kd
        subst kc
        subst kd
        have hl2 : (s.heap.push (ob0 w)).get? l = some { cls := .type "list", dict := ld, data := .seq xs nl, slots := ls } := Heap.get?_push_of_some _ hl
        have k1 := F.sub_list_set
        have k2 := F.sub_list_frozenset
        have k3 : (Value.type "list" == Value.type "dict") = false := by decide
        have pl2 : (s.heap.push (ob0 w)).IsList l xs := ⟨_, hl2, rfl, nl, rfl⟩
        unfold Builtin.«set.__init__» noKeywords Builtin.Frozenset.updateFrom
        generalize hit : pyIter = itr
        wp_walk
        subst hit
        refine wpAny_pyIter_list pl2 ?_
        refine wpAny_bind (wpAny_runValue ?_)
        have lt := Heap.lt_size hl
        have sz : (s.heap.push (ob0 w)).objs.size = s.heap.objs.size + 1 := Heap.size_push ..
        have c3 : A.in1.in1.in1.handled = none := by simp [hc]
        have ne1 : l ≠ (s.heap.push (ob0 w)).objs.size := by
          rw [sz]
          exact Nat.ne_of_lt (Nat.lt_succ_of_lt lt)
        have ne2 : s.heap.objs.size ∉ [(s.heap.push (ob0 w)).objs.size, l] := fun z => by
          rw [sz] at z
          rcases List.mem_cons.mp z with z | z
          · exact Nat.ne_of_lt (Nat.lt_succ_self _) z
          · exact Nat.ne_of_gt lt (List.mem_singleton.mp z)
        have each : ∀ (i : Nat) (v : Value), xs[i]? = some v → ∃ k t, ns[i]? = some k ∧ v = .int k t := fun i v hv => by
          have hi : i < ns.length := exz ▸ (Array.getElem?_eq_some_iff.mp hv).1
          obtain ⟨t, e⟩ := IntsAre.int_at hx i v ((Array.getElem?_toList (xs := xs)).trans hv)
          exact ⟨ns[i], t, List.getElem?_eq_getElem hi, by rw [e, List.getD_eq_getElem?_getD, List.getElem?_eq_getElem hi]; rfl⟩
        refine set_update_ints ((Walks.list c3 _ l ne1 xs).toS) s.heap.objs.size ne2 ns exz few each (xs.size - 0) 0 _ (by omega) (Nat.zero_le _) ⟨⟨_, Heap.get?_push_size _ rfl, rfl, rfl⟩, (pl2.push _)⟩ ?z1 ?z2
        case z1 =>
          have g4 : ((s.heap.push (ob0 w)).push (it0 l)).get? s.heap.objs.size = some (ob0 w) := Heap.get?_push_of_some _ g0
          exact ⟨0, Nat.le_refl 0, setR_new_at g4⟩
        case z2 =>
          intro s3 c3 mv le3 R3
          obtain ⟨h3, gn, dr, tk, os⟩ := s3
          have e1 : gn = s.gens := mv.gens
          have e2 : dr = s.drawn := mv.drawn
          have e3 : os = s.os := mv.os
          subst e1 e2 e3
          show wpAny _ _ _ _ _ _
          refine wpAny_pure ?_
          show wpAny _ _ (ret Value.none) _ _ _
          refine wpAny_pure ⟨rfl, h3, tk, c3, rfl, R3, exz ▸ le3, fun b o e => ?_⟩
          have lb := Heap.lt_size e
          refine mv.heap b o (fun z => ?_) (Heap.get?_push_of_some _ (Heap.get?_push_of_some _ e))
          rcases List.mem_cons.mp z with z | z
          · exact Nat.ne_of_lt lb z
          · have z2 := List.mem_singleton.mp z
            rw [sz] at z2
            exact Nat.ne_of_lt (Nat.lt_succ_of_lt lb) z2
      · cases r2 with
        | error e => exact hr2
        | ok f =>
          cases f with
          | ret r =>
            obtain ⟨rfl, h2, t2, c, rfl, R2, le2, keep2⟩ := hr2
            repeat (any_goals (first | assumption | wp_step))
            exact q _ _ _ R2 le2 keep2
          | _ => exact hr2.elim
    | _ => exact hr.elim
end
end ShS
namespace Sh
open PySem PySem.Spec PyProof.Rows L2
/-- set(xs) -/
def rSetL (K : PySem.W.Frag) (w : World) : List V → Hp → VK → Prop := fun vs H Q => ∃ (l : Addr) (ns : List Int), vs = [.ref l] ∧ SqL K H l (ns.map V.int) ∧ ns.length ≤ 60 ∧ ∀ (p : Addr) (c : Nat), H p = none → c ≤ ns.length → Q (.ref p) (upd H p (SetO w p (fun j => decide (j ∈ ns)) c))
theorem call_setL {X : Cx} (hc : X.calm = true) : CallR X (.type "set") (rSetL X.K X.w) := by
  intro pins s σ H vs us Q I r h
  obtain ⟨l, ns, rfl, hq, few, q⟩ := h
  rw [Vals.ref1 r]
  obtain ⟨its, rv, pl, hz⟩ := I.list hq
  refine ShS.setL_call ns (I.ok.hd hc) pl.isList (by simpa using rv.ints) (by unfold scanBound; omega) fun h2 t2 c R le keep => ?_
  have hn : H s.heap.objs.size = none := I.hok.fresh (Nat.le_refl _)
  exact ⟨.ref s.heap.objs.size, _, I.laid (o := SetO X.w s.heap.objs.size (fun j => decide (j ∈ ns)) c) keep (Nat.le_refl _) (setO_new R), rfl, q _ c hn le⟩
end Sh
/-! zip of two, sorted, min -/
namespace Sh
open PySem PySem.Spec PyProof.Rows L2
open RZ
section
variable {K : PySem.W.Frag} {σ : L2.St} {H : Hp} {Q : VK} {te : TE} {tt : TT} {tA : TA} {tb : TS} {nx : L2.St → Hp → Prop} {rt : VK} {a b : Addr} {xs ys : List V} {i1 i2 : Nat} {vs : List Nat}
def GoZip (K : PySem.W.Frag) (R : It → Hp → Prop) (vs : List V) (H1 : Hp) : Prop := ∃ a b xs ys, vs = [.ref a, .ref b] ∧ ((SqL K H1 a xs ∧ SqL K H1 b ys ∧ R (Itz K a b) H1) ∨ (SqT K H1 a xs ∧ SqT K H1 b ys ∧ R (ItzT K a b) H1))
theorem w_izip {R : It → Hp → Prop} (h : tA σ H fun vs H1 => GoZip K R vs H1) : iZipA K tA σ H R := h
theorem w_goZL {R : It → Hp → Prop} (h : SqL K H a xs) (h2 : SqL K H b ys) (q : R (Itz K a b) H) : GoZip K R [.ref a, .ref b] H := ⟨a, b, xs, ys, rfl, .inl ⟨h, h2, q⟩⟩
theorem w_goZT {R : It → Hp → Prop} (h : SqT K H a xs) (h2 : SqT K H b ys) (q : R (ItzT K a b) H) : GoZip K R [.ref a, .ref b] H := ⟨a, b, xs, ys, rfl, .inr ⟨h, h2, q⟩⟩
/-- for x, y in zip(xs, ys), lists of any lengths -/
theorem forZL (I : Nat → L2.St → Hp → Prop) (h0 : I 0 σ H) (hI : ∀ i σ' H', I i σ' H' → SqL K H' a xs ∧ SqL K H' b ys)
    (hs : ∀ (i : Nat) x y σ' H', xs[i]? = some x → ys[i]? = some y → I i σ' H' → ∀ H2, Same H' H2 → tb ⟨I (i + 1), rt, nx, I (i + 1)⟩ ((σ'.set i1 (some x)).set i2 (some y)) H2) (hd : ∀ σ' H', I (min xs.length ys.length) σ' H' → nx σ' H') :
    ForOk (Itz K a b) (gTup K 2 (gCons (gName i1) (gCons (gName i2) gNil))) tb nx rt σ H := by
  refine ⟨fun i m σ' H' => m = min xs.length ys.length - i ∧ i ≤ min xs.length ys.length ∧ I i σ' H', ⟨_, rfl, Nat.zero_le _, h0⟩, fun i m σ' H1 ⟨em, hi, w1⟩ => ?_⟩
  obtain ⟨s1, s2⟩ := hI _ _ _ w1
  by_cases hlt : i < min xs.length ys.length
  · have l1 : i < xs.length := by omega
    have l2 : i < ys.length := by omega
    refine .inr ⟨⟨xs, ys, xs[i], ys[i], s1, s2, List.getElem?_eq_getElem l1, List.getElem?_eq_getElem l2⟩, I (i + 1), fun σ2 H2 w2 => ⟨_, by omega, rfl, hlt, w2⟩, fun v H2 z => ?_⟩
    obtain ⟨T, x, y, rfl, hT, rfl, hx, hy⟩ := z
    exact ⟨T, _, rfl, SqT.of upd_same, rfl, _, _, rfl, _, _, rfl, rfl, hs i x y σ' H1 (hx xs s1) (hy ys s2) w1 _ (same_new hT)⟩
  · have e : i = min xs.length ys.length := by omega
    refine .inl ⟨⟨xs, ys, s1, s2, by omega⟩, hd σ' H1 ?_⟩
    rw [← e]
    exact w1
/-- [.. for x, y in zip(t, u)], tuples of any lengths -/
theorem lcZT (hx : SqT K H a xs) (hy : SqT K H b ys) (I : Nat → List V → Hp → Prop) (hst : Stb I) (hn : xs.length ≤ 1000000) (hI : ∀ i acc H', I i acc H' → acc.length ≤ i) (h0 : ∀ H', Same H H' → I 0 [] H')
    (hs : ∀ i x y acc H', xs[i]? = some x → ys[i]? = some y → Same H H' → I i acc H' → ∀ H2, Same H' H2 → ∀ (k : VK) (k' : Hp → Prop), (∀ z H4, Same H2 H4 → I (i + 1) (acc ++ [z]) H4 → k z H4) → (∀ H3, Same H2 H3 → I (i + 1) acc H3 → k' H3) →
      wipe (((wipe σ vs).set i1 (some x)).set i2 (some y)) vs = wipe σ vs ∧ tt (((wipe σ vs).set i1 (some x)).set i2 (some y)) H2 fun b H3 => if b = true then te (((wipe σ vs).set i1 (some x)).set i2 (some y)) H3 k else k' H3)
    (hd : ∀ D acc H', H D = none → Same H H' → H' D = some (.lst acc) → I (min xs.length ys.length) acc H' → Q (.ref D) H') :
    LcOk (ItzT K a b) (gTup K 2 (gCons (gName i1) (gCons (gName i2) gNil))) tt te vs σ Q H :=
  lc_gen (n := min xs.length ys.length) I hst (by omega) hI h0
    (fun i acc H' hi s1 _ => ⟨xs, ys, xs[i]'(by omega), ys[i]'(by omega), same_t s1 hx, same_t s1 hy, List.getElem?_eq_getElem (by omega), List.getElem?_eq_getElem (by omega)⟩)
    (fun _ _ s1 _ => ⟨xs, ys, same_t s1 hx, same_t s1 hy, by omega⟩)
    (fun i acc v H' H'' hi s1 w1 z => by
      obtain ⟨T, x, y, rfl, hT, rfl, ex, ey⟩ := z
      intro k k' hk hk'
      refine ⟨T, _, rfl, SqT.of upd_same, rfl, _, _, rfl, _, _, rfl, rfl, ?_⟩
      exact hs i x y acc H' (ex xs (same_t s1 hx)) (ey ys (same_t s1 hy)) s1 w1 _ (same_new hT) k k' (fun z H4 e => hk z H4 ((same_new hT).trans e)) fun H3 e => hk' H3 ((same_new hT).trans e))
    hd
theorem w_catL (h : H a = some (.lst xs)) (h2 : H b = some (.lst ys)) (hl : xs.length + ys.length ≤ 1000000) (q : ∀ p H', H p = none → Same H H' → H' p = some (.lst (xs ++ ys)) → Q (.ref p) H') : rAddN K (.ref a) (.ref b) H Q :=
  .inr (.inr (.inl ⟨a, b, xs, ys, rfl, rfl, h, h2, Nat.le_trans hl (by decide), fun p hp => q p _ hp (same_new hp) upd_same⟩))
theorem w_min {ns : List Int} (h : SqL K H a (ns.map V.int)) (h0 : 0 < ns.length) (q : ∀ m, m ∈ ns → (∀ y, y ∈ ns → m ≤ y) → Q (.int m) H) : rMin K [.ref a] H Q := ⟨a, ns, rfl, h, h0, q⟩
def RgNew (Q : VK) (x : V) (H1 : Hp) : Prop := ∃ n : Int, x = .int n ∧ (RgOk 0 n ∧ ∀ q, H1 q = none → Q (.ref q) (upd H1 q (.lst (rgV 0 n))))
theorem w_lstRg {te : TE} (h : te σ H fun x H1 => RgNew Q x H1) : tLstRg (tRg1 te) σ H Q := h
theorem w_rgN {n : Int} (h0 : 0 ≤ n) (h1 : n ≤ 1000000) (q : ∀ p H', H p = none → Same H H' → H' p = some (.lst (((List.range n.toNat).map fun i : Nat => (i : Int)).map V.int)) → Q (.ref p) H') : RgNew Q (.int n) H :=
  ⟨n, rfl, RgOk.of_le (by omega) (by omega) (by omega) (by omega), fun p hp => q p _ hp (same_new hp) (by
    rw [upd_same, List.map_map]
    unfold rgV
    rw [Int.sub_zero]
    have e : (fun i : Nat => V.int (0 + (i : Int))) = V.int ∘ fun i : Nat => (i : Int) := by
      funext i
      show V.int (0 + (i : Int)) = V.int (i : Int)
      rw [Int.zero_add]
    rw [e])⟩
theorem w_neD {v u : V} {d e : PyData} (h : Dq K H v d) (h' : Dq K H u e) (s1 : SeqAt.shaped d = true) (s2 : SeqAt.shaped e = true) (q : Q (.bl (!PyData.eqv d e)) H) : rNeU K v u H Q := .inr ⟨d, e, dq_dp h, dq_dp h', s1, s2, q⟩
theorem w_eqD {v u : V} {d e : PyData} (h : Dq K H v d) (h' : Dq K H u e) (s1 : SeqAt.shaped d = true) (s2 : SeqAt.shaped e = true) (q : Q (.bl (PyData.eqv d e)) H) : rEqU K v u H Q := .inr ⟨d, e, dq_dp h, dq_dp h', s1, s2, q⟩
theorem eqv_nil (ns : List Int) : PyData.eqv (.list (ns.map .int)) (.list []) = decide (ns = []) := by
  cases ns with
  | nil => rfl
  | cons n r => rfl
theorem w_neNil {p : Addr} {ns : List Int} (h : SqL K H a (ns.map V.int)) (h' : SqL K H p []) (q : Q (.bl (!decide (ns = []))) H) : rNeU K (.ref a) (.ref p) H Q :=
  w_neD (.lst h (dqs_ints ns)) (.lst h' .nil) (PySem.W.shaped_ints ns) (PySem.W.shaped_ints []) (by rw [eqv_nil]; exact q)
end
theorem atI_zero {α : Type} {x : α} {r : List α} : atI (x :: r) 0 = some x := by
  unfold atI ixN
  rw [if_pos (by decide), if_pos (by rw [List.length_cons]; omega)]
  rfl
theorem atI_one {α : Type} {x y : α} {r : List α} : atI (x :: y :: r) 1 = some y := by
  unfold atI ixN
  rw [if_pos (by decide), if_pos (by rw [List.length_cons, List.length_cons]; omega)]
  rfl
theorem ints_at {ns : List Int} {i : Nat} {x : V} (h : (ns.map V.int)[i]? = some x) : ∃ n, ns[i]? = some n ∧ x = .int n := by
  rw [List.getElem?_map] at h
  cases e : ns[i]? with
  | none => rw [e] at h; cases h
  | some n => rw [e] at h; exact ⟨n, rfl, (Option.some.inj h).symm⟩
theorem map_at {α : Type} {g : α → PyData} {l : List α} {i : Nat} {d : PyData} (h : (l.map g)[i]? = some d) : ∃ n, l[i]? = some n ∧ d = g n := by
  rw [List.getElem?_map] at h
  cases e : l[i]? with
  | none => rw [e] at h; cases h
  | some n => rw [e] at h; exact ⟨n, rfl, (Option.some.inj h).symm⟩
/-! ### the window's least width (k07) -/
def InWin (w : Int) (os : List Int) (wd bl : Int) : Prop := bl < p2 wd ∧ ∀ o ∈ os, (o + bl) % p2 w < p2 wd
structure Tight (w : Int) (os : List Int) (wd bl : Int) : Prop where
  w0 : 0 ≤ wd
  b0 : 0 ≤ bl
  win : InWin w os wd bl
  least : ∀ wd' bl', 0 ≤ wd' → 0 ≤ bl' → InWin w os wd' bl' → wd ≤ wd' ∧ (wd' = wd → bl ≤ bl')
theorem Tight.one {w : Int} {os : List Int} {wd bl wd' bl' : Int} (h : Tight w os wd bl) (h' : Tight w os wd' bl') : wd = wd' ∧ bl = bl' := by
  have a := h.least wd' bl' h'.w0 h'.b0 h'.win
  have b := h'.least wd bl h.w0 h.b0 h.win
  have e : wd = wd' := by omega
  have c := a.2 e.symm
  have d := b.2 e
  exact ⟨e, by omega⟩
theorem least_of {α : Type} (f : α → Int) : ∀ (a : α) (l : List α), ∃ m ∈ a :: l, ∀ x ∈ a :: l, f m ≤ f x
  | a, [] => ⟨a, List.mem_cons_self, fun x hx => by rw [List.mem_singleton.mp hx]; exact Int.le_refl _⟩
  | a, b :: r => by
    obtain ⟨m, hm, h⟩ := least_of f b r
    by_cases c : f a ≤ f m
    · refine ⟨a, List.mem_cons_self, fun x hx => ?_⟩
      rcases List.mem_cons.mp hx with rfl | hx
      · exact Int.le_refl _
      · exact Int.le_trans c (h x hx)
    · refine ⟨m, List.mem_cons_of_mem _ hm, fun x hx => ?_⟩
      rcases List.mem_cons.mp hx with rfl | hx
      · omega
      · exact h x hx
/-- below some place where an offset or nought begins, it is no worse -/
theorem win_cand {w : Int} {os : List Int} {wd bl : Int} (hw : wd ≤ w) (b0 : 0 ≤ bl) (h : InWin w os wd bl) : ∃ c, 0 ≤ c ∧ c ≤ bl ∧ InWin w os wd c ∧ (c = 0 ∨ ∃ o ∈ os, c = (0 - o) % p2 w) := by
  have pw := p2_pos w
  have le := p2_le hw
  have nn : ∀ x, 0 ≤ x % p2 w := fun x => Int.emod_nonneg _ (Int.ne_of_gt pw)
  obtain ⟨m, hm, hl⟩ := least_of (fun o => (o + bl) % p2 w) 0 os
  have hb : (0 + bl) % p2 w = bl := by rw [Int.zero_add]; exact Int.emod_eq_of_lt b0 (by have := h.1; omega)
  have h0 : (m + bl) % p2 w ≤ bl := by
    have z : (m + bl) % p2 w ≤ (0 + bl) % p2 w := hl 0 List.mem_cons_self
    omega
  have d0 := nn (m + bl)
  have e1 := Int.mul_ediv_add_emod (m + bl) (p2 w)
  refine ⟨bl - (m + bl) % p2 w, by omega, by omega, ⟨by have := h.1; omega, fun o ho => ?_⟩, ?_⟩
  · have e2 := Int.mul_ediv_add_emod (o + bl) (p2 w)
    have z : (m + bl) % p2 w ≤ (o + bl) % p2 w := hl o (List.mem_cons_of_mem _ ho)
    have z2 := h.2 o ho
    have lt := Int.emod_lt_of_pos (o + bl) pw
    have e3 : o + (bl - (m + bl) % p2 w) = ((o + bl) % p2 w - (m + bl) % p2 w) + p2 w * ((o + bl) / p2 w) := by omega
    rw [e3, Int.add_mul_emod_self_left, Int.emod_eq_of_lt (by omega) (by omega)]
    omega
  · rcases List.mem_cons.mp hm with rfl | hm
    · left
      omega
    · right
      refine ⟨m, hm, ?_⟩
      have e3 : 0 - m = (bl - (m + bl) % p2 w) + p2 w * (-((m + bl) / p2 w)) := by
        rw [Int.mul_neg]
        omega
      have lt := h.1
      rw [e3, Int.add_mul_emod_self_left]
      exact (Int.emod_eq_of_lt (by omega) (by omega)).symm
theorem tight_of {w : Int} {os : List Int} {wd bl : Int} (w0 : 0 ≤ wd) (hw : wd ≤ w) (b0 : 0 ≤ bl) (win : InWin w os wd bl)
    (least : ∀ wd' c, 0 ≤ wd' → wd' ≤ w → 0 ≤ c → InWin w os wd' c → (c = 0 ∨ ∃ o ∈ os, c = (0 - o) % p2 w) → wd ≤ wd' ∧ (wd' = wd → bl ≤ c)) : Tight w os wd bl := by
  refine ⟨w0, b0, win, fun wd' bl' h0 h1 hi => ?_⟩
  by_cases c : wd' ≤ w
  · obtain ⟨x, x0, x1, x2, x3⟩ := win_cand c h1 hi
    have z := least wd' x h0 c x0 x2 x3
    exact ⟨z.1, fun e => Int.le_trans (z.2 e) x1⟩
  · exact ⟨by omega, fun e => by omega⟩
end Sh
/-! sets of a list of ints, sorted -/
namespace Sh
open PySem PySem.Spec PyProof.Rows L2
section
variable {K : PySem.W.Frag} {σ : L2.St} {H : Hp} {Q : VK} {te : TE} {tt : TT} {tA : TA} {tb : TS} {nx : L2.St → Hp → Prop} {rt : VK} {a b : Addr} {xs ys : List V} {i1 i2 : Nat} {vs : List Nat}
theorem w_setL {w : World} {ns : List Int} (h : SqL K H a (ns.map V.int)) (hl : ns.length ≤ 60) (q : ∀ p c H', H p = none → Same H H' → c ≤ ns.length → H' p = some (SetO w p (fun j => decide (j ∈ ns)) c) → Q (.ref p) H') : rSetL K w [.ref a] H Q :=
  ⟨a, ns, rfl, h, hl, fun p c hp hc => q p c _ hp (same_new hp) hc upd_same⟩
theorem w_sortedSet {w : World} {S : Int → Bool} {n : Nat} (h : H a = some (SetO w a S n)) (hn : n < 64) (q : ∀ (ns : List Int) p H', ns.Pairwise (· < ·) → (∀ k, k ∈ ns ↔ S k = true) → ns.length = n → H p = none → Same H H' → H' p = some (.lst (ns.map V.int)) → Q (.ref p) H') : rSortedSet w [.ref a] H Q :=
  ⟨a, S, n, rfl, h, hn, fun ns p h1 h2 h3 hp => q ns p _ h1 h2 h3 hp (same_new hp) upd_same⟩
end
end Sh
/-! texts: walked, made lists and tuples of, joined from behind -/
namespace Sh
open PySem PySem.Spec PyProof.Rows L2
/-- a text's signs, each a text -/
def chs (z : Str) : List V := z.cps.toList.map fun c => V.str ⟨#[c]⟩
theorem chs_len (z : Str) : (chs z).length = z.length := by
  unfold chs
  rw [List.length_map, Array.length_toList]
  rfl
theorem chs_vals {z : Str} {acc : Array Value} (h : ItemsOf (SignAt z) acc z.cps.size) : Vals (chs z) acc.toList := by
  refine vals_of_at ?_ fun j x u h1 h2 => ?_
  · unfold chs
    rw [List.length_map, Array.length_toList, Array.length_toList, h.1]
  · rw [Array.getElem?_toList] at h2
    obtain ⟨c, t, e1, rfl⟩ := h.2 j u h2
    unfold chs at h1
    rw [List.getElem?_map, Array.getElem?_toList, e1] at h1
    cases h1
    exact ⟨t, rfl⟩
def callor {X : Cx} {f : Value} {r r' : List V → Hp → VK → Prop} (h : CallR X f r) (h' : CallR X f r') : CallR X f (fun vs H Q => r vs H Q ∨ r' vs H Q) := by
  intro pins s σ H vs us Q I rv q
  rcases q with q | q
  · exact h pins s σ H vs us Q I rv q
  · exact h' pins s σ H vs us Q I rv q
section
variable {X : Cx}
def rListStr : List V → Hp → VK → Prop := fun vs H Q => ∃ z, vs = [.str z] ∧ z.length ≤ sizeLine ∧ ∀ p, H p = none → Q (.ref p) (upd H p (.lst (chs z)))
theorem call_listStr (hc : X.calm = true) : CallR X (.type "list") rListStr := by
  intro pins s σ H vs us Q I r h
  obtain ⟨z, rfl, hz, q⟩ := h
  obtain ⟨u, rfl, ru⟩ := vals1 r
  obtain ⟨t, rfl⟩ := ru
  refine call_list_str (I.ok.hd hc) z t (fun h' tk acc c k e hi => ?_) hz
  refine ⟨.ref s.heap.objs.size, upd H s.heap.objs.size (.lst (chs z)), I.laid (t' := tk) k (Nat.le_refl _) ⟨?_, acc.toList, c, chs_vals hi, ?_⟩, rfl, q _ (I.hok.fresh (Nat.le_refl _))⟩
  · rw [chs_len]
    exact hz
  · rw [Array.toArray_toList]
    exact e
def rTupStr : List V → Hp → VK → Prop := fun vs H Q => ∃ z, vs = [.str z] ∧ z.length ≤ sizeLine ∧ ∀ (p : Addr) (o : Obj), H p = none → o.dict = none → Q (.ref p) (upd H p (.frz o (.tup (chs z))))
theorem call_tupStr (hc : X.calm = true) : CallR X (.type "tuple") rTupStr := by
  intro pins s σ H vs us Q I r h
  obtain ⟨z, rfl, hz, q⟩ := h
  obtain ⟨u, rfl, ru⟩ := vals1 r
  obtain ⟨t, rfl⟩ := ru
  refine call_tuple_str (I.ok.hd hc) z t (fun h' tk acc k hi => ?_) hz
  have I1 : Inv X pins σ H { s with heap := h', toks := tk } := I.kept k
  have hg := Heap.get?_push_size h' (o := { cls := .type "tuple", data := .seq acc }) rfl
  refine ⟨.ref h'.objs.size, upd H h'.objs.size (.frz { cls := .type "tuple", data := .seq acc } (.tup (chs z))), I1.laid (t' := tk) (fun b o e => Heap.get?_push_of_some _ e) (Nat.le_refl _) ⟨hg, ?_, acc.toList, chs_vals hi, ⟨_, hg, rfl, ?_⟩⟩, rfl, q _ _ (I1.hok.fresh (Nat.le_refl _)) rfl⟩
  · rw [chs_len]
    exact hz
  · exact ⟨0, by rw [Array.toArray_toList]⟩
def rListU (K : PySem.W.Frag) : List V → Hp → VK → Prop := fun vs H Q => rListOf K vs H Q ∨ rListStr vs H Q
theorem u_list (hc : X.calm = true) : CallR X (.type "list") (rListU X.K) := callor call_list_of (call_listStr hc)
def rTupleU (K : PySem.W.Frag) : List V → Hp → VK → Prop := fun vs H Q => rTupleOfN K vs H Q ∨ rTupStr vs H Q
theorem u_tuple (hc : X.calm = true) : CallR X (.type "tuple") (rTupleU X.K) := callor call_tuple_ofN (call_tupStr hc)
/-- s.index(t), found -/
def rIndexS : V → List V → Hp → VK → Prop := fun x xs H Q => ∃ (a b : Str) (k : Nat), x = .str a ∧ xs = [.str b] ∧ (∃ r, Builtin.Str.occurrences a b 0 a.length 1 = k :: r) ∧ Q (.int (k : Nat)) H
theorem mt_indexS : MtR X "str.index" rIndexS := by
  intro pins s σ H x xs v us Q I rx rs h
  obtain ⟨a, b, k, rfl, rfl, ⟨r, e⟩, q⟩ := h
  obtain ⟨t, rfl⟩ := rx
  obtain ⟨u, rfl, u2, rfl⟩ := vals1 rs
  exact PySem.SC.index e ⟨.int (k : Nat), H, I.tok _, ⟨_, rfl⟩, q⟩
/-! ### sep.join(reversed(xs)) -/
theorem join_rev {prog : Program} {w : World} {A : Around} {E : Value → Shared → Prop} {s : Shared} {x : Str} {t : Tok} {Q : Value → Shared → Prop} {it l : Addr} {items : Array Value} (hh : A.handled = none)
    (hit : s.heap.IsRevIter it l ((items.size : Int) - 1)) (hl : s.heap.IsList l items) (hne : l ≠ it) (hn : items.size ≤ sizeLine)
    (hq : ∀ (h' : Heap) (acc : Array Value), (∀ b o, b ≠ it → s.heap.get? b = some o → h'.get? b = some o) → ItemsOf (fun i v => items[items.size - 1 - i]? = some v) acc items.size → ∃ k : List (Str × Tok), acc.toList = strValues k ∧ JoinOk x (k.map (·.1)) = true ∧ ∀ t' tk, Q (.str (Txt.join x (k.map (·.1))) t') { s with heap := h', toks := tk }) :
    wpAny (model prog w) A (call (.builtin "str.join") [.str x t, .ref it]) Q E s := by
  refine wpAny_call (codeAny_call_builtin F.slot_str_join.plain F.entry_str_join (F.slot_str_join.check _ _ _ _ _ _ _ _ (typeIs_str _ _ _) (F.args_str_join_2 _ _) ?_))
  rw [join_tree_other]
  refine wpAny_bind (wpAny_typeOf hit.typeIs ?_)
  show wpAny _ A.in1 ((pyIter (.ref it)).tryCatch _ >>= fun it => collect it >>= fun items => joinTail x items) _ _ s
  refine wpAny_bind (wpAny_tryCatch (wpAny_pyIter_revIter hit ?_))
  refine wpAny_bind (RT.collect_rev (A := A.in1) hh hit hl hne hn fun h' tk acc hk hacc => ?_)
  obtain ⟨k, ek, hok, hpost⟩ := hq h' acc hk hacc
  rw [ek]
  unfold JoinOk at hok
  rw [Bool.not_eq_true'] at hok
  have g : Gives (joinTail x (strValues k)) (joinMade x k) := by
    have g0 := gives_joinTail x k hok
    cases k with
    | nil => exact g0
    | cons p r => cases r with
      | nil => exact g0
      | cons q r' => exact g0
  exact g prog w A (wants Q E) _ (post_join k ⟨joinFit_length hok, fun t' tk' => hpost t' tk'⟩)
def tJoinRev (K : PySem.W.Frag) (to te : TE) : TE := fun σ H Q => to σ H fun x H1 => (∃ a, x = .str a) ∧ te σ H1 fun y H2 => ∃ (a : Str) (p : Addr) (ys : List Str), x = .str a ∧ y = .ref p ∧ SqL K H2 p (ys.map V.str) ∧ (ys.map (·.length)).sum + ys.length * a.length ≤ 16777216 ∧ Q (.str (Txt.join a ys.reverse)) H2
theorem pe_joinRev {o e : Expr} {to te : TE} {p2 pos2 apos pos : Pos} (hc : X.calm = true) (hg2 : Gl X "reversed") (hm2 : X.mg "reversed" = none) (ho : PE X o to) (he : PE X e te)
    (hs : starEach [e] X.env = (false, eval e X.env) :: starEach [] X.env := by rfl)
    (hs2 : starEach [.Call (.Name "reversed" p2) [e] [] pos2] X.env = [(false, eval (.Call (.Name "reversed" p2) [e] [] pos2) X.env)] := by rfl)
    (hbase : attributeBase o "join" X.env (eval o X.env) = eval o X.env := by rfl) (hline : (apos.endLine == pos.line) = true := by rfl) :
    PE X (.Call (.Attribute o "join" apos) [.Call (.Name "reversed" p2) [e] [] pos2] [] pos) (tJoinRev X.K to te) := by
  refine ⟨fun pins s σ H Q I h => ?_⟩
  refine PySem.Call_method1 hbase hs2 hline (thn (ho.run pins s σ H _ I h) fun v s1 z => ?_)
  obtain ⟨x, H1, I1, r1, ⟨a, rfl⟩, q1⟩ := z
  obtain ⟨t, rfl⟩ := _root_.id r1
  refine ⟨"str", _, F.plainAttrs_str, F.slot_str_join, F.type_str_join, typeIs_str _ _ _, (fun _ e => nomatch e), Calls.callWith_builtin rfl (Calls.evalArgs_plain (Calls.spliced_cons ?_))⟩
  refine Call_ (ld_blt I1 hg2 hm2 PyProof.Rows.boot_reversed (PyProof.Rows.callWith_type1 (args_cons (thn (he.run pins s1 σ H1 _ I1 q1) fun u s2 z => args_nil ?_) hs) hs rfl))
  obtain ⟨y, H2, I2, r2, a', p, ys, ea, rfl, hq, hz, q⟩ := z
  cases ea
  obtain rfl : u = Value.ref p := r2
  obtain ⟨its, rv, p', hz2⟩ := I2.list hq
  refine call_reversed_list p'.isList (Calls.spliced_nil ?_)
  have k0 : ∀ b o, s2.heap.get? b = some o → (s2.heap.push (revObj p ((its.toArray.size : Int) - 1))).get? b = some o := fun b o e => Heap.get?_push_of_some _ e
  have I3 : Inv X pins σ H2 { s2 with heap := s2.heap.push (revObj p ((its.toArray.size : Int) - 1)) } := I2.kept (t' := s2.toks) k0
  obtain ⟨f0, f1, f2, f3, f4, f5⟩ := I2.fpOk (H' := H2) (b := s2.heap.objs.size) (Nat.le_refl _) (I2.hok.fresh (Nat.le_refl _))
  have hl := p'.isList
  obtain ⟨ol, hol, _⟩ := _root_.id hl
  have hne : p ≠ s2.heap.objs.size := Nat.ne_of_lt (Heap.lt_size hol)
  have hn : its.toArray.size ≤ sizeLine := by rw [List.size_toArray, ← rv.length]; exact hz2
  refine join_rev (s := { s2 with heap := s2.heap.push (revObj p ((its.toArray.size : Int) - 1)) }) (I2.ok.hd hc) ⟨_, Heap.get?_push_size _ rfl, rfl, rfl⟩ (hl.push _) hne hn fun h' acc hk hi => ?_
  have r4 := RT.vals_rev rv hi
  rw [← List.map_reverse] at r4
  obtain ⟨k, hv, ht⟩ := strsAre_values (strs_of_vals r4)
  refine ⟨k, hv, ?_, fun t' tk => ?_⟩
  · rw [ht]
    refine joinOk_of ?_
    rw [List.map_reverse, List.sum_reverse, List.length_reverse]
    exact hz
  · rw [ht]
    exact ⟨.str _, H2, I3.turned (t' := tk) (fun b o hb e => hk b o hb e) f0 f1 f3 f4 f5, ⟨t', rfl⟩, q⟩
end
section
variable {K : PySem.W.Frag} {σ : L2.St} {H : Hp} {Q : VK} {to te : TE} {z a b : Str} {ys : List Str} {p : Addr} {tA : TA}
theorem w_joinRev (h : to σ H fun x H1 => (∃ a, x = .str a) ∧ te σ H1 fun y H2 => ∃ (a : Str) (p : Addr) (ys : List Str), x = .str a ∧ y = .ref p ∧ SqL K H2 p (ys.map V.str) ∧ (ys.map (·.length)).sum + ys.length * a.length ≤ 16777216 ∧ Q (.str (Txt.join a ys.reverse)) H2) : tJoinRev K to te σ H Q := h
theorem w_isS {R : Prop} (q : R) : (∃ c, V.str a = .str c) ∧ R := ⟨⟨a, rfl⟩, q⟩
theorem w_joinR (h : SqL K H p (ys.map V.str)) (hz : (ys.map (·.length)).sum + ys.length * a.length ≤ 16777216) (q : Q (.str (Txt.join a ys.reverse)) H) :
    ∃ (a' : Str) (p' : Addr) (ys : List Str), V.str a = .str a' ∧ V.ref p = .ref p' ∧ SqL K H p' (ys.map V.str) ∧ (ys.map (·.length)).sum + ys.length * a'.length ≤ 16777216 ∧ Q (.str (Txt.join a' ys.reverse)) H := ⟨a, p, ys, rfl, rfl, h, hz, q⟩
theorem w_listStr (h : z.length ≤ sizeLine) (q : ∀ p H', H p = none → Same H H' → H' p = some (.lst (chs z)) → Q (.ref p) H') : rListU K [.str z] H Q := .inr ⟨z, rfl, h, fun p hp => q p _ hp (same_new hp) upd_same⟩
theorem w_listUL {xs : List V} (h : SqL K H p xs) (q : ∀ p H', H p = none → Same H H' → H' p = some (.lst xs) → Q (.ref p) H') : rListU K [.ref p] H Q := .inl (w_listL h q)
theorem w_listUT {xs : List V} (h : SqT K H p xs) (q : ∀ p H', H p = none → Same H H' → H' p = some (.lst xs) → Q (.ref p) H') : rListU K [.ref p] H Q := .inl (w_listT h q)
theorem w_tupStr (h : z.length ≤ sizeLine) (q : ∀ p H', H p = none → Same H H' → TupN H' p (chs z) → Q (.ref p) H') : rTupleU K [.str z] H Q := .inr ⟨z, rfl, h, fun p o hp hd => q p _ hp (same_new hp) ⟨o, hd, upd_same⟩⟩
theorem w_tupleUN {xs : List V} (h : SqL K H p xs) (q : ∀ p H', H p = none → Same H H' → TupN H' p xs → Q (.ref p) H') : rTupleU K [.ref p] H Q := .inl (w_tupleN h q)
theorem w_tupleUT {xs : List V} (h : SqT K H p xs) (q : Q (.ref p) H) : rTupleU K [.ref p] H Q := .inl (w_tupleT h q)
theorem w_indexS {k : Nat} (h : ∃ r, Builtin.Str.occurrences a b 0 a.length 1 = k :: r) (q : Q (.int (k : Nat)) H) : rIndexS (.str a) [.str b] H Q := ⟨a, b, k, rfl, rfl, h, q⟩
abbrev rJoinU (K : PySem.W.Frag) : V → List V → Hp → VK → Prop := fun x xs H Q => ∃ a p, ∃ ys : List Str, x = .str a ∧ xs = [.ref p] ∧ (SqL K H p (ys.map V.str) ∨ SqT K H p (ys.map V.str)) ∧ (ys.map (·.length)).sum + ys.length * a.length ≤ 16777216 ∧ Q (.str (Txt.join a ys)) H
theorem w_m1 {r : V → List V → Hp → VK → Prop} (h : to σ H fun x H1 => (∃ a, x = .str a) ∧ te σ H1 fun y H2 => r x [y] H2 Q) : tM1 r to te σ H Q := h
theorem w_joinL (h : SqL K H p (ys.map V.str)) (hz : (ys.map (·.length)).sum + ys.length * a.length ≤ 16777216) (q : Q (.str (Txt.join a ys)) H) : rJoinU K (.str a) [.ref p] H Q := ⟨a, p, ys, rfl, rfl, .inl h, hz, q⟩
theorem w_joinT (h : SqT K H p (ys.map V.str)) (hz : (ys.map (·.length)).sum + ys.length * a.length ≤ 16777216) (q : Q (.str (Txt.join a ys)) H) : rJoinU K (.str a) [.ref p] H Q := ⟨a, p, ys, rfl, rfl, .inr h, hz, q⟩
theorem w_muls {n : Int} (hm : MulOk a n) (q : Q (.str (Txt.mul a n)) H) : rMulU K (.str a) (.int n) H Q := .inr (.inr (.inl ⟨a, n, rfl, rfl, hm, q⟩))
theorem w_inS {c : Nat} (q : Q (.bl (decide (c ∈ z.cps.toList))) H) : rInU K (.str ⟨#[c]⟩) (.str z) H Q := .inr ⟨c, z, rfl, rfl, q⟩
end
section
variable {K : PySem.W.Frag} {σ : L2.St} {H : Hp} {Q : VK} {te : TE} {tt : TT} {g : TG} {vs : List Nat} {tb : TS} {nx : L2.St → Hp → Prop} {rt : VK} {z : Str}
/-- [.. for c in z], z a text -/
theorem lcS (I : Nat → List V → Hp → Prop) (hst : Stb I) (hn : z.length ≤ 1000000) (hI : ∀ i acc H', I i acc H' → acc.length ≤ i) (h0 : ∀ H', Same H H' → I 0 [] H')
    (hs : ∀ i c acc H', z.cps.toList[i]? = some c → Same H H' → I i acc H' → ∀ (k : VK) (k' : Hp → Prop), (∀ y H4, Same H' H4 → I (i + 1) (acc ++ [y]) H4 → k y H4) → (∀ H3, Same H' H3 → I (i + 1) acc H3 → k' H3) →
      g (.str ⟨#[c]⟩) (wipe σ vs) H' fun σ2 H2 => wipe σ2 vs = wipe σ vs ∧ tt σ2 H2 fun b H3 => if b = true then te σ2 H3 k else k' H3)
    (hd : ∀ D acc H', H D = none → Same H H' → H' D = some (.lst acc) → I z.length acc H' → Q (.ref D) H') : LcOk (Its z) g tt te vs σ Q H :=
  lc_gen (n := z.length) I hst hn hI h0 (fun i acc H' hi _ _ => hi) (fun _ _ _ _ => Nat.le_refl _) (fun i acc x H' H'' hi s1 w1 y => by
    obtain ⟨e1, c, e2, e3⟩ := y
    subst e1
    subst e3
    exact hs i c acc _ (by rw [Array.getElem?_toList]; exact e2) s1 w1) hd
/-- for c in z, z a text -/
theorem forS (I : Nat → L2.St → Hp → Prop) (h0 : I 0 σ H)
    (hs : ∀ (i : Nat) c σ' H', z.cps.toList[i]? = some c → I i σ' H' → g (.str ⟨#[c]⟩) σ' H' fun σ2 H2 => tb ⟨I (i + 1), rt, nx, I (i + 1)⟩ σ2 H2) (hd : ∀ σ' H', I z.length σ' H' → nx σ' H') : ForOk (Its z) g tb nx rt σ H := by
  refine ⟨fun i m σ' H' => m = z.length - i ∧ i ≤ z.length ∧ I i σ' H', ⟨_, rfl, Nat.zero_le _, h0⟩, fun i m σ' H1 ⟨em, hi, w1⟩ => ?_⟩
  by_cases hlt : i < z.length
  · refine .inr ⟨hlt, I (i + 1), fun σ2 H2 w2 => ⟨_, by omega, rfl, hlt, w2⟩, fun v H2 y => ?_⟩
    obtain ⟨e1, c, e2, e3⟩ := y
    subst e1
    subst e3
    exact hs i c σ' _ (by rw [Array.getElem?_toList]; exact e2) w1
  · have e : i = z.length := by omega
    subst e
    exact .inl ⟨Nat.le_refl _, hd σ' H1 w1⟩
end
/-! ### a text's signs -/
abbrev cz (z : Str) : List Nat := z.cps.toList
theorem cz_len (z : Str) : (cz z).length = z.length := Array.length_toList
theorem cz_app (a b : Str) : cz (a ++ b) = cz a ++ cz b := by
  show (a.cps ++ b.cps).toList = _
  rw [Array.toList_append]
theorem cz_inj {a b : Str} (h : cz a = cz b) : a = b := by
  obtain ⟨x⟩ := a
  obtain ⟨y⟩ := b
  have e : x = y := Array.toList_inj.mp h
  rw [e]
theorem cz_fold (g : Array Nat) : ∀ (ys : List Str) (acc : Array Nat), (ys.foldl (fun acc p => acc ++ g ++ p.cps) acc).toList = acc.toList ++ (ys.map fun p => g.toList ++ cz p).flatten
  | [], acc => by simp
  | y :: r, acc => by
    rw [List.foldl_cons, cz_fold g r, Array.toList_append, Array.toList_append, List.map_cons, List.flatten_cons, List.append_assoc, List.append_assoc, List.append_assoc]
theorem cz_join (ys : List Str) : cz (Txt.join "" ys) = (ys.map cz).flatten := by
  cases ys with
  | nil => rfl
  | cons y r =>
    show ((r.foldl (fun acc p => acc ++ ("" : Str).cps ++ p.cps) y.cps)).toList = _
    rw [cz_fold]
    rw [List.map_cons, List.flatten_cons]
    rfl
theorem cz_mulfold (x : Array Nat) : ∀ (n : Nat) (acc : Array Nat), ((List.replicate n x).foldl (· ++ ·) acc).toList = acc.toList ++ (List.replicate n x.toList).flatten
  | 0, acc => by simp
  | n + 1, acc => by
    rw [List.replicate_succ, List.foldl_cons, cz_mulfold x n, Array.toList_append, List.replicate_succ, List.flatten_cons, List.append_assoc]
theorem cz_mul {a : Str} {n : Int} : cz (Txt.mul a n) = (List.replicate n.toNat (cz a)).flatten := by
  unfold Txt.mul
  by_cases h : n < 1
  · rw [if_pos h, show n.toNat = 0 by omega]
    rfl
  · rw [if_neg h]
    by_cases h2 : (n == 1 || a.length == 0) = true
    · rw [if_pos h2]
      rcases Bool.or_eq_true_iff.mp h2 with e | e
      · have e2 : n = 1 := eq_of_beq e
        subst e2
        show cz a = (cz a) ++ []
        rw [List.append_nil]
      · have e2 : (cz a).length = 0 := by rw [cz_len]; exact eq_of_beq e
        rw [List.eq_nil_of_length_eq_zero e2]
        simp
    · rw [if_neg h2]
      show ((List.replicate n.toNat a.cps).foldl (· ++ ·) #[]).toList = _
      rw [cz_mulfold]
      simp
theorem cz_cut (z : Str) (lo hi : Option Int) : cz (cutS z lo hi) = cutD (cz z) lo hi := by
  unfold cutS cutD
  show (List.toArray _).toList = _
  rw [List.toList_toArray, cz_len]
theorem mul_ok {a : Str} {n : Int} (h0 : 0 ≤ n) (h1 : n ≤ 1000000) (h2 : a.length ≤ 8) : MulOk a n := by
  refine ⟨by simp only [Bool.or_eq_false_iff, decide_eq_false_iff_not]; omega, fun h _ => ?_, fun _ _ => ?_⟩
  · have h3 : ((a.length : Nat) : Int) * n ≤ 8 * n := Int.mul_le_mul_of_nonneg_right (by omega) h0
    have e : ((2 : Int) ^ 63 - 1) = 9223372036854775807 := by decide
    rw [e]
    have h4 : ((a.length : Nat) : Int) ≤ 9223372036854775807 / n := Int.le_ediv_of_mul_le (by omega) (by omega)
    omega
  · unfold Builtin.Str.tooLong
    have h3 : a.length * n.toNat ≤ 8 * n.toNat := Nat.mul_le_mul_right _ h2
    rw [decide_eq_false_iff_not, sizeLine_eq]
    omega
/-! ### dicts -/
section
variable {σ : L2.St} {H : Hp} {Q : VK}
theorem w_dnewK (q : ∀ p H', H p = none → Same H H' → H' p = some (.dK []) → Q (.ref p) H') : tDNewK σ H Q := fun p hp => q p _ hp (same_new hp) upd_same
theorem w_disp1 {k : Str} {x : V} (q : ∀ p H' kvs, H p = none → Same H H' → H' p = some (.dK kvs) → Q (.ref p) H') : tDisp [(tC (.str k), tC x)] σ H Q := fun p hp =>
  ⟨upd_same, [(.inr k, x)], rfl, (by decide : 1 ≤ 15), q p _ _ hp (same_mut (same_new hp) hp) upd_same⟩
end
/-! ### numbers and their bits -/
section
variable {H : Hp} {Q : VK}
abbrev rDivmod : List V → Hp → VK → Prop := fun xs H Q => ∃ i j, xs = [V.int i, V.int j] ∧ CDivP i j ∧ ∀ p, H p = none → Q (.ref p) (upd H p (.tup [.int (i / j), .int (i % j)]))
theorem w_divmod2 {i : Int} (q : ∀ p H', H p = none → Same H H' → H' p = some (.tup [.int (i / 2), .int (i % 2)]) → Q (.ref p) H') : rDivmod [.int i, .int 2] H Q :=
  ⟨i, 2, rfl, ⟨by decide, PyProof.noPylong_small (by decide)⟩, fun p hp => q p _ hp (same_new hp) upd_same⟩
end
/-- the place's sign -/
def sgn (n : Int) (i : Nat) : Nat := 48 + (n / 2 ^ i % 2).toNat
/-- the bits, the least place first -/
def lowB (n : Int) (w : Nat) : List Nat := (List.range w).map (sgn n)
def bitsT (n : Int) (w : Nat) : Str := ⟨(lowB n w).reverse.toArray⟩
theorem cz_bitsT (n : Int) (w : Nat) : cz (bitsT n w) = (lowB n w).reverse := List.toList_toArray
theorem lowB_len (n : Int) (w : Nat) : (lowB n w).length = w := by
  unfold lowB
  rw [List.length_map, List.length_range]
theorem len_bitsT (n : Int) (w : Nat) : (bitsT n w).length = w := by rw [← cz_len, cz_bitsT, List.length_reverse, lowB_len]
theorem lowB_snoc (n : Int) (w : Nat) : lowB n (w + 1) = lowB n w ++ [sgn n w] := by
  unfold lowB
  rw [List.range_succ, List.map_append]
  rfl
theorem lowB_cons (n : Int) (w : Nat) : lowB n (w + 1) = (48 + (n % 2).toNat) :: lowB (n / 2) w := by
  unfold lowB
  rw [List.range_succ_eq_map, List.map_cons, List.map_map]
  congr 1
  · show sgn n 0 = _
    unfold sgn
    rw [Int.pow_zero, Int.ediv_one]
  · refine List.map_congr_left fun i _ => ?_
    show sgn n (i + 1) = sgn (n / 2) i
    unfold sgn
    have e : n / 2 ^ (i + 1) = n / 2 / 2 ^ i := by
      rw [Int.ediv_ediv_of_nonneg (by decide), Int.pow_succ, Int.mul_comm]
    rw [e]
theorem sgn_01 (n : Int) (i : Nat) : sgn n i = 48 ∨ sgn n i = 49 := by
  unfold sgn
  omega
theorem lowB_01 (n : Int) (w : Nat) : ∀ c ∈ lowB n w, c = 48 ∨ c = 49 := fun c hc => by
  obtain ⟨i, _, rfl⟩ := List.mem_map.mp hc
  exact sgn_01 n i
/-- the number of a row of bits, the least place first -/
def valL : List Nat → Int
  | [] => 0
  | c :: r => ((c : Int) - 48) + 2 * valL r
def numT (z : Str) : Int := valL (cz z).reverse
theorem valL_low : ∀ (w : Nat) (n : Int), 0 ≤ n → n < 2 ^ w → valL (lowB n w) = n
  | 0, n, h0, h1 => by
    have h1' : n < 1 := h1
    have e : n = 0 := by omega
    subst e
    rfl
  | w + 1, n, h0, h1 => by
    rw [Int.pow_succ] at h1
    rw [lowB_cons]
    show (((48 + (n % 2).toNat : Nat) : Int) - 48) + 2 * valL (lowB (n / 2) w) = n
    rw [valL_low w (n / 2) (by omega) (by omega)]
    omega
theorem low_valL : ∀ l : List Nat, (∀ c ∈ l, c = 48 ∨ c = 49) → lowB (valL l) l.length = l
  | [], _ => rfl
  | c :: r, h => by
    rw [List.length_cons, lowB_cons]
    have hc := h c List.mem_cons_self
    have e1 : valL (c :: r) = ((c : Int) - 48) + 2 * valL r := rfl
    have e2 : valL (c :: r) / 2 = valL r := by
      rw [e1]
      omega
    have e3 : 48 + (valL (c :: r) % 2).toNat = c := by
      rw [e1]
      omega
    rw [e2, e3, low_valL r fun x hx => h x (List.mem_cons_of_mem _ hx)]
theorem valL_snoc (c : Nat) : ∀ l : List Nat, valL (l ++ [c]) = valL l + 2 ^ l.length * ((c : Int) - 48)
  | [] => by
    show ((c : Int) - 48) + 2 * 0 = 0 + 1 * ((c : Int) - 48)
    omega
  | x :: r => by
    rw [List.cons_append, List.length_cons]
    show ((x : Int) - 48) + 2 * valL (r ++ [c]) = ((x : Int) - 48) + 2 * valL r + 2 ^ (r.length + 1) * ((c : Int) - 48)
    rw [valL_snoc c r, Int.pow_succ, Int.mul_add, Int.mul_comm (2 ^ r.length) 2, Int.mul_assoc]
    omega
theorem valL_bound : ∀ l : List Nat, (∀ c ∈ l, c = 48 ∨ c = 49) → 0 ≤ valL l ∧ valL l < 2 ^ l.length
  | [], _ => ⟨Int.le_refl _, by decide⟩
  | c :: r, h => by
    have hc := h c List.mem_cons_self
    have ih := valL_bound r fun x hx => h x (List.mem_cons_of_mem _ hx)
    have e1 : valL (c :: r) = ((c : Int) - 48) + 2 * valL r := rfl
    rw [List.length_cons, Int.pow_succ, e1]
    omega
theorem numT_bits {n : Int} {w : Nat} (h0 : 0 ≤ n) (h1 : n < 2 ^ w) : numT (bitsT n w) = n := by
  unfold numT
  rw [cz_bitsT, List.reverse_reverse]
  exact valL_low w n h0 h1
theorem bits_numT {z : Str} (h : ∀ c ∈ cz z, c = 48 ∨ c = 49) : bitsT (numT z) z.length = z := by
  refine cz_inj ?_
  rw [cz_bitsT]
  have e := low_valL (cz z).reverse fun c hc => h c (List.mem_reverse.mp hc)
  rw [List.length_reverse, cz_len] at e
  unfold numT
  rw [e, List.reverse_reverse]
theorem bits_01 {n : Int} {w : Nat} : ∀ c ∈ cz (bitsT n w), c = 48 ∨ c = 49 := fun c hc => by
  rw [cz_bitsT] at hc
  exact lowB_01 n w c (List.mem_reverse.mp hc)
theorem join_ones (l : List Nat) : Txt.join "" ((l.map fun c => (⟨#[c]⟩ : Str)).reverse) = ⟨l.reverse.toArray⟩ := by
  refine cz_inj ?_
  rw [cz_join, ← List.map_reverse, List.map_map]
  show ((l.reverse.map fun c => [c])).flatten = l.reverse.toArray.toList
  rw [List.toList_toArray]
  induction l.reverse with
  | nil => rfl
  | cons c r ih => rw [List.map_cons, List.flatten_cons, ih]; rfl
end Sh
/-! the pots that are dicts: views that count; heaps alike but for the views -/
namespace Sh
open PySem PySem.Spec PyProof.Rows L2
def noE : HO → Bool
  | .ext _ => false
  | _ => true
/-- all but the views is kept -/
structure Sx (H H' : Hp) : Prop where
  keep : ∀ a u, H a = some u → noE u = true → H' a = some u
  there : ∀ a u, H a = some u → ∃ w, H' a = some w
section
variable {K : PySem.W.Frag} {H H' H2 : Hp} {a p D : Addr} {xs : List V} {o : HO}
theorem Same.sx (e : Same H H') : Sx H H' := ⟨fun a u h _ => e a u h, fun a u h => ⟨u, e a u h⟩⟩
theorem Sx.refl (H : Hp) : Sx H H := Same.sx (Same.refl H)
theorem Sx.trans (e : Sx H H') (e' : Sx H' H2) : Sx H H2 := ⟨fun a u h hn => e'.keep a u (e.keep a u h hn) hn, fun a u h => by
  obtain ⟨w, hw⟩ := e.there a u h
  exact e'.there a w hw⟩
theorem sx_mut (e : Sx H H') (h : H p = none) : Sx H (upd H' p o) := ⟨fun a u ha hn => by
  rw [upd_ne (ne_of_none ha h)]
  exact e.keep a u ha hn, fun a u ha => by
  rw [upd_ne (ne_of_none ha h)]
  exact e.there a u ha⟩
theorem none_sx (e : Sx H H') (h : H' D = none) : H D = none := by
  cases hc : H D with
  | none => rfl
  | some u =>
    obtain ⟨w, hw⟩ := e.there _ _ hc
    rw [hw] at h
    cases h
theorem sx_l (e : Sx H H') (h : SqL K H a xs) : SqL K H' a xs := by
  rcases h with (h | ⟨o, h⟩) | h
  · exact .inl (.inl (e.keep _ _ h rfl))
  · exact .inl (.inr ⟨o, e.keep _ _ h rfl⟩)
  · exact .inr h
theorem sx_t (e : Sx H H') (h : SqT K H a xs) : SqT K H' a xs := by
  rcases h with (h | ⟨o, h⟩) | h
  · exact .inl (.inl (e.keep _ _ h rfl))
  · exact .inl (.inr ⟨o, e.keep _ _ h rfl⟩)
  · exact .inr h
theorem sx_tup (e : Sx H H') (h : TupN H a xs) : TupN H' a xs := by
  obtain ⟨o, d, h⟩ := h
  exact ⟨o, d, e.keep _ _ h rfl⟩
theorem sx_n (e : Sx H H') (h : SqN K H a xs) : SqN K H' a xs := by
  rcases h with h | h
  · exact .inl (sx_tup e h)
  · exact .inr h
end
mutual
theorem dqx {K : PySem.W.Frag} {H H' : Hp} (e : Sx H H') : ∀ {v : V} {d : PyData}, Dq K H v d → Dq K H' v d
  | _, _, .non => .non
  | _, _, .bl b => .bl b
  | _, _, .int i => .int i
  | _, _, .str x => .str x
  | _, _, .lst h r => .lst (sx_l e h) (dqsx e r)
  | _, _, .tup h r => .tup (sx_n e h) (dqsx e r)
theorem dqsx {K : PySem.W.Frag} {H H' : Hp} (e : Sx H H') : ∀ {vs : List V} {ds : List PyData}, DqAll K H vs ds → DqAll K H' vs ds
  | _, _, .nil => .nil
  | _, _, .cons h r => .cons (dqx e h) (dqsx e r)
end
/-! ### views, two at once -/
/-- p's object u is shown as one of U' -/
theorem fn_view2 {W : Wd} {mg : Str → Option Value} {base : Heap} {k : Nat} {f : Addr} {fd : FuncData} {ps : List Str} {sp sp' : Sp} (F : FnOk W.P W.w W.K mg base CX0 k f fd ps sp)
    (hl : ∀ vs H Q E, sp' vs H Q E → vs.length = ps.length)
    (h : ∀ vs H Q E, sp' vs H Q E → ∃ (p o : Addr) (U U2 U' U2' : HO → Prop), p ≠ o ∧ (∀ u, U' u → flatO u) ∧ (∀ u, U2' u → flatO u) ∧ H p = some (vw W U p) ∧ H o = some (vw W U2 o) ∧
      ∀ u u2, U u → U2 u2 → sp vs (upd (upd H p u) o u2) (fun v H' => ∃ u' u2', U' u' ∧ U2' u2' ∧ H' p = some u' ∧ H' o = some u2' ∧ Q v (upd (upd H' p (vw W U' p)) o (vw W U2' o))) E) :
    FnOk W.P W.w W.K mg base CX0 k f fd ps sp' := by
  refine ⟨hl, fun A outer s H args us vs Q E hr e0 hb hv hs => ?_⟩
  obtain ⟨p, o, U, U2, U', U2', hpo, f1, f2, hp, ho, k⟩ := h _ _ _ _ hs
  obtain ⟨u, hu, hf, hok⟩ := hok_open e0.hok hp
  have ho1 : upd H p u o = some (vw W U2 o) := by
    rw [upd_ne (Ne.symm hpo)]
    exact ho
  obtain ⟨u2, hu2, hf2, hok2⟩ := hok_open hok ho1
  have np : ∀ b, H b = none → upd (upd H p u) o u2 b = none := fun b e => by
    have nb : b ≠ p := fun z => by
      rw [z, hp] at e
      cases e
    have nb2 : b ≠ o := fun z => by
      rw [z, ho] at e
      cases e
    rw [upd_ne nb2, upd_ne nb]
    exact e
  have e1 : Env0 W.P W.w W.K mg base A outer s (upd (upd H p u) o u2) := ⟨e0.frames, e0.mod, fun b ob q => ⟨(e0.bs b ob q).1, np b (e0.bs b ob q).2⟩, e0.bsz, e0.funs, fun b q => np b (e0.frf b q), hok2, e0.bare⟩
  refine codeAny_mono (F.run A outer s (upd (upd H p u) o u2) args us vs _ E hr e1 hb hv (k u u2 hu hu2)) fun r s' q => ?_
  cases r with
  | error e => exact q
  | ok fl =>
    cases fl with
    | ret v =>
      obtain ⟨v1, H', q1, q2, q3, q4, q5, u', u2', hu', hu2', hp', ho', q6⟩ := q
      have ho'2 : upd H' p (vw W U' p) o = some u2' := by
        rw [upd_ne (Ne.symm hpo)]
        exact ho'
      refine ⟨v1, _, q1, q2, ?_, hok_seal (hok_seal q4 hp' hu' (f1 _ hu')) ho'2 hu2' (f2 _ hu2'), q5, q6⟩
      have q7 := un_seal (W := W) (U := U2') (un_seal (W := W) (U := U') q3 hp' (f1 _ hu')) ho'2 (f2 _ hu2')
      exact un_open (un_open q7 ho1) hp
    | next => exact q
    | brk => exact q
    | cont => exact q
theorem fn_seal2 {W : Wd} {mg : Str → Option Value} {base : Heap} {k : Nat} {f : Addr} {fd : FuncData} {ps : List Str} {sp sp' : Sp} (F : FnOk W.P W.w W.K mg base CX0 k f fd ps sp)
    (hl : ∀ vs H Q E, sp' vs H Q E → vs.length = ps.length)
    (h : ∀ vs H Q E, sp' vs H Q E → sp vs H (fun v H' => ∃ (p o : Addr) (U' U2' : HO → Prop) (u' u2' : HO), p ≠ o ∧ (∀ u, U' u → flatO u) ∧ (∀ u, U2' u → flatO u) ∧ U' u' ∧ U2' u2' ∧ H' p = some u' ∧ H' o = some u2' ∧ Q v (upd (upd H' p (vw W U' p)) o (vw W U2' o))) E) :
    FnOk W.P W.w W.K mg base CX0 k f fd ps sp' := by
  refine ⟨hl, fun A outer s H args us vs Q E hr e0 hb hv hs => ?_⟩
  refine codeAny_mono (F.run A outer s H args us vs _ E hr e0 hb hv (h _ _ _ _ hs)) fun r s' q => ?_
  cases r with
  | error e => exact q
  | ok fl =>
    cases fl with
    | ret v =>
      obtain ⟨v1, H', q1, q2, q3, q4, q5, p, o, U', U2', u', u2', hpo, f1, f2, hu', hu2', hp', ho', q6⟩ := q
      have ho'2 : upd H' p (vw W U' p) o = some u2' := by
        rw [upd_ne (Ne.symm hpo)]
        exact ho'
      exact ⟨v1, _, q1, q2, un_seal (W := W) (U := U2') (un_seal (W := W) (U := U') q3 hp' (f1 _ hu')) ho'2 (f2 _ hu2'), hok_seal (hok_seal q4 hp' hu' (f1 _ hu')) ho'2 hu2' (f2 _ hu2'), q5, q6⟩
    | next => exact q
    | brk => exact q
    | cont => exact q
/-! ### the pot -/
/-- the dict: with or without the entry left -/
def boxKV (b : Bool) (o : Addr) (l s t : Int) : List (Key × V) :=
  match b with
  | false => [(.inr "own", .ref o), (.inr "seed", .int s), (.inr "turn", .int t)]
  | true => [(.inr "own", .ref o), (.inr "left", .int l), (.inr "seed", .int s), (.inr "turn", .int t)]
def BoxU (b : Bool) (o : Addr) (n : Int) : HO → Prop := fun u => ∃ l s t : Int, u = .dK (boxKV b o l s t) ∧ 0 ≤ l ∧ 0 ≤ s ∧ s < 2305843009213693952 ∧ 0 ≤ t ∧ t ≤ n
def OwnU : HO → Prop := fun u => ∃ ns : List Int, u = .lst (ns.map V.int) ∧ ∀ x ∈ ns, 0 ≤ x
theorem box_flat {b : Bool} {o : Addr} {n : Int} : ∀ u, BoxU b o n u → flatO u := fun u ⟨_, _, _, e, _⟩ => by
  rw [e]
  trivial
theorem own_flat : ∀ u, OwnU u → flatO u := fun u ⟨_, e, _⟩ => by
  rw [e]
  trivial
/-- the pot, of which at most n turns were drawn -/
def BoxAt (W : Wd) (b : Bool) (n : Int) (H : Hp) (v : V) : Prop := ∃ (p o : Addr) (k : Int), v = .ref p ∧ p ≠ o ∧ k ≤ n ∧ H p = some (vw W (BoxU b o k) p) ∧ H o = some (vw W OwnU o)
section
variable {W : Wd} {b : Bool} {n m : Int} {H H' : Hp} {v : V} {D : Addr} {ys : List V} {ob : HO}
theorem box_mono (e : Same H H') (h : BoxAt W b n H v) : BoxAt W b n H' v := by
  obtain ⟨p, o, k, rfl, hpo, hk, hp, ho⟩ := h
  exact ⟨p, o, k, rfl, hpo, hk, e _ _ hp, e _ _ ho⟩
theorem box_le (h : n ≤ m) (q : BoxAt W b n H v) : BoxAt W b m H v := by
  obtain ⟨p, o, k, rfl, hpo, hk, hp, ho⟩ := q
  exact ⟨p, o, k, rfl, hpo, Int.le_trans hk h, hp, ho⟩
theorem box_lst (h : BoxAt W b n H v) (e : H D = some (.lst ys)) : BoxAt W b n (upd H D ob) v := by
  obtain ⟨p, o, k, rfl, hpo, hk, hp, ho⟩ := h
  refine ⟨p, o, k, rfl, hpo, hk, ?_, ?_⟩
  · rw [upd_ne fun z => by rw [z, e] at hp; cases hp]
    exact hp
  · rw [upd_ne fun z => by rw [z, e] at ho; cases ho]
    exact ho
end
/-! ### dicts, read and written -/
theorem pe_dgetU {X : Cx} {o i : Expr} {td ty : TE} {pos : Pos} (hu : X.A.units + 64 < cLine) (ho : PE X o td) (hi : PE X i ty) (hs : NoSl i) : PE X (.Subscript o i pos) (tDGet td ty) := pe_dget (Nat.lt_of_le_of_lt (Nat.add_le_add_left (by decide) _) hu) ho hi hs
section
variable {K : PySem.W.Frag} {σ : L2.St} {H : Hp} {Q : VK} {a : Addr} {kvs : List (Key × V)} {z : Str} {x v : V} {td ty : TE} {xs : List V}
def DG (Q : VK) (x y : V) (H : Hp) : Prop := ∃ a v, x = .ref a ∧ DGet H a y (some v) ∧ Q v H
theorem w_dget (h : td σ H fun x H1 => ty σ H1 fun y H2 => DG Q x y H2) : tDGet td ty σ H Q := h
theorem w_dgs (h : H a = some (.dK kvs)) (e : valV kvs (.inr z) = some v) (q : Q v H) : DG Q (.ref a) (.str z) H := ⟨a, v, rfl, by rw [← e]; exact DGet.k (k := .inr z) h, q⟩
theorem w_dputs {k : Hp → Prop} (h : H a = some (.dK kvs)) (hl : kvs.length < 1000) (q : k (upd H a (.dK (putK kvs (.inr z) v)))) : rSetU (.ref a) (.str z) v H k :=
  .inr ⟨a, _, rfl, DPut.k (k := .inr z) h (Nat.lt_trans hl (by decide)), q⟩
theorem w_pop0 {y : V} (h : H a = some (.lst (y :: xs))) (q : Q y (upd H a (.lst xs))) : rPopAt (.ref a) [.int 0] H Q := ⟨a, _, 0, 0, y, rfl, rfl, h, by decide, by decide, by
  unfold seqIndex?
  rw [List.length_cons]
  simp, rfl, q⟩
end
section
variable {K : PySem.W.Frag} {H : Hp} {Q : VK} {a : Addr} {ns : List Int} {lo hi : Option Int}
theorem w_slLi (h : SqL K H a (ns.map V.int)) (q : ∀ p H', H p = none → Same H H' → H' p = some (.lst ((cutD ns lo hi).map V.int)) → Q (.ref p) H') : rSlU K (.ref a) lo hi H Q :=
  .inr (.inr ⟨a, _, rfl, h, fun p hp => q p _ hp (same_new hp) (by
    have e : cutV (ns.map V.int) lo hi = (cutD ns lo hi).map V.int := by
      unfold cutV cutD
      rw [List.length_map, List.map_take, List.map_drop]
    rw [upd_same, e])⟩)
theorem cutD_len {α : Type} {xs : List α} {lo hi : Option Int} : (cutD xs lo hi).length ≤ xs.length := by
  unfold cutD
  rw [List.length_take, List.length_drop]
  omega
end
section
variable {σ : L2.St} {H : Hp} {Q : VK}
def DB (Q : VK) (p : Addr) (ps : List (V × V)) (H3 : Hp) : Prop := H3 p = some (.dK []) ∧ ∃ kvs : List (Key × V), ps = kvs.map (fun kv => (kV kv.1, kv.2)) ∧ kvs.length ≤ 15 ∧ Q (.ref p) (upd H3 p (.dK (mergeK [] kvs)))
theorem w_disp {trs : List (TE × TE)} (h : ∀ p, H p = none → tPairs trs σ (upd H p (.dK [])) fun ps H2 => DB Q p ps H2) : tDisp trs σ H Q := h
theorem w_pairs {tk tv : TE} {r : List (TE × TE)} {F : List (V × V) → Hp → Prop} (h : tk σ H fun x H1 => tv σ H1 fun y H2 => tPairs r σ H2 fun ps H3 => F ((x, y) :: ps) H3) : tPairs ((tk, tv) :: r) σ H F := h
theorem w_pnil {F : List (V × V) → Hp → Prop} (h : F [] H) : tPairs [] σ H F := h
theorem w_DB3 {p : Addr} {x1 x2 x3 : V} (h : H p = some (.dK [])) (q : Q (.ref p) (upd H p (.dK [(.inr "own", x1), (.inr "seed", x2), (.inr "turn", x3)]))) : DB Q p [(.str "own", x1), (.str "seed", x2), (.str "turn", x3)] H :=
  ⟨h, [(.inr "own", x1), (.inr "seed", x2), (.inr "turn", x3)], rfl, (by decide : 3 ≤ 15), q⟩
theorem w_DB4 {p : Addr} {x1 x2 x3 x4 : V} (h : H p = some (.dK [])) (q : Q (.ref p) (upd H p (.dK [(.inr "own", x1), (.inr "left", x2), (.inr "seed", x3), (.inr "turn", x4)]))) : DB Q p [(.str "own", x1), (.str "left", x2), (.str "seed", x3), (.str "turn", x4)] H :=
  ⟨h, [(.inr "own", x1), (.inr "left", x2), (.inr "seed", x3), (.inr "turn", x4)], rfl, (by decide : 4 ≤ 15), q⟩
end
/-! ### is -/
def rIsU : R2 := fun x y H Q => rIsN x y H Q ∨ rIsB x y H Q
theorem u_is {X : Cx} : OpR X (compareOp .Is) rIsU := opor op_isN1 op_isBl
def rIsNotU : R2 := fun x y H Q => rNotN x y H Q ∨ rNotB x y H Q
theorem u_isnot {X : Cx} : OpR X (compareOp .IsNot) rIsNotU := opor op_notN1 op_notBl
section
variable {H : Hp} {Q : VK} {x : V} {a b : Bool}
theorem w_isN (q : Q (.bl (decide (x = .non))) H) : rIsU x .non H Q := .inl ⟨rfl, q⟩
theorem w_isB (q : Q (.bl (decide (a = b))) H) : rIsU (.bl a) (.bl b) H Q := .inr ⟨a, b, rfl, rfl, q⟩
theorem w_notN (q : Q (.bl (!decide (x = .non))) H) : rIsNotU x .non H Q := .inl ⟨rfl, q⟩
theorem w_notB (q : Q (.bl (!decide (a = b))) H) : rIsNotU (.bl a) (.bl b) H Q := .inr ⟨a, b, rfl, rfl, q⟩
end
/-- simple data of so many floors -/
def PlD : Nat → PyData → Prop
  | _, .none => True
  | _, .int _ => True
  | _, .str _ => True
  | n + 1, .tuple ds => ds.length ≤ 1000 ∧ ∀ d ∈ ds, PlD n d
  | _, _ => False
/-! ### constants -/
theorem u_mulc {X : Cx} {a b c : Int} (hc : CMulW a b) (h : a * b = c) : OpR X (binaryOp .Mult) (rCon a b c) := by
  intro pins s σ H x y v u Q I rx ry q
  obtain ⟨rfl, rfl, q⟩ := q
  exact op_mulW pins s σ H _ _ v u Q I rx ry ⟨a, b, rfl, rfl, hc, by show Q (V.int (a * b)) H; rw [h]; exact q⟩
/-! ### loops and comprehensions that draw -/
section
variable {K : PySem.W.Frag} {σ : L2.St} {H : Hp} {Q : VK} {te : TE} {tt : TT} {g : TG} {vs : List Nat} {n : Nat}
theorem lc_genX {J : It} (I : Nat → List V → Hp → Prop) (hst : Stb I) (hn : n ≤ 1000000) (hI : ∀ i acc H', I i acc H' → acc.length ≤ i) (h0 : ∀ H', Same H H' → I 0 [] H')
    (hgo : ∀ i acc H', i < n → Sx H H' → I i acc H' → J.go i H') (hstop : ∀ acc H', Sx H H' → I n acc H' → J.stop n H')
    (hs : ∀ i acc x H' H'', i < n → Sx H H' → I i acc H' → J.yld i H' x H'' → ∀ (k : VK) (k' : Hp → Prop), (∀ y H4, Sx H' H4 → I (i + 1) (acc ++ [y]) H4 → k y H4) → (∀ H3, Sx H' H3 → I (i + 1) acc H3 → k' H3) →
      g x (wipe σ vs) H'' fun σ2 H2 => wipe σ2 vs = wipe σ vs ∧ tt σ2 H2 fun b H3 => if b = true then te σ2 H3 k else k' H3)
    (hd : ∀ D acc H', H D = none → Sx H H' → H' D = some (.lst acc) → I n acc H' → Q (.ref D) H') : LcOk J g tt te vs σ Q H := fun D hD => by
  refine ⟨fun i m H' => m = n - i ∧ i ≤ n ∧ ∃ acc, Sx H H' ∧ H' D = some (.lst acc) ∧ I i acc H', ⟨n, by omega, by omega, [], Same.sx (same_new hD), upd_same, h0 _ (same_new hD)⟩, fun i m H1 ⟨em, hi, acc, s1, hD1, w1⟩ => ?_⟩
  by_cases hlt : i < n
  · refine .inr ⟨hgo i acc H1 hlt s1 w1, fun H' => i + 1 ≤ n ∧ ∃ acc, Sx H H' ∧ H' D = some (.lst acc) ∧ I (i + 1) acc H', fun H' ⟨a, b⟩ => ⟨n - (i + 1), by omega, rfl, a, b⟩, fun x H' y => ?_⟩
    refine hs i acc x H1 H' hlt s1 w1 y _ _ (fun y H4 s4 w4 => ⟨acc, s4.keep _ _ hD1 rfl, ?_, hlt, _, sx_mut (s1.trans s4) hD, upd_same, hst _ _ _ _ _ _ (s4.keep _ _ hD1 rfl) w4⟩) fun H3 s3 w3 => ⟨hlt, acc, s1.trans s3, s3.keep _ _ hD1 rfl, w3⟩
    have l1 := hI i acc H1 w1
    exact Nat.lt_of_le_of_lt (m := 1000000) (by omega) (by decide)
  · have e : i = n := by omega
    subst e
    exact .inl ⟨hstop acc H1 s1 w1, hd D acc H1 hD s1 hD1 w1⟩
theorem lcRX (I : Nat → List V → Hp → Prop) (hst : Stb I) (hn : n ≤ 1000000) (hI : ∀ i acc H', I i acc H' → acc.length ≤ i) (h0 : ∀ H', Same H H' → I 0 [] H')
    (hs : ∀ (i : Nat) acc H', i < n → Sx H H' → I i acc H' → ∀ (k : VK) (k' : Hp → Prop), (∀ y H4, Sx H' H4 → I (i + 1) (acc ++ [y]) H4 → k y H4) → (∀ H3, Sx H' H3 → I (i + 1) acc H3 → k' H3) →
      g (.int (i : Int)) (wipe σ vs) H' fun σ2 H2 => wipe σ2 vs = wipe σ vs ∧ tt σ2 H2 fun b H3 => if b = true then te σ2 H3 k else k' H3)
    (hd : ∀ D acc H', H D = none → Sx H H' → H' D = some (.lst acc) → I n acc H' → Q (.ref D) H') : LcOk (Itr 0 n) g tt te vs σ Q H :=
  lc_genX I hst hn hI h0 (fun _ _ _ h _ _ => h) (fun _ _ _ _ => Nat.le_refl _) (fun i acc x H' H'' hi s1 w1 y => by
    obtain ⟨e1, e2⟩ := y
    rw [Int.zero_add] at e2
    subst e1
    subst e2
    exact hs i acc _ hi s1 w1) hd
theorem lcLX {a : Addr} {xs : List V} (hx : SqL K H a xs) (I : Nat → List V → Hp → Prop) (hst : Stb I) (hn : xs.length ≤ 1000000) (hI : ∀ i acc H', I i acc H' → acc.length ≤ i) (h0 : ∀ H', Same H H' → I 0 [] H')
    (hs : ∀ i x acc H', xs[i]? = some x → Sx H H' → I i acc H' → ∀ (k : VK) (k' : Hp → Prop), (∀ y H4, Sx H' H4 → I (i + 1) (acc ++ [y]) H4 → k y H4) → (∀ H3, Sx H' H3 → I (i + 1) acc H3 → k' H3) →
      g x (wipe σ vs) H' fun σ2 H2 => wipe σ2 vs = wipe σ vs ∧ tt σ2 H2 fun b H3 => if b = true then te σ2 H3 k else k' H3)
    (hd : ∀ D acc H', H D = none → Sx H H' → H' D = some (.lst acc) → I xs.length acc H' → Q (.ref D) H') : LcOk (Itl K a) g tt te vs σ Q H :=
  lc_genX I hst hn hI h0 (fun i acc H' hi s1 _ => ⟨xs, xs[i], sx_l s1 hx, List.getElem?_eq_getElem hi⟩) (fun _ _ s1 _ => ⟨xs, sx_l s1 hx, Nat.le_refl _⟩) (fun i acc x H' H'' hi s1 w1 y => by
    obtain ⟨e1, e2⟩ := y
    subst e1
    exact hs i x acc _ (e2 xs (sx_l s1 hx)) s1 w1) hd
theorem lcTX {a : Addr} {xs : List V} (hx : SqT K H a xs) (I : Nat → List V → Hp → Prop) (hst : Stb I) (hn : xs.length ≤ 1000000) (hI : ∀ i acc H', I i acc H' → acc.length ≤ i) (h0 : ∀ H', Same H H' → I 0 [] H')
    (hs : ∀ i x acc H', xs[i]? = some x → Sx H H' → I i acc H' → ∀ (k : VK) (k' : Hp → Prop), (∀ y H4, Sx H' H4 → I (i + 1) (acc ++ [y]) H4 → k y H4) → (∀ H3, Sx H' H3 → I (i + 1) acc H3 → k' H3) →
      g x (wipe σ vs) H' fun σ2 H2 => wipe σ2 vs = wipe σ vs ∧ tt σ2 H2 fun b H3 => if b = true then te σ2 H3 k else k' H3)
    (hd : ∀ D acc H', H D = none → Sx H H' → H' D = some (.lst acc) → I xs.length acc H' → Q (.ref D) H') : LcOk (Itt K a) g tt te vs σ Q H :=
  lc_genX I hst hn hI h0 (fun i acc H' hi s1 _ => ⟨xs, xs[i], sx_t s1 hx, List.getElem?_eq_getElem hi⟩) (fun _ _ s1 _ => ⟨xs, sx_t s1 hx, Nat.le_refl _⟩) (fun i acc x H' H'' hi s1 w1 y => by
    obtain ⟨e1, e2⟩ := y
    subst e1
    exact hs i x acc _ (e2 xs (sx_t s1 hx)) s1 w1) hd
end
section
variable {K : PySem.W.Frag} {σ : L2.St} {H : Hp} {tb : TS} {nx : L2.St → Hp → Prop} {rt : VK} {a : Addr} {xs : List V} {i1 i2 : Nat}
/-- for place, item in enumerate(a tuple) -/
theorem forET2 (I : Nat → L2.St → Hp → Prop) (h0 : I 0 σ H) (hI : ∀ i σ' H', I i σ' H' → SqT K H' a xs)
    (hs : ∀ (i : Nat) x σ' H', xs[i]? = some x → I i σ' H' → ∀ H2, Same H' H2 → tb ⟨I (i + 1), rt, nx, I (i + 1)⟩ ((σ'.set i1 (some (.int (i : Int)))).set i2 (some x)) H2) (hd : ∀ σ' H', I xs.length σ' H' → nx σ' H') :
    ForOk (IteT K a) (gTup K 2 (gCons (gName i1) (gCons (gName i2) gNil))) tb nx rt σ H := by
  refine ⟨fun i m σ' H' => m = xs.length - i ∧ i ≤ xs.length ∧ I i σ' H', ⟨_, rfl, Nat.zero_le _, h0⟩, fun i m σ' H1 ⟨em, hi, w1⟩ => ?_⟩
  have s1 := hI _ _ _ w1
  by_cases hlt : i < xs.length
  · refine .inr ⟨⟨xs, xs[i], s1, List.getElem?_eq_getElem hlt⟩, I (i + 1), fun σ2 H2 w2 => ⟨_, by omega, rfl, hlt, w2⟩, fun v H2 y => ?_⟩
    obtain ⟨T, x, rfl, hT, rfl, hy⟩ := y
    have ex := hy xs s1
    exact ⟨T, _, rfl, SqT.of upd_same, rfl, _, _, rfl, _, _, rfl, rfl, hs i x σ' H1 ex w1 _ (same_new hT)⟩
  · have e : i = xs.length := by omega
    subst e
    exact .inl ⟨⟨xs, s1, Nat.le_refl _⟩, hd σ' H1 w1⟩
end
end Sh
/-! forms; what is of what kind -/
namespace Sh
open PySem PySem.Spec PyProof.Rows L2
theorem dvd_oddF {c : Int} (hc : c % 2 = 1) : ∀ (n : Nat) (x : Int), (2 : Int) ^ n ∣ c * x → (2 : Int) ^ n ∣ x
  | 0, x, _ => by simp
  | n + 1, x, h => by
    obtain ⟨k, hk⟩ := h
    have e0 : (2 : Int) ^ (n + 1) = 2 * 2 ^ n := by rw [Int.pow_succ, Int.mul_comm]
    rw [e0, Int.mul_assoc] at hk
    have hx : x % 2 = 0 := by
      have z : (c * x) % 2 = 0 := by rw [hk]; exact Int.mul_emod_right 2 _
      rw [Int.mul_emod, hc] at z
      omega
    obtain ⟨y, rfl⟩ : ∃ y, x = 2 * y := ⟨x / 2, by omega⟩
    have h2 : (2 : Int) ^ n ∣ c * y := ⟨k, by
      have z : c * (2 * y) = 2 * (c * y) := by rw [← Int.mul_assoc, Int.mul_comm c 2, Int.mul_assoc]
      omega⟩
    obtain ⟨w, hw⟩ := dvd_oddF hc n y h2
    exact ⟨w, by rw [hw, e0, Int.mul_assoc]⟩
theorem turn_neF {b f c i j : Int} (hc : c % 2 = 1) (h0 : 0 ≤ i) (h1 : i < j) (h2 : j < p2 b) (e : (f + c * i) % p2 b = (f + c * j) % p2 b) : False := by
  have hd : p2 b ∣ c * (j - i) := by
    have z : (f + c * j) - (f + c * i) = c * (j - i) := by
      rw [Int.mul_sub]
      omega
    rw [← z]
    exact Int.dvd_of_emod_eq_zero (Int.emod_eq_emod_iff_emod_sub_eq_zero.mp e.symm)
  have h3 := dvd_oddF hc b.toNat _ hd
  have h4 := Int.le_of_dvd (by omega) h3
  have h5 : p2 b = 2 ^ b.toNat := rfl
  omega
inductive Wy where
  | keep
  | whole
  | low (w l : Int)
def wyD : Wy → PyData
  | .keep => .tuple [.str "keep"]
  | .whole => .tuple [.str "whole"]
  | .low w l => .tuple [.str "low", .int w, .int l]
structure Fm where
  r : Int
  c : Int
  ws : List Wy
def fmD (f : Fm) : PyData := .tuple [.int f.r, .int f.c, .tuple (f.ws.map wyD)]
def OkWy (b : Int) : Wy → Prop
  | .keep => True
  | .whole => True
  | .low w l => 1 ≤ w ∧ w ≤ b ∧ 0 ≤ l ∧ l < p2 w
structure OkFm (s : Shp) (f : Fm) : Prop where
  r0 : 1 ≤ f.r
  r1 : f.r ≤ 40
  c0 : 1 ≤ f.c
  c1 : f.c ≤ 40
  len : f.ws.length = s.fs.length
  ok : ∀ (i : Nat) w fd, f.ws[i]? = some w → s.fs[i]? = some fd → OkWy fd.br w
theorem tupO_wy (w : Wy) : tupO (wyD w) := by
  cases w <;> simp [wyD, tupO, tupOs]
theorem tupO_wys (ws : List Wy) : tupOs (ws.map wyD) := tupOs_of fun d hd => by
  obtain ⟨n, _, rfl⟩ := List.mem_map.mp hd
  exact tupO_wy n
theorem tupO_fm (f : Fm) : tupO (fmD f) := ⟨trivial, trivial, tupO_wys _, trivial⟩
/-- a whole number from lo to hi -/
def betwD (lo hi : Int) : PyData → Bool
  | .int i => decide (lo ≤ i) && decide (i ≤ hi)
  | _ => false
def lowD (b : Int) (s : Str) (d1 d2 : PyData) : Bool := decide (s = "low") && (betwD 1 b d1 && match d1 with
  | .int w => betwD 0 (p2 w - 1) d2
  | _ => false)
def wayD (b : Int) : PyData → Bool
  | .tuple [.str s, d1, d2] => lowD b s d1 d2
  | .tuple [.str s] => decide (s = "keep") || decide (s = "whole")
  | _ => false
def formD (s : Shp) : PyData → Bool
  | .tuple [d0, d1, .tuple ws] => betwD 1 40 d0 && (betwD 1 40 d1 && (decide (ws.length = s.fs.length) && (s.fs.zip ws).all fun fw => wayD fw.1.br fw.2))
  | _ => false
theorem betw_ok {lo hi i : Int} (h0 : lo ≤ i) (h1 : i ≤ hi) : betwD lo hi (.int i) = true := by
  show (decide (lo ≤ i) && decide (i ≤ hi)) = true
  rw [decide_eq_true h0, decide_eq_true h1]
  rfl
theorem way_ok {b : Int} {w : Wy} (h : OkWy b w) : wayD b (wyD w) = true := by
  cases w with
  | keep => rfl
  | whole => rfl
  | low w l =>
    obtain ⟨h0, h1, h2, h3⟩ := h
    show (decide (("low" : Str) = "low") && (betwD 1 b (.int w) && betwD 0 (p2 w - 1) (.int l))) = true
    rw [betw_ok h0 h1, betw_ok h2 (by omega), decide_eq_true rfl]
    rfl
theorem form_ok {s : Shp} {f : Fm} (h : OkFm s f) : formD s (fmD f) = true := by
  show (betwD 1 40 (.int f.r) && (betwD 1 40 (.int f.c) && (decide ((f.ws.map wyD).length = s.fs.length) && (s.fs.zip (f.ws.map wyD)).all fun fw => wayD fw.1.br fw.2))) = true
  rw [betw_ok h.r0 h.r1, betw_ok h.c0 h.c1, decide_eq_true (by rw [List.length_map]; exact h.len)]
  simp only [Bool.true_and]
  rw [List.all_eq_true]
  intro fw hfw
  obtain ⟨i, hi⟩ := List.getElem?_of_mem hfw
  obtain ⟨e1, e2⟩ := List.getElem?_zip_eq_some.mp hi
  rw [List.getElem?_map] at e2
  cases ew : f.ws[i]? with
  | none => rw [ew] at e2; cases e2
  | some w =>
    rw [ew] at e2
    rw [← Option.some.inj e2]
    exact way_ok (h.ok i w fw.1 ew e1)
section
variable {K : PySem.W.Frag} {H : Hp} {Q : VK} {a : Addr} {z : Str} {zs : List Str}
theorem inV_strs (z : Str) : ∀ zs : List Str, inV (.str z) (zs.map V.str) = zs.any fun y => decide (y = z)
  | [] => rfl
  | m :: r => by
    have e := inV_strs z r
    unfold inV at e ⊢
    rw [List.map_cons, List.any_cons, e, List.any_cons]
    have e2 : (m == z) = decide (m = z) := by
      by_cases h : m = z
      · subst h
        simp
      · simp [h]
    show (m == z || _) = _
    rw [e2]
theorem w_inTs (h : SqT K H a (zs.map V.str)) (q : Q (.bl (zs.any fun y => decide (y = z))) H) : rInU K (.str z) (.ref a) H Q :=
  .inl ⟨a, _, rfl, .inr h, rfl, (by
    rw [List.all_map]
    exact List.all_eq_true.mpr fun _ _ => rfl), by
    rw [inV_strs]
    exact q⟩
end
end Sh
/-! t * n of a tuple: the new one has no dict -/
namespace ShT
open PySem PySem.Spec PyProof.Rows L2
theorem tuple_mul1 (l : Addr) (items : Array Value) (n : Nat) (dd : Option Addr) (sl : Array (Option Value)) (u : Tok) :
    Meets (Builtin.«tuple.__mul__» ⟨[.ref l, .int 1 u], []⟩) (fun _ R s => s.heap.get? l = some { cls := .type "tuple", dict := dd, data := .seq items n, slots := sl } ∧ R (.ok (.ret (Value.ref l))) s) :=
  .of_wp fun prog w A R s h => by
    obtain ⟨hp, g, d, tk, os⟩ := s
    obtain ⟨hl, h⟩ := h
    have f1 := AutoSeq1.idx_int
    have c0 : (decide ((1 : Int) < -(2 ^ 63)) || decide ((1 : Int) ≥ 2 ^ 63)) = false := by decide
    have c1 : (items.isEmpty || (1 : Int) == 1) = true := by rw [show ((1 : Int) == 1) = true from rfl, Bool.or_true]
    wp_walk using PySem.AutoSeq1.wpAny_loadPart' hl
    repeat (first
      | (refine wpAny_ite_false (decide_eq_false (by rw [c0]; exact Bool.false_ne_true)) ?_; wp_walk using PySem.AutoSeq1.wpAny_loadPart' hl)
      | (refine wpAny_ite_true (decide_eq_true c1) ?_; wp_walk using PySem.AutoSeq1.wpAny_loadPart' hl))
    exact ⟨_, rfl, h⟩
end ShT
namespace Sh
open PySem PySem.Spec PyProof.Rows L2
def rRepN (K : PySem.W.Frag) : R2 := fun x y H Q => ∃ l k xs, x = .ref l ∧ y = .int k ∧ SqT K H l xs ∧ xs ≠ [] ∧ 1 ≤ k ∧ k ≤ 1000 ∧ xs.length ≤ 1000 ∧ (k = 1 → Q (.ref l) H) ∧ (2 ≤ k → ∀ (p : Addr) (o : Obj), H p = none → o.dict = none → Q (.ref p) (upd H p (.frz o (.tup (List.replicate k.toNat xs).flatten))))
theorem op_repN {X : Cx} : OpR X (binaryOp .Mult) (rRepN X.K) := by
  intro pins s σ H x y v u Q I rx ry h
  obtain ⟨l, k, xs, rfl, rfl, hT, hne, h1, h2, hz, q1, q2⟩ := h
  cases rx
  obtain ⟨t, rfl⟩ := ry
  obtain ⟨its, r, ⟨⟨cls, dd, data, sl⟩, ho, hc, n, hd⟩, hs⟩ := I.tuple hT
  simp only at hc hd
  subst hc hd
  have hle : its.length = xs.length := r.length.symm
  have hn : its ≠ [] := fun e => hne (by
    rw [e] at hle
    exact List.eq_nil_of_length_eq_zero hle.symm)
  by_cases hk : k = 1
  · subst hk
    exact wpAny_binaryOp_repeat_ref (T := "tuple") (U := "int") (by decide) ⟨_, ho, rfl⟩ (fun s' => typeIs_int s' 1 t) noFill_tuple_mul F.fills_int_mul F.slot_int_rmul repeat_tuple F.slot_int_index.lookup
      (call_meets F.slot_int_rmul (typeIs_int s 1 t) F.entry_int_rmul (F.args_int_rmul_2 _ _) (int_rmul_tuple 1 t l its.toArray n dd sl)
        ⟨ho, rfl, ⟨_, ho, rfl⟩, call_meets F.slot_tuple_mul ⟨_, ho, rfl⟩ F.entry_tuple_mul (F.args_tuple_mul_2 _ _) (ShT.tuple_mul1 l its.toArray n dd sl t) ⟨ho, ⟨.ref l, H, I, rfl, q1 rfl⟩⟩⟩)
  have hi : its.toArray.isEmpty = false := by
    cases its with
    | nil => exact absurd rfl hn
    | cons a b => rfl
  have hsz0 : its.toArray.size = xs.length := by rw [List.size_toArray, hle]
  have hm : ((its.toArray.size : Nat) : Int) * k ≤ 1000000 := by
    rw [hsz0]
    have a1 : ((xs.length : Nat) : Int) * k ≤ 1000 * k := Int.mul_le_mul_of_nonneg_right (by omega) (by omega)
    omega
  have flen : (List.replicate k.toNat its).flatten.length ≤ sizeLine := by
    rw [PyProof.Rows.lm_len_rep_flat, hle, sizeLine_eq]
    have a1 : k.toNat * xs.length ≤ 1000 * 1000 := Nat.mul_le_mul (by omega) hz
    omega
  have c0 : (decide (k < -(2 ^ 63)) || decide (k ≥ 2 ^ 63)) = false := by
    rw [decide_eq_false (by omega), decide_eq_false (by omega)] <;> rfl
  have c1 : (its.toArray.isEmpty || k == 1) = false := by
    rw [hi, Bool.false_or]
    exact beq_eq_false_iff_ne.mpr (by omega)
  have c2 : (decide (k ≤ 0) || its.toArray.isEmpty) = false := by
    rw [hi, Bool.or_false]
    exact decide_eq_false (by omega)
  have c4 : Builtin.Tuple.tupleTooMany (((its.toArray.size : Nat) : Int) * k) = false := by
    unfold Builtin.Tuple.tupleTooMany
    rw [sizeLine_eq]
    exact decide_eq_false (by omega)
  refine wpAny_binaryOp_repeat_ref (T := "tuple") (U := "int") (by decide) ⟨_, ho, rfl⟩ (fun s' => typeIs_int s' k t) noFill_tuple_mul F.fills_int_mul F.slot_int_rmul repeat_tuple F.slot_int_index.lookup
    (call_meets F.slot_int_rmul (typeIs_int s k t) F.entry_int_rmul (F.args_int_rmul_2 _ _) (int_rmul_tuple k t l its.toArray n dd sl)
      ⟨ho, rfl, ⟨_, ho, rfl⟩, call_meets F.slot_tuple_mul ⟨_, ho, rfl⟩ F.entry_tuple_mul (F.args_tuple_mul_2 _ _) (tuple_mulW l its.toArray n dd sl k t c0 c1 c2 (by omega) c4 (by rw [size_rep, List.size_toArray]; exact flen)) ⟨ho, ?_⟩⟩)
  rw [size_rep]
  have hg := Heap.get?_push_size s.heap (o := { cls := .type "tuple", data := .seq (List.replicate k.toNat its).flatten.toArray }) rfl
  refine ⟨.ref s.heap.objs.size, _, I.laid (t' := s.toks) (o := .frz { cls := .type "tuple", data := .seq (List.replicate k.toNat its).flatten.toArray } (.tup (List.replicate k.toNat xs).flatten)) (fun b ob q => Heap.get?_push_of_some _ q) (Nat.le_refl _) ?_, rfl, q2 (by omega) _ _ (I.hok.fresh (Nat.le_refl _)) rfl⟩
  exact ⟨hg, by rw [PyProof.Rows.lm_len_rep_flat, sizeLine_eq]; have a1 : k.toNat * xs.length ≤ 1000 * 1000 := Nat.mul_le_mul (by omega) hz; omega, _, r.rep k.toNat, IsTup.new _ _⟩
def rMulN (K : PySem.W.Frag) : R2 := fun x y H Q => rI CMul (fun i j => .int (i * j)) x y H Q ∨ rI CMulW (fun i j => .int (i * j)) x y H Q ∨ rMulS x y H Q ∨ rRep x y H Q ∨ rRepN K x y H Q
theorem u_mulN {X : Cx} : OpR X (binaryOp .Mult) (rMulN X.K) := opor op_mul (opor op_mulW (opor op_mulS (opor op_rep op_repN)))
section
variable {K : PySem.W.Frag} {H : Hp} {Q : VK} {i j n : Int} {a : Str} {v : V} {d : PyData}
theorem w_mulN (hc : CMul i j) (h : Q (.int (i * j)) H) : rMulN K (.int i) (.int j) H Q := .inl ⟨i, j, rfl, rfl, hc, h⟩
theorem w_mulNw (hc : CMulW i j) (h : Q (.int (i * j)) H) : rMulN K (.int i) (.int j) H Q := .inr (.inl ⟨i, j, rfl, rfl, hc, h⟩)
theorem w_mulNs (hm : MulOk a n) (q : Q (.str (Txt.mul a n)) H) : rMulN K (.str a) (.int n) H Q := .inr (.inr (.inl ⟨a, n, rfl, rfl, hm, q⟩))
theorem dqs_rep : ∀ (m : Nat) {x : V}, Dq K H x d → DqAll K H (List.replicate m [x]).flatten (List.replicate m d)
  | 0, _, _ => .nil
  | m + 1, _, h => .cons h (dqs_rep m h)
/-- (x,) * n -/
theorem w_mulN1 (h : Dq K H v (.tuple [d])) (h0 : 1 ≤ n) (h1 : n ≤ 1000) (q : ∀ x H', Same H H' → Dq K H' x (.tuple (List.replicate n.toNat d)) → Q x H') : rMulN K v (.int n) H Q := by
  obtain ⟨a, xs, rfl, hs, r⟩ := dq_tt h
  cases r with
  | cons hx r =>
    cases r
    refine .inr (.inr (.inr (.inr ⟨a, n, _, rfl, rfl, hs.t, (fun z => nomatch z), h0, h1, (show (1 : Nat) ≤ 1000 by decide), fun e => ?_, fun _ p o hp hd => ?_⟩)))
    · subst e
      exact q _ _ (Same.refl _) (.tup hs (dqs_one hx))
    · exact q _ _ (same_new hp) (.tup (.inl ⟨o, hd, upd_same⟩) (dqs_mono (same_new hp) (dqs_rep _ hx)))
end
end Sh
/-! zip of three tuples -/
namespace Sh
open PySem PySem.Spec PyProof.Rows L2
def ItzT3 (K : PySem.W.Frag) (a b c : Addr) : It :=
  ⟨fun i H => ∃ (xs ys zs : List V) (x y z : V), SqT K H a xs ∧ SqT K H b ys ∧ SqT K H c zs ∧ xs[i]? = some x ∧ ys[i]? = some y ∧ zs[i]? = some z,
    fun i H v H' => ∃ T x y z, v = .ref T ∧ H T = none ∧ H' = upd H T (.tup [x, y, z]) ∧ (∀ xs, SqT K H a xs → xs[i]? = some x) ∧ (∀ ys, SqT K H b ys → ys[i]? = some y) ∧ ∀ zs, SqT K H c zs → zs[i]? = some z,
    fun i H => ∃ xs ys zs : List V, SqT K H a xs ∧ SqT K H b ys ∧ SqT K H c zs ∧ i ≤ xs.length ∧ i ≤ ys.length ∧ i ≤ zs.length ∧ (i = xs.length ∨ i = ys.length ∨ i = zs.length)⟩
theorem iter_ne {h : Heap} {it t : Addr} {i : Nat} {t0 : Addr} {items : Array Value} (x : h.IsTupleIter it t0 i) (p : h.IsTuple t items) : t ≠ it := fun z => by
  obtain ⟨o1, h1, c1, _⟩ := p
  obtain ⟨o2, h2, c2, _⟩ := x
  rw [z, h2] at h1
  cases h1
  rw [c2] at c1
  injection c1 with c1
  exact absurd c1 (by decide)
theorem turn_zipT3 {P : Program} {w : World} {K : PySem.W.Frag} {elts : List Expr} {kk : Nat} {tpos : Pos} {a b c z TI TO i1 i2 i3 : Addr} (S : ZipSep3 z TI TO i1 i2 i3 [i1, a] [i2, b] [i3, c]) :
    Turn P w K (.Tuple elts kk tpos) (ItzT3 K a b c) [z, TI, TO, i1, i2, i3] z (fun i h => IsZip h z TI TO .none ∧ IsTupOf3 h TI (.ref i1) (.ref i2) (.ref i3) ∧ (∃ x y u, IsTupOf3 h TO x y u) ∧ h.IsTupleIter i1 a i ∧ h.IsTupleIter i2 b i ∧ h.IsTupleIter i3 c i) where
  mem := by simp
  obj := fun i h st q hq => by
    obtain ⟨hz, hTI, ⟨x, y, u, hTO⟩, ⟨o1, e1, _, d1⟩, ⟨o2, e2, _, d2⟩, ⟨o3, e3, _, d3⟩⟩ := st
    have e' : q = z ∨ q = TI ∨ q = TO ∨ q = i1 ∨ q = i2 ∨ q = i3 := by simpa using hq
    rcases e' with r | r | r | r | r | r
    · rw [r]; exact ⟨_, hz, fun v q => nomatch q⟩
    · rw [r]; exact ⟨_, hTI, fun v q => nomatch q⟩
    · rw [r]; exact ⟨_, hTO, fun v q => nomatch q⟩
    · rw [r]; exact ⟨o1, e1, fun v q => by rw [d1] at q; cases q⟩
    · rw [r]; exact ⟨o2, e2, fun v q => by rw [d2] at q; cases q⟩
    · rw [r]; exact ⟨o3, e3, fun v q => by rw [d3] at q; cases q⟩
  keep := fun i h h' st k => by
    obtain ⟨hz, hTI, ⟨x, y, u, hTO⟩, h1, h2, h3⟩ := st
    exact ⟨k z (by simp) _ hz, k TI (by simp) _ hTI, ⟨x, y, u, k TO (by simp) _ hTO⟩, h1.at fun o q => k i1 (by simp) o q, h2.at fun o q => k i2 (by simp) o q, h3.at fun o q => k i3 (by simp) o q⟩
  item := by
    intro X hP hw hK hc i pins s σ H E I hf st hg
    subst hP hw hK
    obtain ⟨hz, hTI, ⟨x0, y0, u0, hTO⟩, h1, h2, h3⟩ := st
    obtain ⟨xs, ys, zs, x, y, u, hqx, hqy, hqz, hx, hy, hu⟩ := hg
    obtain ⟨its, rv, p, _⟩ := I.tuple hqx
    obtain ⟨its2, rv2, p2, _⟩ := I.tuple hqy
    obtain ⟨its3, rv3, p3, _⟩ := I.tuple hqz
    have pt : s.heap.IsTuple a its.toArray := p
    have pt2 : s.heap.IsTuple b its2.toArray := p2
    have pt3 : s.heap.IsTuple c its3.toArray := p3
    obtain ⟨w1, hw1, r1⟩ := rv.get hx
    obtain ⟨w2, hw2, r2⟩ := rv2.get hy
    obtain ⟨w3, hw3, r3⟩ := rv3.get hu
    have hzl : z < s.heap.objs.size := Heap.lt_size hz
    have lt1 : i < its.toArray.size := by have l := (List.getElem?_eq_some_iff.mp hw1).1; simpa using l
    have lt2 : i < its2.toArray.size := by have l := (List.getElem?_eq_some_iff.mp hw2).1; simpa using l
    have lt3 : i < its3.toArray.size := by have l := (List.getElem?_eq_some_iff.mp hw3).1; simpa using l
    have hh : X.A.in1.handled = none := I.ok.hd hc
    refine wpAny_pyNext_zipD3_item S (Draws.tuple hh i1 a (iter_ne h1 pt) its.toArray) (Draws.tuple hh i2 b (iter_ne h2 pt2) its2.toArray) (Draws.tuple hh i3 c (iter_ne h3 pt3) its3.toArray) hz hTI hTO ⟨h1, pt⟩ ⟨h2, pt2⟩ ⟨h3, pt3⟩ lt1 lt2 lt3 fun x1 x2 x3 h' tk q1 q2 q3 z' TO' s1 s2 s3 hT hsz hk => ?_
    have e1 : x1 = w1 := by
      have px : its.toArray[i]? = some x1 := q1
      rw [List.getElem?_toArray, hw1] at px
      exact (Option.some.inj px).symm
    have e2 : x2 = w2 := by
      have px : its2.toArray[i]? = some x2 := q2
      rw [List.getElem?_toArray, hw2] at px
      exact (Option.some.inj px).symm
    have e3 : x3 = w3 := by
      have px : its3.toArray[i]? = some x3 := q3
      rw [List.getElem?_toArray, hw3] at px
      exact (Option.some.inj px).symm
    subst e1 e2 e3
    refine ⟨_, rfl, wpAny_letOwnedTupleGo_zip (s := { s with heap := h', toks := tk }) z' fun h'' z'' sb => ?_⟩
    have hT2 : h''.get? s.heap.objs.size = some { cls := .type "tuple", data := .seq #[x1, x2, x3] } := (sb.2 _ (Nat.ne_of_gt hzl)).trans hT
    have new : ObjOk X.prog X.w (upd H s.heap.objs.size (.tup [x, y, u])) h'' s.heap.objs.size (.tup [x, y, u]) :=
      ⟨by show 3 ≤ sizeLine; decide, [x1, x2, x3], .cons r1 (.cons r2 (.cons r3 .nil)), ⟨_, hT2, rfl, _, rfl⟩⟩
    have I1 : Inv X pins σ (upd H s.heap.objs.size (.tup [x, y, u])) { s with heap := h'', toks := tk } :=
      I.turnedNew (t' := tk) (ch := [z, TI, TO, i1, i2, i3]) (fun q o hb e => (sb.2 q (fun q' => hb (by simp [q']))).trans (hk q o (fun q' => hb (by simp [q'])) (fun q' => hb (by simp [q'])) (fun q' => hb (by simp [q'])) (fun q' => hb (by simp [q'])) (fun q' => hb (by simp [q'])) e)) hf (Nat.le_refl _) new
    have ni1 : i1 ≠ z := fun e => S.zf1 (by rw [← e]; exact S.mem1)
    have ni2 : i2 ≠ z := fun e => S.zf2 (by rw [← e]; exact S.mem2)
    have ni3 : i3 ≠ z := fun e => S.zf3 (by rw [← e]; exact S.mem3)
    refine ⟨.ref s.heap.objs.size, _, I1, rfl, ⟨_, x, y, u, rfl, I.hok.fresh (Nat.le_refl _), rfl, fun l hl => by rw [I.tuple_inj hl hqx]; exact hx, fun l hl => by rw [I.tuple_inj hl hqy]; exact hy, fun l hl => by rw [I.tuple_inj hl hqz]; exact hu⟩, ⟨z'', ?_, ⟨x1, x2, x3, ?_⟩, ?_, ?_, ?_⟩, fun q hcm => ?_⟩
    · exact (sb.2 _ S.TIz).trans (hk _ _ S.TIz S.TITO S.TIi1 S.TIi2 S.TIi3 hTI)
    · exact (sb.2 _ S.TOz).trans TO'
    · exact s1.1.at fun o q => (sb.2 _ ni1).trans q
    · exact s2.1.at fun o q => (sb.2 _ ni2).trans q
    · exact s3.1.at fun o q => (sb.2 _ ni3).trans q
    · have hlt : q < s.heap.objs.size := by
        have e' : q = z ∨ q = TI ∨ q = TO ∨ q = i1 ∨ q = i2 ∨ q = i3 := by simpa using hcm
        rcases e' with r | r | r | r | r | r
        · rw [r]; exact hzl
        · rw [r]; exact Heap.lt_size hTI
        · rw [r]; exact Heap.lt_size hTO
        · rw [r]; obtain ⟨_, e1, _⟩ := h1; exact Heap.lt_size e1
        · rw [r]; obtain ⟨_, e2, _⟩ := h2; exact Heap.lt_size e2
        · rw [r]; obtain ⟨_, e3, _⟩ := h3; exact Heap.lt_size e3
      rw [upd_ne (Nat.ne_of_lt hlt)]
      exact (hf q hcm).1
  done := by
    intro X hP hw hK hc i pins s σ H E I hf st hg
    subst hP hw hK
    obtain ⟨hz, hTI, ⟨x0, y0, u0, hTO⟩, h1, h2, h3⟩ := st
    obtain ⟨xs, ys, zs, hqx, hqy, hqz, g1, g2, g3, hend⟩ := hg
    obtain ⟨its, rv, p, _⟩ := I.tuple hqx
    obtain ⟨its2, rv2, p2, _⟩ := I.tuple hqy
    obtain ⟨its3, rv3, p3, _⟩ := I.tuple hqz
    have pt : s.heap.IsTuple a its.toArray := p
    have pt2 : s.heap.IsTuple b its2.toArray := p2
    have pt3 : s.heap.IsTuple c its3.toArray := p3
    have l1 := rv.length
    have l2 := rv2.length
    have l3 := rv3.length
    have hh : X.A.in1.handled = none := I.ok.hd hc
    refine wpAny_pyNext_zipD3_end S (Draws.tuple hh i1 a (iter_ne h1 pt) its.toArray) (Draws.tuple hh i2 b (iter_ne h2 pt2) its2.toArray) (Draws.tuple hh i3 c (iter_ne h3 pt3) its3.toArray) hz hTI hTO ⟨h1, pt⟩ ⟨h2, pt2⟩ ⟨h3, pt3⟩ (by simp; omega) (by simp; omega) (by simp; omega) (by simp; omega) fun h' tk hk => ⟨rfl, I.turnedL (t' := tk) (ch := [z, TI, TO, i1, i2, i3]) (fun q o hb e =>
      hk q o (fun q' => hb (by simp [q'])) (fun q' => hb (by simp [q'])) (fun q' => hb (by simp [q'])) (fun q' => hb (by simp [q'])) (fun q' => hb (by simp [q'])) e) hf⟩
  self := fun A i s Q E st h => wpAny_pyIter_zip st.1 h
def iZip3 (K : PySem.W.Frag) (ta : TA) : TI := fun σ H R => ta σ H fun vs H1 => ∃ a b c xs ys zs, vs = [.ref a, .ref b, .ref c] ∧ SqT K H1 a xs ∧ SqT K H1 b ys ∧ SqT K H1 c zs ∧ R (ItzT3 K a b c) H1
theorem pi_zip3 {X : Cx} {e e2 e3 : Expr} {ta : TA} {p pos tpos : Pos} {elts : List Expr} {kk : Nat} (hg : Gl X "zip") (hm : X.mg "zip" = none) (ha : PA X [e, e2, e3] ta)
    (hs : starEach [e, e2, e3] X.env = (false, eval e X.env) :: starEach [e2, e3] X.env := by rfl) (hpl : (backTo pos (starEach [e2, e3] X.env)).any (·.1) = false := by rfl) :
    PI X (.Tuple elts kk tpos) (.Call (.Name "zip" p) [e, e2, e3] [] pos) (iZip3 X.K ta) := by
  refine ⟨fun pins s σ H R I h => ?_⟩
  refine Call_ (ld_blt I hg hm PyProof.Rows.boot_zip (PyProof.Rows.callWith_type1 (thn (ha.run pos pins s σ H _ I h) fun us s1 z => ?_) hs hpl))
  obtain ⟨vs, H1, I1, r1, a, b, c, xs, ys, zs, ex, hqx, hqy, hqz, q⟩ := z
  subst ex
  cases r1 with
  | cons r rr =>
    cases rr with
    | cons r' rr =>
      cases rr with
      | cons r'' rr =>
        cases rr
        cases r
        cases r'
        cases r''
        obtain ⟨its, rv, p1, _⟩ := I1.tuple hqx
        obtain ⟨its2, rv2, p2, _⟩ := I1.tuple hqy
        obtain ⟨its3, rv3, p3, _⟩ := I1.tuple hqz
        have pt1 : s1.heap.IsTuple a its.toArray := p1
        have pt2 : s1.heap.IsTuple b its2.toArray := p2
        have pt3 : s1.heap.IsTuple c its3.toArray := p3
        obtain ⟨o1, ho1, _⟩ := _root_.id pt1
        obtain ⟨o2, ho2, _⟩ := _root_.id pt2
        obtain ⟨o3, ho3, _⟩ := _root_.id pt3
        refine zip_begins3 (begins_tuple a its.toArray) (begins_tuple b its2.toArray) (begins_tuple c its3.toArray) pt1 pt2 pt3 fun h' hz hTI hTO h1 h2 h3 hsz hk => wpAny_pyIter_zip hz ?_
        have I2 : Inv X pins σ H1 { s1 with heap := h' } := I1.kept (t' := s1.toks) hk
        have sep := zip_sep3 (N := s1.heap.objs.size) (fp1 := [a]) (fp2 := [b]) (fp3 := [c]) (fun q hq => by rw [List.mem_singleton.mp hq]; exact Heap.lt_size ho1) (fun q hq => by rw [List.mem_singleton.mp hq]; exact Heap.lt_size ho2) (fun q hq => by rw [List.mem_singleton.mp hq]; exact Heap.lt_size ho3)
        have fresh6 : ∀ q, q ∈ [s1.heap.objs.size + 5, s1.heap.objs.size + 3, s1.heap.objs.size + 4, s1.heap.objs.size, s1.heap.objs.size + 1, s1.heap.objs.size + 2] → FpOk X pins H1 q := fun q hcm => by
          have e' : q = s1.heap.objs.size + 5 ∨ q = s1.heap.objs.size + 3 ∨ q = s1.heap.objs.size + 4 ∨ q = s1.heap.objs.size ∨ q = s1.heap.objs.size + 1 ∨ q = s1.heap.objs.size + 2 := by simpa using hcm
          have hle : s1.heap.objs.size ≤ q := by
            rcases e' with z | z | z | z | z | z
            · rw [z]; exact Nat.le_add_right _ _
            · rw [z]; exact Nat.le_add_right _ _
            · rw [z]; exact Nat.le_add_right _ _
            · rw [z]; exact Nat.le_refl _
            · rw [z]; exact Nat.le_add_right _ _
            · rw [z]; exact Nat.le_add_right _ _
          exact I1.fpOk hle (I1.hok.fresh hle)
        exact ⟨s1.heap.objs.size + 5, [s1.heap.objs.size + 5, s1.heap.objs.size + 3, s1.heap.objs.size + 4, s1.heap.objs.size, s1.heap.objs.size + 1, s1.heap.objs.size + 2], _, _, H1, rfl, I2, turn_zipT3 sep, ⟨hz, hTI, ⟨_, _, _, hTO⟩, ⟨_, h1, rfl, rfl⟩, ⟨_, h2, rfl, rfl⟩, ⟨_, h3, rfl, rfl⟩⟩, fresh6, q⟩
section
variable {K : PySem.W.Frag} {σ : L2.St} {H : Hp} {Q : VK} {te : TE} {tt : TT} {tA : TA} {tb : TS} {nx : L2.St → Hp → Prop} {rt : VK} {a b c : Addr} {xs ys zs : List V} {i1 i2 i3 : Nat} {vs : List Nat}
def GoZip3 (K : PySem.W.Frag) (R : It → Hp → Prop) (vs : List V) (H1 : Hp) : Prop := ∃ a b c xs ys zs, vs = [.ref a, .ref b, .ref c] ∧ SqT K H1 a xs ∧ SqT K H1 b ys ∧ SqT K H1 c zs ∧ R (ItzT3 K a b c) H1
theorem w_izip3 {R : It → Hp → Prop} (h : tA σ H fun vs H1 => GoZip3 K R vs H1) : iZip3 K tA σ H R := h
theorem w_goZ3 {R : It → Hp → Prop} (h : SqT K H a xs) (h2 : SqT K H b ys) (h3 : SqT K H c zs) (q : R (ItzT3 K a b c) H) : GoZip3 K R [.ref a, .ref b, .ref c] H := ⟨a, b, c, xs, ys, zs, rfl, h, h2, h3, q⟩
/-- for x, y, z in zip(xs, ys, zs), tuples of one length -/
theorem forZ3 (l2 : ys.length = xs.length) (l3 : zs.length = xs.length) (I : Nat → L2.St → Hp → Prop) (h0 : I 0 σ H) (hI : ∀ i σ' H', I i σ' H' → SqT K H' a xs ∧ SqT K H' b ys ∧ SqT K H' c zs)
    (hs : ∀ (i : Nat) x y z σ' H', xs[i]? = some x → ys[i]? = some y → zs[i]? = some z → I i σ' H' → ∀ H2, Same H' H2 → tb ⟨I (i + 1), rt, nx, I (i + 1)⟩ (((σ'.set i1 (some x)).set i2 (some y)).set i3 (some z)) H2) (hd : ∀ σ' H', I xs.length σ' H' → nx σ' H') :
    ForOk (ItzT3 K a b c) (gTup K 3 (gCons (gName i1) (gCons (gName i2) (gCons (gName i3) gNil)))) tb nx rt σ H := by
  refine ⟨fun i m σ' H' => m = xs.length - i ∧ i ≤ xs.length ∧ I i σ' H', ⟨_, rfl, Nat.zero_le _, h0⟩, fun i m σ' H1 ⟨em, hi, w1⟩ => ?_⟩
  obtain ⟨s1, s2, s3⟩ := hI _ _ _ w1
  by_cases hlt : i < xs.length
  · refine .inr ⟨⟨xs, ys, zs, xs[i], ys[i]'(by omega), zs[i]'(by omega), s1, s2, s3, List.getElem?_eq_getElem hlt, List.getElem?_eq_getElem _, List.getElem?_eq_getElem _⟩, I (i + 1), fun σ2 H2 w2 => ⟨_, by omega, rfl, hlt, w2⟩, fun v H2 q => ?_⟩
    obtain ⟨T, x, y, z, rfl, hT, rfl, hx, hy, hz⟩ := q
    exact ⟨T, _, rfl, SqT.of upd_same, rfl, _, _, rfl, _, _, rfl, _, _, rfl, rfl, hs i x y z σ' H1 (hx xs s1) (hy ys s2) (hz zs s3) w1 _ (same_new hT)⟩
  · have e : i = xs.length := by omega
    refine .inl ⟨⟨xs, ys, zs, s1, s2, s3, by omega, by omega, by omega, .inl e⟩, hd σ' H1 ?_⟩
    rw [← e]
    exact w1
end
end Sh
/-! pieces; texts that grow -/
namespace Sh
open PySem PySem.Spec PyProof.Rows L2
def ipAddN (K : PySem.W.Frag) : TIp := fun x y H Q => ipI (fun i j => i + j) x y H Q ∨ rAddS x y H Q
theorem ip_addN {X : Cx} : PIp X .Add (ipAddN X.K) := by
  intro pins s σ H x y v u Q I rx ry h
  rcases h with h | h
  · exact ip_add pins s σ H x y v u Q I rx ry h
  · obtain ⟨i, j, rfl, rfl, hz, q⟩ := h
    obtain ⟨t, rfl⟩ := rx
    obtain ⟨t2, rfl⟩ := ry
    exact PyProof.Rows.iadd_str (fun t' tk => ⟨.str (i ++ j), H, I.tok _, ⟨_, rfl⟩, q⟩) hz
abbrev rStrU : List V → Hp → VK → Prop := fun xs H Q => ∃ i : Int, xs = [.int i] ∧ i.natAbs.log2 < 1920 ∧ Q (.str (toString i)) H
theorem u_str {X : Cx} : CallR X (.type "str") rStrU := call_str_int
section
variable {K : PySem.W.Frag} {H : Hp} {Q : VK} {i j : Int} {a b : Str} {p p2 : Addr} {xs ys : List V} {ns : List Int}
theorem w_ipaddN (h : Q (.int (i + j)) H) : ipAddN K (.int i) (.int j) H Q := .inl ⟨i, j, rfl, rfl, h⟩
theorem w_ipaddS (hz : a.length + b.length ≤ sizeLine) (h : Q (.str (a ++ b)) H) : ipAddN K (.str a) (.str b) H Q := .inr ⟨a, b, rfl, rfl, hz, h⟩
theorem w_strI (hz : i.natAbs.log2 < 1920) (h : Q (.str (toString i)) H) : rStrU [.int i] H Q := ⟨i, rfl, hz, h⟩
theorem w_sum (h : SqL K H p (ns.map V.int)) (q : Q (.int ns.sum) H) : rSum K [.ref p] H Q := ⟨p, ns, rfl, h, q⟩
theorem w_extend (h : H p = some (.lst xs)) (h2 : H p2 = some (.lst ys)) (hl : xs.length + ys.length ≤ 1000000) (q : Q .non (upd H p (.lst (xs ++ ys)))) : rExtend (.ref p) [.ref p2] H Q := ⟨p, p2, xs, ys, rfl, rfl, h, h2, Nat.le_trans hl (by decide), q⟩
end
/-- how wide a field's piece is -/
def wW (f : Fd) : Wy → Nat
  | .keep => 0
  | .whole => f.br.toNat
  | .low w _ => w.toNat
abbrev Tri := Fd × Wy × Int
def pieceT (t : Tri) : Str := bitsT (t.2.2 % p2 (wW t.1 t.2.1 : Nat)) (wW t.1 t.2.1)
def triL (fs : List Fd) (ws : List Wy) (vs : List Int) : List Tri := fs.zip (ws.zip vs)
def piecesT (ts : List Tri) : Str := ⟨(ts.map fun t => cz (pieceT t)).flatten.toArray⟩
theorem cz_pieces (ts : List Tri) : cz (piecesT ts) = (ts.map fun t => cz (pieceT t)).flatten := List.toList_toArray
theorem pieces_nil : piecesT [] = "" := rfl
theorem pieces_snoc (ts : List Tri) (t : Tri) : piecesT (ts ++ [t]) = piecesT ts ++ pieceT t := by
  refine cz_inj ?_
  rw [cz_pieces, cz_app, cz_pieces, List.map_append, List.flatten_append]
  simp
def triW (ts : List Tri) : Nat := (ts.map fun t => wW t.1 t.2.1).sum
theorem pieces_len : ∀ ts : List Tri, (piecesT ts).length = triW ts
  | [] => rfl
  | t :: r => by
    have ih := pieces_len r
    rw [← cz_len, cz_pieces] at ih ⊢
    rw [List.map_cons, List.flatten_cons, List.length_append, ih, cz_len]
    show (pieceT t).length + triW r = wW t.1 t.2.1 + triW r
    unfold pieceT
    rw [len_bitsT]
theorem tri_get {fs : List Fd} {ws : List Wy} {vs : List Int} {i : Nat} {f : Fd} {w : Wy} {v : Int} (h1 : fs[i]? = some f) (h2 : ws[i]? = some w) (h3 : vs[i]? = some v) : (triL fs ws vs)[i]? = some (f, w, v) :=
  List.getElem?_zip_eq_some.mpr ⟨h1, List.getElem?_zip_eq_some.mpr ⟨h2, h3⟩⟩
theorem tri_len {fs : List Fd} {ws : List Wy} {vs : List Int} (h1 : ws.length = fs.length) (h2 : vs.length = fs.length) : (triL fs ws vs).length = fs.length := by
  unfold triL
  rw [List.length_zip, List.length_zip]
  omega
theorem wW_le {f : Fd} {w : Wy} (h : OkWy f.br w) (b0 : 0 ≤ f.br) : (wW f w : Int) ≤ f.br := by
  cases w with
  | keep => exact b0
  | whole =>
    show ((f.br.toNat : Nat) : Int) ≤ f.br
    omega
  | low w l =>
    have := h.1
    have := h.2.1
    show ((w.toNat : Nat) : Int) ≤ f.br
    omega
theorem triW_snoc (ts : List Tri) (t : Tri) : triW (ts ++ [t]) = triW ts + wW t.1 t.2.1 := by
  unfold triW
  rw [List.map_append, List.sum_append]
  simp
theorem triW_le : ∀ ts : List Tri, (∀ t ∈ ts, wW t.1 t.2.1 ≤ 40) → triW ts ≤ 40 * ts.length
  | [], _ => Nat.le_refl _
  | t :: r, h => by
    have ih := triW_le r fun x hx => h x (List.mem_cons_of_mem _ hx)
    have h1 := h t List.mem_cons_self
    show wW t.1 t.2.1 + triW r ≤ _
    rw [List.length_cons]
    omega
end Sh
/-! any data, dicts too: its lists and dicts lie where P allows -/
namespace Sh
open PySem PySem.Spec PyProof.Rows L2
theorem cutD_mem {α : Type} {xs : List α} {lo hi : Option Int} {x : α} (h : x ∈ cutD xs lo hi) : x ∈ xs := List.mem_of_mem_drop (List.mem_of_mem_take h)
theorem cutD_map {α β : Type} (g : α → β) (xs : List α) (lo hi : Option Int) : cutD (xs.map g) lo hi = (cutD xs lo hi).map g := by
  unfold cutD
  rw [List.length_map, List.map_take, List.map_drop]
theorem w_slM {K : PySem.W.Frag} {H : Hp} {v : V} {Q : VK} {α : Type} {g : α → PyData} {l : List α} {lo hi : Option Int} (h : Dq K H v (.tuple (l.map g))) (q : ∀ x H', Same H H' → Dq K H' x (.tuple ((cutD l lo hi).map g)) → Q x H') : rSlU K v lo hi H Q :=
  w_slQT h fun x H' e hx => q x H' e (by rw [← cutD_map]; exact hx)
section
variable {K : PySem.W.Frag} {H H' : Hp} {v : V} {Q : VK}
theorem dq_t2 {d e : PyData} (h : Dq K H v (.tuple [d, e])) : ∃ a x y, v = .ref a ∧ SqN K H a [x, y] ∧ Dq K H x d ∧ Dq K H y e := by
  obtain ⟨a, xs, rfl, hx, r⟩ := dq_tt h
  cases r with
  | cons h1 r =>
    cases r with
    | cons h2 r =>
      cases r
      exact ⟨_, _, _, rfl, hx, h1, h2⟩
theorem dq_t3 {d e f : PyData} (h : Dq K H v (.tuple [d, e, f])) : ∃ a x y z, v = .ref a ∧ SqN K H a [x, y, z] ∧ Dq K H x d ∧ Dq K H y e ∧ Dq K H z f := by
  obtain ⟨a, xs, rfl, hx, r⟩ := dq_tt h
  cases r with
  | cons h1 r =>
    cases r with
    | cons h2 r =>
      cases r with
      | cons h3 r =>
        cases r
        exact ⟨_, _, _, _, rfl, hx, h1, h2, h3⟩
end
mutual
inductive Dz (K : PySem.W.Frag) (P : Addr → Prop) (H : Hp) : V → PyData → Prop
  | non : Dz K P H .non .none
  | bl (b : Bool) : Dz K P H (.bl b) (.bool b)
  | int (i : Int) : Dz K P H (.int i) (.int i)
  | str (x : Str) : Dz K P H (.str x) (.str x)
  | lst {a : Addr} {xs : List V} {ds : List PyData} : P a → SqL K H a xs → DzAll K P H xs ds → Dz K P H (.ref a) (.list ds)
  | tup {a : Addr} {xs : List V} {ds : List PyData} : SqT K H a xs → DzAll K P H xs ds → Dz K P H (.ref a) (.tuple ds)
  | dic {a : Addr} {kvs : List (Key × V)} : P a → H a = some (.dK kvs) → Dz K P H (.ref a) (.dict [])
inductive DzAll (K : PySem.W.Frag) (P : Addr → Prop) (H : Hp) : List V → List PyData → Prop
  | nil : DzAll K P H [] []
  | cons {v : V} {vs : List V} {d : PyData} {ds : List PyData} : Dz K P H v d → DzAll K P H vs ds → DzAll K P H (v :: vs) (d :: ds)
end
def Ever : Addr → Prop := fun _ => True
section
variable {K : PySem.W.Frag} {H H' : Hp} {P P' : Addr → Prop}
mutual
theorem dz_dp : ∀ {v : V} {d : PyData}, Dp K H v d → Dz K Ever H v d
  | _, _, .non => .non
  | _, _, .bl b => .bl b
  | _, _, .int i => .int i
  | _, _, .str x => .str x
  | _, _, .lst h r => .lst trivial h (dzs_dp r)
  | _, _, .tup h r => .tup h (dzs_dp r)
theorem dzs_dp : ∀ {vs : List V} {ds : List PyData}, DpAll K H vs ds → DzAll K Ever H vs ds
  | _, _, .nil => .nil
  | _, _, .cons h r => .cons (dz_dp h) (dzs_dp r)
end
theorem dz_dq {v : V} {d : PyData} (h : Dq K H v d) : Dz K Ever H v d := dz_dp (dq_dp h)
theorem dzs_dq {vs : List V} {ds : List PyData} (h : DqAll K H vs ds) : DzAll K Ever H vs ds := dzs_dp (dqs_dp h)
mutual
theorem dz_to : ∀ {v : V} {d : PyData}, Dq K H v d → tupO d → Dz K P H v d
  | _, _, .non, _ => .non
  | _, _, .bl b, _ => .bl b
  | _, _, .int i, _ => .int i
  | _, _, .str x, _ => .str x
  | _, _, .lst _ _, z => (show False from z).elim
  | _, _, .tup h r, z => .tup h.t (dzs_to r z)
theorem dzs_to : ∀ {vs : List V} {ds : List PyData}, DqAll K H vs ds → tupOs ds → DzAll K P H vs ds
  | _, _, .nil, _ => .nil
  | _, _, .cons h r, z => .cons (dz_to h z.1) (dzs_to r z.2)
end
mutual
theorem dz_wk (w : ∀ a, P a → P' a) : ∀ {v : V} {d : PyData}, Dz K P H v d → Dz K P' H v d
  | _, _, .non => .non
  | _, _, .bl b => .bl b
  | _, _, .int i => .int i
  | _, _, .str x => .str x
  | _, _, .lst p h r => .lst (w _ p) h (dzs_wk w r)
  | _, _, .tup h r => .tup h (dzs_wk w r)
  | _, _, .dic p h => .dic (w _ p) h
theorem dzs_wk (w : ∀ a, P a → P' a) : ∀ {vs : List V} {ds : List PyData}, DzAll K P H vs ds → DzAll K P' H vs ds
  | _, _, .nil => .nil
  | _, _, .cons h r => .cons (dz_wk w h) (dzs_wk w r)
end
theorem dz_ev {v : V} {d : PyData} (h : Dz K P H v d) : Dz K Ever H v d := dz_wk (fun _ _ => trivial) h
theorem dzs_ev {vs : List V} {ds : List PyData} (h : DzAll K P H vs ds) : DzAll K Ever H vs ds := dzs_wk (fun _ _ => trivial) h
mutual
theorem dzx (e : Sx H H') : ∀ {v : V} {d : PyData}, Dz K P H v d → Dz K P H' v d
  | _, _, .non => .non
  | _, _, .bl b => .bl b
  | _, _, .int i => .int i
  | _, _, .str x => .str x
  | _, _, .lst p h r => .lst p (sx_l e h) (dzsx e r)
  | _, _, .tup h r => .tup (sx_t e h) (dzsx e r)
  | _, _, .dic p h => .dic p (e.keep _ _ h rfl)
theorem dzsx (e : Sx H H') : ∀ {vs : List V} {ds : List PyData}, DzAll K P H vs ds → DzAll K P H' vs ds
  | _, _, .nil => .nil
  | _, _, .cons h r => .cons (dzx e h) (dzsx e r)
end
theorem dz_mono (e : Same H H') {v : V} {d : PyData} (h : Dz K P H v d) : Dz K P H' v d := dzx (Same.sx e) h
theorem dzs_mono (e : Same H H') {vs : List V} {ds : List PyData} (h : DzAll K P H vs ds) : DzAll K P H' vs ds := dzsx (Same.sx e) h
theorem sqt_mut {D a : Addr} {ys xs : List V} {o : HO} (h : SqT K H a xs) (hD : H D = some (.lst ys)) : SqT K (upd H D o) a xs := by
  rcases h with (h | ⟨b, h⟩) | h
  · refine .inl (.inl ?_)
    rw [upd_ne fun z => by rw [z, hD] at h; cases h]
    exact h
  · refine .inl (.inr ⟨b, ?_⟩)
    rw [upd_ne fun z => by rw [z, hD] at h; cases h]
    exact h
  · exact .inr h
theorem sql_mut {D a : Addr} {xs : List V} {o : HO} (h : SqL K H a xs) (n : a ≠ D) : SqL K (upd H D o) a xs := by
  rcases h with (h | ⟨b, h⟩) | h
  · refine .inl (.inl ?_)
    rw [upd_ne n]
    exact h
  · refine .inl (.inr ⟨b, ?_⟩)
    rw [upd_ne n]
    exact h
  · exact .inr h
mutual
theorem dz_mut {D : Addr} {ys : List V} {o : HO} (hD : H D = some (.lst ys)) (n : ∀ a, P a → a ≠ D) : ∀ {v : V} {d : PyData}, Dz K P H v d → Dz K P (upd H D o) v d
  | _, _, .non => .non
  | _, _, .bl b => .bl b
  | _, _, .int i => .int i
  | _, _, .str x => .str x
  | _, _, .lst p h r => .lst p (sql_mut h (n _ p)) (dzs_mut hD n r)
  | _, _, .tup h r => .tup (sqt_mut h hD) (dzs_mut hD n r)
  | _, _, .dic p h => .dic p (by rw [upd_ne (n _ p)]; exact h)
theorem dzs_mut {D : Addr} {ys : List V} {o : HO} (hD : H D = some (.lst ys)) (n : ∀ a, P a → a ≠ D) : ∀ {vs : List V} {ds : List PyData}, DzAll K P H vs ds → DzAll K P (upd H D o) vs ds
  | _, _, .nil => .nil
  | _, _, .cons h r => .cons (dz_mut hD n h) (dzs_mut hD n r)
end
theorem dzs_len : ∀ {vs : List V} {ds : List PyData}, DzAll K P H vs ds → vs.length = ds.length
  | _, _, .nil => rfl
  | _, _, .cons _ r => by rw [List.length_cons, List.length_cons, dzs_len r]
theorem dzs_get : ∀ {vs : List V} {ds : List PyData} {i : Nat} {d : PyData}, DzAll K P H vs ds → ds[i]? = some d → ∃ v, vs[i]? = some v ∧ Dz K P H v d
  | _, _, _, _, .nil, e => by simp at e
  | _, _, 0, _, .cons (v := v) h _, e => by
    simp at e
    subst e
    exact ⟨v, rfl, h⟩
  | _, _, i + 1, d, .cons _ r, e => by
    obtain ⟨v, h1, h2⟩ := dzs_get (i := i) (d := d) r (by simpa using e)
    exact ⟨v, by simpa using h1, h2⟩
theorem dzs_get2 {vs : List V} {ds : List PyData} {i : Nat} {v : V} (r : DzAll K P H vs ds) (e : vs[i]? = some v) : ∃ d, ds[i]? = some d ∧ Dz K P H v d := by
  have hl := dzs_len r
  have hi := (List.getElem?_eq_some_iff.mp e).1
  have e2 : ds[i]? = some (ds[i]'(hl ▸ hi)) := List.getElem?_eq_getElem _
  obtain ⟨v2, h1, h2⟩ := dzs_get r e2
  rw [e] at h1
  cases h1
  exact ⟨_, e2, h2⟩
theorem dzs_app : ∀ {vs ws : List V} {ds es : List PyData}, DzAll K P H vs ds → DzAll K P H ws es → DzAll K P H (vs ++ ws) (ds ++ es)
  | _, _, _, _, .nil, s => s
  | _, _, _, _, .cons h r, s => .cons h (dzs_app r s)
theorem dzs_at {vs : List V} {ds : List PyData} {i : Int} {d : PyData} (r : DzAll K P H vs ds) (e : atI ds i = some d) : ∃ v, atI vs i = some v ∧ Dz K P H v d := by
  unfold atI at e ⊢
  rw [dzs_len r]
  cases q : ixN ds.length i with
  | none => rw [q] at e; cases e
  | some j =>
    rw [q] at e
    exact dzs_get r e
variable {v u : V} {d : PyData} {Q : VK}
theorem dzs_one (h : Dz K P H v d) : DzAll K P H [v] [d] := .cons h .nil
theorem dzs_two {d2 : PyData} (h : Dz K P H v d) (h2 : Dz K P H u d2) : DzAll K P H [v, u] [d, d2] := .cons h (.cons h2 .nil)
theorem dz_int {i : Int} (h : Dz K P H v (.int i)) : v = .int i := by cases h; rfl
theorem dz_str {x : Str} (h : Dz K P H v (.str x)) : v = .str x := by cases h; rfl
theorem dz_bl {b : Bool} (h : Dz K P H v (.bool b)) : v = .bl b := by cases h; rfl
theorem dz_non (h : Dz K P H v .none) : v = .non := by cases h; rfl
theorem dz_tt {ds : List PyData} (h : Dz K P H v (.tuple ds)) : ∃ a xs, v = .ref a ∧ SqT K H a xs ∧ DzAll K P H xs ds := by
  cases h with
  | tup h r => exact ⟨_, _, rfl, h, r⟩
theorem dz_ll {ds : List PyData} (h : Dz K P H v (.list ds)) : ∃ a xs, v = .ref a ∧ P a ∧ SqL K H a xs ∧ DzAll K P H xs ds := by
  cases h with
  | lst p h r => exact ⟨_, _, rfl, p, h, r⟩
theorem dz_new {a : Addr} {xs : List V} {ds : List PyData} (h : TupN H a xs) (r : DzAll K P H xs ds) : Dz K P H (.ref a) (.tuple ds) := .tup (SqN.t (.inl h)) r
theorem dz_newl {a : Addr} {xs : List V} {ds : List PyData} (p : P a) (h : H a = some (.lst xs)) (r : DzAll K P H xs ds) : Dz K P H (.ref a) (.list ds) := .lst p (SqL.of h) r
theorem dz_tupx {H1 : Hp} {a : Addr} {xs : List V} {ds : List PyData} (e : Sx H1 H) (h : TupN H1 a xs) (r : DzAll K P H xs ds) : Dz K P H (.ref a) (.tuple ds) := dz_new (sx_tup e h) r
theorem dz_lstx {H1 : Hp} {a : Addr} {xs : List V} {ds : List PyData} (p : P a) (e : Sx H1 H) (h : H1 a = some (.lst xs)) (r : DzAll K P H xs ds) : Dz K P H (.ref a) (.list ds) := dz_newl p (e.keep _ _ h rfl) r
theorem dz_dicx {H1 : Hp} {a : Addr} {kvs : List (Key × V)} (p : P a) (e : Sx H1 H) (h : H1 a = some (.dK kvs)) : Dz K P H (.ref a) (.dict []) := .dic p (e.keep _ _ h rfl)
theorem ty_z (h : Dz K P H v d) : TyX K H v (.type (tyD d)) := by
  cases h with
  | non => exact .base .non
  | bl b => exact .base (.bl b)
  | int i => exact .base (.int i)
  | str x => exact .base (.str x)
  | lst _ h r =>
    rcases h with (h | ⟨o, h⟩) | ⟨o, its, n, h, c, _⟩
    · exact .base (.lst h)
    · exact .base (.frz h)
    · exact .kList h c
  | tup h r =>
    rcases h with (h | ⟨o, h⟩) | ⟨o, its, n, h, c, _⟩
    · exact .base (.tup h)
    · exact .fTuple h
    · exact .kTuple h c
  | dic _ h => exact .base (.dK h)
theorem w_isiz {b : String} {r : Bool} (h : Dz K P H v d) (hk : kitB (tyD d) b = some r) (q : Q (.bl r) H) : rIsi K [v, .ty b] H Q := ⟨v, .ty b, _, _, r, rfl, .ty b, ty_z h, kit_ty hk, q⟩
theorem w_isintz (h : Dz K P H v d) (q : Q (.bl (isIntB d)) H) : rIsi K [v, .ty "int"] H Q := w_isiz h (by cases d <;> (simp only [tyD, isIntB]; decide +kernel)) q
theorem w_isboolz (h : Dz K P H v d) (q : Q (.bl (isBoolD d)) H) : rIsi K [v, .ty "bool"] H Q := w_isiz h (by cases d <;> (simp only [tyD, isBoolD]; decide +kernel)) q
theorem w_isstrz (h : Dz K P H v d) (q : Q (.bl (isStrD d)) H) : rIsi K [v, .ty "str"] H Q := w_isiz h (by cases d <;> (simp only [tyD, isStrD]; decide +kernel)) q
theorem w_istupz (h : Dz K P H v d) (q : Q (.bl (isTupD d)) H) : rIsi K [v, .ty "tuple"] H Q := w_isiz h (by cases d <;> (simp only [tyD, isTupD]; decide +kernel)) q
theorem w_islistz (h : Dz K P H v d) (q : Q (.bl (isListD d)) H) : rIsi K [v, .ty "list"] H Q := w_isiz h (by cases d <;> (simp only [tyD, isListD]; decide +kernel)) q
theorem w_lenZT {ds : List PyData} (h : Dz K P H v (.tuple ds)) (q : Q (.int ds.length) H) : rLenU K [v] H Q := by
  obtain ⟨a, xs, rfl, h, r⟩ := dz_tt h
  exact w_lenT h (by rw [dzs_len r]; exact q)
theorem w_ixZT {ds : List PyData} {i : Int} (h : Dz K P H v (.tuple ds)) (e : atI ds i = some d) (q : ∀ x, Dz K P H x d → Q x H) : rIxU K v (.int i) H Q := by
  obtain ⟨a, xs, rfl, h, r⟩ := dz_tt h
  obtain ⟨x, e1, e2⟩ := dzs_at r e
  exact w_ixt h e1 (q x e2)
theorem w_catZT {ds es : List PyData} (h : Dz K P H v (.tuple ds)) (h' : Dz K P H u (.tuple es)) (hl : ds.length + es.length ≤ sizeLine) (q : ∀ x H', Same H H' → Dz K P H' x (.tuple (ds ++ es)) → Q x H') : rAddN K v u H Q := by
  obtain ⟨a, xs, rfl, hs, r⟩ := dz_tt h
  obtain ⟨b, ys, rfl, hs', r'⟩ := dz_tt h'
  have l1 := dzs_len r
  have l2 := dzs_len r'
  refine .inr (.inr (.inr ⟨a, b, xs, ys, rfl, rfl, hs, hs', by omega, fun e => ?_, fun _ e => ?_, fun _ _ p o hp hd => q _ _ (same_new hp) (dz_new ⟨o, hd, upd_same⟩ (dzs_mono (same_new hp) (dzs_app r r')))⟩))
  · subst e
    cases r
    exact q _ _ (Same.refl _) h'
  · subst e
    cases r'
    rw [List.append_nil] at q
    exact q _ _ (Same.refl _) h
theorem w_ixZTs {ds : List PyData} {i : Int} {z : Str} (h : Dz K P H v (.tuple ds)) (e : atI ds i = some (.str z)) (q : Q (.str z) H) : rIxU K v (.int i) H Q := w_ixZT h e fun x hx => by
  rw [dz_str hx]
  exact q
theorem w_ixZTi {ds : List PyData} {i n : Int} (h : Dz K P H v (.tuple ds)) (e : atI ds i = some (.int n)) (q : Q (.int n) H) : rIxU K v (.int i) H Q := w_ixZT h e fun x hx => by
  rw [dz_int hx]
  exact q
end
/-! lists of any data -/
def Bag (K : PySem.W.Frag) (P : Addr → Prop) (B : PyData → Prop) (H : Hp) (a : Addr) (n : Nat) : Prop := ∃ xs ds, H a = some (.lst xs) ∧ DzAll K P H xs ds ∧ (∀ d ∈ ds, B d) ∧ xs.length ≤ n
section
variable {K : PySem.W.Frag} {P P' : Addr → Prop} {B : PyData → Prop} {H H' : Hp} {a b p : Addr} {n : Nat} {xs ys : List V} {es : List PyData} {Q : VK} {x : V} {d : PyData} {o : HO} {W : Wd} {bb : Bool} {H1 : Hp} {F : Addr → Prop}
theorem all_nil : ∀ d ∈ ([] : List PyData), B d := fun _ h => nomatch h
theorem all_cons {r : List PyData} (h : B d) (hr : ∀ d ∈ r, B d) : ∀ e ∈ d :: r, B e := fun e he => by
  rcases List.mem_cons.mp he with rfl | he
  · exact h
  · exact hr e he
theorem all_app {r s : List PyData} (h : ∀ d ∈ r, B d) (hr : ∀ d ∈ s, B d) : ∀ e ∈ r ++ s, B e := fun e he => by
  rcases List.mem_append.mp he with he | he
  · exact h e he
  · exact hr e he
theorem bag_sx (e : Sx H H') (h : Bag K P B H a n) : Bag K P B H' a n := by
  obtain ⟨xs, ds, h1, h2, h3⟩ := h
  exact ⟨xs, ds, e.keep _ _ h1 rfl, dzsx e h2, h3⟩
theorem bag_wk (w : ∀ a, P a → P' a) (h : Bag K P B H a n) : Bag K P' B H a n := by
  obtain ⟨xs, ds, h1, h2, h3⟩ := h
  exact ⟨xs, ds, h1, dzs_wk w h2, h3⟩
theorem bag_le {m : Nat} (l : n ≤ m) (h : Bag K P B H a n) : Bag K P B H a m := by
  obtain ⟨xs, ds, h1, h2, h3, h4⟩ := h
  exact ⟨xs, ds, h1, h2, h3, Nat.le_trans h4 l⟩
theorem bag_lit (h : H a = some (.lst xs)) (r : DzAll K P H xs es) (hb : ∀ d ∈ es, B d) (l : xs.length ≤ n) : Bag K P B H a n := ⟨xs, es, h, r, hb, l⟩
theorem bag_cat {m : Nat} (e1 : Sx H1 H) (h : Bag K P B H1 a n) (h2 : H b = some (.lst ys)) (r : DzAll K P H ys es) (hb : ∀ d ∈ es, B d) (l : n + ys.length ≤ m) (lm : m ≤ 1000000) (q : ∀ p H', H p = none → Same H H' → Bag K P B H' p m → Q (.ref p) H') : rAddN K (.ref a) (.ref b) H Q := by
  obtain ⟨xs, ds, h1, h3, h4, h5⟩ := bag_sx e1 h
  refine w_catL h1 h2 (by omega) fun p H' np e hp => q p H' np e ⟨xs ++ ys, ds ++ es, hp, dzs_app (dzs_mono e h3) (dzs_mono e r), all_app h4 hb, by rw [List.length_append]; omega⟩
theorem bag_app (h : Bag K P B H a n) (w : ∀ p, P p → p ≠ a) (hx : Dz K P H x d) (hb : B d) (l : n < 1000000) (q : ∀ ys zs, H a = some (.lst ys) → Bag K P B (upd H a (.lst zs)) a (n + 1) → Q .non (upd H a (.lst zs))) : rAppend (.ref a) [x] H Q := by
  obtain ⟨xs, ds, h1, h3, h4, h5⟩ := h
  refine w_append h1 (by omega) ?_
  refine q xs _ h1 ⟨xs ++ [x], ds ++ [d], upd_same, dzs_app (dzs_mut h1 w h3) (dzs_one (dz_mut h1 w hx)), all_app h4 (all_cons hb all_nil), by rw [List.length_append]; exact Nat.succ_le_succ h5⟩
theorem bag_ne (h : Bag K P B H1 a n) (e : Sx H1 H) (np : H p = none) : p ≠ a := by
  obtain ⟨xs, ds, h1, _⟩ := h
  intro z
  subst z
  obtain ⟨w, hw⟩ := e.there _ _ h1
  rw [hw] at np
  cases np
theorem pres_of {H1 : Hp} (e : Sx H1 H) (h : H1 p = some o) : H p ≠ none := fun z => by
  obtain ⟨w, hw⟩ := e.there _ _ h
  rw [hw] at z
  cases z
theorem ne_fresh {H1 : Hp} (np : H p = none) (e : Sx H1 H) (h : H1 a = some o) : p ≠ a := fun z => by
  subst z
  exact pres_of e h np
theorem bag_ty {R : Prop} (h : Bag K P B H a n) (q : R) : tyV K "list" (.ref a) H ∧ R := by
  obtain ⟨xs, ds, h1, _⟩ := h
  exact w_tyL h1 q
/-- lies in the heap, and F -/
def PF (F : Addr → Prop) (H : Hp) : Addr → Prop := fun p => F p ∧ H p ≠ none
theorem pf_sx (e : Sx H H') : ∀ p, PF F H p → PF F H' p := fun p ⟨h1, h2⟩ => ⟨h1, by
  cases c : H p with
  | none => exact (h2 c).elim
  | some u => exact pres_of e c⟩
theorem bag_litx (h : H1 a = some (.lst xs)) (e : Sx H1 H) (r : DzAll K P H xs es) (hb : ∀ d ∈ es, B d) (l : xs.length ≤ n) : Bag K P B H a n := ⟨xs, es, e.keep _ _ h rfl, r, hb, l⟩
theorem bag_catF {m : Nat} (e : Sx H1 H) (h : Bag K (PF F H1) B H1 a n) (h2 : H b = some (.lst ys)) (r : DzAll K (PF F H) H ys es) (hb : ∀ d ∈ es, B d) (l : n + ys.length ≤ m) (lm : m ≤ 1000000) (q : ∀ p H', H p = none → Same H H' → Bag K (PF F H') B H' p m → Bag K (fun x => F x ∧ x ≠ p) B H' p m → Q (.ref p) H') : rAddN K (.ref a) (.ref b) H Q :=
  bag_cat (Sx.refl _) (bag_wk (pf_sx e) (bag_sx e h)) h2 r hb l lm fun p H' np e2 hb2 => q p H' np e2 (bag_wk (pf_sx (Same.sx e2)) hb2) (bag_wk (fun x ⟨h1, h2⟩ => ⟨h1, fun z => by
    subst z
    exact h2 np⟩) hb2)
end
theorem log2_sm {n : Nat} (h : n < 18446744073709551616) : n.log2 < 1920 := by
  by_cases z : n = 0
  · subst z
    decide
  · rw [Nat.log2_lt z]
    exact Nat.lt_of_lt_of_le h (show 2 ^ 64 ≤ 2 ^ 1920 from Nat.pow_le_pow_right (by decide) (by decide))
theorem take_iff {α : Type} {xs ys : List α} {i : Nat} {x y : α} (hx : xs[i]? = some x) (hy : ys[i]? = some y) : xs.take (i + 1) = ys.take (i + 1) ↔ xs.take i = ys.take i ∧ x = y := by
  have l1 := (List.getElem?_eq_some_iff.mp hx).1
  have l2 := (List.getElem?_eq_some_iff.mp hy).1
  rw [List.take_add_one, List.take_add_one, hx, hy]
  constructor
  · intro e
    have z := List.append_inj e (by rw [List.length_take, List.length_take]; omega)
    exact ⟨z.1, by simpa using z.2⟩
  · rintro ⟨e, rfl⟩
    rw [e]
/-! shapes of data, for == -/
theorem canAll : ∀ ds : List PyData, (∀ d ∈ ds, PyData.canLay0 d = true) → PyData.canLayAll0 ds = true
  | [], _ => by simp [PyData.canLayAll0]
  | d :: r, h => by
    rw [PyData.canLayAll0, h d List.mem_cons_self, canAll r fun x hx => h x (List.mem_cons_of_mem _ hx)]
    rfl
theorem depAll {k : Nat} : ∀ ds : List PyData, (∀ d ∈ ds, PyData.depth d ≤ k) → PyData.depthAll ds ≤ k
  | [], _ => by simp [PyData.depthAll]
  | d :: r, h => by
    have a := h d List.mem_cons_self
    have b := depAll r fun x hx => h x (List.mem_cons_of_mem _ hx)
    rw [PyData.depthAll]
    omega
theorem shaped_list {ds : List PyData} {k : Nat} (hk : k ≤ 60) (h : ∀ d ∈ ds, PyData.canLay0 d = true ∧ PyData.depth d ≤ k) : SeqAt.shaped (.list ds) = true := by
  have a := canAll ds fun d hd => (h d hd).1
  have b := depAll ds fun d hd => (h d hd).2
  show (PyData.canLay0 (.list ds) && decide (PyData.depth (.list ds) ≤ 64)) = true
  rw [Bool.and_eq_true]
  exact ⟨by simp only [PyData.canLay0]; exact a, decide_eq_true (by simp only [PyData.depth]; omega)⟩
theorem eqv_lnil (ds : List PyData) : PyData.eqv (.list ds) (.list []) = decide (ds = []) := by
  cases ds with
  | nil => rfl
  | cons n r => rfl
end Sh
/-! what bits tell -/
namespace Sh
open PySem PySem.Spec PyProof.Rows L2
def arnF (w base below n wd : Int) : Int := (base - below + (n - (base - below)) % p2 wd) % p2 w
/-- what a place's bits tell -/
def VO (fo ah : List Int) (m v : Int) (fd : Fd) (n : Int) : Wy → Int → Prop
  | .whole, x => x = n
  | .keep, x => ∃ r, ExpK fo ah m v fd.kd r ∧ x = r % p2 fd.br
  | .low wd bl, x => ∃ r, ExpK fo ah m v fd.kd r ∧ x = arnF fd.br (r % p2 fd.br) bl n wd
theorem VO.one {fo ah : List Int} {m v : Int} {fd : Fd} {n : Int} {w : Wy} {x y : Int} (h : VO fo ah m v fd n w x) (h' : VO fo ah m v fd n w y) : x = y := by
  cases w with
  | whole => exact Eq.trans h (Eq.symm h')
  | keep =>
    obtain ⟨r, h1, rfl⟩ := h
    obtain ⟨r', h2, rfl⟩ := h'
    rw [ExpK.one h1 h2]
  | low wd bl =>
    obtain ⟨r, h1, rfl⟩ := h
    obtain ⟨r', h2, rfl⟩ := h'
    rw [ExpK.one h1 h2]
/-- where a place's piece begins -/
def atW (fs : List Fd) (ws : List Wy) (j : Nat) : Nat := (((fs.zip ws).take j).map fun fw => wW fw.1 fw.2).sum
theorem atW_succ {fs : List Fd} {ws : List Wy} {j : Nat} {f : Fd} {w : Wy} (h1 : fs[j]? = some f) (h2 : ws[j]? = some w) : atW fs ws (j + 1) = atW fs ws j + wW f w := by
  have e : (fs.zip ws)[j]? = some (f, w) := List.getElem?_zip_eq_some.mpr ⟨h1, h2⟩
  unfold atW
  rw [List.take_add_one, e, List.map_append, List.sum_append]
  simp
theorem atW_mono (fs : List Fd) (ws : List Wy) {i j : Nat} (h : i ≤ j) : atW fs ws i ≤ atW fs ws j := by
  unfold atW
  have e : (fs.zip ws).take j = (fs.zip ws).take i ++ ((fs.zip ws).take j).drop i := by
    have z := (List.take_append_drop i ((fs.zip ws).take j)).symm
    rw [List.take_take, Nat.min_eq_left h] at z
    exact z
  rw [e, List.map_append, List.sum_append]
  exact Nat.le_add_right _ _
def sliceN (z : Str) (a l : Nat) : List Nat := ((cz z).drop a).take l
def numS (z : Str) (a l : Nat) : Int := valL (sliceN z a l).reverse
theorem cutD_mid {α : Type} {xs : List α} {a b : Int} (h0 : 0 ≤ a) (h1 : a ≤ b) (h2 : b ≤ xs.length) : cutD xs (some a) (some b) = (xs.drop a.toNat).take (b.toNat - a.toNat) := by
  obtain ⟨n, rfl⟩ : ∃ n : Nat, a = n := ⟨a.toNat, by omega⟩
  obtain ⟨k, rfl⟩ : ∃ k : Nat, b = k := ⟨b.toNat, by omega⟩
  unfold cutD
  rw [six_of _ (by omega), six_of _ (by omega), Int.toNat_natCast, Int.toNat_natCast]
theorem num_slice {y z : Str} {a l : Nat} (h : cz y = sliceN z a l) : numT y = numS z a l := by
  unfold numT numS
  rw [h]
theorem slice_len {z : Str} {a l : Nat} (h : a + l ≤ z.length) : (sliceN z a l).length = l := by
  unfold sliceN
  rw [List.length_take, List.length_drop, cz_len]
  omega
theorem slice_01 {z : Str} {a l : Nat} (h : ∀ c ∈ cz z, c = 48 ∨ c = 49) : ∀ c ∈ sliceN z a l, c = 48 ∨ c = 49 := fun c hc => h c (List.mem_of_mem_drop (List.mem_of_mem_take hc))
theorem numS_bd {z : Str} {a l : Nat} (h : ∀ c ∈ cz z, c = 48 ∨ c = 49) (hl : a + l ≤ z.length) : 0 ≤ numS z a l ∧ numS z a l < 2 ^ l := by
  have e := valL_bound (sliceN z a l).reverse fun c hc => slice_01 h c (List.mem_reverse.mp hc)
  rw [List.length_reverse, slice_len hl] at e
  exact e
/-- the head that bits tell, as far as place i -/
def OpN (s : Shp) (f : Fm) (fo : List Int) (m : Int) (z : Str) (i : Nat) (hd : List Int) : Prop :=
  hd.length = i ∧ ∀ (j : Nat) fd w v, j < i → s.fs[j]? = some fd → f.ws[j]? = some w → fo[j]? = some v → ∃ x, hd[j]? = some x ∧ VO fo (hd.take j) m v fd (numS z (atW s.fs f.ws j) (wW fd w)) w x
section
variable {s : Shp} {f : Fm} {fo : List Int} {m : Int} {z : Str} {i : Nat} {hd hd' : List Int}
theorem OpN.nil : OpN s f fo m z 0 [] := ⟨rfl, fun j _ _ _ h => by omega⟩
theorem OpN.snoc {fd : Fd} {w : Wy} {v x : Int} (h : OpN s f fo m z i hd) (h1 : s.fs[i]? = some fd) (h2 : f.ws[i]? = some w) (h3 : fo[i]? = some v) (hx : VO fo hd m v fd (numS z (atW s.fs f.ws i) (wW fd w)) w x) : OpN s f fo m z (i + 1) (hd ++ [x]) := by
  obtain ⟨hl, h⟩ := h
  refine ⟨by rw [List.length_append, hl]; rfl, fun j fd' w' v' hj e1 e2 e3 => ?_⟩
  by_cases c : j < i
  · obtain ⟨y, hy, hv⟩ := h j fd' w' v' c e1 e2 e3
    refine ⟨y, by rw [List.getElem?_append_left (by omega)]; exact hy, ?_⟩
    rw [List.take_append_of_le_length (by omega)]
    exact hv
  · have e : j = i := by omega
    subst e
    obtain rfl := Option.some.inj (h1.symm.trans e1)
    obtain rfl := Option.some.inj (h2.symm.trans e2)
    obtain rfl := Option.some.inj (h3.symm.trans e3)
    refine ⟨x, ?_, ?_⟩
    · rw [List.getElem?_append_right (by omega), hl, Nat.sub_self]
      rfl
    · rw [List.take_append_of_le_length (by omega), List.take_of_length_le (by omega)]
      exact hx
theorem OpN.one (lw : f.ws.length = s.fs.length) (lf : fo.length = s.fs.length) (hi : i ≤ s.fs.length) (h : OpN s f fo m z i hd) (h' : OpN s f fo m z i hd') : hd = hd' := by
  have key : ∀ j, j ≤ i → hd.take j = hd'.take j := fun j => by
    induction j with
    | zero => exact fun _ => rfl
    | succ j ih =>
      intro hj
      have e := ih (by omega)
      obtain ⟨fd, h1⟩ : ∃ fd, s.fs[j]? = some fd := ⟨_, List.getElem?_eq_getElem (by omega)⟩
      obtain ⟨w, h2⟩ : ∃ w, f.ws[j]? = some w := ⟨_, List.getElem?_eq_getElem (by omega)⟩
      obtain ⟨v, h3⟩ : ∃ v, fo[j]? = some v := ⟨_, List.getElem?_eq_getElem (by omega)⟩
      obtain ⟨x, hx, hv⟩ := h.2 j fd w v (by omega) h1 h2 h3
      obtain ⟨x', hx', hv'⟩ := h'.2 j fd w v (by omega) h1 h2 h3
      rw [e] at hv
      obtain rfl := VO.one hv hv'
      rw [List.take_add_one, List.take_add_one, e, hx, hx']
  have z1 := key i (Nat.le_refl _)
  rw [List.take_of_length_le (by rw [h.1]; exact Nat.le_refl _), List.take_of_length_le (by rw [h'.1]; exact Nat.le_refl _)] at z1
  exact z1
end
theorem atW_all {fs : List Fd} {ws : List Wy} {vs : List Int} (h1 : ws.length = fs.length) (h2 : vs.length = fs.length) : atW fs ws fs.length = triW (triL fs ws vs) := by
  unfold atW triW triL
  rw [List.take_of_length_le (by rw [List.length_zip]; omega)]
  congr 1
  induction fs generalizing ws vs with
  | nil => rfl
  | cons f fs ih =>
    cases ws with
    | nil => simp at h1
    | cons w ws =>
      cases vs with
      | nil => simp at h2
      | cons v vs =>
        show wW f w :: _ = wW f w :: _
        congr 1
        exact ih (by simpa using h1) (by simpa using h2)
theorem atW_le {s : Shp} {f : Fm} (ok : OkShp s) (okf : OkFm s f) : atW s.fs f.ws s.fs.length ≤ 480 := by
  have lw := okf.len
  have l1 := ok.l1
  have e : atW s.fs f.ws s.fs.length = triW (triL s.fs f.ws (List.replicate s.fs.length 0)) := atW_all lw List.length_replicate
  have z := triW_le (triL s.fs f.ws (List.replicate s.fs.length 0)) fun t ht => by
    obtain ⟨i, hi⟩ := List.getElem?_of_mem ht
    obtain ⟨e1, e2⟩ := List.getElem?_zip_eq_some.mp hi
    obtain ⟨e3, _⟩ := List.getElem?_zip_eq_some.mp e2
    have o := ok.fd i _ e1
    have z := wW_le (okf.ok i _ _ e3 e1) (by have := o.b0; omega)
    have := o.b1
    omega
  rw [tri_len lw List.length_replicate] at z
  omega
theorem pieces_01 (ts : List Tri) : ∀ c ∈ cz (piecesT ts), c = 48 ∨ c = 49 := fun c hc => by
  rw [cz_pieces] at hc
  obtain ⟨l, hl, hcl⟩ := List.mem_flatten.mp hc
  obtain ⟨t, _, rfl⟩ := List.mem_map.mp hl
  exact bits_01 c hcl
section
variable {K : PySem.W.Frag} {σ : L2.St} {H : Hp} {Q : VK} {te : TE} {tt : TT} {g : TG} {vs : List Nat} {z : Str}
/-- [.. for c in z], z a text, with draws -/
theorem lcSX (I : Nat → List V → Hp → Prop) (hst : Stb I) (hn : z.length ≤ 1000000) (hI : ∀ i acc H', I i acc H' → acc.length ≤ i) (h0 : ∀ H', Same H H' → I 0 [] H')
    (hs : ∀ i c acc H', z.cps.toList[i]? = some c → Sx H H' → I i acc H' → ∀ (k : VK) (k' : Hp → Prop), (∀ y H4, Sx H' H4 → I (i + 1) (acc ++ [y]) H4 → k y H4) → (∀ H3, Sx H' H3 → I (i + 1) acc H3 → k' H3) →
      g (.str ⟨#[c]⟩) (wipe σ vs) H' fun σ2 H2 => wipe σ2 vs = wipe σ vs ∧ tt σ2 H2 fun b H3 => if b = true then te σ2 H3 k else k' H3)
    (hd : ∀ D acc H', H D = none → Sx H H' → H' D = some (.lst acc) → I z.length acc H' → Q (.ref D) H') : LcOk (Its z) g tt te vs σ Q H :=
  lc_genX (n := z.length) I hst hn hI h0 (fun i acc H' hi _ _ => hi) (fun _ _ _ _ => Nat.le_refl _) (fun i acc x H' H'' hi s1 w1 y => by
    obtain ⟨e1, c, e2, e3⟩ := y
    subst e1
    subst e3
    exact hs i c acc _ (by rw [Array.getElem?_toList]; exact e2) s1 w1) hd
end
/-! single signs -/
def is01 (z : Str) : Prop := ∀ c ∈ cz z, c = 48 ∨ c = 49
def isBS (x : V) : Prop := ∃ y : Str, x = .str y ∧ y.length = 1 ∧ is01 y
theorem strs_of : ∀ {xs : List V}, (∀ x ∈ xs, isBS x) → ∃ ys : List Str, xs = ys.map V.str ∧ ∀ y ∈ ys, y.length = 1 ∧ is01 y
  | [], _ => ⟨[], rfl, fun _ h => nomatch h⟩
  | x :: r, h => by
    obtain ⟨ys, e, hn⟩ := strs_of (xs := r) fun y hy => h y (List.mem_cons_of_mem _ hy)
    obtain ⟨y, rfl, h1⟩ := h x List.mem_cons_self
    refine ⟨y :: ys, by rw [e]; rfl, fun m hm => ?_⟩
    rcases List.mem_cons.mp hm with rfl | hm
    · exact h1
    · exact hn m hm
theorem sum_ones : ∀ {ys : List Str}, (∀ y ∈ ys, y.length = 1 ∧ is01 y) → (ys.map (·.length)).sum = ys.length
  | [], _ => rfl
  | y :: r, h => by
    rw [List.map_cons, List.sum_cons, List.length_cons, (h y List.mem_cons_self).1, sum_ones fun z hz => h z (List.mem_cons_of_mem _ hz)]
    omega
theorem len_joinB {ys : List Str} (h : ∀ y ∈ ys, y.length = 1 ∧ is01 y) : (Txt.join "" ys).length = ys.length := by
  rw [← cz_len, cz_join, List.length_flatten, List.map_map]
  have e : (List.length ∘ cz) = fun y : Str => y.length := by
    funext y
    exact cz_len y
  rw [e]
  exact sum_ones h
theorem is01_join {ys : List Str} (h : ∀ y ∈ ys, y.length = 1 ∧ is01 y) : is01 (Txt.join "" ys) := fun c hc => by
  rw [cz_join] at hc
  obtain ⟨x, hx, hcx⟩ := List.mem_flatten.mp hc
  obtain ⟨y, hy, rfl⟩ := List.mem_map.mp hx
  exact (h y hy).2 c hcx
theorem mul_one {c : Nat} {n : Int} : cz (Txt.mul ⟨#[c]⟩ n) = List.replicate n.toNat c := by
  rw [cz_mul]
  show (List.replicate n.toNat [c]).flatten = _
  induction n.toNat with
  | zero => rfl
  | succ n ih => rw [List.replicate_succ, List.flatten_cons, ih, List.replicate_succ]; rfl
theorem w_ix01 {K : PySem.W.Frag} {H : Hp} {Q : VK} {i : Int} (h0 : 0 ≤ i) (h1 : i < 2) (q : ∀ c, c = 48 ∨ c = 49 → Q (.str ⟨#[c]⟩) H) : rIxU K (.str (Str.ofString "01")) (.int i) H Q := by
  have e : i = 0 ∨ i = 1 := by omega
  rcases e with rfl | rfl
  · exact w_ixs (by decide) (c := 48) rfl (q 48 (.inl rfl))
  · exact w_ixs (by decide) (c := 49) rfl (q 49 (.inr rfl))
theorem mul1_len {c n : Nat} : (Txt.mul ⟨#[c]⟩ (n : Int)).length = n := by
  rw [← cz_len, mul_one, List.length_replicate, Int.toNat_natCast]
theorem mul1_01 {c : Nat} {n : Int} (h : c = 48 ∨ c = 49) : is01 (Txt.mul ⟨#[c]⟩ n) := fun d hd => by
  rw [mul_one] at hd
  rw [List.eq_of_mem_replicate hd]
  exact h
theorem isBS_one {c : Nat} (h : c = 48 ∨ c = 49) : isBS (.str ⟨#[c]⟩) := ⟨_, rfl, rfl, fun d hd => by
  rw [List.mem_singleton.mp hd]
  exact h⟩
end Sh
/-! former heads; which heads are sure -/
namespace Sh
open PySem PySem.Spec PyProof.Rows L2
theorem shaped_tints (ns : List Int) : SeqAt.shaped (.tuple (ns.map PyData.int)) = true := PySem.W.shaped_ints ns
theorem eqvAll_ints : ∀ a b : List Int, PyData.eqvAll (a.map .int) (b.map .int) = decide (a = b)
  | [], [] => by simp [PyData.eqvAll]
  | [], _ :: _ => by simp [PyData.eqvAll]
  | _ :: _, [] => by simp [PyData.eqvAll]
  | x :: xs, y :: ys => by
    show PyData.eqvAll (.int x :: xs.map .int) (.int y :: ys.map .int) = _
    rw [PyData.eqvAll, eqvAll_ints xs ys, show PyData.eqv (.int x) (.int y) = decide (x = y) by by_cases h : x = y <;> simp [PyData.eqv, h]]
    by_cases h : x = y <;> by_cases g : xs = ys <;> simp [h, g]
def headD (h : List Int) : PyData := .tuple (h.map .int)
/-- == of two heads -/
theorem w_eqH {K : PySem.W.Frag} {H : Hp} {Q : VK} {v u : V} {a b : List Int} (h : Dq K H v (headD a)) (h' : Dq K H u (headD b)) (q : Q (.bl (decide (a = b))) H) : rEqU K v u H Q :=
  w_eqD h h' (shaped_tints a) (shaped_tints b) (by
    have e : PyData.eqv (headD a) (headD b) = decide (a = b) := by
      show PyData.eqv (.tuple (a.map .int)) (.tuple (b.map .int)) = _
      rw [PyData.eqv]
      exact eqvAll_ints a b
    rw [e]
    exact q)
/-- a former head with how many letters ahead it is -/
abbrev Fo := Int × List Int
def foD (p : Fo) : PyData := .tuple [.int p.1, headD p.2]
def fosD (ps : List Fo) : PyData := .tuple (ps.map foD)
def OkFo (s : Shp) (p : Fo) : Prop := p.2.length = s.fs.length ∧ 1 ≤ p.1 ∧ p.1 ≤ 1000
/-- a head's own bits are opened to it by a former one -/
def SuP (s : Shp) (f : Fm) (hd : List Int) (p : Fo) : Prop := OpN s f p.2 p.1 (piecesT (triL s.fs f.ws hd)) s.fs.length hd
def SuA (s : Shp) (f : Fm) (hd : List Int) (ps : List Fo) : Prop := ∀ p ∈ ps, SuP s f hd p
theorem suA_nil {s : Shp} {f : Fm} {hd : List Int} : SuA s f hd [] := fun _ h => nomatch h
theorem suA_snoc {s : Shp} {f : Fm} {hd o : List Int} {ps : List Fo} {p : Fo} {i : Nat} {bs : List Bool} (ok : f.ws.length = s.fs.length) (lp : p.2.length = s.fs.length) (h : bs.all id = true ↔ SuA s f hd (ps.take i)) (hp : ps[i]? = some p) (op : OpN s f p.2 p.1 (piecesT (triL s.fs f.ws hd)) s.fs.length o) : (bs ++ [decide (o = hd)]).all id = true ↔ SuA s f hd (ps.take (i + 1)) := by
  have e : decide (o = hd) = true ↔ SuP s f hd p := ⟨fun e => by
    have z := of_decide_eq_true e
    subst z
    exact op, fun e => decide_eq_true (op.one ok lp (Nat.le_refl _) e)⟩
  rw [List.all_append, Bool.and_eq_true, h, List.take_add_one, hp]
  show _ ∧ (([decide (o = hd)].all id) = true) ↔ _
  rw [show [decide (o = hd)].all id = decide (o = hd) from by simp, e]
  constructor
  · rintro ⟨a, b⟩ q hq
    rcases List.mem_append.mp hq with hq | hq
    · exact a q hq
    · rw [List.mem_singleton.mp hq]
      exact b
  · intro a
    exact ⟨fun q hq => a q (List.mem_append.mpr (.inl hq)), a p (List.mem_append.mpr (.inr (List.mem_singleton.mpr rfl)))⟩
section
variable {K : PySem.W.Frag} {H H' : Hp} {v : V} {Q : VK} {a : Addr} {i : Int}
theorem w_ixLm {α : Type} {g : α → PyData} {l : List α} (h : Dq K H v (.list (l.map g))) (h0 : -(l.length : Int) ≤ i) (h1 : i < l.length) (q : ∀ f x, f ∈ l → Dq K H x (g f) → Q x H) : rIxU K v (.int i) H Q := by
  obtain ⟨f, e, hm⟩ := atI_mem h0 h1
  exact w_ixQL h (d := g f) (by rw [atI_map, e]; rfl) fun x hx => q f x hm hx
theorem w_ixLM {α : Type} {g : α → PyData} {l : List α} (h : Dq K H v (.list (l.map g))) (h0 : 0 ≤ i) (h1 : i < l.length) (q : ∀ f x, l[i.toNat]? = some f → Dq K H x (g f) → Q x H) : rIxU K v (.int i) H Q := by
  obtain ⟨f, e, e2⟩ := atI_get h0 h1
  exact w_ixQL h (d := g f) (by rw [atI_map, e2]; rfl) fun x hx => q f x e hx
theorem w_ixQTx {ds : List PyData} {i : Int} {d : PyData} (h : Dq K H v (.tuple ds)) (e : Sx H H') (ea : atI ds i = some d) (q : ∀ x, Dq K H x d → Q x H') : rIxU K v (.int i) H' Q := by
  cases h with
  | tup h r =>
    obtain ⟨x, e1, e2⟩ := dqs_at r ea
    exact w_ixt (sx_t e h.t) e1 (q x e2)
theorem w_max {ns : List Int} (h : SqL K H a (ns.map V.int)) (h0 : 0 < ns.length) (q : ∀ m, m ∈ ns → (∀ y, y ∈ ns → y ≤ m) → Q (.int m) H) : rMax K [.ref a] H Q := ⟨a, ns, rfl, h, h0, q⟩
end
theorem tupO_head (h : List Int) : tupO (headD h) := tupOs_ints h
theorem tupO_fo (p : Fo) : tupO (foD p) := ⟨trivial, tupO_head _, trivial⟩
theorem tupOs_heads (hs : List (List Int)) : tupOs (hs.map headD) := tupOs_of fun d hd => by
  obtain ⟨h, _, rfl⟩ := List.mem_map.mp hd
  exact tupOs_ints h
def HeadsOk (s : Shp) (hs : List (List Int)) : Prop := ∀ h ∈ hs, OkHead s.fs h
section
variable {K : PySem.W.Frag} {σ : L2.St} {H : Hp} {Q : VK} {te : TE} {tt : TT} {g : TG} {vs : List Nat} {c : Int} {n : Nat}
/-- [.. for k in range(c, c + n)] -/
theorem lcR2 (I : Nat → List V → Hp → Prop) (hst : Stb I) (hn : n ≤ 1000000) (hI : ∀ i acc H', I i acc H' → acc.length ≤ i) (h0 : ∀ H', Same H H' → I 0 [] H')
    (hs : ∀ (i : Nat) acc H', i < n → Same H H' → I i acc H' → ∀ (k : VK) (k' : Hp → Prop), (∀ y H4, Same H' H4 → I (i + 1) (acc ++ [y]) H4 → k y H4) → (∀ H3, Same H' H3 → I (i + 1) acc H3 → k' H3) →
      g (.int (c + (i : Int))) (wipe σ vs) H' fun σ2 H2 => wipe σ2 vs = wipe σ vs ∧ tt σ2 H2 fun b H3 => if b = true then te σ2 H3 k else k' H3)
    (hd : ∀ D acc H', H D = none → Same H H' → H' D = some (.lst acc) → I n acc H' → Q (.ref D) H') : LcOk (Itr c n) g tt te vs σ Q H :=
  lc_gen I hst hn hI h0 (fun _ _ _ h _ _ => h) (fun _ _ _ _ => Nat.le_refl _) (fun i acc x H' H'' hi s1 w1 y => by
    obtain ⟨e1, e2⟩ := y
    subst e1
    subst e2
    exact hs i acc _ hi s1 w1) hd
end
section
variable {X : Cx}
theorem w_bits {to : TE} {σ : L2.St} {H : Hp} {Q : VK} (h : to σ H fun x H1 => ∃ i, x = .int i ∧ Q (.int (Builtin.Int.intBits i : Nat)) H1) : tBits to σ H Q := h
theorem bits_two {n : Int} (h : 2 ≤ n) : 2 ≤ Builtin.Int.intBits n := by
  unfold Builtin.Int.intBits
  rw [if_neg (by simpa using (show n ≠ 0 by omega))]
  have e : 1 ≤ n.natAbs.log2 := by
    rw [Nat.le_log2 (by omega)]
    omega
  omega
end
/-! a cut within an expression -/
section
variable {σ : L2.St} {H : Hp}
theorem w_cutA {t : TA} {k : List V → Hp → Prop} (C : List V → Hp → Prop) (key : ∀ xs H', C xs H' → k xs H') (h : ∀ k' : List V → Hp → Prop, (∀ xs H', C xs H' → k' xs H') → t σ H k') : t σ H k := h k key
theorem w_cutE {t : TE} {k : VK} (C : V → Hp → Prop) (key : ∀ x H', C x H' → k x H') (h : ∀ k' : VK, (∀ x H', C x H' → k' x H') → t σ H k') : t σ H k := h k key
end
end Sh
/-! doubts: the first former by which another head is opened -/
namespace Sh
open PySem PySem.Spec PyProof.Rows L2
/-- the first place at which two heads are unlike -/
def FstU (a b : List Int) : Option Nat → Prop
  | none => a = b
  | some k => a.take k = b.take k ∧ ∃ x y, a[k]? = some x ∧ b[k]? = some y ∧ x ≠ y
theorem FstU.one {a b : List Int} {r r' : Option Nat} (h : FstU a b r) (h' : FstU a b r') : r = r' := by
  have lt : ∀ i j, i < j → FstU a b (some i) → FstU a b (some j) → False := fun i j hij ⟨_, x, y, hx, hy, n⟩ ⟨e, _⟩ => by
    have z : (a.take j)[i]? = (b.take j)[i]? := by rw [e]
    rw [List.getElem?_take_of_lt hij, List.getElem?_take_of_lt hij, hx, hy] at z
    exact n (Option.some.inj z)
  cases r with
  | none => cases r' with
    | none => rfl
    | some k =>
      obtain ⟨_, x, y, hx, hy, n⟩ := h'
      have e : a = b := h
      rw [e, hy] at hx
      exact (n (Option.some.inj hx).symm).elim
  | some k => cases r' with
    | none =>
      obtain ⟨_, x, y, hx, hy, n⟩ := h
      have e : a = b := h'
      rw [e, hy] at hx
      exact (n (Option.some.inj hx).symm).elim
    | some k' =>
      have : k = k' := by
        by_cases c : k < k'
        · exact (lt _ _ c h h').elim
        · by_cases c2 : k' < k
          · exact (lt _ _ c2 h' h).elim
          · omega
      rw [this]
theorem take_snocI {a : List Int} {i : Nat} {x : Int} (h : a[i]? = some x) : a.take (i + 1) = a.take i ++ [x] := by
  rw [List.take_add_one, h]
  rfl
def pairD (d : Option (Int × Int × Int)) : PyData := match d with
  | none => .none
  | some (k, p, v) => .tuple [.int k, .int p, .int v]
/-- what a doubt tells -/
def DouR (s : Shp) (f : Fm) (hd : List Int) (ps : List Fo) : Option (Int × Int × Int) → Prop
  | none => SuA s f hd ps
  | some (k, pl, v) => ∃ (i j : Nat) (p : Fo) (o : List Int), k = i ∧ pl = j ∧ ps[i]? = some p ∧ SuA s f hd (ps.take i) ∧ OpN s f p.2 p.1 (piecesT (triL s.fs f.ws hd)) s.fs.length o ∧ FstU o hd (some j) ∧ o[j]? = some v
theorem DouR.not {s : Shp} {f : Fm} {hd : List Int} {ps : List Fo} {p : Fo} {o : List Int} {j : Nat} (okf : f.ws.length = s.fs.length) (lp : p.2.length = s.fs.length) (op : OpN s f p.2 p.1 (piecesT (triL s.fs f.ws hd)) s.fs.length o) (u : FstU o hd (some j)) : ¬ SuP s f hd p := fun h => by
  obtain rfl := OpN.one okf lp (Nat.le_refl _) op h
  obtain ⟨_, x, y, hx, hy, n⟩ := u
  rw [hx] at hy
  exact n (Option.some.inj hy)
theorem suA_lt {s : Shp} {f : Fm} {hd : List Int} {ps : List Fo} {p : Fo} {i j : Nat} (h : SuA s f hd (ps.take j)) (hp : ps[i]? = some p) (hij : i < j) : SuP s f hd p := h p (by
  have e : (ps.take j)[i]? = some p := by rw [List.getElem?_take_of_lt hij, hp]
  exact List.mem_of_getElem? e)
theorem DouR.one {s : Shp} {f : Fm} {hd : List Int} {ps : List Fo} {r r' : Option (Int × Int × Int)} (okf : f.ws.length = s.fs.length) (lp : ∀ p ∈ ps, OkFo s p) (h : DouR s f hd ps r) (h' : DouR s f hd ps r') : r = r' := by
  have key : ∀ {k pl v}, SuA s f hd ps → DouR s f hd ps (some (k, pl, v)) → False := fun su ⟨i, j, p, o, _, _, hp, _, op, u, _⟩ =>
    DouR.not (ps := ps) okf (lp p (List.mem_of_getElem? hp)).1 op u (su p (List.mem_of_getElem? hp))
  cases r with
  | none => cases r' with
    | none => rfl
    | some x => exact (key h h').elim
  | some x => cases r' with
    | none => exact (key h' h).elim
    | some y =>
      obtain ⟨k, pl, v⟩ := x
      obtain ⟨k', pl', v'⟩ := y
      obtain ⟨i, j, p, o, rfl, rfl, hp, su, op, u, hv⟩ := h
      obtain ⟨i', j', p', o', rfl, rfl, hp', su', op', u', hv'⟩ := h'
      have ei : i = i' := by
        by_cases c : i < i'
        · exact (DouR.not (ps := ps) okf (lp p (List.mem_of_getElem? hp)).1 op u (suA_lt su' hp c)).elim
        · by_cases c2 : i' < i
          · exact (DouR.not (ps := ps) okf (lp p' (List.mem_of_getElem? hp')).1 op' u' (suA_lt su hp' c2)).elim
          · omega
      subst ei
      obtain rfl := Option.some.inj (hp.symm.trans hp')
      obtain rfl := OpN.one okf (lp p (List.mem_of_getElem? hp)).1 (Nat.le_refl _) op op'
      obtain rfl := Option.some.inj (FstU.one u u')
      obtain rfl := Option.some.inj (hv.symm.trans hv')
      rfl
theorem suA_step {s : Shp} {f : Fm} {hd o : List Int} {ps : List Fo} {p : Fo} {i : Nat} (h : SuA s f hd (ps.take i)) (hp : ps[i]? = some p) (op : OpN s f p.2 p.1 (piecesT (triL s.fs f.ws hd)) s.fs.length o) (e : o = hd) : SuA s f hd (ps.take (i + 1)) := by
  subst e
  rw [List.take_add_one, hp]
  intro q hq
  rcases List.mem_append.mp hq with hq | hq
  · exact h q hq
  · have z : q ∈ [p] := hq
    rw [List.mem_singleton.mp z]
    exact op
theorem plD_pair (d : Option (Int × Int × Int)) : PlD 6 (pairD d) := by
  cases d with
  | none => trivial
  | some x => exact ⟨by show 3 ≤ 1000; omega, fun d hd => by
      simp only [List.mem_cons, List.not_mem_nil, or_false] at hd
      rcases hd with rfl | rfl | rfl <;> trivial⟩
/-- the places at which heads are unlike, as far as place i -/
def PlI (o hd : List Int) (i : Nat) (ns : List Int) : Prop := (ns = [] ∧ o.take i = hd.take i) ∨ ∃ (k : Nat) (r : List Int), ns = (k : Int) :: r ∧ FstU o hd (some k)
theorem PlI.zero {o hd : List Int} : PlI o hd 0 [] := .inl ⟨rfl, by rw [List.take_zero, List.take_zero]⟩
theorem PlI.same {o hd ns : List Int} {i : Nat} {x : Int} (h : PlI o hd i ns) (h1 : o[i]? = some x) (h2 : hd[i]? = some x) : PlI o hd (i + 1) ns := by
  rcases h with ⟨e, t⟩ | h
  · exact .inl ⟨e, by rw [take_snocI h1, take_snocI h2, t]⟩
  · exact .inr h
theorem PlI.unlike {o hd ns : List Int} {i : Nat} {x y : Int} (h : PlI o hd i ns) (h1 : o[i]? = some x) (h2 : hd[i]? = some y) (n : x ≠ y) : PlI o hd (i + 1) (ns ++ [(i : Int)]) := by
  rcases h with ⟨rfl, t⟩ | ⟨k, r, rfl, u⟩
  · exact .inr ⟨i, [], rfl, t, x, y, h1, h2, n⟩
  · exact .inr ⟨k, r ++ [(i : Int)], rfl, u⟩
section
variable {K : PySem.W.Frag} {σ : L2.St} {H : Hp} {tb : TS} {nx : L2.St → Hp → Prop} {rt : VK} {a : Addr} {xs : List V} {i1 i2 : Nat} {g2 : TG} {te : TE} {tt : TT} {vs : List Nat} {Q : VK}
/-- for place, (..) in enumerate(a tuple) -/
theorem forETg (I : Nat → L2.St → Hp → Prop) (h0 : I 0 σ H) (hI : ∀ i σ' H', I i σ' H' → SqT K H' a xs)
    (hs : ∀ (i : Nat) x σ' H', xs[i]? = some x → I i σ' H' → ∀ H2, Same H' H2 → g2 x (σ'.set i1 (some (.int (i : Int)))) H2 fun σ2 H3 => gNil [] σ2 H3 fun σ3 H4 => tb ⟨I (i + 1), rt, nx, I (i + 1)⟩ σ3 H4) (hd : ∀ σ' H', I xs.length σ' H' → nx σ' H') :
    ForOk (IteT K a) (gTup K 2 (gCons (gName i1) (gCons g2 gNil))) tb nx rt σ H := by
  refine ⟨fun i m σ' H' => m = xs.length - i ∧ i ≤ xs.length ∧ I i σ' H', ⟨_, rfl, Nat.zero_le _, h0⟩, fun i m σ' H1 ⟨em, hi, w1⟩ => ?_⟩
  have s1 := hI _ _ _ w1
  by_cases hlt : i < xs.length
  · refine .inr ⟨⟨xs, xs[i], s1, List.getElem?_eq_getElem hlt⟩, I (i + 1), fun σ2 H2 w2 => ⟨_, by omega, rfl, hlt, w2⟩, fun v H2 y => ?_⟩
    obtain ⟨T, x, rfl, hT, rfl, hy⟩ := y
    have ex := hy xs s1
    exact ⟨T, _, rfl, SqT.of upd_same, rfl, _, _, rfl, _, _, rfl, hs i x σ' H1 ex w1 _ (same_new hT)⟩
  · have e : i = xs.length := by omega
    subst e
    exact .inl ⟨⟨xs, s1, Nat.le_refl _⟩, hd σ' H1 w1⟩
/-- [.. for place, item in enumerate(t) if ..] -/
theorem lcET (hx : SqT K H a xs) (I : Nat → List V → Hp → Prop) (hst : Stb I) (hn : xs.length ≤ 1000000) (hI : ∀ i acc H', I i acc H' → acc.length ≤ i) (h0 : ∀ H', Same H H' → I 0 [] H')
    (hs : ∀ (i : Nat) x acc H', xs[i]? = some x → Same H H' → I i acc H' → ∀ H2, Same H' H2 → ∀ (k : VK) (k' : Hp → Prop), (∀ z H4, Same H2 H4 → I (i + 1) (acc ++ [z]) H4 → k z H4) → (∀ H3, Same H2 H3 → I (i + 1) acc H3 → k' H3) →
      wipe (((wipe σ vs).set i1 (some (.int (i : Int)))).set i2 (some x)) vs = wipe σ vs ∧ tt (((wipe σ vs).set i1 (some (.int (i : Int)))).set i2 (some x)) H2 fun b H3 => if b = true then te (((wipe σ vs).set i1 (some (.int (i : Int)))).set i2 (some x)) H3 k else k' H3)
    (hd : ∀ D acc H', H D = none → Same H H' → H' D = some (.lst acc) → I xs.length acc H' → Q (.ref D) H') :
    LcOk (IteT K a) (gTup K 2 (gCons (gName i1) (gCons (gName i2) gNil))) tt te vs σ Q H :=
  lc_gen (n := xs.length) I hst hn hI h0
    (fun i acc H' hi s1 _ => ⟨xs, xs[i], same_t s1 hx, List.getElem?_eq_getElem hi⟩)
    (fun _ _ s1 _ => ⟨xs, same_t s1 hx, Nat.le_refl _⟩)
    (fun i acc v H' H'' hi s1 w1 z => by
      obtain ⟨T, x, rfl, hT, rfl, ex⟩ := z
      intro k k' hk hk'
      refine ⟨T, _, rfl, SqT.of upd_same, rfl, _, _, rfl, _, _, rfl, rfl, ?_⟩
      exact hs i x acc H' (ex xs (same_t s1 hx)) s1 w1 _ (same_new hT) k k' (fun z H4 e => hk z H4 ((same_new hT).trans e)) fun H3 e => hk' H3 ((same_new hT).trans e))
    hd
end
/-! what shows a doubt -/
def trD (t : Int × Int × Int) : PyData := .tuple [.int t.1, .int t.2.1, .int t.2.2]
theorem trD_inj {t u : Int × Int × Int} (h : trD t = trD u) : t = u := by
  obtain ⟨a, b, c⟩ := t
  obtain ⟨a', b', c'⟩ := u
  injection h with h
  injection h with h1 h
  injection h with h2 h
  injection h with h3 h
  injection h1 with h1
  injection h2 with h2
  injection h3 with h3
  have e1 : a = a' := h1
  have e2 : b = b' := h2
  have e3 : c = c' := h3
  rw [e1, e2, e3]
theorem tupO_tr (t : Int × Int × Int) : tupO (trD t) := ⟨trivial, trivial, trivial, trivial⟩
theorem plD_tr (t : Int × Int × Int) : PlD 6 (trD t) := plD_pair (some t)
def Shw (s : Shp) (f : Fm) (hd : List Int) (ps : List Fo) (t : Int × Int × Int) : Prop := ∃ (i j : Nat) (p : Fo) (o : List Int), t.1 = i ∧ t.2.1 = j ∧ ps[i]? = some p ∧ OpN s f p.2 p.1 (piecesT (triL s.fs f.ws hd)) s.fs.length o ∧ FstU o hd (some j) ∧ o[j]? = some t.2.2
theorem shw_iff {s : Shp} {f : Fm} {hd o : List Int} {ps : List Fo} {p : Fo} {i : Nat} {r : Option Nat} (okf : f.ws.length = s.fs.length) (lp : p.2.length = s.fs.length) (hp : ps[i]? = some p) (op : OpN s f p.2 p.1 (piecesT (triL s.fs f.ws hd)) s.fs.length o) (u : FstU o hd r) {pl v : Int} : Shw s f hd ps ((i : Int), pl, v) ↔ ∃ j, r = some j ∧ pl = (j : Nat) ∧ o[j]? = some v := by
  constructor
  · rintro ⟨i', j, p', o', e1, e2, hp', op', u', hv⟩
    have e1 : (i : Int) = i' := e1
    obtain rfl : i = i' := by omega
    obtain rfl := Option.some.inj (hp.symm.trans hp')
    obtain rfl := OpN.one okf lp (Nat.le_refl _) op op'
    exact ⟨j, FstU.one u u', e2, hv⟩
  · rintro ⟨j, rfl, e, hv⟩
    exact ⟨i, j, p, o, rfl, e, hp, op, u, hv⟩
theorem shw_lt {s : Shp} {f : Fm} {hd : List Int} {ps : List Fo} {t : Int × Int × Int} (h : Shw s f hd ps t) : 0 ≤ t.1 ∧ t.1 < ps.length := by
  obtain ⟨i, j, p, o, e, _, hp, _⟩ := h
  have := (List.getElem?_eq_some_iff.mp hp).1
  omega
theorem shw_not {s : Shp} {f : Fm} {hd : List Int} {ps : List Fo} (okf : f.ws.length = s.fs.length) (lp : ∀ p ∈ ps, OkFo s p) (h : DouR s f hd ps none) (t : Int × Int × Int) : ¬ Shw s f hd ps t := fun ⟨i, j, p, o, _, _, hp, op, u, _⟩ =>
  DouR.not (ps := ps) okf (lp p (List.mem_of_getElem? hp)).1 op u (h p (List.mem_of_getElem? hp))
theorem shw_dou {s : Shp} {f : Fm} {hd : List Int} {ps : List Fo} {t : Int × Int × Int} (h : DouR s f hd ps (some t)) : Shw s f hd ps t := by
  obtain ⟨i, j, p, o, e1, e2, hp, _, op, u, hv⟩ := h
  exact ⟨i, j, p, o, e1, e2, hp, op, u, hv⟩
/-- those that are shown by formers ahead of place i -/
def AllS (s : Shp) (f : Fm) (hd : List Int) (ps : List Fo) (i : Nat) (ts : List (Int × Int × Int)) : Prop := ∀ t, t ∈ ts ↔ Shw s f hd ps t ∧ t.1 < i
theorem allS_zero {s : Shp} {f : Fm} {hd : List Int} {ps : List Fo} : AllS s f hd ps 0 [] := fun t => ⟨(fun h => nomatch h), fun h => by
  have := shw_lt h.1
  have := h.2
  omega⟩
theorem allS_step {s : Shp} {f : Fm} {hd o : List Int} {ps : List Fo} {p : Fo} {i : Nat} {r : Option Nat} {ts ts' : List (Int × Int × Int)} (okf : f.ws.length = s.fs.length) (lp : p.2.length = s.fs.length) (hp : ps[i]? = some p) (op : OpN s f p.2 p.1 (piecesT (triL s.fs f.ws hd)) s.fs.length o) (u : FstU o hd r) (h : AllS s f hd ps i ts)
    (hr : match r with | none => ts' = ts | some j => ∃ v, o[j]? = some v ∧ ts' = ts ++ [((i : Int), (j : Int), v)]) : AllS s f hd ps (i + 1) ts' := by
  intro t
  have lt : (Shw s f hd ps t ∧ t.1 < ((i + 1 : Nat) : Int)) ↔ (Shw s f hd ps t ∧ t.1 < i) ∨ (Shw s f hd ps t ∧ t.1 = i) := by
    constructor
    · rintro ⟨a, b⟩
      rcases (show t.1 < i ∨ t.1 = i by omega) with c | c
      · exact .inl ⟨a, c⟩
      · exact .inr ⟨a, c⟩
    · rintro (⟨a, b⟩ | ⟨a, b⟩)
      · exact ⟨a, by omega⟩
      · exact ⟨a, by omega⟩
  rw [lt, ← h t]
  obtain ⟨k, pl, v⟩ := t
  cases r with
  | none =>
    have e : ts' = ts := hr
    rw [e]
    constructor
    · exact .inl
    · rintro (a | ⟨a, b⟩)
      · exact a
      · have b : k = i := b
        subst b
        obtain ⟨j, z, _⟩ := (shw_iff okf lp hp op u).mp a
        cases z
  | some j =>
    obtain ⟨w, hw, rfl⟩ := hr
    rw [List.mem_append, List.mem_singleton]
    constructor
    · rintro (a | a)
      · exact .inl a
      · injection a with a1 a2
        injection a2 with a2 a3
        subst a1 a2 a3
        exact .inr ⟨(shw_iff okf lp hp op u).mpr ⟨j, rfl, rfl, hw⟩, rfl⟩
    · rintro (a | ⟨a, b⟩)
      · exact .inl a
      · have b : k = i := b
        subst b
        obtain ⟨j', z, z2, z3⟩ := (shw_iff okf lp hp op u).mp a
        obtain rfl := Option.some.inj z
        obtain rfl := Option.some.inj (hw.symm.trans z3)
        exact .inr (by rw [z2])
theorem allS_all {s : Shp} {f : Fm} {hd : List Int} {ps : List Fo} {ts : List (Int × Int × Int)} (h : AllS s f hd ps ps.length ts) (t : Int × Int × Int) : t ∈ ts ↔ Shw s f hd ps t := by
  rw [h t]
  exact ⟨fun h => h.1, fun h => ⟨h, (shw_lt h).2⟩⟩
theorem isIntD_ex {d : PyData} (h : isIntD d = true) : ∃ i, d = .int i := by
  cases d <;> first | exact ⟨_, rfl⟩ | cases h
theorem FstU.of_PlI {o hd ns : List Int} (l1 : o.length ≤ n) (l2 : hd.length ≤ n) (h : PlI o hd n ns) : (ns = [] ∧ FstU o hd none) ∨ ∃ (k : Nat) (r : List Int), ns = (k : Int) :: r ∧ FstU o hd (some k) := by
  rcases h with ⟨e, t⟩ | h
  · refine .inl ⟨e, ?_⟩
    rw [List.take_of_length_le l1, List.take_of_length_le l2] at t
    exact t
  · exact .inr h
theorem opN_bd {s : Shp} {f : Fm} {fo : List Int} {m : Int} {z : Str} {o : List Int} {j : Nat} {v : Int} (ok : OkShp s) (okf : OkFm s f) (lf : fo.length = s.fs.length) (h01 : ∀ c ∈ cz z, c = 48 ∨ c = 49) (hz : z.length = atW s.fs f.ws s.fs.length) (op : OpN s f fo m z s.fs.length o) (hv : o[j]? = some v) : 0 ≤ v ∧ v < 1099511627776 := by
  have hj := (List.getElem?_eq_some_iff.mp hv).1
  rw [op.1] at hj
  have lw := okf.len
  obtain ⟨fd, h1⟩ : ∃ fd, s.fs[j]? = some fd := ⟨_, List.getElem?_eq_getElem hj⟩
  obtain ⟨w, h2⟩ : ∃ w, f.ws[j]? = some w := ⟨_, List.getElem?_eq_getElem (by omega)⟩
  obtain ⟨y, h3⟩ : ∃ y, fo[j]? = some y := ⟨_, List.getElem?_eq_getElem (by omega)⟩
  obtain ⟨x, hx, hvo⟩ := op.2 j fd w y hj h1 h2 h3
  obtain rfl := Option.some.inj (hx.symm.trans hv)
  have okd := ok.fd j fd h1
  have b0 := okd.b0
  have pb := p2_pos fd.br
  have pl : p2 fd.br ≤ p2 40 := p2_le okd.b1
  have e40 : p2 40 = 1099511627776 := rfl
  cases w with
  | whole =>
    have e : x = numS z (atW s.fs f.ws j) (wW fd .whole) := hvo
    have z1 := atW_succ h1 h2
    have z2 := atW_mono s.fs f.ws (show j + 1 ≤ s.fs.length from hj)
    have z3 := numS_bd (a := atW s.fs f.ws j) (l := wW fd .whole) h01 (by omega)
    have e2 : (2 : Int) ^ (wW fd .whole) = p2 fd.br := rfl
    rw [e2] at z3
    omega
  | keep =>
    obtain ⟨r, _, rfl⟩ := hvo
    have a := Int.emod_nonneg r (Int.ne_of_gt pb)
    have b := Int.emod_lt_of_pos r pb
    omega
  | low wd bl =>
    obtain ⟨r, _, rfl⟩ := hvo
    have a := Int.emod_nonneg ((r % p2 fd.br) - bl + (numS z (atW s.fs f.ws j) (wW fd (.low wd bl)) - ((r % p2 fd.br) - bl)) % p2 wd) (Int.ne_of_gt pb)
    have b := Int.emod_lt_of_pos ((r % p2 fd.br) - bl + (numS z (atW s.fs f.ws j) (wW fd (.low wd bl)) - ((r % p2 fd.br) - bl)) % p2 wd) pb
    unfold arnF
    omega
theorem shw_bd {s : Shp} {f : Fm} {hd : List Int} {ps : List Fo} {t : Int × Int × Int} (ok : OkShp s) (okf : OkFm s f) (lh : hd.length = s.fs.length) (okp : ∀ p ∈ ps, OkFo s p) (h : Shw s f hd ps t) : 0 ≤ t.1 ∧ t.1 < ps.length ∧ 0 ≤ t.2.2 ∧ t.2.2 < 1099511627776 := by
  have z := shw_lt h
  obtain ⟨i, j, p, o, _, _, hp, op, u, hv⟩ := h
  have b := opN_bd ok okf (okp p (List.mem_of_getElem? hp)).1 (pieces_01 _) (by rw [pieces_len, atW_all okf.len lh]) op hv
  exact ⟨z.1, z.2, b.1, b.2⟩
theorem shaped_trs (ts : List (Int × Int × Int)) : SeqAt.shaped (.list (ts.map trD)) = true := shaped_list (k := 10) (by decide) fun d hd => by
  obtain ⟨t, _, rfl⟩ := List.mem_map.mp hd
  exact ⟨by simp [trD, PyData.canLay0, PyData.canLayAll0], by simp [trD, PyData.depth, PyData.depthAll]⟩
end Sh
/-! heads within the windows of a form, and beside them -/
namespace Sh
open PySem PySem.Spec PyProof.Rows L2
/-! the number of a piece -/
theorem drop_fl {α : Type} (g : α → List Nat) : ∀ (ts : List α) (j : Nat), ((ts.map g).flatten).drop (((ts.take j).map fun t => (g t).length).sum) = ((ts.drop j).map g).flatten
  | ts, 0 => by simp
  | [], j + 1 => by simp
  | t :: r, j + 1 => by
    rw [List.take_succ_cons, List.map_cons, List.map_cons, List.sum_cons, List.flatten_cons, List.drop_succ_cons, ← drop_fl g r j, ← List.drop_drop, List.drop_append]
    simp
theorem tri_zip : ∀ {fs : List Fd} {ws : List Wy} {vs : List Int}, ws.length = fs.length → vs.length = fs.length → (triL fs ws vs).map (fun t => (t.1, t.2.1)) = fs.zip ws
  | [], _, _, _, _ => rfl
  | _ :: _, [], _, h, _ => by simp at h
  | _ :: _, _ :: _, [], _, h => by simp at h
  | f :: fs, w :: ws, v :: vs, h1, h2 => by
    have ih := tri_zip (fs := fs) (ws := ws) (vs := vs) (by simpa using h1) (by simpa using h2)
    unfold triL at ih ⊢
    rw [List.zip_cons_cons, List.zip_cons_cons, List.map_cons, ih, List.zip_cons_cons]
theorem atW_tri {fs : List Fd} {ws : List Wy} {vs : List Int} (h1 : ws.length = fs.length) (h2 : vs.length = fs.length) (j : Nat) : atW fs ws j = (((triL fs ws vs).take j).map fun t => (cz (pieceT t)).length).sum := by
  unfold atW
  rw [← tri_zip h1 h2, ← List.map_take, List.map_map]
  congr 1
  refine List.map_congr_left fun t _ => ?_
  show wW t.1 t.2.1 = _
  rw [cz_len]
  unfold pieceT
  rw [len_bitsT]
theorem numS_piece {fs : List Fd} {ws : List Wy} {vs : List Int} {j : Nat} {f : Fd} {w : Wy} {v : Int} (l1 : ws.length = fs.length) (l2 : vs.length = fs.length) (h1 : fs[j]? = some f) (h2 : ws[j]? = some w) (h3 : vs[j]? = some v) : numS (piecesT (triL fs ws vs)) (atW fs ws j) (wW f w) = v % p2 (wW f w : Nat) := by
  have ht := tri_get h1 h2 h3
  unfold numS sliceN
  rw [cz_pieces, atW_tri l1 l2 j, drop_fl]
  have ed : (triL fs ws vs).drop j = (f, w, v) :: (triL fs ws vs).drop (j + 1) := by
    have hj := (List.getElem?_eq_some_iff.mp ht).1
    rw [List.drop_eq_getElem_cons hj, (List.getElem?_eq_some_iff.mp ht).2]
  rw [ed, List.map_cons, List.flatten_cons]
  have lp : (cz (pieceT (f, w, v))).length = wW f w := by
    rw [cz_len]
    unfold pieceT
    rw [len_bitsT]
  rw [List.take_append_of_le_length (by omega), List.take_of_length_le (by omega)]
  have pp := p2_pos (wW f w : Nat)
  have e2 : p2 ((wW f w : Nat) : Int) = 2 ^ wW f w := by
    unfold p2
    rw [Int.toNat_natCast]
  have a := Int.emod_nonneg v (Int.ne_of_gt pp)
  have b := Int.emod_lt_of_pos v pp
  exact numT_bits a (by rw [← e2]; exact b)
/-! windows -/
def belW : Wy → Int
  | .low _ l => l
  | _ => 0
def WinV (fo ah : List Int) (m v : Int) (fd : Fd) : Wy → Int → Prop
  | .whole, x => 0 ≤ x ∧ x < p2 fd.br
  | .keep, x => ∃ r, ExpK fo ah m v fd.kd r ∧ x = r % p2 fd.br
  | .low wd bl, x => ∃ r c, ExpK fo ah m v fd.kd r ∧ 0 ≤ c ∧ c < p2 wd ∧ x = (r % p2 fd.br - bl + c) % p2 fd.br
theorem p2_dvdI {a b : Int} (h : a ≤ b) : p2 a ∣ p2 b := by
  unfold p2
  refine ⟨2 ^ (b.toNat - a.toNat), ?_⟩
  rw [← Int.pow_add]
  congr 1
  omega
theorem back_mod {B P y t : Int} (hd : P ∣ B) : ((y + t) % B % P - y) % P = t % P := by
  rw [Int.emod_emod_of_dvd _ hd, Int.sub_emod, Int.emod_emod_of_dvd _ (Int.dvd_refl P), ← Int.sub_emod]
  congr 1
  omega
theorem vo_win {fo ah : List Int} {m v x : Int} {fd : Fd} {w : Wy} (b0 : 0 ≤ fd.br) (ok : OkWy fd.br w) (h : WinV fo ah m v fd w x) : VO fo ah m v fd (x % p2 (wW fd w : Nat)) w x := by
  cases w with
  | whole =>
    show x = x % p2 ((fd.br.toNat : Nat) : Int)
    rw [show ((fd.br.toNat : Nat) : Int) = fd.br by omega]
    exact (Int.emod_eq_of_lt h.1 h.2).symm
  | keep => exact h
  | low wd bl =>
    obtain ⟨r, c, hr, c0, c1, hx⟩ := h
    refine ⟨r, hr, ?_⟩
    have w0 := ok.1
    show x = arnF fd.br (r % p2 fd.br) bl (x % p2 ((wd.toNat : Nat) : Int)) wd
    rw [show ((wd.toNat : Nat) : Int) = wd by omega]
    unfold arnF
    rw [hx, back_mod (p2_dvdI ok.2.1), Int.emod_eq_of_lt c0 c1]
/-- the values lie in the windows, as far as place i -/
def WinN (s : Shp) (f : Fm) (fo : List Int) (m : Int) (i : Nat) (hd : List Int) : Prop :=
  hd.length = i ∧ ∀ (j : Nat) fd w v, j < i → s.fs[j]? = some fd → f.ws[j]? = some w → fo[j]? = some v → ∃ x, hd[j]? = some x ∧ WinV fo (hd.take j) m v fd w x
theorem WinN.nil {s : Shp} {f : Fm} {fo : List Int} {m : Int} : WinN s f fo m 0 [] := ⟨rfl, fun j _ _ _ h => by omega⟩
theorem WinN.snoc {s : Shp} {f : Fm} {fo hd : List Int} {m : Int} {i : Nat} {fd : Fd} {w : Wy} {v x : Int} (h : WinN s f fo m i hd) (h1 : s.fs[i]? = some fd) (h2 : f.ws[i]? = some w) (h3 : fo[i]? = some v) (hx : WinV fo hd m v fd w x) : WinN s f fo m (i + 1) (hd ++ [x]) := by
  obtain ⟨hl, h⟩ := h
  refine ⟨by rw [List.length_append, hl]; rfl, fun j fd' w' v' hj e1 e2 e3 => ?_⟩
  by_cases c : j < i
  · obtain ⟨y, hy, hv⟩ := h j fd' w' v' c e1 e2 e3
    refine ⟨y, by rw [List.getElem?_append_left (by omega)]; exact hy, ?_⟩
    rw [List.take_append_of_le_length (by omega)]
    exact hv
  · have e : j = i := by omega
    subst e
    obtain rfl := Option.some.inj (h1.symm.trans e1)
    obtain rfl := Option.some.inj (h2.symm.trans e2)
    obtain rfl := Option.some.inj (h3.symm.trans e3)
    refine ⟨x, ?_, ?_⟩
    · rw [List.getElem?_append_right (by omega), hl, Nat.sub_self]
      rfl
    · rw [List.take_append_of_le_length (by omega), List.take_of_length_le (by omega)]
      exact hx
theorem WinN.cut {s : Shp} {f : Fm} {fo hd : List Int} {m : Int} {i p : Nat} (h : WinN s f fo m i hd) (hp : p ≤ i) : WinN s f fo m p (hd.take p) := by
  refine ⟨by rw [List.length_take, h.1]; omega, fun j fd w v hj e1 e2 e3 => ?_⟩
  obtain ⟨x, hx, hv⟩ := h.2 j fd w v (by omega) e1 e2 e3
  refine ⟨x, by rw [List.getElem?_take_of_lt hj]; exact hx, ?_⟩
  rw [List.take_take, Nat.min_eq_left (by omega)]
  exact hv
theorem OpN.cut {s : Shp} {f : Fm} {fo hd : List Int} {m : Int} {z : Str} {i p : Nat} (h : OpN s f fo m z i hd) (hp : p ≤ i) : OpN s f fo m z p (hd.take p) := by
  refine ⟨by rw [List.length_take, h.1]; omega, fun j fd w v hj e1 e2 e3 => ?_⟩
  obtain ⟨x, hx, hv⟩ := h.2 j fd w v (by omega) e1 e2 e3
  refine ⟨x, by rw [List.getElem?_take_of_lt hj]; exact hx, ?_⟩
  rw [List.take_take, Nat.min_eq_left (by omega)]
  exact hv
theorem op_win {s : Shp} {f : Fm} {fo hd vs : List Int} {m : Int} {i : Nat} (ok : OkShp s) (okf : OkFm s f) (h : WinN s f fo m i hd) (lv : vs.length = s.fs.length) (ht : vs.take i = hd) : OpN s f fo m (piecesT (triL s.fs f.ws vs)) i hd := by
  refine ⟨h.1, fun j fd w v hj e1 e2 e3 => ?_⟩
  obtain ⟨x, hx, hv⟩ := h.2 j fd w v hj e1 e2 e3
  have hvx : vs[j]? = some x := by
    rw [← ht, List.getElem?_take_of_lt hj] at hx
    exact hx
  refine ⟨x, hx, ?_⟩
  rw [numS_piece okf.len lv e1 e2 hvx]
  exact vo_win (by have := (ok.fd j fd e1).b0; omega) (okf.ok j w fd e2 e1) hv
/-! one value beside its window -/
def Bes (s : Shp) (f : Fm) (fo : List Int) (m : Int) (hd : List Int) (p : Nat) (val : Int) : Prop :=
  ∃ fd w v r far, s.fs[p]? = some fd ∧ f.ws[p]? = some w ∧ fo[p]? = some v ∧ ((wW fd w : Nat) : Int) < fd.br ∧ ExpK fo (hd.take p) m v fd.kd r ∧ p2 (wW fd w : Nat) ≤ far ∧ far < p2 fd.br ∧ val = (r % p2 fd.br - belW w + far) % p2 fd.br
/-- the values that are told -/
theorem vo_bes {fo ah : List Int} {m v r far x : Int} {fd : Fd} {w : Wy} (ok : OkWy fd.br w) (hw : ((wW fd w : Nat) : Int) < fd.br) (hr : ExpK fo ah m v fd.kd r) (h : VO fo ah m v fd ((r % p2 fd.br - belW w + far) % p2 fd.br % p2 (wW fd w : Nat)) w x) : x = (r % p2 fd.br - belW w + far % p2 (wW fd w : Nat)) % p2 fd.br := by
  cases w with
  | whole =>
    have : ((fd.br.toNat : Nat) : Int) < fd.br := hw
    omega
  | keep =>
    obtain ⟨r', hr', e⟩ := h
    obtain rfl := ExpK.one hr hr'
    have pb := p2_pos fd.br
    have e1 : p2 ((wW fd .keep : Nat) : Int) = 1 := rfl
    rw [e1, Int.emod_one]
    show x = (r % p2 fd.br - 0 + 0) % p2 fd.br
    rw [Int.sub_zero, Int.add_zero, Int.emod_emod_of_dvd _ (Int.dvd_refl _)]
    exact e
  | low wd bl =>
    obtain ⟨r', hr', e⟩ := h
    obtain rfl := ExpK.one hr hr'
    have w0 := ok.1
    have e1 : ((wW fd (.low wd bl) : Nat) : Int) = wd := by
      show ((wd.toNat : Nat) : Int) = wd
      omega
    rw [e1] at e ⊢
    unfold arnF at e
    have e2 := back_mod (B := p2 fd.br) (P := p2 wd) (y := r % p2 fd.br - bl) (t := far) (p2_dvdI ok.2.1)
    have e3 : belW (.low wd bl) = bl := rfl
    rw [e3] at e ⊢
    rw [e2] at e
    exact e
section
variable {B P y far : Int}
theorem bes_ne (hP : 0 < P) (h0 : P ≤ far) (h1 : far < B) : (y + far % P) % B ≠ (y + far) % B := fun e => by
  have a := Int.emod_nonneg far (Int.ne_of_gt hP)
  have b := Int.emod_lt_of_pos far hP
  have d : B ∣ (y + far) - (y + far % P) := Int.dvd_of_emod_eq_zero (Int.emod_eq_emod_iff_emod_sub_eq_zero.mp e.symm)
  have le := Int.le_of_dvd (by omega) d
  omega
theorem bes_in (hP : 0 < P) (h0 : P ≤ far) (h1 : far < B) : ((y + far % P) % B - y) % B < P := by
  have a := Int.emod_nonneg far (Int.ne_of_gt hP)
  have b := Int.emod_lt_of_pos far hP
  have e : ((y + far % P) % B - y) % B = far % P % B := by
    rw [Int.sub_emod, Int.emod_emod_of_dvd _ (Int.dvd_refl B), ← Int.sub_emod]
    congr 1
    omega
  rw [e, Int.emod_eq_of_lt a (by omega)]
  exact b
theorem bes_rest (hd : P ∣ B) : ((y + far % P) % B - (y + far) % B) % P = 0 := by
  rw [Int.sub_emod, Int.emod_emod_of_dvd _ hd, Int.emod_emod_of_dvd _ hd, ← Int.sub_emod]
  have e : y + far % P - (y + far) = 0 - P * (far / P) := by
    have := Int.mul_ediv_add_emod far P
    omega
  rw [e, Int.zero_sub, ← Int.mul_neg, Int.mul_emod_right]
end
theorem w_neH {K : PySem.W.Frag} {H : Hp} {Q : VK} {v u : V} {a b : List Int} (h : Dq K H v (headD a)) (h' : Dq K H u (headD b)) (q : Q (.bl (!decide (a = b))) H) : rNeU K v u H Q :=
  w_neD h h' (shaped_tints a) (shaped_tints b) (by
    have e : PyData.eqv (headD a) (headD b) = decide (a = b) := by
      show PyData.eqv (.tuple (a.map .int)) (.tuple (b.map .int)) = _
      rw [PyData.eqv]
      exact eqvAll_ints a b
    rw [e]
    exact q)
end Sh
/-! pacts and letters -/
namespace Sh
open PySem PySem.Spec PyProof.Rows L2
/-- the least width of so many unlike numbers -/
def IsW (m : Int) (n : Nat) : Prop := m ≤ 2 ^ n ∧ ∀ u : Nat, u < n → (2 : Int) ^ u < m
theorem isW_one {m : Int} {a b : Nat} (h : IsW m a) (h' : IsW m b) : a = b := by
  rcases Nat.lt_trichotomy a b with q | q | q
  · have := h'.2 a q
    have := h.1
    omega
  · exact q
  · have := h.2 b q
    have := h'.1
    omega
theorem pow_lt_of {a b : Nat} (h : (2 : Int) ^ a < 2 ^ b) : a < b := by
  have h2 : (2 : Nat) ^ a < 2 ^ b := by
    have e1 : ((2 ^ a : Nat) : Int) = (2 : Int) ^ a := by simp
    have e2 : ((2 ^ b : Nat) : Int) = (2 : Int) ^ b := by simp
    omega
  exact (Nat.pow_lt_pow_iff_right (by decide)).mp h2
/-- each value, two more than its place times -/
def ckF : Nat → List Int → Int
  | _, [] => 0
  | i, v :: r => ((i : Int) + 2) * v + ckF (i + 1) r
theorem ckF_snoc : ∀ (l : List Int) (j : Nat) (v : Int), ckF j (l ++ [v]) = ckF j l + ((j : Int) + l.length + 2) * v
  | [], j, v => by
    show ((j : Int) + 2) * v + 0 = 0 + ((j : Int) + ((0 : Nat) : Int) + 2) * v
    rw [Int.add_zero, Int.zero_add, Int.natCast_zero, Int.add_zero]
  | w :: r, j, v => by
    show ((j : Int) + 2) * w + ckF (j + 1) (r ++ [v]) = ((j : Int) + 2) * w + ckF (j + 1) r + ((j : Int) + ((r.length + 1 : Nat) : Int) + 2) * v
    have e : ((j + 1 : Nat) : Int) + (r.length : Int) + 2 = (j : Int) + ((r.length + 1 : Nat) : Int) + 2 := by omega
    rw [ckF_snoc r (j + 1) v, e, ← Int.add_assoc]
theorem ckF_set : ∀ (l : List Int) (j i : Nat) (v w : Int), l[i]? = some v → ckF j (l.set i w) = ckF j l + ((j : Int) + i + 2) * (w - v)
  | [], _, _, _, _, h => by simp at h
  | x :: r, j, 0, v, w, h => by
    simp at h
    subst h
    show ((j : Int) + 2) * w + ckF (j + 1) r = ((j : Int) + 2) * x + ckF (j + 1) r + ((j : Int) + ((0 : Nat) : Int) + 2) * (w - x)
    rw [Int.mul_sub]
    have e : (j : Int) + ((0 : Nat) : Int) + 2 = (j : Int) + 2 := by omega
    rw [e]
    omega
  | x :: r, j, i + 1, v, w, h => by
    show ((j : Int) + 2) * x + ckF (j + 1) (r.set i w) = ((j : Int) + 2) * x + ckF (j + 1) r + ((j : Int) + ((i + 1 : Nat) : Int) + 2) * (w - v)
    have e : ((j + 1 : Nat) : Int) + (i : Int) + 2 = (j : Int) + ((i + 1 : Nat) : Int) + 2 := by omega
    rw [ckF_set r (j + 1) i v w (by simpa using h), e, ← Int.add_assoc]
theorem take_snoc {α : Type} {l : List α} {i : Nat} {x : α} (h : l[i]? = some x) : l.take (i + 1) = l.take i ++ [x] := by
  rw [List.take_add_one, h]
  rfl
theorem isW_to {m : Int} : ∀ k : Nat, m ≤ 2 ^ k → ∃ n, n ≤ k ∧ IsW m n
  | 0, h => ⟨0, Nat.le_refl _, h, fun u hu => by omega⟩
  | k + 1, h => by
    by_cases c : m ≤ 2 ^ k
    · obtain ⟨n, hn, hw⟩ := isW_to k c
      exact ⟨n, by omega, hw⟩
    · refine ⟨k + 1, Nat.le_refl _, h, fun u hu => ?_⟩
      have e : (2 : Int) ^ u ≤ 2 ^ k := by
        have z := ipow_le (a := 2) (by decide) (show u ≤ k by omega)
        exact z
      omega
theorem isW_le {m : Int} {n k : Nat} (h : IsW m n) (hk : m ≤ 2 ^ k) : n ≤ k := by
  obtain ⟨n', hn, hw⟩ := isW_to k hk
  rw [isW_one h hw]
  exact hn
theorem sgn_mod {n : Int} {w i : Nat} (h : i < w) : sgn (n % 2 ^ w) i = sgn n i := by
  unfold sgn
  have e : n % 2 ^ w / 2 ^ i % 2 = n / 2 ^ i % 2 := by
    have p : (0 : Int) < 2 ^ i := Int.pow_pos (by decide)
    have ew : (2 : Int) ^ w = 2 ^ i * (2 * 2 ^ (w - i - 1)) := by
      rw [← Int.mul_assoc, show (2 : Int) ^ i * 2 = 2 ^ (i + 1) from (Int.pow_succ 2 i).symm, ← Int.pow_add]
      congr 1
      omega
    have d := Int.mul_ediv_add_emod n (2 ^ w)
    have en : n = n % 2 ^ w + 2 ^ i * (2 * 2 ^ (w - i - 1) * (n / 2 ^ w)) := by
      rw [← Int.mul_assoc, ← ew]
      omega
    have e2 : n / 2 ^ i = n % 2 ^ w / 2 ^ i + 2 * (2 ^ (w - i - 1) * (n / 2 ^ w)) := by
      conv => lhs; rw [en]
      rw [Int.add_mul_ediv_left _ _ (Int.ne_of_gt p), Int.mul_assoc]
    rw [e2]
    omega
  rw [e]
theorem bitsT_mod (n : Int) (w : Nat) : bitsT (n % 2 ^ w) w = bitsT n w := by
  refine cz_inj ?_
  rw [cz_bitsT, cz_bitsT]
  congr 1
  unfold lowB
  exact List.map_congr_left fun i hi => sgn_mod (List.mem_range.mp hi)
theorem bitsT_p2 (n w : Int) : bitsT (n % p2 w) w.toNat = bitsT n w.toNat := bitsT_mod n w.toNat
structure Pt where
  s : Shp
  n : Int
  fs : List Fm
  sk : Int
  gp : Int
  lt : Int
  an : Int
  sw : Nat
  cw : Nat
def ptD (p : Pt) : PyData := .tuple [shD p.s, .int p.n, .tuple (p.fs.map fmD), .tuple [.int p.sk, .int p.gp, .int p.lt, .int p.an]]
structure OkPt (p : Pt) : Prop where
  ok : OkShp p.s
  n0 : 1 ≤ p.n
  n1 : p.n ≤ 40
  fl : p.fs.length ≤ 12
  fk : ∀ f ∈ p.fs, OkFm p.s f
  sw : IsW (1 + (p.fs.length : Int)) p.sw
  cw : IsW p.s.m p.cw
  sk0 : 0 ≤ p.sk
  sk1 : p.sk ≤ 39
  gp0 : p.sk ≤ p.gp
  gp1 : p.gp ≤ 400
  lt0 : 0 ≤ p.lt
  lt1 : p.lt ≤ 20
  an0 : 0 ≤ p.an
  an1 : p.an ≤ 400
theorem OkPt.sw4 {p : Pt} (h : OkPt p) : p.sw ≤ 4 := isW_le h.sw (by have := h.fl; show _ ≤ (16 : Int); omega)
theorem OkPt.cw20 {p : Pt} (h : OkPt p) : p.cw ≤ 20 := isW_le h.cw (by have := h.ok.m1; show _ ≤ (1048576 : Int); omega)
/-- whole, or by the form at a place -/
def AtOk (p : Pt) : Option Nat → Prop
  | none => True
  | some i => i < p.fs.length
def atV : Option Nat → V
  | none => .non
  | some i => .int (i : Int)
def wsP (p : Pt) : Option Nat → List Wy
  | none => p.s.fs.map fun _ => .whole
  | some i => match p.fs[i]? with
    | some f => f.ws
    | none => []
def cntP (p : Pt) : Option Nat → Int
  | none => p.n
  | some i => match p.fs[i]? with
    | some f => f.c
    | none => 0
def sortP : Option Nat → Int
  | none => 0
  | some i => 1 + (i : Int)
theorem at_form {p : Pt} {i : Nat} (ok : OkPt p) (h : i < p.fs.length) : ∃ f, p.fs[i]? = some f ∧ OkFm p.s f ∧ wsP p (some i) = f.ws ∧ cntP p (some i) = f.c := by
  have e : p.fs[i]? = some (p.fs[i]) := List.getElem?_eq_getElem h
  refine ⟨p.fs[i], e, ok.fk _ (List.getElem_mem h), ?_, ?_⟩
  · show (match p.fs[i]? with | some f => f.ws | none => []) = _
    rw [e]
  · show (match p.fs[i]? with | some f => f.c | none => 0) = _
    rw [e]
theorem cntP_bd {p : Pt} {t : Option Nat} (ok : OkPt p) (h : AtOk p t) : 1 ≤ cntP p t ∧ cntP p t ≤ 40 := by
  cases t with
  | none => exact ⟨ok.n0, ok.n1⟩
  | some i =>
    obtain ⟨f, _, okf, _, e⟩ := at_form ok h
    rw [e]
    exact ⟨okf.c0, okf.c1⟩
theorem wsP_len {p : Pt} {t : Option Nat} (ok : OkPt p) (h : AtOk p t) : (wsP p t).length = p.s.fs.length := by
  cases t with
  | none => exact List.length_map _
  | some i =>
    obtain ⟨f, _, okf, e, _⟩ := at_form ok h
    rw [e]
    exact okf.len
theorem wsP_ok {p : Pt} {t : Option Nat} (ok : OkPt p) (h : AtOk p t) {j : Nat} {w : Wy} {fd : Fd} (h1 : (wsP p t)[j]? = some w) (h2 : p.s.fs[j]? = some fd) : OkWy fd.br w := by
  cases t with
  | none =>
    have z : (p.s.fs.map fun _ => Wy.whole)[j]? = some w := h1
    rw [List.getElem?_map, h2] at z
    rw [← Option.some.inj z]
    trivial
  | some i =>
    obtain ⟨f, _, okf, e, _⟩ := at_form ok h
    rw [e] at h1
    exact okf.ok j w fd h1 h2
def szP (p : Pt) (t : Option Nat) : Nat := atW p.s.fs (wsP p t) p.s.fs.length
def pcsP (p : Pt) (t : Option Nat) (hd : List Int) : Str := piecesT (triL p.s.fs (wsP p t) hd)
theorem szP_le {p : Pt} {t : Option Nat} (ok : OkPt p) (h : AtOk p t) : szP p t ≤ 480 :=
  atW_le (f := ⟨1, 1, wsP p t⟩) ok.ok ⟨Int.le_refl 1, (show (1 : Int) ≤ 40 by decide), Int.le_refl 1, (show (1 : Int) ≤ 40 by decide), wsP_len ok h, fun _ _ _ h1 h2 => wsP_ok ok h h1 h2⟩
theorem pcsP_len {p : Pt} {t : Option Nat} {hd : List Int} (ok : OkPt p) (h : AtOk p t) (lh : hd.length = p.s.fs.length) : (pcsP p t hd).length = szP p t := by
  unfold pcsP szP
  rw [pieces_len, atW_all (wsP_len ok h) lh]
def aheadT (p : Pt) (t : Option Nat) (num : Int) : Str := bitsT (sortP t) p.sw ++ bitsT num (cntP p t).toNat
def letT (p : Pt) (t : Option Nat) (num : Int) (hd : List Int) : Str := aheadT p t num ++ pcsP p t hd ++ bitsT ((num + ckF 0 hd) % p.s.m) p.cw
def sizeP (p : Pt) (t : Option Nat) : Int := (p.sw : Int) + cntP p t + (szP p t : Nat) + (p.cw : Int)
theorem len_app (a b : Str) : (a ++ b).length = a.length + b.length := by
  rw [← cz_len, cz_app, List.length_append, cz_len, cz_len]
theorem ahead_len {p : Pt} {t : Option Nat} {num : Int} : (aheadT p t num).length = p.sw + (cntP p t).toNat := by
  unfold aheadT
  rw [len_app, len_bitsT, len_bitsT]
theorem letT_len {p : Pt} {t : Option Nat} {num : Int} {hd : List Int} (ok : OkPt p) (h : AtOk p t) (lh : hd.length = p.s.fs.length) : ((letT p t num hd).length : Int) = sizeP p t := by
  have z := cntP_bd ok h
  unfold letT sizeP
  rw [len_app, len_app, ahead_len, pcsP_len ok h lh, len_bitsT]
  omega
theorem sum_zip {fs : List Fd} {ws : List Wy} : ((fs.zip ws).map fun fw => ((wW fw.1 fw.2 : Nat) : Int)).sum = ((((fs.zip ws).map fun fw => wW fw.1 fw.2).sum : Nat) : Int) := by
  induction fs.zip ws with
  | nil => rfl
  | cons x r ih => rw [List.map_cons, List.map_cons, List.sum_cons, List.sum_cons, ih]; omega
theorem sz_form {p : Pt} {t : Option Nat} (ok : OkPt p) (h : AtOk p t) : ((p.s.fs.zip (wsP p t)).map fun fw => ((wW fw.1 fw.2 : Nat) : Int)).sum = ((szP p t : Nat) : Int) := by
  rw [sum_zip]
  unfold szP atW
  rw [List.take_of_length_le (by rw [List.length_zip, wsP_len ok h]; omega)]
theorem sum_whole : ∀ fs : List Fd, (∀ f ∈ fs, 0 ≤ f.br) → (fs.map fun f => f.br).sum = ((fs.zip (fs.map fun _ => Wy.whole)).map fun fw => ((wW fw.1 fw.2 : Nat) : Int)).sum
  | [], _ => rfl
  | f :: r, h => by
    have ih := sum_whole r fun g hg => h g (List.mem_cons_of_mem _ hg)
    have h0 := h f List.mem_cons_self
    rw [List.map_cons, List.map_cons, List.zip_cons_cons, List.map_cons, List.sum_cons, List.sum_cons, ih]
    show f.br + _ = ((f.br.toNat : Nat) : Int) + _
    rw [show ((f.br.toNat : Nat) : Int) = f.br by omega]
theorem OkPt.heads {p : Pt} {t : Option Nat} (ok : OkPt p) (h : AtOk p t) : OkFm p.s ⟨1, 1, wsP p t⟩ := ⟨Int.le_refl 1, (show (1 : Int) ≤ 40 by decide), Int.le_refl 1, (show (1 : Int) ≤ 40 by decide), wsP_len ok h, fun _ _ _ h1 h2 => wsP_ok ok h h1 h2⟩
section
variable {K : PySem.W.Frag} {H : Hp} {Q : VK} {v : V} {p : Pt}
theorem w_ptS (h : Dq K H v (ptD p)) (q : ∀ x, Dq K H x (shD p.s) → Q x H) : rIxU K v (.int 0) H Q := w_ixQT h (d := shD p.s) rfl q
theorem w_ptN (h : Dq K H v (ptD p)) (q : Q (.int p.n) H) : rIxU K v (.int 1) H Q := w_ixQTi h (n := p.n) rfl q
theorem w_ptF (h : Dq K H v (ptD p)) (q : ∀ x, Dq K H x (.tuple (p.fs.map fmD)) → Q x H) : rIxU K v (.int 2) H Q := w_ixQT h (d := .tuple (p.fs.map fmD)) rfl q
theorem w_shF {s : Shp} (h : Dq K H v (shD s)) (q : ∀ x, Dq K H x (.tuple (s.fs.map fdD)) → Q x H) : rIxU K v (.int 0) H Q := w_ixQT h (d := .tuple (s.fs.map fdD)) rfl q
theorem w_shM {s : Shp} (h : Dq K H v (shD s)) (q : Q (.int s.m) H) : rIxU K v (.int 1) H Q := w_ixQTi h (n := s.m) rfl q
theorem w_adT {a b : Str} (h : a.length + b.length ≤ 100000) (q : Q (.str (a ++ b)) H) : rAddN K (.str a) (.str b) H Q := w_addsN (Nat.le_trans h (by decide)) q
end
theorem join_pieces (ts : List Tri) : Txt.join "" (ts.map pieceT) = piecesT ts := by
  refine cz_inj ?_
  rw [cz_join, cz_pieces, List.map_map]
  rfl
theorem sum_pieces (ts : List Tri) : ((ts.map pieceT).map (·.length)).sum = triW ts := by
  unfold triW
  rw [List.map_map]
  congr 1
  refine List.map_congr_left fun t _ => ?_
  show (pieceT t).length = _
  unfold pieceT
  rw [len_bitsT]
theorem w_par3 {i j l : Nat} {tA : TA} {σ : L2.St} {H : Hp} {nx bk ct : L2.St → Hp → Prop} {rt : VK} (h : tA σ H fun vs H1 => ∃ u v w, vs = [u, v, w] ∧ nx (((σ.set i (some u)).set j (some v)).set l (some w)) H1) : tPar3 i j l tA ⟨nx, rt, bk, ct⟩ σ H := h
theorem w_three {x y z : V} {k : V → V → V → Prop} (h : k x y z) : ∃ u v w, [x, y, z] = [u, v, w] ∧ k u v w := ⟨x, y, z, rfl, h⟩
theorem ahead_mod {p : Pt} {t : Option Nat} {x : Int} : aheadT p t (x % p2 (cntP p t)) = aheadT p t x := by
  unfold aheadT
  rw [bitsT_p2]
theorem letT_le {p : Pt} {t : Option Nat} {num : Int} {hd : List Int} (ok : OkPt p) (h : AtOk p t) (lh : hd.length = p.s.fs.length) : (letT p t num hd).length ≤ 1000 := by
  have ll := letT_len (num := num) ok h lh
  have z := szP_le ok h
  have z2 := ok.sw4
  have z3 := ok.cw20
  have z4 := cntP_bd ok h
  unfold sizeP at ll
  omega
/-- a statement that is never reached -/
def tNever : TS := fun _ _ _ => False
theorem ps_never {X : Cx} {st : Stmt} : PS X st tNever := ⟨fun _ _ _ _ _ _ h => h.elim⟩
/-! a letter's parts -/
def genT (p : Pt) (t : Option Nat) (num : Int) (hd : List Int) (ck : Int) : Str := aheadT p t num ++ pcsP p t hd ++ bitsT ck p.cw
def atD : Option Nat → PyData
  | none => .none
  | some i => .int (i : Int)
theorem atV_dq {K : PySem.W.Frag} {H : Hp} (t : Option Nat) : Dq K H (atV t) (atD t) := by
  cases t with
  | none => exact .non
  | some i => exact .int _
section
variable {p : Pt} {t : Option Nat} {num ck : Int} {hd : List Int}
theorem genT_len (ok : OkPt p) (h : AtOk p t) (lh : hd.length = p.s.fs.length) : ((genT p t num hd ck).length : Int) = sizeP p t := by
  have z := cntP_bd ok h
  unfold genT sizeP
  rw [len_app, len_app, ahead_len, pcsP_len ok h lh, len_bitsT]
  omega
theorem genT_le (ok : OkPt p) (h : AtOk p t) (lh : hd.length = p.s.fs.length) : (genT p t num hd ck).length ≤ 1000 := by
  have ll := genT_len (num := num) (ck := ck) ok h lh
  have z := szP_le ok h
  have z2 := ok.sw4
  have z3 := ok.cw20
  have z4 := cntP_bd ok h
  unfold sizeP at ll
  omega
theorem gen_cz : cz (genT p t num hd ck) = cz (bitsT (sortP t) p.sw) ++ (cz (bitsT num (cntP p t).toNat) ++ (cz (pcsP p t hd) ++ cz (bitsT ck p.cw))) := by
  unfold genT aheadT
  rw [cz_app, cz_app, cz_app, List.append_assoc, List.append_assoc]
theorem gen_01 : ∀ c ∈ cz (genT p t num hd ck), c = 48 ∨ c = 49 := fun c hc => by
  rw [gen_cz] at hc
  rcases List.mem_append.mp hc with h | h
  · exact bits_01 c h
  · rcases List.mem_append.mp h with h | h
    · exact bits_01 c h
    · rcases List.mem_append.mp h with h | h
      · exact pieces_01 _ c h
      · exact bits_01 c h
theorem cut_01 {z : Str} {lo hi : Option Int} (h : ∀ c ∈ cz z, c = 48 ∨ c = 49) : ∀ c ∈ cz (cutS z lo hi), c = 48 ∨ c = 49 := fun c hc => by
  rw [cz_cut] at hc
  exact h c (cutD_mem hc)
theorem cut_len {z : Str} {lo hi : Option Int} : (cutS z lo hi).length ≤ z.length := by
  rw [← cz_len, ← cz_len, cz_cut]
  exact cutD_len
theorem num_cz {y z : Str} (h : cz y = cz z) : numT y = numT z := by
  unfold numT
  rw [h]
theorem czb (n : Int) (w : Nat) : (cz (bitsT n w)).length = w := by rw [cz_len, len_bitsT]
theorem gen_sort (ok : OkPt p) (h : AtOk p t) : numT (cutS (genT p t num hd ck) none (some (p.sw : Int))) = sortP t := by
  have e : cz (cutS (genT p t num hd ck) none (some (p.sw : Int))) = cz (bitsT (sortP t) p.sw) := by
    rw [cz_cut, gen_cz, cutD_to (by omega) (by rw [List.length_append, czb]; omega), Int.toNat_natCast, List.take_append_of_le_length (by rw [czb]; exact Nat.le_refl _), List.take_of_length_le (by rw [czb]; exact Nat.le_refl _)]
  rw [num_cz e]
  have z := ok.sw.1
  refine numT_bits ?_ ?_
  · cases t with
    | none => exact Int.le_refl 0
    | some i => show (0 : Int) ≤ 1 + (i : Int); omega
  · cases t with
    | none => show (0 : Int) < _; omega
    | some i =>
      have hi : i < p.fs.length := h
      show (1 : Int) + (i : Int) < _
      omega
theorem gen_num (ok : OkPt p) (h : AtOk p t) : numT (cutS (genT p t num hd ck) (some (p.sw : Int)) (some ((p.sw : Int) + cntP p t))) = num % p2 (cntP p t) := by
  have z4 := cntP_bd ok h
  have e : cz (cutS (genT p t num hd ck) (some (p.sw : Int)) (some ((p.sw : Int) + cntP p t))) = cz (bitsT num (cntP p t).toNat) := by
    rw [cz_cut, gen_cz, cutD_mid (by omega) (by omega) (by rw [List.length_append, List.length_append, czb, czb]; omega), Int.toNat_natCast, List.drop_append_of_le_length (by rw [czb]; exact Nat.le_refl _), List.drop_of_length_le (by rw [czb]; exact Nat.le_refl _), List.nil_append, show ((p.sw : Int) + cntP p t).toNat - p.sw = (cntP p t).toNat by omega, List.take_append_of_le_length (by rw [czb]; exact Nat.le_refl _), List.take_of_length_le (by rw [czb]; exact Nat.le_refl _)]
  rw [num_cz e, ← bitsT_p2]
  have pp := p2_pos (cntP p t)
  exact numT_bits (Int.emod_nonneg _ (Int.ne_of_gt pp)) (Int.emod_lt_of_pos _ pp)
theorem gen_pcs (ok : OkPt p) (h : AtOk p t) (lh : hd.length = p.s.fs.length) : cutS (genT p t num hd ck) (some ((p.sw : Int) + cntP p t)) (some ((p.sw : Int) + cntP p t + (szP p t : Nat))) = pcsP p t hd := by
  have z4 := cntP_bd ok h
  have lp : (cz (pcsP p t hd)).length = szP p t := by rw [cz_len, pcsP_len ok h lh]
  refine cz_inj ?_
  rw [cz_cut, gen_cz, cutD_mid (by omega) (by omega) (by rw [List.length_append, List.length_append, List.length_append, czb, czb, lp]; omega), show ((p.sw : Int) + cntP p t + (szP p t : Nat)).toNat - ((p.sw : Int) + cntP p t).toNat = szP p t by omega, show ((p.sw : Int) + cntP p t).toNat = p.sw + (cntP p t).toNat by omega, ← List.append_assoc, List.drop_left' (by rw [List.length_append, czb, czb]), List.take_left' lp]
theorem gen_chk (ok : OkPt p) (h : AtOk p t) (lh : hd.length = p.s.fs.length) (c0 : 0 ≤ ck) (c1 : ck < p.s.m) : numT (cutS (genT p t num hd ck) (some ((p.sw : Int) + cntP p t + (szP p t : Nat))) none) = ck := by
  have z4 := cntP_bd ok h
  have lp : (cz (pcsP p t hd)).length = szP p t := by rw [cz_len, pcsP_len ok h lh]
  have e : cz (cutS (genT p t num hd ck) (some ((p.sw : Int) + cntP p t + (szP p t : Nat))) none) = cz (bitsT ck p.cw) := by
    rw [cz_cut, gen_cz, cutD_from (by omega) (by rw [List.length_append, List.length_append, List.length_append, czb, czb, lp]; omega), show ((p.sw : Int) + cntP p t + (szP p t : Nat)).toNat = p.sw + ((cntP p t).toNat + szP p t) by omega, ← List.append_assoc (cz (bitsT num (cntP p t).toNat)), ← List.append_assoc, List.drop_left' (by rw [List.length_append, List.length_append, czb, czb, lp])]
  rw [num_cz e]
  have z := ok.cw.1
  exact numT_bits c0 (by omega)
theorem gen_cut (ok : OkPt p) (h : AtOk p t) (lh : hd.length = p.s.fs.length) : cutS (genT p t num hd ck) none (some (((genT p t num hd ck).length : Int) - (p.cw : Int))) = aheadT p t num ++ pcsP p t hd := by
  have z4 := cntP_bd ok h
  have ll := genT_len (num := num) (ck := ck) ok h lh
  have la : (aheadT p t num ++ pcsP p t hd).length = p.sw + (cntP p t).toNat + szP p t := by rw [len_app, ahead_len, pcsP_len ok h lh]
  have lc : (cz (aheadT p t num ++ pcsP p t hd)).length = p.sw + (cntP p t).toNat + szP p t := by rw [cz_len, la]
  unfold sizeP at ll
  refine cz_inj ?_
  rw [cz_cut, ll, show cz (genT p t num hd ck) = cz (aheadT p t num ++ pcsP p t hd) ++ cz (bitsT ck p.cw) from cz_app _ _, cutD_to (by omega) (by rw [List.length_append, lc, czb]; omega), show ((p.sw : Int) + cntP p t + (szP p t : Nat) + (p.cw : Int) - (p.cw : Int)).toNat = p.sw + (cntP p t).toNat + szP p t by omega, List.take_append_of_le_length (by rw [lc]; exact Nat.le_refl _), List.take_of_length_le (by rw [lc]; exact Nat.le_refl _)]
end
end Sh
/-! set(xs) of a list of texts: how many unlike ones -/
namespace ShT
open PySem Sem PySem.Spec PyProof.Rows L2
def SetN (p : Program) (w : World) (h : Heap) (a : Addr) (xs : List Str) (i : Nat) : Prop := ∃ c, c ≤ i ∧ (c = i ↔ (xs.take i).Nodup) ∧ h.SetOf (PySem.strKind p w) a (fun k => (xs.take i).any (· == k)) c
theorem any_mem {xs : List Str} {x : Str} : xs.any (· == x) = true ↔ x ∈ xs := by
  rw [List.any_eq_true]
  constructor
  · rintro ⟨y, hy, e⟩
    rw [← beq_iff_eq.mp e]
    exact hy
  · intro h
    exact ⟨x, h, beq_self_eq_true x⟩
section
variable {prog : Program} {w : World} {A : Around} {R : Result → Shared → Prop} {I : Addr} {fp wr : List Addr} {G : Array GenState → Array GenState → Prop} {n : Nat} {P : Nat → Value → Prop} {St : Nat → Shared → Prop}
theorem setN_move {h h' : Heap} {a : Addr} {xs : List Str} {i : Nat} (e : ∀ o, h.get? a = some o → h'.get? a = some o) (q : SetN prog w h a xs i) : SetN prog w h' a xs i := by
  obtain ⟨c, h1, h2, o, es, ep, tb, ho, rest⟩ := q
  exact ⟨c, h1, h2, o, es, ep, tb, e _ ho, rest⟩
theorem loopN (W : WalksS prog w A.in1 I fp wr G n P St) (S : Addr) (hSf : S ∉ fp) (xs : List Str) (hsz : xs.length = n) (hn1 : n + 1 < scanBound)
    (hval : ∀ i v, P i v → ∃ t, v = .str (xs.getD i Str.empty) t) :
    ∀ (k i : Nat) (s : Shared), n - i = k → i ≤ n → St i s → SetN prog w s.heap S xs i →
      (∀ s', Moved (S :: wr) G s s' → SetN prog w s'.heap S xs n → R (.ok (.ret .none)) s') →
      codeAny (model prog w) A (.builtin "set.update.loop" ⟨[.ref S, .ref I], []⟩) R s := by
  have hSw : S ∉ wr := fun h => hSf (W.sub _ h)
  have hsub : ∀ b ∈ wr, b ∈ S :: wr := fun b hb => List.mem_cons_of_mem _ hb
  intro k
  induction k with
  | zero =>
    intro i s hk hi hst hS hR
    have hin : i = n := by omega
    subst hin
    refine codeAny_builtin PyProof.Rows.F.entry_set_update_loop ?_
    rw [Around.under_plainId PyProof.Rows.F.plain_set_update_loop _]
    show wpAny _ A.in1 (pyNext (.ref I) >>= _) _ _ s
    refine wpAny_bind (W.done s _ _ hst fun s' hm => ?_)
    show wpAny _ A.in1 (ret Value.none) _ _ s'
    exact wpAny_pure (hR s' (hm.mono hsub) (setN_move (fun o ho => hm.heap S _ hSw ho) hS))
  | succ k ih =>
    intro i s hk hi hst hS hR
    have hlt : i < n := by omega
    refine codeAny_builtin PyProof.Rows.F.entry_set_update_loop ?_
    rw [Around.under_plainId PyProof.Rows.F.plain_set_update_loop _]
    show wpAny _ A.in1 (pyNext (.ref I) >>= _) _ _ s
    refine wpAny_bind (W.item i s _ _ hlt hst fun v s' hP hst' hm => ?_)
    obtain ⟨t, rfl⟩ := hval i v hP
    obtain ⟨c, c0, c1, hS'⟩ := setN_move (fun o ho => hm.heap S _ hSw ho) hS
    show wpAny _ A.in1 (holding [Value.str (xs.getD i Str.empty) t] (setAdd S (.str (xs.getD i Str.empty) t)) >>= _) _ _ s'
    refine wpAny_bind (wpAny_holding ?_)
    unfold setAdd
    refine wpAny_holding ?_
    refine wpAny_bind ((PySem.strKind prog w).pyHash (k := xs.getD i Str.empty) (strKind_is _ _ _ _) ?_)
    refine wpAny_setAddHashed_of (knd := PySem.strKind prog w) (s := { s' with toks := s'.toks + 1 }) (strKind_is _ _ _ _) rfl hS' (by omega) fun h' hsb hS2 => ?_
    have hlx : i < xs.length := by omega
    have ex : xs.getD i Str.empty = xs[i] := by rw [List.getD_eq_getElem?_getD, List.getElem?_eq_getElem hlx]; rfl
    have et : xs.take (i + 1) = xs.take i ++ [xs.getD i Str.empty] := by
      rw [List.take_add_one, List.getElem?_eq_getElem hlx, ex]
      rfl
    have hSi : SetN prog w h' S xs (i + 1) := by
      refine ⟨_, ?_, ?_, SetOf_congr hS2 (fun k' => ?_) rfl⟩
      · split <;> omega
      · rw [et, List.nodup_append]
        by_cases hm : (xs.take i).any (· == xs.getD i Str.empty) = true
        · rw [if_pos hm]
          constructor
          · intro e
            omega
          · rintro ⟨_, _, h3⟩
            exact (h3 _ (any_mem.mp hm) _ (List.mem_singleton.mpr rfl) rfl).elim
        · rw [if_neg hm]
          constructor
          · intro e
            exact ⟨c1.mp (by omega), by simp, fun y hy z hz e2 => hm (any_mem.mpr (by rw [List.mem_singleton.mp hz] at e2; rw [← e2]; exact hy))⟩
          · rintro ⟨h1, _⟩
            have := c1.mpr h1
            omega
      · rw [et, List.any_append]
        generalize xs.getD i Str.empty = y
        by_cases e : k' = y
        · subst e
          simp
        · have hb : (y == k') = false := by simpa [beq_iff_eq] using (fun h' : y = k' => e h'.symm)
          simp [hb, e]
    refine wpAny_pure ⟨plainId_quiet PyProof.Rows.F.plain_set_update_loop _, ih (i + 1) _ (by omega) hlt (W.frame _ s' _ _ hst' (Nat.le_succ _) fun b hb o e => ?_) hSi fun s'' hm'' hS'' => ?_⟩
    · rw [hsb.2 b (fun h : b = S => hSf (by rw [← h]; exact hb))]; exact e
    · refine hR s'' (Moved.trans W.gtrans ((hm.mono hsub).then_heap (Nat.le_succ _) fun b o hb e => ?_) hm'') hS''
      rw [hsb.2 b (fun h : b = S => hb (by rw [h]; exact List.mem_cons_self))]; exact e
end
abbrev ob0 (led : Bool) : Obj := { cls := .type "set", dict := none, data := .set #[] 0 (.fresh 0 0 led) }
section
variable {prog : Program} {w : World} {A : Around} {E : Value → Shared → Prop} {s : Shared}
set_option maxHeartbeats 3200000 in
theorem call_setT {l : Addr} {items : Array Value} {xs : List Str} {Q : Value → Shared → Prop}
    (hh : A.handled = none) (hl : s.heap.IsList l items) (hi : PyProof.Rows.StrsAre items.toList xs) (hn1 : xs.length + 1 < scanBound)
    (h : ∀ (h' : Heap) (tk : Nat), SetN prog w h' s.heap.objs.size xs items.size →
      (∀ b o, b < s.heap.objs.size → s.heap.get? b = some o → h'.get? b = some o) → Q (.ref s.heap.objs.size) { s with heap := h', toks := tk }) :
    wpAny (model prog w) A (call (.type "set") [.ref l]) Q E s := by
  obtain ⟨c, tl, hmro⟩ := PySem.F.called_set.mro
  have hmade := PySem.F.called_set.made
  have hsub := PySem.F.called_set.sub
  refine wpAny_call (codeAny_of_tree ?_)
  show wpAny _ _ (callAny (.type "set") _) _ _ _
  refine wpAny_pure ⟨Code.quiet_builtin _ (by decide +kernel), codeAny_builtin PySem.F.entry_type_call ?_⟩
  rw [Around.under_plain (weight_type_call_type "set" [.ref l] []) rfl]
  have h1 := PySem.F.called_set.notType
  have h2 := PySem.F.called_set.canCreate
  have hct := PySem.F.typeCall_set_1 (.ref l)
  repeat (any_goals (first | assumption | wp_step))
  refine codeAny_mono (code_set_new_1 (.ref l) (E := E) (Q₁ := fun obj s₁ => ∃ led : Bool, obj = .ref s.heap.objs.size ∧ s₁ = { s with heap := s.heap.push (ob0 led) }) fun led => ⟨led, rfl, rfl⟩) fun r s₁ hr => ?_
  cases r with
  | error e => exact hr
  | ok fl =>
    cases fl with
    | ret obj =>
      obtain ⟨led, rfl, rfl⟩ := hr
      have hS : (s.heap.push (ob0 led)).get? s.heap.objs.size = some (ob0 led) := Heap.get?_push_size _ rfl
      have hT : Shared.TypeIs { s with heap := s.heap.push (ob0 led) } (.ref s.heap.objs.size) "set" := ⟨_, hS, rfl⟩
      have hli := PySem.F.called_set.init.lookup
      have hbi := PySem.F.called_set.init.bind (.ref s.heap.objs.size)
      repeat (any_goals (first | assumption | wp_step))
      refine codeAny_mono (codeAny_call_builtin (R := wants (fun r s₂ => r = .none ∧ ∃ h' tk, s₂ = { s with heap := h', toks := tk } ∧ SetN prog w h' s.heap.objs.size xs items.size ∧
          (∀ b o, b < s.heap.objs.size → s.heap.get? b = some o → h'.get? b = some o)) E) PySem.F.called_set.init.plain PySem.F.entry_set_init (check_set_init_1 hT ?_)) fun r₂ s₂ hr₂ => ?_
      · obtain ⟨ol, hol, hcl, nl, hdl⟩ := hl
        obtain ⟨ocls, odict, odata, oslots⟩ := ol
        simp only at hcl hdl
        subst hcl; subst hdl
        have hol' : (s.heap.push (ob0 led)).get? l = some { cls := .type "list", dict := odict, data := .seq items nl, slots := oslots } := Heap.get?_push_of_some _ hol
        have hsls := PySem.F.sub_list_set
        have hslf := PySem.F.sub_list_frozenset
        have hne : (Value.type "list" == Value.type "dict") = false := by decide
        have hl1 : (s.heap.push (ob0 led)).IsList l items := ⟨_, hol', rfl, nl, rfl⟩
        unfold Builtin.«set.__init__» noKeywords Builtin.Frozenset.updateFrom
        generalize hPI : pyIter = PI
        wp_walk
        subst hPI
        refine wpAny_pyIter_list hl1 ?_
        refine wpAny_bind (wpAny_runValue ?_)
        have hlS : l < s.heap.objs.size := Heap.lt_size hol
        have hh3 : A.in1.in1.in1.handled = none := by simp [hh]
        have hneI : l ≠ (s.heap.push (ob0 led)).objs.size := by
          rw [Heap.size_push]; exact Nat.ne_of_lt (Nat.lt_succ_of_lt hlS)
        have hSf : s.heap.objs.size ∉ [(s.heap.push (ob0 led)).objs.size, l] := by
          rw [Heap.size_push]; simp only [List.mem_cons, List.mem_singleton, List.not_mem_nil, or_false, not_or]
          exact ⟨Nat.ne_of_lt (Nat.lt_succ_self _), Nat.ne_of_gt hlS⟩
        have hsz : xs.length = items.size := by rw [← StrsAre.len_eq hi, Array.length_toList]
        have hval : ∀ (i : Nat) (v : Value), items[i]? = some v → ∃ t, v = .str (xs.getD i Str.empty) t := fun i v hv => SS.strs_at hi i v (by rw [Array.getElem?_toList]; exact hv)
        refine loopN ((Walks.list hh3 _ l hneI items).toS) s.heap.objs.size
          hSf xs hsz (by rw [← hsz]; exact hn1) hval (items.size - 0) 0 _ (by omega) (Nat.zero_le _)
          ⟨⟨_, Heap.get?_push_size _ rfl, rfl, rfl⟩, (hl1.push _)⟩ ?hS0 ?hR
        case hS0 =>
          have hget : ((s.heap.push (ob0 led)).push { cls := .type "list_iterator", data := .fields #[.ref l, .int 0 0] }).get? s.heap.objs.size = some (ob0 led) := Heap.get?_push_of_some _ hS
          exact ⟨0, Nat.le_refl 0, ⟨fun _ => by rw [List.take_zero]; exact List.nodup_nil, fun _ => rfl⟩, PyProof.Rows.SetOf_congr ((PyProof.Rows.setObjOf_fresh (knd := PySem.strKind prog w) led).setOf hget (by unfold scanBound; omega)) (fun _ => rfl) rfl⟩
        case hR =>
          intro s' hm hS'
          obtain ⟨h', g', d', tk', os'⟩ := s'
          have eg : g' = s.gens := hm.gens
          have ed : d' = s.drawn := hm.drawn
          have eo : os' = s.os := hm.os
          subst eg; subst ed; subst eo
          show wpAny _ _ _ _ _ _
          refine wpAny_pure ?_
          show wpAny _ _ (ret Value.none) _ _ _
          refine wpAny_pure ⟨rfl, h', tk', rfl, hS', fun b o hb e => ?_⟩
          have hb1 : b ≠ s.heap.objs.size := Nat.ne_of_lt hb
          have hb2 : b ≠ (s.heap.push (ob0 led)).objs.size := by
            rw [Heap.size_push]; exact Nat.ne_of_lt (Nat.lt_succ_of_lt hb)
          exact hm.heap b o (by simp only [List.mem_cons, List.mem_singleton, List.not_mem_nil, or_false, not_or]; exact ⟨hb1, hb2⟩) (Heap.get?_push_of_some _ (Heap.get?_push_of_some _ e))
      · cases r₂ with
        | error e => exact hr₂
        | ok fl₂ =>
          cases fl₂ with
          | ret r =>
            obtain ⟨rfl, h', tk, rfl, hS', hk'⟩ := hr₂
            repeat (any_goals (first | assumption | wp_step))
            exact h _ _ hS' hk'
          | _ => exact hr₂.elim
    | _ => exact hr.elim
end
end ShT
namespace Sh
open PySem PySem.Spec PyProof.Rows L2
theorem nodup_le : ∀ {ks ns : List Int}, ks.Nodup → (∀ k ∈ ks, k ∈ ns) → ks.length ≤ ns.length
  | [], _, _, _ => Nat.zero_le _
  | k :: r, ns, hn, hs => by
    have h1 := List.nodup_cons.mp hn
    have hk := hs k List.mem_cons_self
    have ih := nodup_le (ks := r) (ns := ns.erase k) h1.2 fun j hj => (List.mem_erase_of_ne fun e => h1.1 (by rw [← e]; exact hj)).mpr (hs j (List.mem_cons_of_mem _ hj))
    rw [List.length_erase_of_mem hk] at ih
    have := List.length_pos_of_mem hk
    rw [List.length_cons]
    omega
theorem nodup_eq : ∀ {ks ns : List Int}, ks.Nodup → (∀ k ∈ ks, k ∈ ns) → ks.length = ns.length → ns.Nodup
  | [], ns, _, _, hl => by
    cases ns with
    | nil => exact List.nodup_nil
    | cons n r => simp at hl
  | k :: r, ns, hn, hs, hl => by
    have h1 := List.nodup_cons.mp hn
    have hk := hs k List.mem_cons_self
    have hr : ∀ j ∈ r, j ∈ ns.erase k := fun j hj => (List.mem_erase_of_ne fun e => h1.1 (by rw [← e]; exact hj)).mpr (hs j (List.mem_cons_of_mem _ hj))
    have le := List.length_erase_of_mem hk
    have lp := List.length_pos_of_mem hk
    rw [List.length_cons] at hl
    have ih := nodup_eq (ks := r) (ns := ns.erase k) h1.2 hr (by omega)
    have no : k ∉ ns.erase k := fun hm => by
      have z := nodup_le (ks := k :: r) (ns := ns.erase k) hn fun j hj => by
        rcases List.mem_cons.mp hj with rfl | hj
        · exact hm
        · exact hr j hj
      rw [List.length_cons] at z
      omega
    exact (List.perm_cons_erase hk).nodup_iff.mpr (List.nodup_cons.mpr ⟨no, ih⟩)
theorem count_ints {ks ns : List Int} (hn : ks.Nodup) (hm : ∀ k, k ∈ ks ↔ k ∈ ns) : ks.length = ns.length ↔ ns.Nodup := by
  constructor
  · exact nodup_eq hn fun k hk => (hm k).mp hk
  · intro h
    have a := nodup_le hn fun k hk => (hm k).mp hk
    have b := nodup_le h fun k hk => (hm k).mpr hk
    omega
/-- len(set(xs)): texts in a list, ints in a list or tuple -/
def tLenSetU (K : PySem.W.Frag) (ta : TE) : TE := fun σ H Q => ta σ H fun x H1 => (∃ (l : Addr) (xs : List Str), x = .ref l ∧ SqL K H1 l (xs.map V.str) ∧ xs.length ≤ 60 ∧ ∀ c : Nat, (c = xs.length ↔ xs.Nodup) → Q (.int c) H1) ∨
  (∃ (l : Addr) (ns : List Int), x = .ref l ∧ SqT K H1 l (ns.map V.int) ∧ ns.length ≤ 60 ∧ ∀ c : Nat, (c = ns.length ↔ ns.Nodup) → Q (.int c) H1)
theorem pe_lenSetU {X : Cx} {a : Expr} {ta : TE} {p p2 q pos : Pos} (hc : X.calm = true) (hg : Gl X "len") (hm : X.mg "len" = none) (hg2 : Gl X "set") (hm2 : X.mg "set" = none) (ha : PE X a ta)
    (na : starEach [a] X.env = (false, eval a X.env) :: starEach [] X.env := by rfl) : PE X (.Call (.Name "len" p) [.Call (.Name "set" p2) [a] [] q] [] pos) (tLenSetU X.K ta) := by
  refine ⟨fun pins s σ H Q I h => ?_⟩
  refine Call_ (ld_blt I hg hm boot_len ?_)
  refine PyProof.Rows.callWith_builtin1 (PyProof.Rows.args_cons ?_ rfl) rfl rfl
  refine Call_ (ld_blt I hg2 hm2 boot_set ?_)
  refine PyProof.Rows.callWith_type1 (PyProof.Rows.args_cons (thn (ha.run pins s σ H _ I h) fun v s1 ⟨x, H1, I1, r1, q1⟩ => PyProof.Rows.args_nil ?_) na) na rfl
  rcases q1 with ⟨l, xs, rfl, hq, h1, q1⟩ | ⟨l, ns, rfl, hq, h1, q1⟩
  · cases r1
    obtain ⟨its, r, pl, hz⟩ := I1.list hq
    have hl : its.toArray.size = xs.length := by rw [List.size_toArray, ← r.length, List.length_map]
    refine ShT.call_setT (I1.ok.hd hc) pl.isList (by simpa using strsAre_of r) (by unfold scanBound; omega) fun h' tk hS hk => ?_
    refine PyProof.Rows.args_nil ?_
    obtain ⟨c, c0, c1, o, es, ep, t, ho, hex, hd, _, _, _, hf, hn⟩ := hS
    rw [hl] at c0 c1
    rw [List.take_of_length_le (Nat.le_refl _)] at c1
    have I2 : Inv X pins σ H1 { s1 with heap := h', toks := tk } := I1.kept fun b o e => hk b o (Heap.lt_size e) e
    exact call_len_set ho hex hd hf (by rw [hn] <;> omega) ⟨.int c, H1, I2.tok _, ⟨_, by rw [hn]⟩, q1 c c1⟩
  · cases r1
    obtain ⟨its, r, pl, hz⟩ := I1.tuple hq
    refine call_set_tupI ns (I1.ok.hd hc) pl (by simpa using r.ints) (by unfold scanBound; omega) fun h' tk c R le hk => ?_
    refine PyProof.Rows.args_nil ?_
    obtain ⟨o, es, ep, t, ho, hex, hd, _, nd, hm, hb, hf, hn, _⟩ := R
    have I2 : Inv X pins σ H1 { s1 with heap := h', toks := tk } := I1.kept fun b o e => hk b o e
    have key := count_ints nd fun k => ((hm k).symm.trans decide_eq_true_iff)
    rw [List.length_map, Array.length_toList, hn] at key
    exact call_len_set ho hex hd hf (by rw [hn] <;> omega) ⟨.int c, H1, I2.tok _, ⟨_, by rw [hn]⟩, q1 c key⟩
theorem w_lenSetU {K : PySem.W.Frag} {ta : TE} {σ : L2.St} {H : Hp} {Q : VK} (h : ta σ H fun x H1 => (∃ (l : Addr) (xs : List Str), x = .ref l ∧ SqL K H1 l (xs.map V.str) ∧ xs.length ≤ 60 ∧ ∀ c : Nat, (c = xs.length ↔ xs.Nodup) → Q (.int c) H1) ∨
  (∃ (l : Addr) (ns : List Int), x = .ref l ∧ SqT K H1 l (ns.map V.int) ∧ ns.length ≤ 60 ∧ ∀ c : Nat, (c = ns.length ↔ ns.Nodup) → Q (.int c) H1)) : tLenSetU K ta σ H Q := h
end Sh
/-! what is a name, a row, a kind, a field, a shape, a road, a pact -/
namespace Sh
open PySem PySem.Spec PyProof.Rows L2
def nameD : PyData → Bool
  | .str z => decide (1 ≤ z.length) && (decide (z.length ≤ 8) && (cz z).all fun c => decide (c ∈ ("abcdefghijklmnopqrstuvwxyz" : Str).cps.toList))
  | _ => false
def intsD : List PyData → List Int
  | [] => []
  | .int i :: r => i :: intsD r
  | _ :: r => intsD r
def turnD (b : Int) : PyData → Bool
  | .tuple ds => decide (2 ≤ ds.length) && (decide (ds.length ≤ 12) && (ds.all (betwD 0 (p2 b - 1)) && decide ((intsD ds).Nodup)))
  | _ => false
theorem intsD_of {lo hi : Int} : ∀ {ds : List PyData}, ds.all (betwD lo hi) = true → ds = (intsD ds).map PyData.int
  | [], _ => rfl
  | d :: r, h => by
    rw [List.all_cons, Bool.and_eq_true] at h
    cases d with
    | int i =>
      show PyData.int i :: r = PyData.int i :: (intsD r).map PyData.int
      rw [← intsD_of h.2]
    | _ => cases h.1
theorem dzs_intsD {K : PySem.W.Frag} {P : Addr → Prop} {H : Hp} : ∀ {xs : List V} {ns : List Int}, DzAll K P H xs (ns.map PyData.int) → xs = ns.map V.int
  | _, [], h => by cases h; rfl
  | _, n :: r, h => by
    cases h with
    | cons h1 h2 => rw [dz_int h1, dzs_intsD h2]; rfl
def kindE (pl b : Int) (s : Str) : List PyData → Bool
  | [] => decide (s = "still") || decide (s = "drawn")
  | [d1] => (decide (s = "step") && betwD 0 (p2 b - 1) d1) || (decide (s = "turn") && turnD b d1)
  | [d1, d2] => decide (s = "with") && (betwD 0 (pl - 1) d1 && betwD (-99) 99 d2)
  | _ => false
def kindD (pl b : Int) : PyData → Bool
  | .tuple (.str s :: r) => kindE pl b s r
  | _ => false
def fieldE (pl : Int) (d2 : PyData) : PyData → Bool
  | .int b => kindD pl b d2
  | _ => false
def fieldD (pl : Int) : PyData → Bool
  | .tuple [d0, d1, d2] => nameD d0 && (betwD 1 40 d1 && fieldE pl d2 d1)
  | _ => false
def nmD : PyData → Str
  | .tuple (.str z :: _) => z
  | _ => ""
def fieldsB (ds : List PyData) : Bool := (ds.mapIdx fun i d => fieldD (i : Int) d).all id
def fieldsD : PyData → Bool
  | .tuple ds => decide (1 ≤ ds.length) && (decide (ds.length ≤ 12) && (fieldsB ds && decide ((ds.map nmD).Nodup)))
  | _ => false
def shapeD : PyData → Bool
  | .tuple [d0, d1] => betwD 1 1000000 d1 && fieldsD d0
  | _ => false
def SmNm (d : PyData) : Prop := ∀ z r, d = .tuple (.str z :: r) → z.length ≤ 1000000
def SmSh (d : PyData) : Prop := ∀ ds r, d = .tuple (.tuple ds :: r) → ∀ e ∈ ds, SmNm e
theorem field_nm {pl : Int} {d : PyData} (h : fieldD pl d = true) : ∃ z a b, d = .tuple [.str z, a, b] := by
  cases d with
  | tuple ds =>
    rcases ds with _ | ⟨d0, _ | ⟨d1, _ | ⟨d2, _ | ⟨d3, r⟩⟩⟩⟩
    · cases h
    · cases h
    · cases h
    · have e : (nameD d0 && (betwD 1 40 d1 && fieldE pl d2 d1)) = true := h
      rw [Bool.and_eq_true] at e
      cases d0 with
      | str z => exact ⟨z, _, _, rfl⟩
      | _ => cases e.1
    · cases h
  | _ => cases h
theorem fields_get {ds : List PyData} {i : Nat} {d : PyData} (h : fieldsB ds = true) (e : ds[i]? = some d) : fieldD (i : Int) d = true := by
  unfold fieldsB at h
  rw [List.all_eq_true] at h
  refine h _ (List.mem_of_getElem? (i := i) ?_)
  rw [List.getElem?_mapIdx, e]
  rfl
theorem nm_ok {z : Str} (h : OkNm z) : nameD (.str z) = true := by
  show (decide (1 ≤ z.length) && (decide (z.length ≤ 8) && (cz z).all fun c => decide (c ∈ ("abcdefghijklmnopqrstuvwxyz" : Str).cps.toList))) = true
  rw [decide_eq_true h.1, decide_eq_true h.2.1, Bool.true_and, Bool.true_and, List.all_eq_true]
  intro c hc
  have z := h.2.2 c hc
  obtain ⟨k, rfl⟩ : ∃ k, c = 97 + k := ⟨c - 97, by omega⟩
  have hk : k < 26 := by omega
  refine decide_eq_true ?_
  rw [show ("abcdefghijklmnopqrstuvwxyz" : Str).cps.toList = (List.range 26).map (97 + ·) by decide +kernel]
  exact List.mem_map.mpr ⟨k, List.mem_range.mpr hk, rfl⟩
theorem kd_ok {pl : Nat} {b : Int} {k : Kd} (h : OkKd pl b k) : kindD (pl : Int) b (kdD k) = true := by
  cases k with
  | still => rfl
  | drawn => rfl
  | step n =>
    have e : kindD (pl : Int) b (kdD (.step n)) = ((decide (("step" : Str) = "step") && betwD 0 (p2 b - 1) (.int n)) || (decide (("step" : Str) = "turn") && turnD b (.int n))) := rfl
    rw [e, betw_ok h.1 (by have := h.2; omega), decide_eq_true rfl]
    rfl
  | turn ns =>
    have e : kindD (pl : Int) b (kdD (.turn ns)) = ((decide (("turn" : Str) = "step") && betwD 0 (p2 b - 1) (.tuple (ns.map .int))) || (decide (("turn" : Str) = "turn") && turnD b (.tuple (ns.map .int)))) := rfl
    have ei : ∀ l : List Int, intsD (l.map PyData.int) = l := fun l => by
      induction l with
      | nil => rfl
      | cons x r ih =>
        show x :: intsD (r.map PyData.int) = x :: r
        rw [ih]
    have et : turnD b (.tuple (ns.map .int)) = true := by
      show (decide (2 ≤ (ns.map PyData.int).length) && (decide ((ns.map PyData.int).length ≤ 12) && ((ns.map PyData.int).all (betwD 0 (p2 b - 1)) && decide ((intsD (ns.map PyData.int)).Nodup)))) = true
      rw [ei, List.length_map, decide_eq_true h.1, decide_eq_true h.2.1, decide_eq_true h.2.2.2, Bool.true_and, Bool.true_and, Bool.and_true, List.all_map, List.all_eq_true]
      intro n hn
      have z := h.2.2.1 n hn
      exact betw_ok z.1 (by omega)
    rw [e, et, decide_eq_true (rfl : ("turn" : Str) = "turn"), Bool.true_and, Bool.or_true]
  | wth p z =>
    have e : kindD (pl : Int) b (kdD (.wth p z)) = (decide (("with" : Str) = "with") && (betwD 0 ((pl : Int) - 1) (.int p) && betwD (-99) 99 (.int z))) := rfl
    obtain ⟨h0, h1, h2, h3⟩ := h
    rw [e, betw_ok h0 (by omega), betw_ok h2 h3, decide_eq_true rfl]
    rfl
theorem fd_ok {i : Nat} {f : Fd} (h : OkFd i f) : fieldD (i : Int) (fdD f) = true := by
  have e : fieldD (i : Int) (fdD f) = (nameD (.str f.nm) && (betwD 1 40 (.int f.br) && kindD (i : Int) f.br (kdD f.kd))) := rfl
  rw [e, nm_ok h.nm, betw_ok h.b0 h.b1, kd_ok h.kd]
  rfl
theorem shape_ok {s : Shp} (h : OkShp s) : shapeD (shD s) = true := by
  have e : shapeD (shD s) = (betwD 1 1000000 (.int s.m) && (decide (1 ≤ (s.fs.map fdD).length) && (decide ((s.fs.map fdD).length ≤ 12) && (fieldsB (s.fs.map fdD) && decide (((s.fs.map fdD).map nmD).Nodup))))) := rfl
  have en : (s.fs.map fdD).map nmD = s.fs.map Fd.nm := by
    rw [List.map_map]
    rfl
  have ef : fieldsB (s.fs.map fdD) = true := by
    unfold fieldsB
    rw [List.all_eq_true]
    intro x hx
    obtain ⟨i, hi⟩ := List.getElem?_of_mem hx
    rw [List.getElem?_mapIdx, List.getElem?_map] at hi
    cases c : s.fs[i]? with
    | none => rw [c] at hi; cases hi
    | some f =>
      rw [c] at hi
      rw [← Option.some.inj hi]
      exact fd_ok (h.fd i f c)
  rw [e, en, ef, betw_ok h.m0 h.m1, List.length_map, decide_eq_true h.l0, decide_eq_true h.l1, decide_eq_true h.nd]
  rfl
theorem smnm_ok {s : Shp} (h : OkShp s) : ∀ e ∈ s.fs.map fdD, SmNm e := fun e he z r ez => by
  obtain ⟨f, hf, rfl⟩ := List.mem_map.mp he
  obtain ⟨i, hi⟩ := List.getElem?_of_mem hf
  have hn := (h.fd i f hi).nm.2.1
  injection ez with ez
  injection ez with e1 _
  injection e1 with e1
  rw [← e1]
  omega
theorem smsh_ok {s : Shp} (h : OkShp s) : SmSh (shD s) := fun ds r e => by
  injection e with e
  injection e with e1 _
  injection e1 with e1
  rw [← e1]
  exact smnm_ok h
def roadE (d1 d2 d3 : PyData) : PyData → Bool
  | .int a => betwD a 400 d1 && (betwD 0 20 d2 && betwD 0 400 d3)
  | _ => false
def roadD : PyData → Bool
  | .tuple [d0, d1, d2, d3] => betwD 0 39 d0 && roadE d1 d2 d3 d0
  | _ => false
def formsD (s : Shp) : PyData → Bool
  | .tuple fs => decide (fs.length ≤ 12) && fs.all (formD s)
  | _ => false
def PaC (d : PyData) (r : Bool) : Prop :=
  (r = false ∧ ∀ d0 d1 d2 d3, d ≠ .tuple [d0, d1, d2, d3]) ∨ (∃ d0 d1 d2 d3, d = .tuple [d0, d1, d2, d3] ∧ r = false ∧ shapeD d0 = false ∧ SmSh d0) ∨
  ∃ (s : Shp) (d1 d2 d3 : PyData), OkShp s ∧ d = .tuple [shD s, d1, d2, d3] ∧ r = (betwD 1 40 d1 && (formsD s d2 && roadD d3))
theorem OkShp.brs {s : Shp} (h : OkShp s) : ∀ f ∈ s.fs, f.br ≤ 1000 := fun f hf => by
  obtain ⟨i, hi⟩ := List.getElem?_of_mem hf
  have := (h.fd i f hi).b1
  omega
theorem dz_4 {K : PySem.W.Frag} {P : Addr → Prop} {H : Hp} {v : V} {d0 d1 d2 d3 : PyData} (hd : Dz K P H v (.tuple [d0, d1, d2, d3])) : ∃ a x0 x1 x2 x3, v = .ref a ∧ SqT K H a [x0, x1, x2, x3] ∧ Dz K P H x0 d0 ∧ Dz K P H x1 d1 ∧ Dz K P H x2 d2 ∧ Dz K P H x3 d3 := by
  obtain ⟨a, xs, rfl, hxs, hds⟩ := dz_tt hd
  cases hds with
  | cons a0 r => cases r with
    | cons a1 r => cases r with
      | cons a2 r => cases r with
        | cons a3 r =>
          cases r
          exact ⟨_, _, _, _, _, rfl, hxs, a0, a1, a2, a3⟩
theorem rd0 {d0 d1 d2 d3 : PyData} (h : betwD 0 39 d0 = false) : roadD (.tuple [d0, d1, d2, d3]) = false := by
  show (betwD 0 39 d0 && roadE d1 d2 d3 d0) = false
  rw [h, Bool.false_and]
theorem rd1 {a : Int} {d1 d2 d3 : PyData} (h : betwD a 400 d1 = false) : roadD (.tuple [.int a, d1, d2, d3]) = false := by
  show (betwD 0 39 (.int a) && (betwD a 400 d1 && (betwD 0 20 d2 && betwD 0 400 d3))) = false
  rw [h, Bool.false_and, Bool.and_false]
theorem rd2 {a : Int} {d1 d2 d3 : PyData} (h : betwD 0 20 d2 = false) : roadD (.tuple [.int a, d1, d2, d3]) = false := by
  show (betwD 0 39 (.int a) && (betwD a 400 d1 && (betwD 0 20 d2 && betwD 0 400 d3))) = false
  rw [h, Bool.false_and, Bool.and_false, Bool.and_false]
theorem rd3 {a : Int} {d1 d2 d3 : PyData} (h : betwD 0 400 d3 = false) : roadD (.tuple [.int a, d1, d2, d3]) = false := by
  show (betwD 0 39 (.int a) && (betwD a 400 d1 && (betwD 0 20 d2 && betwD 0 400 d3))) = false
  rw [h, Bool.and_false, Bool.and_false, Bool.and_false]
theorem dq_i4 {K : PySem.W.Frag} {H : Hp} {v : V} {a b c d : Int} (h : Dq K H v (.tuple [.int a, .int b, .int c, .int d])) : ∃ p, v = .ref p ∧ SqN K H p [.int a, .int b, .int c, .int d] := by
  obtain ⟨p, xs, rfl, hx, r⟩ := dq_tt h
  cases r with
  | cons h1 r => cases r with
    | cons h2 r => cases r with
      | cons h3 r => cases r with
        | cons h4 r =>
          cases r
          cases dq_int h1
          cases dq_int h2
          cases dq_int h3
          cases dq_int h4
          exact ⟨p, rfl, hx⟩
theorem pac_w {s : Shp} {d1 d2 d3 : PyData} (ok : OkShp s) (h : betwD 1 40 d1 = false) : PaC (.tuple [shD s, d1, d2, d3]) false := .inr (.inr ⟨s, d1, d2, d3, ok, rfl, by rw [h, Bool.false_and]⟩)
theorem pac_f {s : Shp} {d1 d2 d3 : PyData} (ok : OkShp s) (h : formsD s d2 = false) : PaC (.tuple [shD s, d1, d2, d3]) false := .inr (.inr ⟨s, d1, d2, d3, ok, rfl, by rw [h, Bool.false_and, Bool.and_false]⟩)
theorem pac_r {s : Shp} {d1 d2 d3 : PyData} (ok : OkShp s) (h : roadD d3 = false) : PaC (.tuple [shD s, d1, d2, d3]) false := .inr (.inr ⟨s, d1, d2, d3, ok, rfl, by rw [h, Bool.and_false, Bool.and_false]⟩)
theorem pac_s {d0 d1 d2 d3 : PyData} (h : shapeD d0 = false) (hz : SmSh d0) : PaC (.tuple [d0, d1, d2, d3]) false := .inr (.inl ⟨d0, d1, d2, d3, rfl, rfl, h, hz⟩)
theorem pac_n {d : PyData} (h : ∀ d0 d1 d2 d3, d ≠ .tuple [d0, d1, d2, d3]) : PaC d false := .inl ⟨rfl, h⟩
theorem forms_bad {s : Shp} {l : List PyData} {d : PyData} (h : formD s d = false) (hd : d ∈ l) : formsD s (.tuple l) = false := by
  show (decide (l.length ≤ 12) && l.all (formD s)) = false
  have e : l.all (formD s) = false := by
    rw [List.all_eq_false]
    exact ⟨d, hd, by rw [h]; decide⟩
  rw [e, Bool.and_false]
theorem form_lenO {s : Shp} {a b : PyData} {ws : List PyData} (h : ws.length ≠ s.fs.length) : formD s (.tuple [a, b, .tuple ws]) = false := by
  show (betwD 1 40 a && (betwD 1 40 b && (decide (ws.length = s.fs.length) && _))) = false
  rw [decide_eq_false h, Bool.false_and, Bool.and_false, Bool.and_false]
theorem lc_genF {K : PySem.W.Frag} {σ : L2.St} {H : Hp} {Q : VK} {te : TE} {tt : TT} {g : TG} {vs : List Nat} {a : Addr} {xs : List V} (hx : SqL K H a xs) (I : Nat → List V → Hp → Prop) (hst : ∀ D, H D = none → ∀ i acc H' xs ys, H' D = some (.lst xs) → I i acc H' → I i acc (upd H' D (.lst ys))) (hn : xs.length ≤ 1000000) (hI : ∀ i acc H', I i acc H' → acc.length ≤ i) (h0 : ∀ H', Same H H' → I 0 [] H')
    (hs : ∀ i x acc H', xs[i]? = some x → Same H H' → I i acc H' → ∀ (k : VK) (k' : Hp → Prop), (∀ y H4, Same H' H4 → I (i + 1) (acc ++ [y]) H4 → k y H4) → (∀ H3, Same H' H3 → I (i + 1) acc H3 → k' H3) →
      g x (wipe σ vs) H' fun σ2 H2 => wipe σ2 vs = wipe σ vs ∧ tt σ2 H2 fun b H3 => if b = true then te σ2 H3 k else k' H3)
    (hd : ∀ D acc H', H D = none → Same H H' → H' D = some (.lst acc) → I xs.length acc H' → Q (.ref D) H') : LcOk (Itl K a) g tt te vs σ Q H := fun D hD => by
  refine ⟨fun i m H' => m = xs.length - i ∧ i ≤ xs.length ∧ ∃ acc, Same H H' ∧ H' D = some (.lst acc) ∧ I i acc H', ⟨xs.length, by omega, by omega, [], same_new hD, upd_same, h0 _ (same_new hD)⟩, fun i m H1 ⟨em, hi, acc, s1, hD1, w1⟩ => ?_⟩
  by_cases hlt : i < xs.length
  · refine .inr ⟨⟨xs, xs[i], s1.seq hx, List.getElem?_eq_getElem hlt⟩, fun H' => i + 1 ≤ xs.length ∧ ∃ acc, Same H H' ∧ H' D = some (.lst acc) ∧ I (i + 1) acc H', fun H' ⟨a, b⟩ => ⟨xs.length - (i + 1), by omega, rfl, a, b⟩, fun x H' y => ?_⟩
    obtain ⟨e1, e2⟩ := y
    subst e1
    refine hs i x acc _ (e2 xs (s1.seq hx)) s1 w1 _ _ (fun y H4 s4 w4 => ⟨acc, s4 _ _ hD1, ?_, hlt, _, same_mut (s1.trans s4) hD, upd_same, hst D hD _ _ _ _ _ (s4 _ _ hD1) w4⟩) fun H3 s3 w3 => ⟨hlt, acc, s1.trans s3, s3 _ _ hD1, w3⟩
    have l1 := hI i acc _ w1
    exact Nat.lt_of_le_of_lt (m := 1000000) (by omega) (by decide)
  · have e : i = xs.length := by omega
    subst e
    exact .inl ⟨⟨xs, s1.seq hx, Nat.le_refl _⟩, hd D acc H1 hD s1 hD1 w1⟩
theorem tupOs_mem : ∀ {ds : List PyData} {d : PyData}, tupOs ds → d ∈ ds → tupO d
  | e :: r, d, h, hd => by
    rcases List.mem_cons.mp hd with rfl | hd
    · exact h.1
    · exact tupOs_mem h.2 hd
  | [], _, _, hd => nomatch hd
end Sh
/-! what tuples count, dict.get with a word for none, tuple(range(..)), upper; odd data -/
namespace Sh
open PySem PySem.Spec PyProof.Rows L2
def rCntT (K : PySem.W.Frag) : V → List V → Hp → VK → Prop := fun x xs H Q => ∃ (a : Addr) (ys : List V) (y : V), x = .ref a ∧ xs = [y] ∧ SqT K H a ys ∧ flatV y = true ∧ ys.all flatV = true ∧ Q (.int ((ys.countP fun z => eqV z y : Nat) : Int)) H
theorem countU {y : V} : ∀ {ys : List V} {us : List Value}, Vals ys us → ys.all flatV = true → us.countP (eqU y) = ys.countP fun z => eqV z y
  | _, _, .nil, _ => rfl
  | z :: ys, u :: us, .cons r t, f => by
    rw [List.all_cons, Bool.and_eq_true] at f
    rw [List.countP_cons, List.countP_cons, countU t f.2, eqU_of r f.1]
theorem mt_cntT {X : Cx} : MtR X "tuple.count" (rCntT X.K) := by
  intro pins s σ H x xs v us Q I rx rxs h
  obtain ⟨a, ys, y, rfl, rfl, hs, fy, fys, q⟩ := h
  cases rx
  obtain ⟨uy, rfl, ry⟩ := rxs.one
  obtain ⟨its, rv, ⟨⟨cls, dd, data, sl⟩, ho, hc, n, hd⟩, hlen⟩ := I.tuple hs
  simp only at hc hd
  subst hc hd
  refine call_meets PySem.F.slot_tuple_count ⟨_, ho, rfl⟩ PySem.F.entry_tuple_count (PySem.F.args_tuple_count_2 _ _)
    (SeqAt.tuple_countAt a its.toArray n dd sl uy (eqU y)) ⟨ho, fun u' hu' => mem_eqAt ry fy rv fys u' (by simpa using hu'), ?_⟩
  refine ⟨.int ((ys.countP fun z => eqV z y : Nat) : Int), H, I.tok _, ⟨s.toks, ?_⟩, q⟩
  show Value.int ((its.toArray.toList.countP (eqU y) : Nat) : Int) s.toks = _
  rw [List.toList_toArray, countU rv fys]
theorem w_cntT {K : PySem.W.Frag} {H : Hp} {Q : VK} {a : Addr} {ys : List V} {y : V} (h : SqT K H a ys) (fy : flatV y = true) (fys : ys.all flatV = true) (q : Q (.int ((ys.countP fun z => eqV z y : Nat) : Int)) H) : rCntT K (.ref a) [y] H Q := ⟨a, ys, y, rfl, rfl, h, fy, fys, q⟩
def rUpper : V → List V → Hp → VK → Prop := fun x xs H Q => ∃ a, x = .str a ∧ xs = [] ∧ a.length ≤ 5592405 ∧ Q (.str (Txt.upper a)) H
theorem w_upper {a : Str} {H : Hp} {Q : VK} (h : a.length ≤ 1000) (q : ∀ z : Str, z.length ≤ 3000 → Q (.str z) H) : rUpper (.str a) [] H Q := ⟨a, rfl, rfl, Nat.le_trans h (by decide), q _ (by have := PyProof.Rows.len_upper a; omega)⟩
theorem w_m0 {r : V → List V → Hp → VK → Prop} {to : TE} {σ : L2.St} {H : Hp} {Q : VK} (h : to σ H fun x H1 => (∃ a, x = .str a) ∧ r x [] H1 Q) : tM0 r to σ H Q := h
def tTupRgN (te : L2.St → Hp → (Int → Int → Hp → Prop) → Prop) : TE := fun σ H Q => te σ H fun a b H1 => RgOk a b ∧ ∀ (q : Addr) (o : Obj), H1 q = none → o.dict = none → Q (.ref q) (upd H1 q (.frz o (.tup (rgV a b))))
theorem pe_tupRgN {X : Cx} {e : Expr} {te : L2.St → Hp → (Int → Int → Hp → Prop) → Prop} {p pos : Pos} (hc : X.calm = true) (hg : Gl X "tuple") (hm : X.mg "tuple" = none) (he : PRg X e te) (na : starEach [e] X.env = (false, eval e X.env) :: starEach [] X.env := by rfl) : PE X (.Call (.Name "tuple" p) [e] [] pos) (tTupRgN te) := by
  refine ⟨fun pins s σ H Q I h => ?_⟩
  refine Call_ (ld_blt I hg hm boot_tuple (PyProof.Rows.callWith_type1 (args_cons (thn (he pins s σ H _ I h) fun x s1 ⟨r, a, b, t, u, v, H1, ex, hr, I1, ok, q⟩ => args_nil ?_) na) na))
  subst ex
  obtain ⟨b1, b2, b3, b4, b5⟩ := ok
  refine call_tuple_range (n := (b - a).toNat) (I1.ok.hd hc) hr (small_one b1 b2 b3 b4) (rangeSize_nat a b) b5 fun h' tk acc hk hi => ?_
  have I2 : Inv X pins σ H1 { s1 with heap := h', toks := tk } := I1.kept hk
  have hg2 := Heap.get?_push_size h' (o := { cls := .type "tuple", data := .seq acc }) rfl
  refine ⟨.ref h'.objs.size, _, I2.laid (t' := tk) (o := .frz { cls := .type "tuple", data := .seq acc } (.tup (rgV a b))) (fun c o e => Heap.get?_push_of_some _ e) (Nat.le_refl _) ⟨hg2, ?_, acc.toList, vals_rg hi, ?_⟩, rfl, q _ _ (I2.hok.fresh (Nat.le_refl _)) rfl⟩
  · rw [rgV_length, sizeLine_eq]; omega
  · exact ⟨_, hg2, rfl, _, by rw [Array.toArray_toList]⟩
def RgTup (Q : VK) (x : V) (H : Hp) : Prop := ∃ n : Int, x = .int n ∧ RgOk 0 n ∧ ∀ (p : Addr) (o : Obj), H p = none → o.dict = none → Q (.ref p) (upd H p (.frz o (.tup (rgV 0 n))))
theorem w_tupRg {te : TE} {σ : L2.St} {H : Hp} {Q : VK} (h : te σ H fun x H1 => RgTup Q x H1) : tTupRgN (tRg1 te) σ H Q := h
theorem w_rgT {K : PySem.W.Frag} {H : Hp} {Q : VK} {n : Int} (h0 : 0 ≤ n) (h1 : n ≤ 1000) (q : ∀ (p : Addr) (ns : List Int) H', H p = none → Same H H' → TupN H' p (ns.map V.int) → Q (.ref p) H') : RgTup Q (.int n) H :=
  ⟨n, rfl, RgOk.of_le (by omega) (by omega) (by omega) (by omega), fun p o hp hd => q p ((List.range (n - 0).toNat).map fun i : Nat => (0 : Int) + (i : Int)) _ hp (same_new hp) ⟨o, hd, by
    rw [upd_same, List.map_map]
    rfl⟩⟩
/-! odd data: rows are flat -/
def flatB : PyData → Bool
  | .tuple _ => false
  | .list _ => false
  | .dict _ => false
  | _ => true
def rowB : PyData → Bool
  | .tuple (_ :: .tuple ds :: _) => ds.all flatB
  | _ => true
def fldB : PyData → Bool
  | .tuple (_ :: _ :: k :: _) => rowB k
  | _ => true
def shpB : PyData → Bool
  | .tuple (.tuple fs :: _) => fs.all fldB
  | _ => true
theorem dz_flat {K : PySem.W.Frag} {P : Addr → Prop} {H : Hp} : ∀ {vs : List V} {ds : List PyData}, DzAll K P H vs ds → ds.all flatB = true → vs.all flatV = true
  | _, _, .nil, _ => rfl
  | _, _, .cons h r, f => by
    rw [List.all_cons, Bool.and_eq_true] at f ⊢
    refine ⟨?_, dz_flat r f.2⟩
    cases h <;> first | rfl | cases f.1
/-- what stands in the place of a kind -/
structure KdZ (d : PyData) : Prop where
  row : rowB d = true
  can : PyData.canLay0 d = true
  dep : PyData.depth d ≤ 20
theorem KdZ.sh {d : PyData} (h : KdZ d) : SeqAt.shaped d = true := by
  show (PyData.canLay0 d && decide (PyData.depth d ≤ 64)) = true
  rw [h.can, decide_eq_true (by have := h.dep; omega)]
  rfl
def FldZ (d : PyData) : Prop := ∀ a b k, d = .tuple [a, b, k] → KdZ k
def ShpZ (d : PyData) : Prop := ∀ fs m, d = .tuple [.tuple fs, m] → ∀ f ∈ fs, FldZ f
section
variable {K : PySem.W.Frag} {σ : L2.St} {H : Hp} {Q : VK} {td tk tx : TE} {a : Addr} {z : Str}
theorem w_dget2 (h : td σ H fun x H1 => ∃ a, x = .ref a ∧ IsD H1 a ∧ tk σ H1 fun y H2 => tx σ H2 fun z H3 => ∃ o, DGet H3 a y o ∧ Q (o.getD z) H3) : tDGet2 td tk tx σ H Q := h
theorem w_isD {R : Addr → Prop} {kvs : List (Key × V)} (h : H a = some (.dK kvs)) (q : R a) : ∃ b, V.ref a = .ref b ∧ IsD H b ∧ R b := ⟨a, rfl, .inl ⟨kvs, .inl h⟩, q⟩
theorem w_dgetS {kvs : List (Key × V)} {x : V} (h : H a = some (.dK kvs)) (q : Q ((valV kvs (.inr z)).getD x) H) : ∃ o, DGet H a (.str z) o ∧ Q (o.getD x) H := ⟨_, DGet.k (k := Sum.inr z) h, q⟩
theorem w_DB5 {p : Addr} {k1 k2 k3 k4 k5 : Str} {x1 x2 x3 x4 x5 : V} (h : H p = some (.dK [])) (e : mergeK [] [(Sum.inr k1, x1), (.inr k2, x2), (.inr k3, x3), (.inr k4, x4), (.inr k5, x5)] = ([(Sum.inr k1, x1), (.inr k2, x2), (.inr k3, x3), (.inr k4, x4), (.inr k5, x5)] : List (Key × V))) (q : Q (.ref p) (upd H p (.dK [(.inr k1, x1), (.inr k2, x2), (.inr k3, x3), (.inr k4, x4), (.inr k5, x5)]))) : DB Q p [(.str k1, x1), (.str k2, x2), (.str k3, x3), (.str k4, x4), (.str k5, x5)] H :=
  ⟨h, [(.inr k1, x1), (.inr k2, x2), (.inr k3, x3), (.inr k4, x4), (.inr k5, x5)], rfl, (by decide : 5 ≤ 15), by rw [e]; exact q⟩
end
/-- the size of a kind by its word -/
def szK (s : Str) : Int := if s = "still" then 1 else if s = "drawn" then 1 else if s = "step" then 2 else if s = "turn" then 2 else if s = "with" then 3 else 0
theorem szK_get (s : Str) : ((valV ([(.inr "still", .int 1), (.inr "drawn", .int 1), (.inr "step", .int 2), (.inr "turn", .int 2), (.inr "with", .int 3)] : List (Key × V)) (.inr s)).getD (.int 0)) = .int (szK s) := by
  unfold valV szK
  have hk : ∀ a : Str, decide ((Sum.inr a : Key) = .inr s) = decide (s = a) := fun a => by
    rw [decide_eq_decide]
    exact ⟨fun h => (Sum.inr.inj h).symm, fun h => by rw [h]⟩
  simp only [List.find?, hk]
  by_cases h1 : s = "still"
  · rw [decide_eq_true h1, if_pos h1]; rfl
  · rw [decide_eq_false h1, if_neg h1]
    by_cases h2 : s = "drawn"
    · rw [decide_eq_true h2, if_pos h2]; rfl
    · rw [decide_eq_false h2, if_neg h2]
      by_cases h3 : s = "step"
      · rw [decide_eq_true h3, if_pos h3]; rfl
      · rw [decide_eq_false h3, if_neg h3]
        by_cases h4 : s = "turn"
        · rw [decide_eq_true h4, if_pos h4]; rfl
        · rw [decide_eq_false h4, if_neg h4]
          by_cases h5 : s = "with"
          · rw [decide_eq_true h5, if_pos h5]; rfl
          · rw [decide_eq_false h5, if_neg h5]; rfl
theorem kindE_sz {pl b : Int} {s : Str} {r : List PyData} (h : ((r.length : Int) + 1) ≠ szK s) : kindE pl b s r = false := by
  unfold szK at h
  rcases r with _ | ⟨d1, _ | ⟨d2, _ | ⟨d3, r⟩⟩⟩
  · show (decide (s = "still") || decide (s = "drawn")) = false
    by_cases h1 : s = "still"
    · exact absurd (by rw [if_pos h1]; rfl) h
    · by_cases h2 : s = "drawn"
      · exact absurd (by rw [if_neg h1, if_pos h2]; rfl) h
      · rw [decide_eq_false h1, decide_eq_false h2]; rfl
  · show ((decide (s = "step") && betwD 0 (p2 b - 1) d1) || (decide (s = "turn") && turnD b d1)) = false
    have h3 : s ≠ "step" := fun e => h (by rw [e]; rfl)
    have h4 : s ≠ "turn" := fun e => h (by rw [e]; rfl)
    rw [decide_eq_false h3, decide_eq_false h4]; rfl
  · show (decide (s = "with") && _) = false
    have h5 : s ≠ "with" := fun e => h (by rw [e]; rfl)
    rw [decide_eq_false h5]; rfl
  · rfl
theorem count_intsV {m : Int} : ∀ ns : List Int, ((ns.map V.int).countP fun z => eqV z (.int m)) = ns.count m
  | [] => rfl
  | n :: r => by
    rw [List.map_cons, List.countP_cons, List.count_cons, count_intsV r]
    rfl
theorem nodup_counts : ∀ ns : List Int, (ns.map fun m => decide (ns.count m = 1)).all id = decide ns.Nodup := fun ns => by
  rw [List.all_map]
  by_cases h : ns.Nodup
  · rw [decide_eq_true h, List.all_eq_true]
    intro m hm
    exact decide_eq_true (by rw [h.count, if_pos hm])
  · rw [decide_eq_false h]
    cases c : ns.all (id ∘ fun m => decide (ns.count m = 1)) with
    | false => rfl
    | true =>
      exfalso
      rw [List.all_eq_true] at c
      refine h (List.nodup_iff_count.mpr fun a => ?_)
      by_cases ha : a ∈ ns
      · have z : ns.count a = 1 := of_decide_eq_true (c a ha)
        omega
      · rw [List.count_eq_zero.mpr ha]
        omega
end Sh
namespace Sh
open PySem PySem.Spec PyProof.Rows L2
open RZ
local macro_rules | `(tactic| walk_at "Zkt") => `(tactic| first | assumption | exact Same.refl _ | ((refine' Same.trans ?a ?b); (case b => assumption); walk_at "Zkt"))
local macro_rules | `(tactic| walk_at "Znum") => `(tactic| first | omega | decide +kernel | assumption | exact p2_pos _)
local macro_rules | `(tactic| walk_at "Zcmul") => `(tactic| first | exact .inr ⟨by decide, by decide⟩ | exact .inl ⟨by decide, by decide⟩ | exact .inl ⟨by omega, by omega⟩ | exact .inr ⟨by omega, by omega⟩)
local macro_rules | `(tactic| walk_at "Zs0") => `(tactic| first
  | with_reducible refine' w_seq ?_
  | with_reducible refine' w_asg ?_
  | ((with_reducible refine' w_var ?vv ?_); (case vv => exact rfl))
  | with_reducible refine' w_c ?_
  | with_reducible refine' w_gname ?_
  | with_reducible refine' w_op ?_
  | with_reducible refine' w_cons ?_
  | with_reducible refine' w_nil ?_
  | with_reducible refine' w_call ?_
  | with_reducible refine' w_cb ?_
  | with_reducible refine' w_test ?_
  | with_reducible refine' w_tB ?_
  | with_reducible refine' w_bl ?_
  | with_reducible refine' w_ret ?_
  | with_reducible refine' w_not ?_
  | with_reducible refine' w_and ?_
  | with_reducible refine' w_or ?_
  | with_reducible refine' w_andv ?_
  | with_reducible refine' w_orv ?_
  | with_reducible refine' w_notv ?_
  | with_reducible refine' w_chain ?_
  | with_reducible refine' w_tup ?_
  | with_reducible refine' w_lst ?_
  | with_reducible refine' w_un ?_
  | with_reducible refine' w_rU ?_
  | with_reducible refine' w_drop ?_
  | with_reducible refine' w_par ?_
  | with_reducible refine' w_two ?_
  | with_reducible refine' w_par3 ?_
  | with_reducible refine' w_three ?_
  | with_reducible refine' w_lenSetU ?_
  | with_reducible refine' w_next ?_
  | with_reducible refine' w_retn ?_
  | ((with_reducible refine' w_aug ?vv ?_); (case vv => exact rfl))
  | with_reducible refine' w_meth ?_
  | with_reducible refine' w_make ?_
  | with_reducible refine' w_fd ?_
  | with_reducible refine' w_sfd ?_
  | with_reducible refine' w_nn ?_)
local macro_rules | `(tactic| walk_at "Zs1") => `(tactic| first | walk_at "Zs0" | with_reducible refine' w_ifs ?_ | with_reducible refine' w_ife ?_)
local macro_rules | `(tactic| walk_at "Zs2") => `(tactic| first
  | with_reducible refine' w_add ?_
  | with_reducible refine' w_addN ?_
  | with_reducible refine' w_sub ?_
  | with_reducible refine' w_con ?_
  | with_reducible refine' w_lt ?_
  | with_reducible refine' w_le ?_
  | with_reducible refine' w_gt ?_
  | with_reducible refine' w_ge ?_
  | with_reducible refine' w_eqi ?_
  | with_reducible refine' w_nei ?_
  | with_reducible refine' w_eqs ?_
  | with_reducible refine' w_nes ?_
  | with_reducible refine' w_neb ?_
  | with_reducible refine' w_eqb ?_
  | ((with_reducible refine' w_lenQTm ?h ?_); (case h => walk_at "Zdq"))
  | ((with_reducible refine' w_lenQT ?h ?_); (case h => walk_at "Zdq"))
  | ((with_reducible refine' w_lenZT ?h ?_); (case h => walk_at "Zdz"))
  | with_reducible refine' w_min2 ?_
  | with_reducible refine' w_max2 ?_
  | with_reducible refine' w_max3 ?_
  | with_reducible refine' w_abs ?_
  | with_reducible refine' w_ipadd ?_
  | with_reducible refine' w_ipaddN ?_
  | ((with_reducible refine' w_mod ?a ?_); (case a => walk_at "Znum"))
  | ((with_reducible refine' w_mul ?a ?_); (case a => walk_at "Zcmul"))
  | ((with_reducible refine' w_mulN ?a ?_); (case a => walk_at "Zcmul"))
  | ((with_reducible refine' w_div1 ?a ?b ?_); (case a => walk_at "Znum"); (case b => walk_at "Znum"))
  | ((with_reducible refine' w_shl1 ?a ?b ?_); (case a => walk_at "Znum"); (case b => walk_at "Znum"))
  | with_reducible refine' w_intb ?_
  | with_reducible refine' w_inti ?_)
local macro_rules | `(tactic| walk_at "Zs3") => `(tactic| first
  | with_reducible refine' w_for ?_
  | with_reducible refine' w_irng1 ?_
  | with_reducible refine' w_irng2 ?_
  | ((with_reducible refine' w_rg1 ?a ?b ?_); (case a => walk_at "Znum"); (case b => walk_at "Znum"))
  | with_reducible refine' w_iany ?_
  | with_reducible refine' w_ienum ?_
  | with_reducible refine' w_izip ?_
  | with_reducible refine' w_izip3 ?_
  | with_reducible refine' w_N ?_
  | with_reducible refine' w_lc ?_
  | ((with_reducible refine' w_wp ?e ?_); (case e => exact rfl))
  | with_reducible refine' w_yes ?_
  | with_reducible refine' w_gsub ?_
  | ((with_reducible refine' w_new ?l ?_); (case l => (simp only [List.length_cons, List.length_nil]; decide)); intro p H' np e hp)
  | with_reducible refine' w_tupN ?_
  | with_reducible refine' w_tm ?_
  | with_reducible refine' w_lstRg ?_
  | with_reducible refine' w_dget ?_
  | with_reducible refine' w_isN ?_
  | with_reducible refine' w_isB ?_
  | with_reducible refine' w_notN ?_
  | with_reducible refine' w_notB ?_
  | with_reducible refine' w_pairs ?_
  | with_reducible refine' w_pnil ?_
  | ((with_reducible refine' w_dnewK ?_); intro p H' np e hp)
  | with_reducible refine' w_m1 ?_
  | with_reducible refine' w_isS ?_
  | with_reducible refine' w_joinRev ?_
  | ((with_reducible refine' w_newN ?l ?_); (case l => (simp only [List.length_cons, List.length_nil]; decide)); intro p H' np e hp)
  | with_reducible refine' w_gnil ?_
  | ((with_reducible refine' w_gtup ?h ?l ?_); (case h => first | assumption | exact SqT.of (by assumption) | exact SqN.t (SqN.of (by assumption)) | exact SqN.t (by assumption)); (case l => exact rfl))
  | with_reducible refine' w_sl ?_
  | with_reducible refine' w_nopart ?_
  | with_reducible refine' w_part ?_
  | with_reducible refine' w_ii ?_
  | with_reducible refine' w_bm ?_
  | with_reducible refine' w_gcons ?_
  | ((with_reducible refine' w_prPast ?h ?_); (case h => walk_at "Zpr"))
  | ((with_reducible refine' w_prHad ?h ?_); (case h => walk_at "Zpr"))
  | ((with_reducible refine' w_prBase ?h ?_); (case h => walk_at "Zpr"))
  | ((with_reducible refine' w_prFresh ?h ?_); (case h => walk_at "Zpr"))
  | ((with_reducible refine' w_prPact ?h ?_); (case h => walk_at "Zpr"); intro vP hvP)
  | ((with_reducible refine' w_mtPr ?h ?n ?_); (case h => walk_at "Zpr"); (case n => decide +kernel))
  | ((with_reducible refine' w_lenPast ?h ?_); (case h => walk_at "Zpr"))
  | ((with_reducible refine' w_tyPast ?h ?_); (case h => walk_at "Zpr"))
  | ((with_reducible refine' w_ptR ?h ?_); (case h => walk_at "Zdq"); intro xR hxR)
  | with_reducible refine' w_ikeys ?_
  | with_reducible refine' w_ckw ?_
  | with_reducible refine' w_din ?_
  | with_reducible refine' w_dpop1 ?_
  | ((with_reducible refine' w_rdHeld ?h ?_); (case h => walk_at "Zrd"))
  | ((with_reducible refine' w_rdTop ?h ?_); (case h => walk_at "Zrd"))
  | ((with_reducible refine' w_rdPact ?h ?_); (case h => walk_at "Zrd"); intro vP hvP)
  | ((with_reducible refine' w_mtRd ?h ?n ?_); (case h => walk_at "Zrd"); (case n => decide +kernel))
  | ((with_reducible refine' w_roPact ?h ?_); (case h => walk_at "Zro"); intro vP hvP)
  | ((with_reducible refine' w_roOne ?h ?_); (case h => walk_at "Zro"))
  | ((with_reducible refine' w_roOther ?h ?_); (case h => walk_at "Zro"))
  | ((with_reducible refine' w_roLine ?h ?_); (case h => walk_at "Zro"))
  | ((with_reducible refine' w_roBack ?h ?_); (case h => walk_at "Zro"))
  | ((with_reducible refine' w_roRow ?h ?_); (case h => walk_at "Zro"))
  | ((with_reducible refine' w_roCame ?h ?_); (case h => walk_at "Zro"))
  | ((with_reducible refine' w_mtRo ?h ?n ?_); (case h => walk_at "Zro"); (case n => decide +kernel))
  | ((with_reducible refine' w_rd0 ?h ?_); (case h => assumption))
  | ((with_reducible refine' w_rd1 ?h ?_); (case h => assumption))
  | ((with_reducible refine' w_rd2 ?h ?_); (case h => assumption))
  | ((with_reducible refine' w_rd3 ?h ?_); (case h => assumption)))
local macro_rules | `(tactic| walk_at "Zix") => `(tactic| first
  | ((with_reducible refine' w_ixl ?h ?e ?_); (case h => first | assumption | exact SqL.of (by assumption)); (case e => exact rfl))
  | ((with_reducible refine' w_ixt ?h ?e ?_); (case h => first | assumption | exact SqT.of (by assumption) | exact SqN.t (SqN.of (by assumption)) | exact SqN.t (by assumption)); (case e => exact rfl)))
local macro_rules | `(tactic| walk_at "Zite") => `(tactic| first
  | ((with_reducible refine' w_itet ?h ?_); (case h => first | exact rfl | exact decide_eq_true (by omega)))
  | ((with_reducible refine' w_itef ?h ?_); (case h => first | exact rfl | exact decide_eq_false (by omega))))
local macro_rules | `(tactic| walk_at "Zpot") => `(tactic| first | assumption | ((refine' pot_mono ?e ?h); (case h => assumption); (case e => walk_at "Zkt")))
local macro_rules | `(tactic| walk_at "Zdp") => `(tactic| first | assumption | exact Dp.int _ | exact Dp.str _ | exact Dp.bl _ | exact Dp.non | ((refine' dp_mono ?e ?h); (case h => assumption); (case e => walk_at "Zkt")) | ((refine' dq_dp ?q); (case q => walk_at "Zdq")))
local macro_rules | `(tactic| walk_at "Zdq") => `(tactic| first | assumption | exact Dq.int _ | exact Dq.str _ | exact Dq.bl _ | exact Dq.non | ((refine' dq_mono ?e ?h); (case h => assumption); (case e => walk_at "Zkt")) | ((refine' dq_mono ?e (dq_ofN ?h)); (case h => assumption); (case e => walk_at "Zkt")))
local macro_rules | `(tactic| walk_at "Zsql") => `(tactic| first | assumption | exact SqL.of (by assumption) | ((refine' Same.seq ?e (SqL.of ?h)); (case h => assumption); (case e => walk_at "Zkt")) | ((refine' Same.seq ?e ?h); (case h => assumption); (case e => walk_at "Zkt")) | ((refine' sx_l ?e (SqL.of ?h)); (case h => assumption); (case e => walk_at "Zkx")) | ((refine' sx_l ?e ?h); (case h => assumption); (case e => walk_at "Zkx")))
local macro_rules | `(tactic| walk_at "Zisi") => `(tactic| first | exact isI_nil | ((refine' isI_cons ?a ?b); (case a => first | exact trivial | omega | (dsimp only; omega)); (case b => walk_at "Zisi")))
local macro_rules | `(tactic| walk_at "Zlen") => `(tactic| (simp only [List.length_cons, List.length_nil]; omega))
local macro_rules | `(tactic| tbr_iter $P) => `(tactic| ((refine' w_ixI $P ?h ?h0 ?h1 ?hx ?_); (case h => walk_at "Zsql"); (case h0 => omega); (case h1 => walk_at "Zlen"); (case hx => walk_at "Zisi")))
local macro_rules | `(tactic| walk_at "Zc") => `(tactic| fail "no call")
local macro_rules | `(tactic| walk_at "Zs") => `(tactic| repeat (first | walk_at "Zs1" | walk_at "Zs2" | walk_at "Zs3" | walk_at "Zix" | walk_at "Zite" | walk_at "Zc"))
local macro_rules | `(tactic| walk_at "Zp") => `(tactic| repeat (first | walk_at "Zs0" | with_reducible refine' w_ife ?_ | walk_at "Zs2" | walk_at "Zs3" | walk_at "Zix" | walk_at "Zite" | walk_at "Zc"))
local macro_rules | `(tactic| walk_at "Zn") => `(tactic| repeat (first | walk_at "Zs1" | walk_at "Zs2" | walk_at "Zs3" | walk_at "Zite" | walk_at "Zc"))
local macro_rules | `(tactic| walk_at "Zkx") => `(tactic| first | assumption | exact Sx.refl _ | exact Same.sx (by assumption) | ((refine' Sx.trans ?a ?b); (case b => first | assumption | exact Same.sx (by assumption)); walk_at "Zkx"))
local macro_rules | `(tactic| walk_at "Zbox") => `(tactic| first | assumption | ((refine' box_mono ?e ?h); (case h => assumption); (case e => walk_at "Zkt")))
local macro_rules | `(tactic| walk_at "Zdx") => `(tactic| first | assumption | exact Dq.int _ | exact Dq.str _ | exact Dq.bl _ | exact Dq.non | ((refine' dqx ?e ?h); (case h => assumption); (case e => walk_at "Zkx")))
local macro_rules | `(tactic| walk_at "Zdz") => `(tactic| first | assumption | exact Dz.int _ | exact Dz.str _ | exact Dz.bl _ | exact Dz.non | ((refine' dz_mono ?e ?h); (case h => assumption); (case e => walk_at "Zkt")) | ((refine' dz_dq ?q); (case q => walk_at "Zdq")) | ((refine' dz_dp ?q); (case q => walk_at "Zdp")))
local macro_rules | `(tactic| walk_at "Zfr") => `(tactic| first | assumption | exact trivial | ((refine' none_sx ?e ?h); (case h => assumption); (case e => walk_at "Zkx")) | ((refine' pres_of ?e ?h); (case h => assumption); (case e => walk_at "Zkx")) | ((refine' And.intro ?l ?r); (case l => walk_at "Zfr"); (case r => walk_at "Zfr")))
local macro_rules | `(tactic| walk_at "Zdt") => `(tactic| first | exact Dz.int _ | exact Dz.str _ | exact Dz.bl _ | exact Dz.non | assumption | ((refine' dzx ?e ?h); (case h => assumption); (case e => walk_at "Zkx")) | ((refine' dzx ?e (dz_to ?h ?t)); (case h => assumption); (case t => first | assumption | exact trivial); (case e => walk_at "Zkx")) | ((refine' dz_tupx ?e ?h ?r); (case h => assumption); (case e => walk_at "Zkx"); (case r => walk_at "Zda")) | ((refine' dz_lstx ?p ?e ?h ?r); (case h => assumption); (case p => walk_at "Zfr"); (case e => walk_at "Zkx"); (case r => walk_at "Zda")) | ((refine' dz_dicx ?p ?e ?h); (case h => assumption); (case p => walk_at "Zfr"); (case e => walk_at "Zkx")))
local macro_rules | `(tactic| walk_at "Zda") => `(tactic| first | exact DzAll.nil | ((refine' DzAll.cons ?a ?b); (case a => walk_at "Zdt"); (case b => walk_at "Zda")) | ((refine' dzsx ?e ?h); (case h => assumption); (case e => walk_at "Zkx")) | ((refine' dzsx ?e (dzs_to ?h ?t)); (case h => assumption); (case t => assumption); (case e => walk_at "Zkx")))
local macro_rules | `(tactic| walk_at "Zq") => `(tactic| repeat (first | walk_at "Zs1" | walk_at "Zs2" | walk_at "Zs3" | walk_at "Zix" | walk_at "Zite"))
local macro_rules | `(tactic| walk_at "Zlen2") => `(tactic| exact Nat.le_of_ble_eq_true rfl)
local macro_rules | `(tactic| tbr_iter ($m, $hB)) => `(tactic| ((refine' bag_cat (m := $m) ?e $hB ?h ?r ?b ?l ?m ?q); (case e => walk_at "Zkx"); (case h => assumption); (case r => walk_at "Zda"); (case b => walk_at "Zbw"); (case l => first | walk_at "Zlen2" | (simp only [List.length_cons, List.length_nil]; omega)); (case m => first | walk_at "Zlen2" | omega)))
local macro_rules | `(tactic| tbr_iter ($m, $hB, $z)) => `(tactic| ((refine' bag_catF (m := $m) ?e $hB ?h ?r ?b ?l ?m ?q); (case e => walk_at "Zkx"); (case h => assumption); (case r => walk_at "Zda"); (case b => walk_at "Zbw"); (case l => first | walk_at "Zlen2" | (simp only [List.length_cons, List.length_nil]; omega)); (case m => first | walk_at "Zlen2" | omega)))
local macro_rules | `(tactic| walk_at "Zpr") => `(tactic| first | assumption | ((refine' pr_same ?e ?h); (case h => assumption); (case e => walk_at "Zkt")) | ((refine' pr_sx ?e ?h); (case h => assumption); (case e => walk_at "Zkx")))
local macro_rules | `(tactic| walk_at "Zv") => `(tactic| repeat (first | walk_at "Zs0" | with_reducible refine' w_ifs ?_ | walk_at "Zs2" | walk_at "Zs3" | walk_at "Zix" | walk_at "Zite" | walk_at "Zc"))
local macro_rules | `(tactic| walk_at "Zrd") => `(tactic| first | assumption | ((refine' rd_same ?e ?h); (case h => assumption); (case e => walk_at "Zkt")) | ((refine' rd_sx ?e ?h); (case h => assumption); (case e => walk_at "Zkx")))
local macro_rules | `(tactic| walk_at "Zro") => `(tactic| first | assumption | ((refine' ro_same ?e ?h); (case h => assumption); (case e => walk_at "Zkt")) | ((refine' ro_sx ?e ?h); (case h => assumption); (case e => walk_at "Zkx")))
def topS (i : Nat) : Stmt := PySem.Challenge.pw_shorthead_k09_shapes_spoilt.main.body.getD i (.Pass ⟨0, 0, 0, 0⟩)
abbrev s_is_whole : Stmt := topS 8
abbrev s_is_between : Stmt := topS 9
abbrev s_is_name : Stmt := topS 10
abbrev s_is_value : Stmt := topS 11
abbrev s_is_turn : Stmt := topS 12
abbrev s_is_kind : Stmt := topS 13
abbrev s_is_field : Stmt := topS 14
abbrev s_is_shape : Stmt := topS 15
abbrev s__law_pot : Stmt := topS 17
abbrev s__law_draw : Stmt := topS 18
abbrev s__law_value : Stmt := topS 19
abbrev s__law_names : Stmt := topS 20
abbrev s__law_turn : Stmt := topS 21
abbrev s__law_kind : Stmt := topS 22
abbrev s__law_shape : Stmt := topS 23
abbrev s__law_whole : Stmt := topS 24
abbrev s__law_between : Stmt := topS 25
abbrev s__law_is_turn : Stmt := topS 26
abbrev s__law_is_kind : Stmt := topS 27
abbrev s__law_is_name : Stmt := topS 28
abbrev s__law_is_field : Stmt := topS 29
abbrev s__law_is_shape : Stmt := topS 30
abbrev s__law_odd_kind : Stmt := topS 31
abbrev s__law_odd_field : Stmt := topS 32
abbrev s__law_odd : Stmt := topS 33
abbrev s_law : Stmt := topS 34
structure Bi (mg : Str → Option Value) : Prop where
  b_abs : mg "abs" = none
  b_all : mg "all" = none
  b_any : mg "any" = none
  b_bool : mg "bool" = none
  b_enumerate : mg "enumerate" = none
  b_int : mg "int" = none
  b_isinstance : mg "isinstance" = none
  b_len : mg "len" = none
  b_list : mg "list" = none
  b_min : mg "min" = none
  b_range : mg "range" = none
  b_set : mg "set" = none
  b_str : mg "str" = none
  b_tuple : mg "tuple" = none
  c_LETTERS : ∃ u, mg "LETTERS" = some u ∧ RelV (.str "abcdefghijklmnopqrstuvwxyz") u
  c_MOST_BREADTH : ∃ u, mg "MOST_BREADTH" = some u ∧ RelV (.int 40) u
  c_MOST_CHECK : ∃ u, mg "MOST_CHECK" = some u ∧ RelV (.int 1000000) u
  c_MOST_FIELDS : ∃ u, mg "MOST_FIELDS" = some u ∧ RelV (.int 12) u
  c_MOST_LETTERS : ∃ u, mg "MOST_LETTERS" = some u ∧ RelV (.int 8) u
  c_MOST_TIMES : ∃ u, mg "MOST_TIMES" = some u ∧ RelV (.int 99) u
  c_MOST_TURN : ∃ u, mg "MOST_TURN" = some u ∧ RelV (.int 12) u
def sp_is_whole (W : Wd) : Sp := fun vs H Q _ => match vs with
  | [v_thing] =>
  ∃ d, Dz W.K Ever H v_thing d ∧ Q (.bl (isIntD d)) H
  | _ => False
abbrev N_is_whole : List Str := ["thing"]
theorem sc_is_whole : FnScope N_is_whole ["thing"] (defScope s_is_whole) := ⟨rfl, rfl, rfl, by decide +kernel, rfl, by decide +kernel, by decide +kernel⟩
theorem f_is_whole {W : Wd} {mg : Str → Option Value} {base : Heap} (B : Bi mg) {f : Addr} {fd : FuncData} (F : Fun W.K "is_whole" "is_whole" s_is_whole f fd)  : FnOk W.P W.w W.K mg base CX0 1 f fd ["thing"] (sp_is_whole W) := by
  have nd := sc_is_whole.nd
  have F0 : FnOk W.P W.w W.K mg base CX0 1 f fd ["thing"] (sp_is_whole W) := by
    refine F.ok sc_is_whole (fun vs H Q E h => ?_) (fun cdv A outer s H vs Q E hr h => ?_)
    · match vs, h with | [_], _ => rfl
    · match vs, h with
      | [v_thing], h =>
        change sp_is_whole W [v_thing] H Q E at h
        refine ⟨tRet (tAndV (tCB (rIsi W.K) (tCons (tVar 0) (tCons (tC (.ty "int")) tNil))) (tNotV (tCB (rIsi W.K) (tCons (tVar 0) (tCons (tC (.ty "bool")) tNil))))), pss_one (ps_ret (pe_and (pe_callB call_isi (by rfl) B.b_isinstance (by decide +kernel) (pa_cons (pv 0) (pa_cons (pe_bltn (v := .ty "int") (u := .type "int") (by rfl) B.b_int (by decide +kernel) rfl) pa_nil))) (pe_one (pe_not (pe_callB call_isi (by rfl) B.b_isinstance (by decide +kernel) (pa_cons (pv 0) (pa_cons (pe_bltn (v := .ty "bool") (u := .type "bool") (by rfl) B.b_bool (by decide +kernel) rfl) pa_nil))))))), ?_⟩
        clear hr
        rw [show L2.start N_is_whole [v_thing] = [some v_thing] from rfl]
        obtain ⟨d, hd, q⟩ := h
        walk_at "Zs"
        refine w_isintz hd ?_
        cases d with
        | int i =>
          walk_at "Zs"
          refine w_isboolz hd ?_
          walk_at "Zs"
          exact q
        | bool b =>
          walk_at "Zs"
          refine w_isboolz hd ?_
          walk_at "Zs"
          exact q
        | _ =>
          walk_at "Zs"
          exact q
  exact F0
theorem c_is_whole {W : Wd} {mg : Str → Option Value} {base : Heap} (B : Bi mg) (S : Src W.K mg "is_whole" s_is_whole)  : Cal W mg base "is_whole" 1 ["thing"] (sp_is_whole W) := by
  obtain ⟨f, fd, g, F⟩ := S
  exact ⟨f, fd, g, f_is_whole B F , F.kp, (F.binds (ps := ["thing"]) fun _ _ _ _ _ _ us hl => match us, hl with | [_], _ => rfl)⟩
theorem go_is_whole {W : Wd} {H : Hp} {Q : VK} {E : XK} {v : V} {d : PyData} (hd : Dz W.K Ever H v d) (k : Q (.bl (isIntD d)) H) : sp_is_whole W [v] H Q E := ⟨d, hd, k⟩
local macro_rules | `(tactic| walk_at "Zc") => `(tactic| ((with_reducible refine' go_is_whole ?hd ?_); (case hd => walk_at "Zdz")))
def sp_is_between (W : Wd) : Sp := fun vs H Q _ => match vs with
  | [v_thing, v_least, v_most] =>
  ∃ (d : PyData) (lo hi : Int), Dz W.K Ever H v_thing d ∧ v_least = .int lo ∧ v_most = .int hi ∧ Q (.bl (betwD lo hi d)) H
  | _ => False
abbrev N_is_between : List Str := ["thing", "least", "most"]
theorem sc_is_between : FnScope N_is_between ["thing", "least", "most"] (defScope s_is_between) := ⟨rfl, rfl, rfl, by decide +kernel, rfl, by decide +kernel, by decide +kernel⟩
theorem f_is_between {W : Wd} {mg : Str → Option Value} {base : Heap} (B : Bi mg) {f : Addr} {fd : FuncData} (F : Fun W.K "is_between" "is_between" s_is_between f fd) (C_is_whole : Cal W mg base "is_whole" 1 ["thing"] (sp_is_whole W)) : FnOk W.P W.w W.K mg base CX0 2 f fd ["thing", "least", "most"] (sp_is_between W) := by
  obtain ⟨a_is_whole, d_is_whole, g_is_whole, F_is_whole, k_is_whole, b_is_whole⟩ := C_is_whole
  have nd := sc_is_between.nd
  have F0 : FnOk W.P W.w W.K mg base CX0 2 f fd ["thing", "least", "most"] (sp_is_between W) := by
    refine F.ok sc_is_between (fun vs H Q E h => ?_) (fun cdv A outer s H vs Q E hr h => ?_)
    · match vs, h with | [_, _, _], _ => rfl
    · match vs, h with
      | [v_thing, v_least, v_most], h =>
        change sp_is_between W [v_thing, v_least, v_most] H Q E at h
        refine ⟨tRet (tAndV (tCall (sp_is_whole W) [] E0 (tCons (tVar 0) (tNil))) (tChain (rLeU) (rLeU) (tVar 1) (tVar 0) (tVar 2))), pss_one (ps_ret (pe_and (pe_call F_is_whole (hr.mono (by decide)) (by rfl) g_is_whole k_is_whole b_is_whole .nil pass0 (pa_cons (pv 0) (pa_nil))) (pe_one (pe_chain u_le u_le (pv 1) (pv 0) (pv 2))))), ?_⟩
        clear hr
        clear F_is_whole g_is_whole k_is_whole b_is_whole d_is_whole a_is_whole
        rw [show L2.start N_is_between [v_thing, v_least, v_most] = [some v_thing, some v_least, some v_most] from rfl]
        obtain ⟨d, lo, hi, hd, rfl, rfl, q⟩ := h
        walk_at "Zs"
        cases d with
        | int i =>
          obtain rfl := dz_int hd
          walk_at "Zs"
          have e : betwD lo hi (.int i) = (decide (lo ≤ i) && decide (i ≤ hi)) := rfl
          rw [e] at q
          cases c : decide (lo ≤ i) with
          | true =>
            rw [c, Bool.true_and] at q
            walk_at "Zs"
            exact q
          | false =>
            rw [c, Bool.false_and] at q
            walk_at "Zs"
            exact q
        | _ =>
          walk_at "Zs"
          exact q
  exact F0
theorem c_is_between {W : Wd} {mg : Str → Option Value} {base : Heap} (B : Bi mg) (S : Src W.K mg "is_between" s_is_between) (C_is_whole : Cal W mg base "is_whole" 1 ["thing"] (sp_is_whole W)) : Cal W mg base "is_between" 2 ["thing", "least", "most"] (sp_is_between W) := by
  obtain ⟨f, fd, g, F⟩ := S
  exact ⟨f, fd, g, f_is_between B F C_is_whole, F.kp, (F.binds (ps := ["thing", "least", "most"]) fun _ _ _ _ _ _ us hl => match us, hl with | [_, _, _], _ => rfl)⟩
theorem go_is_between {W : Wd} {H : Hp} {Q : VK} {E : XK} {v : V} {d : PyData} {lo hi : Int} (hd : Dz W.K Ever H v d) (q : Q (.bl (betwD lo hi d)) H) : sp_is_between W [v, .int lo, .int hi] H Q E := ⟨d, lo, hi, hd, rfl, rfl, q⟩
local macro_rules | `(tactic| walk_at "Zc") => `(tactic| ((with_reducible refine' go_is_between ?hd ?_); (case hd => walk_at "Zdz")))
def sp_is_name (W : Wd) : Sp := fun vs H Q _ => match vs with
  | [v_thing] =>
  ∃ d : PyData, Dz W.K Ever H v_thing d ∧ (∀ z, d = .str z → z.length ≤ 1000000) ∧ ∀ H', Same H H' → Q (.bl (nameD d)) H'
  | _ => False
abbrev N_is_name : List Str := ["thing", "letter"]
theorem sc_is_name : FnScope N_is_name ["thing"] (defScope s_is_name) := ⟨rfl, rfl, rfl, by decide +kernel, rfl, by decide +kernel, by decide +kernel⟩
theorem f_is_name {W : Wd} {mg : Str → Option Value} {base : Heap} (B : Bi mg) {f : Addr} {fd : FuncData} (F : Fun W.K "is_name" "is_name" s_is_name f fd)  : FnOk W.P W.w W.K mg base CX0 1 f fd ["thing"] (sp_is_name W) := by
  obtain ⟨t_LETTERS, hc_LETTERS, rc_LETTERS⟩ := B.c_LETTERS
  obtain ⟨t_MOST_LETTERS, hc_MOST_LETTERS, rc_MOST_LETTERS⟩ := B.c_MOST_LETTERS
  have nd := sc_is_name.nd
  have F0 : FnOk W.P W.w W.K mg base CX0 1 f fd ["thing"] (sp_is_name W) := by
    refine F.ok sc_is_name (fun vs H Q E h => ?_) (fun cdv A outer s H vs Q E hr h => ?_)
    · match vs, h with | [_], _ => rfl
    · match vs, h with
      | [v_thing], h =>
        change sp_is_name W [v_thing] H Q E at h
        refine ⟨tSeq (tIfS (tOr (tNot (tB (tCB (rIsi W.K) (tCons (tVar 0) (tCons (tC (.ty "str")) tNil))))) (tNot (tTest (tChain (rLeU) (rLeU) (tC (.int 1)) (tCB (rLenU W.K) (tCons (tVar 0) (tNil))) (tC (.int 8)))))) (tRet (tC (.bl false))) (tNext)) (tRet (tCB (rAll W.K) (tCons (tLc (iAny W.K (tVar 0)) (gName 1) (tYes) (tOp (rInU W.K) (tVar 1) (tC (.str "abcdefghijklmnopqrstuvwxyz"))) [1]) (tNil)))), pss_cons (ps_if (PW.pt (pw_or (pt_not (pt_val (pe_callB call_isi (by rfl) B.b_isinstance (by decide +kernel) (pa_cons (pv 0) (pa_cons (pe_bltn (v := .ty "str") (u := .type "str") (by rfl) B.b_str (by decide +kernel) rfl) pa_nil))))) (pw_or1 (pt_not (pt_chain u_le u_le (pe_int) (pe_callB u_len (by rfl) B.b_len (by decide +kernel) (pa_cons (pv 0) (pa_nil))) (pe_glob (by rfl) hc_MOST_LETTERS rc_MOST_LETTERS)))))) (pss_one (ps_ret (pe_bl))) (pss_nil)) (pss_one (ps_ret (pe_callB (cr_all rfl) (by rfl) B.b_all (by decide +kernel) (pa_cons (pe_lc (own := [("letter", 1)]) rfl nd (pi_any (pv 0)) (blkOk_by (own := [("letter", 1)]) (N := N_is_name) (sc := defScope s_is_name) (by decide +kernel)) (fun _ _ _ _ _ => pg_name (i := 1) nd rfl (by first | exact Or.inl rfl | exact Or.inr rfl)) (fun _ _ _ _ _ => pts_nil) (fun _ _ _ _ _ => pe_cmpR (u_in hr.units) (pv 1) (pe_glob (by rfl) hc_LETTERS rc_LETTERS) (by rfl))) (pa_nil))))), ?_⟩
        clear hr
        rw [show L2.start N_is_name [v_thing] = [some v_thing, none] from rfl]
        obtain ⟨d, hd, hl, q⟩ := h
        have line : (1000000 : Nat) ≤ sizeLine := by decide
        walk_at "Zs"
        refine w_isstrz hd ?_
        cases d with
        | str z =>
          obtain rfl := dz_str hd
          have hz := hl z rfl
          have e : nameD (.str z) = (decide (1 ≤ z.length) && (decide (z.length ≤ 8) && (cz z).all fun c => decide (c ∈ ("abcdefghijklmnopqrstuvwxyz" : Str).cps.toList))) := rfl
          rw [e] at q
          walk_at "Zs"
          refine w_lenS (Nat.le_trans hz line) ?_
          walk_at "Zs"
          refine w_dec (fun c1 => ?_) (fun c1 => ?_)
          · rw [decide_eq_true (by omega), Bool.true_and] at q
            walk_at "Zs"
            refine w_dec (fun c2 => ?_) (fun c2 => ?_)
            · rw [decide_eq_true (by omega), Bool.true_and] at q
              walk_at "Zs"
              refine w_goS ?_
              refine lcS (fun i acc _ => acc = ((cz z).take i).map fun c => V.bl (decide (c ∈ ("abcdefghijklmnopqrstuvwxyz" : Str).cps.toList))) stb_pure hz (fun i acc H' e => by rw [e, List.length_map, List.length_take]; omega) (fun H' _ => rfl) (fun i c acc H' hc e1 ea k k' hk hk' => ?_) fun D acc H' hD e1 hD' ea => ?_
              · walk_at "Zs"
                refine w_inS ?_
                refine hk _ _ (Same.refl _) ?_
                rw [List.take_add_one, hc, List.map_append, ea]
                rfl
              · rw [List.take_of_length_le (by rw [cz_len]; exact Nat.le_refl _)] at ea
                walk_at "Zs"
                refine w_all (bs := (cz z).map fun c => decide (c ∈ ("abcdefghijklmnopqrstuvwxyz" : Str).cps.toList)) (SqL.of (by rw [hD', ea, List.map_map]; rfl)) ?_
                rw [List.all_map]
                exact q _ e1
            · rw [decide_eq_false (by omega), Bool.false_and] at q
              walk_at "Zs"
              exact q _ (Same.refl _)
          · rw [decide_eq_false (by omega), Bool.false_and] at q
            walk_at "Zs"
            exact q _ (Same.refl _)
        | _ =>
          walk_at "Zs"
          exact q _ (Same.refl _)
  exact F0
theorem c_is_name {W : Wd} {mg : Str → Option Value} {base : Heap} (B : Bi mg) (S : Src W.K mg "is_name" s_is_name)  : Cal W mg base "is_name" 1 ["thing"] (sp_is_name W) := by
  obtain ⟨f, fd, g, F⟩ := S
  exact ⟨f, fd, g, f_is_name B F , F.kp, (F.binds (ps := ["thing"]) fun _ _ _ _ _ _ us hl => match us, hl with | [_], _ => rfl)⟩
theorem go_is_name {W : Wd} {H : Hp} {Q : VK} {E : XK} {v : V} {d : PyData} (hd : Dz W.K Ever H v d) (hl : ∀ z, d = .str z → z.length ≤ 1000000) (q : ∀ H', Same H H' → Q (.bl (nameD d)) H') : sp_is_name W [v] H Q E := ⟨d, hd, hl, q⟩
def sp_is_value (W : Wd) : Sp := fun vs H Q _ => match vs with
  | [v_thing, v_breadth] =>
  ∃ (d : PyData) (b : Int), Dz W.K Ever H v_thing d ∧ v_breadth = .int b ∧ 0 ≤ b ∧ b ≤ 60 ∧ Q (.bl (betwD 0 (p2 b - 1) d)) H
  | _ => False
abbrev N_is_value : List Str := ["thing", "breadth"]
theorem sc_is_value : FnScope N_is_value ["thing", "breadth"] (defScope s_is_value) := ⟨rfl, rfl, rfl, by decide +kernel, rfl, by decide +kernel, by decide +kernel⟩
theorem f_is_value {W : Wd} {mg : Str → Option Value} {base : Heap} (B : Bi mg) {f : Addr} {fd : FuncData} (F : Fun W.K "is_value" "is_value" s_is_value f fd) (C_is_between : Cal W mg base "is_between" 2 ["thing", "least", "most"] (sp_is_between W)) : FnOk W.P W.w W.K mg base CX0 3 f fd ["thing", "breadth"] (sp_is_value W) := by
  obtain ⟨a_is_between, d_is_between, g_is_between, F_is_between, k_is_between, b_is_between⟩ := C_is_between
  have nd := sc_is_value.nd
  have F0 : FnOk W.P W.w W.K mg base CX0 3 f fd ["thing", "breadth"] (sp_is_value W) := by
    refine F.ok sc_is_value (fun vs H Q E h => ?_) (fun cdv A outer s H vs Q E hr h => ?_)
    · match vs, h with | [_, _], _ => rfl
    · match vs, h with
      | [v_thing, v_breadth], h =>
        change sp_is_value W [v_thing, v_breadth] H Q E at h
        refine ⟨tRet (tCall (sp_is_between W) [] E0 (tCons (tVar 0) (tCons (tC (.int 0)) (tCons (tOp (rSubU) (tOp (rShlU) (tC (.int 1)) (tVar 1)) (tC (.int 1))) (tNil))))), pss_one (ps_ret (pe_call F_is_between (hr.mono (by decide)) (by rfl) g_is_between k_is_between b_is_between .nil pass0 (pa_cons (pv 0) (pa_cons (pe_int) (pa_cons (pe_op u_sub (pe_op u_shl (pe_int) (pv 1)) (pe_int)) (pa_nil)))))), ?_⟩
        clear hr
        clear F_is_between g_is_between k_is_between b_is_between d_is_between a_is_between
        rw [show L2.start N_is_value [v_thing, v_breadth] = [some v_thing, some v_breadth] from rfl]
        obtain ⟨d, b, hd, rfl, b0, b1, q⟩ := h
        walk_at "Zs"
        exact q
  exact F0
theorem c_is_value {W : Wd} {mg : Str → Option Value} {base : Heap} (B : Bi mg) (S : Src W.K mg "is_value" s_is_value) (C_is_between : Cal W mg base "is_between" 2 ["thing", "least", "most"] (sp_is_between W)) : Cal W mg base "is_value" 3 ["thing", "breadth"] (sp_is_value W) := by
  obtain ⟨f, fd, g, F⟩ := S
  exact ⟨f, fd, g, f_is_value B F C_is_between, F.kp, (F.binds (ps := ["thing", "breadth"]) fun _ _ _ _ _ _ us hl => match us, hl with | [_, _], _ => rfl)⟩
theorem go_is_value {W : Wd} {H : Hp} {Q : VK} {E : XK} {v : V} {d : PyData} {b : Int} (hd : Dz W.K Ever H v d) (b0 : 0 ≤ b) (b1 : b ≤ 60) (q : Q (.bl (betwD 0 (p2 b - 1) d)) H) : sp_is_value W [v, .int b] H Q E := ⟨d, b, hd, rfl, b0, b1, q⟩
def sp_is_turn (W : Wd) : Sp := fun vs H Q _ => match vs with
  | [v_thing, v_breadth] =>
  ∃ (d : PyData) (b : Int), Dz W.K Ever H v_thing d ∧ v_breadth = .int b ∧ 0 ≤ b ∧ b ≤ 60 ∧ ∀ H', Same H H' → Q (.bl (turnD b d)) H'
  | _ => False
abbrev N_is_turn : List Str := ["thing", "breadth", "value"]
theorem sc_is_turn : FnScope N_is_turn ["thing", "breadth"] (defScope s_is_turn) := ⟨rfl, rfl, rfl, by decide +kernel, rfl, by decide +kernel, by decide +kernel⟩
theorem f_is_turn {W : Wd} {mg : Str → Option Value} {base : Heap} (B : Bi mg) {f : Addr} {fd : FuncData} (F : Fun W.K "is_turn" "is_turn" s_is_turn f fd) (C_is_value : Cal W mg base "is_value" 3 ["thing", "breadth"] (sp_is_value W)) : FnOk W.P W.w W.K mg base CX0 4 f fd ["thing", "breadth"] (sp_is_turn W) := by
  obtain ⟨a_is_value, d_is_value, g_is_value, F_is_value, k_is_value, b_is_value⟩ := C_is_value
  obtain ⟨t_MOST_TURN, hc_MOST_TURN, rc_MOST_TURN⟩ := B.c_MOST_TURN
  have nd := sc_is_turn.nd
  have F0 : FnOk W.P W.w W.K mg base CX0 4 f fd ["thing", "breadth"] (sp_is_turn W) := by
    refine F.ok sc_is_turn (fun vs H Q E h => ?_) (fun cdv A outer s H vs Q E hr h => ?_)
    · match vs, h with | [_, _], _ => rfl
    · match vs, h with
      | [v_thing, v_breadth], h =>
        change sp_is_turn W [v_thing, v_breadth] H Q E at h
        refine ⟨tSeq (tIfS (tOr (tNot (tB (tCB (rIsi W.K) (tCons (tVar 0) (tCons (tC (.ty "tuple")) tNil))))) (tNot (tTest (tChain (rLeU) (rLeU) (tC (.int 2)) (tCB (rLenU W.K) (tCons (tVar 0) (tNil))) (tC (.int 12)))))) (tRet (tC (.bl false))) (tNext)) (tRet (tAndV (tCB (rAll W.K) (tCons (tLc (iAny W.K (tVar 0)) (gName 2) (tYes) (tCall (sp_is_value W) [] E0 (tCons (tVar 2) (tCons (tVar 1) (tNil)))) [2]) (tNil))) (tOp (rEqU W.K) (tLenSetU W.K (tVar 0)) (tCB (rLenU W.K) (tCons (tVar 0) (tNil)))))), pss_cons (ps_if (PW.pt (pw_or (pt_not (pt_val (pe_callB call_isi (by rfl) B.b_isinstance (by decide +kernel) (pa_cons (pv 0) (pa_cons (pe_bltn (v := .ty "tuple") (u := .type "tuple") (by rfl) B.b_tuple (by decide +kernel) rfl) pa_nil))))) (pw_or1 (pt_not (pt_chain u_le u_le (pe_int) (pe_callB u_len (by rfl) B.b_len (by decide +kernel) (pa_cons (pv 0) (pa_nil))) (pe_glob (by rfl) hc_MOST_TURN rc_MOST_TURN)))))) (pss_one (ps_ret (pe_bl))) (pss_nil)) (pss_one (ps_ret (pe_and (pe_callB (cr_all rfl) (by rfl) B.b_all (by decide +kernel) (pa_cons (pe_lc (own := [("value", 2)]) rfl nd (pi_any (pv 0)) (blkOk_by (own := [("value", 2)]) (N := N_is_turn) (sc := defScope s_is_turn) (by decide +kernel)) (fun _ _ _ _ _ => pg_name (i := 2) nd rfl (by first | exact Or.inl rfl | exact Or.inr rfl)) (fun _ _ _ _ _ => pts_nil) (fun _ _ _ _ _ => pe_call F_is_value (hr.mono (by decide)) (by rfl) g_is_value k_is_value b_is_value .nil pass0 (pa_cons (pv 2) (pa_cons (pv 1) (pa_nil))))) (pa_nil))) (pe_one (pe_cmpR (u_eq hr.units) (pe_lenSetU (by rfl) (by rfl) B.b_len (by rfl) B.b_set (pv 0)) (pe_callB u_len (by rfl) B.b_len (by decide +kernel) (pa_cons (pv 0) (pa_nil))) (nomark _)))))), ?_⟩
        clear hr
        clear F_is_value g_is_value k_is_value b_is_value d_is_value a_is_value
        rw [show L2.start N_is_turn [v_thing, v_breadth] = [some v_thing, some v_breadth, none] from rfl]
        obtain ⟨d, b, hd, rfl, b0, b1, q⟩ := h
        walk_at "Zs"
        refine w_istupz hd ?_
        cases d with
        | tuple ds =>
          have e : turnD b (.tuple ds) = (decide (2 ≤ ds.length) && (decide (ds.length ≤ 12) && (ds.all (betwD 0 (p2 b - 1)) && decide ((intsD ds).Nodup)))) := rfl
          rw [e] at q
          walk_at "Zs"
          refine w_dec (fun c1 => ?_) (fun c1 => ?_)
          · rw [decide_eq_true (by omega), Bool.true_and] at q
            walk_at "Zs"
            refine w_dec (fun c2 => ?_) (fun c2 => ?_)
            · rw [decide_eq_true (by omega), Bool.true_and] at q
              obtain ⟨a, xs, rfl, hxs, hds⟩ := dz_tt hd
              have lx := dzs_len hds
              walk_at "Zs"
              refine w_goT hxs ?_
              refine lcT hxs (fun i acc _ => acc = (ds.take i).map fun d => V.bl (betwD 0 (p2 b - 1) d)) stb_pure (by omega) (fun i acc H' e => by rw [e, List.length_map, List.length_take]; omega) (fun H' _ => rfl) (fun i x acc H' hx e1 ea k k' hk hk' => ?_) fun D acc H1 hD e1 hD' ea => ?_
              · obtain ⟨d, hd1, hxd⟩ := dzs_get2 hds hx
                walk_at "Zs"
                refine go_is_value (dz_mono e1 hxd) b0 b1 ?_
                refine hk _ _ (Same.refl _) ?_
                rw [List.take_add_one, hd1, List.map_append, ea]
                rfl
              · rw [List.take_of_length_le (by omega)] at ea
                walk_at "Zs"
                refine w_all (bs := ds.map (betwD 0 (p2 b - 1))) (SqL.of (by rw [hD', ea, List.map_map]; rfl)) ?_
                rw [show (ds.map (betwD 0 (p2 b - 1))).all id = ds.all (betwD 0 (p2 b - 1)) by rw [List.all_map]; rfl]
                cases c3 : ds.all (betwD 0 (p2 b - 1)) with
                | false =>
                  rw [c3, Bool.false_and] at q
                  walk_at "Zs"
                  exact q _ e1
                | true =>
                  rw [c3, Bool.true_and] at q
                  have ed := intsD_of c3
                  have ld : ds.length = (intsD ds).length := by
                    have z := congrArg List.length ed
                    rw [List.length_map] at z
                    exact z
                  rw [ed] at hds
                  have ex := dzs_intsD hds
                  walk_at "Zs"
                  refine .inr ⟨a, intsD ds, rfl, by rw [← ex]; exact same_t e1 hxs, by omega, fun c hc => ?_⟩
                  walk_at "Zs"
                  have z : decide ((c : Int) = (ds.length : Int)) = decide ((intsD ds).Nodup) := by
                    rw [decide_eq_decide, ← hc, ld]
                    omega
                  rw [z]
                  exact q _ e1
            · rw [decide_eq_false (by omega), Bool.false_and] at q
              walk_at "Zs"
              exact q _ (Same.refl _)
          · rw [decide_eq_false (by omega), Bool.false_and] at q
            walk_at "Zs"
            exact q _ (Same.refl _)
        | _ =>
          walk_at "Zs"
          exact q _ (Same.refl _)
  exact F0
theorem c_is_turn {W : Wd} {mg : Str → Option Value} {base : Heap} (B : Bi mg) (S : Src W.K mg "is_turn" s_is_turn) (C_is_value : Cal W mg base "is_value" 3 ["thing", "breadth"] (sp_is_value W)) : Cal W mg base "is_turn" 4 ["thing", "breadth"] (sp_is_turn W) := by
  obtain ⟨f, fd, g, F⟩ := S
  exact ⟨f, fd, g, f_is_turn B F C_is_value, F.kp, (F.binds (ps := ["thing", "breadth"]) fun _ _ _ _ _ _ us hl => match us, hl with | [_, _], _ => rfl)⟩
theorem go_is_turn {W : Wd} {H : Hp} {Q : VK} {E : XK} {v : V} {d : PyData} {b : Int} (hd : Dz W.K Ever H v d) (b0 : 0 ≤ b) (b1 : b ≤ 60) (q : ∀ H', Same H H' → Q (.bl (turnD b d)) H') : sp_is_turn W [v, .int b] H Q E := ⟨d, b, hd, rfl, b0, b1, q⟩
def sp_is_kind (W : Wd) : Sp := fun vs H Q _ => match vs with
  | [v_thing, v_place, v_breadth] =>
  ∃ (d : PyData) (pl b : Int), Dz W.K Ever H v_thing d ∧ v_place = .int pl ∧ v_breadth = .int b ∧ 0 ≤ b ∧ b ≤ 60 ∧ ∀ H', Same H H' → Q (.bl (kindD pl b d)) H'
  | _ => False
abbrev N_is_kind : List Str := ["thing", "place", "breadth"]
theorem sc_is_kind : FnScope N_is_kind ["thing", "place", "breadth"] (defScope s_is_kind) := ⟨rfl, rfl, rfl, by decide +kernel, rfl, by decide +kernel, by decide +kernel⟩
theorem f_is_kind {W : Wd} {mg : Str → Option Value} {base : Heap} (B : Bi mg) {f : Addr} {fd : FuncData} (F : Fun W.K "is_kind" "is_kind" s_is_kind f fd) (C_is_between : Cal W mg base "is_between" 2 ["thing", "least", "most"] (sp_is_between W)) (C_is_turn : Cal W mg base "is_turn" 4 ["thing", "breadth"] (sp_is_turn W)) (C_is_value : Cal W mg base "is_value" 3 ["thing", "breadth"] (sp_is_value W)) : FnOk W.P W.w W.K mg base CX0 5 f fd ["thing", "place", "breadth"] (sp_is_kind W) := by
  obtain ⟨a_is_between, d_is_between, g_is_between, F_is_between, k_is_between, b_is_between⟩ := C_is_between
  obtain ⟨a_is_turn, d_is_turn, g_is_turn, F_is_turn, k_is_turn, b_is_turn⟩ := C_is_turn
  obtain ⟨a_is_value, d_is_value, g_is_value, F_is_value, k_is_value, b_is_value⟩ := C_is_value
  obtain ⟨t_MOST_TIMES, hc_MOST_TIMES, rc_MOST_TIMES⟩ := B.c_MOST_TIMES
  have nd := sc_is_kind.nd
  have F0 : FnOk W.P W.w W.K mg base CX0 5 f fd ["thing", "place", "breadth"] (sp_is_kind W) := by
    refine F.ok sc_is_kind (fun vs H Q E h => ?_) (fun cdv A outer s H vs Q E hr h => ?_)
    · match vs, h with | [_, _, _], _ => rfl
    · match vs, h with
      | [v_thing, v_place, v_breadth], h =>
        change sp_is_kind W [v_thing, v_place, v_breadth] H Q E at h
        refine ⟨tSeq (tIfS (tOr (tNot (tB (tCB (rIsi W.K) (tCons (tVar 0) (tCons (tC (.ty "tuple")) tNil))))) (tOr (tTest (tOp (rEqU W.K) (tCB (rLenU W.K) (tCons (tVar 0) (tNil))) (tC (.int 0)))) (tNot (tB (tCB (rIsi W.K) (tCons (tOp (rIxU W.K) (tVar 0) (tC (.int 0))) (tCons (tC (.ty "str")) tNil))))))) (tRet (tC (.bl false))) (tNext)) (tSeq (tIfS (tTest (tOp (rInU W.K) (tOp (rIxU W.K) (tVar 0) (tC (.int 0))) (tTupN (tCons (tC (.str "still")) (tCons (tC (.str "drawn")) (tNil)))))) (tRet (tOp (rEqU W.K) (tCB (rLenU W.K) (tCons (tVar 0) (tNil))) (tC (.int 1)))) (tNext)) (tSeq (tIfS (tTest (tOp (rEqU W.K) (tOp (rIxU W.K) (tVar 0) (tC (.int 0))) (tC (.str "step")))) (tRet (tAndV (tOp (rEqU W.K) (tCB (rLenU W.K) (tCons (tVar 0) (tNil))) (tC (.int 2))) (tCall (sp_is_value W) [] E0 (tCons (tOp (rIxU W.K) (tVar 0) (tC (.int 1))) (tCons (tVar 2) (tNil)))))) (tNext)) (tSeq (tIfS (tTest (tOp (rEqU W.K) (tOp (rIxU W.K) (tVar 0) (tC (.int 0))) (tC (.str "turn")))) (tRet (tAndV (tOp (rEqU W.K) (tCB (rLenU W.K) (tCons (tVar 0) (tNil))) (tC (.int 2))) (tCall (sp_is_turn W) [] E0 (tCons (tOp (rIxU W.K) (tVar 0) (tC (.int 1))) (tCons (tVar 2) (tNil)))))) (tNext)) (tSeq (tIfS (tOr (tTest (tOp (rNeU W.K) (tOp (rIxU W.K) (tVar 0) (tC (.int 0))) (tC (.str "with")))) (tOr (tTest (tOp (rNeU W.K) (tCB (rLenU W.K) (tCons (tVar 0) (tNil))) (tC (.int 3)))) (tNot (tB (tCall (sp_is_between W) [] E0 (tCons (tOp (rIxU W.K) (tVar 0) (tC (.int 1))) (tCons (tC (.int 0)) (tCons (tOp (rSubU) (tVar 1) (tC (.int 1))) (tNil))))))))) (tRet (tC (.bl false))) (tNext)) (tRet (tCall (sp_is_between W) [] E0 (tCons (tOp (rIxU W.K) (tVar 0) (tC (.int 2))) (tCons (tOp (rSubU) (tC (.int 0)) (tC (.int 99))) (tCons (tC (.int 99)) (tNil)))))))))), pss_cons (ps_if (PW.pt (pw_or (pt_not (pt_val (pe_callB call_isi (by rfl) B.b_isinstance (by decide +kernel) (pa_cons (pv 0) (pa_cons (pe_bltn (v := .ty "tuple") (u := .type "tuple") (by rfl) B.b_tuple (by decide +kernel) rfl) pa_nil))))) (pw_or (pt_cmpR (u_eq hr.units) (pe_callB u_len (by rfl) B.b_len (by decide +kernel) (pa_cons (pv 0) (pa_nil))) (pe_int) (nomark _)) (pw_or1 (pt_not (pt_val (pe_callB call_isi (by rfl) B.b_isinstance (by decide +kernel) (pa_cons (pe_ix u_ix (pv 0) (pe_int) (fun _ _ => rfl)) (pa_cons (pe_bltn (v := .ty "str") (u := .type "str") (by rfl) B.b_str (by decide +kernel) rfl) pa_nil))))))))) (pss_one (ps_ret (pe_bl))) (pss_nil)) (pss_cons (ps_if (pt_cmpR (u_in hr.units) (pe_ix u_ix (pv 0) (pe_int) (fun _ _ => rfl)) (pe_tupN (pa_cons (pe_str) (pa_cons (pe_str) (pa_nil)))) (by rfl)) (pss_one (ps_ret (pe_cmpR (u_eq hr.units) (pe_callB u_len (by rfl) B.b_len (by decide +kernel) (pa_cons (pv 0) (pa_nil))) (pe_int) (nomark _)))) (pss_nil)) (pss_cons (ps_if (pt_cmpR (u_eq hr.units) (pe_ix u_ix (pv 0) (pe_int) (fun _ _ => rfl)) (pe_str) (nomark _)) (pss_one (ps_ret (pe_and (pe_cmpR (u_eq hr.units) (pe_callB u_len (by rfl) B.b_len (by decide +kernel) (pa_cons (pv 0) (pa_nil))) (pe_int) (nomark _)) (pe_one (pe_call F_is_value (hr.mono (by decide)) (by rfl) g_is_value k_is_value b_is_value .nil pass0 (pa_cons (pe_ix u_ix (pv 0) (pe_int) (fun _ _ => rfl)) (pa_cons (pv 2) (pa_nil)))))))) (pss_nil)) (pss_cons (ps_if (pt_cmpR (u_eq hr.units) (pe_ix u_ix (pv 0) (pe_int) (fun _ _ => rfl)) (pe_str) (nomark _)) (pss_one (ps_ret (pe_and (pe_cmpR (u_eq hr.units) (pe_callB u_len (by rfl) B.b_len (by decide +kernel) (pa_cons (pv 0) (pa_nil))) (pe_int) (nomark _)) (pe_one (pe_call F_is_turn (hr.mono (by decide)) (by rfl) g_is_turn k_is_turn b_is_turn .nil pass0 (pa_cons (pe_ix u_ix (pv 0) (pe_int) (fun _ _ => rfl)) (pa_cons (pv 2) (pa_nil)))))))) (pss_nil)) (pss_cons (ps_if (PW.pt (pw_or (pt_cmpR (u_ne hr.units) (pe_ix u_ix (pv 0) (pe_int) (fun _ _ => rfl)) (pe_str) (nomark _)) (pw_or (pt_cmpR (u_ne hr.units) (pe_callB u_len (by rfl) B.b_len (by decide +kernel) (pa_cons (pv 0) (pa_nil))) (pe_int) (nomark _)) (pw_or1 (pt_not (pt_val (pe_call F_is_between (hr.mono (by decide)) (by rfl) g_is_between k_is_between b_is_between .nil pass0 (pa_cons (pe_ix u_ix (pv 0) (pe_int) (fun _ _ => rfl)) (pa_cons (pe_int) (pa_cons (pe_op u_sub (pv 1) (pe_int)) (pa_nil))))))))))) (pss_one (ps_ret (pe_bl))) (pss_nil)) (pss_one (ps_ret (pe_call F_is_between (hr.mono (by decide)) (by rfl) g_is_between k_is_between b_is_between .nil pass0 (pa_cons (pe_ix u_ix (pv 0) (pe_int) (fun _ _ => rfl)) (pa_cons (pe_op u_sub (pe_int) (pe_glob (by rfl) hc_MOST_TIMES rc_MOST_TIMES)) (pa_cons (pe_glob (by rfl) hc_MOST_TIMES rc_MOST_TIMES) (pa_nil))))))))))), ?_⟩
        clear hr
        clear F_is_between g_is_between k_is_between b_is_between d_is_between a_is_between
        clear F_is_turn g_is_turn k_is_turn b_is_turn d_is_turn a_is_turn
        clear F_is_value g_is_value k_is_value b_is_value d_is_value a_is_value
        rw [show L2.start N_is_kind [v_thing, v_place, v_breadth] = [some v_thing, some v_place, some v_breadth] from rfl]
        obtain ⟨d, pl, b, hd, rfl, rfl, b0, b1, q⟩ := h
        walk_at "Zs"
        refine w_istupz hd ?_
        cases d with
        | tuple ds =>
          walk_at "Zs"
          cases ds with
          | nil =>
            walk_at "Zs"
            exact q _ (Same.refl _)
          | cons d0 r =>
            refine w_if (by rw [List.length_cons]; omega) ?_
            walk_at "Zs"
            refine w_ixZT hd (d := d0) atI_zero fun x0 h0 => ?_
            walk_at "Zs"
            refine w_isstrz h0 ?_
            cases d0 with
            | str s =>
              obtain rfl := dz_str h0
              have q2 : ∀ H', Same H H' → Q (.bl (kindE pl b s r)) H' := q
              walk_at "Zs"
              refine w_ixZTs hd atI_zero ?_
              walk_at "Zs"
              rename_i p1 H1 np1 e1 h1
              refine w_inTs (zs := ["still", "drawn"]) (SqN.t (SqN.of h1)) ?_
              have hd1 := dz_mono e1 hd
              have any2 : (["still", "drawn"] : List Str).any (fun y => decide (y = s)) = (decide (s = "still") || decide (s = "drawn")) := by
                show (decide (("still" : Str) = s) || (decide (("drawn" : Str) = s) || false)) = _
                rw [Bool.or_false]
                congr 1 <;> exact decide_eq_decide.mpr ⟨Eq.symm, Eq.symm⟩
              rw [any2]
              have one : ∀ (n : Nat) H', Same H H' → (decide (s = "still") || decide (s = "drawn")) = true → n = r.length → Q (.bl (decide (((n + 1 : Nat) : Int) = 1))) H' := fun n H' e hs hn => by
                have z := q2 H' e
                rcases r with _ | ⟨d1, _ | ⟨d2, _ | ⟨d3, r⟩⟩⟩
                · have ez : kindE pl b s [] = true := hs
                  rw [ez] at z
                  subst hn
                  exact z
                · have ez : kindE pl b s [d1] = false := by
                    rcases Bool.or_eq_true .. ▸ hs with h | h
                    · rw [of_decide_eq_true h]; rfl
                    · rw [of_decide_eq_true h]; rfl
                  rw [ez] at z
                  subst hn
                  exact z
                · have ez : kindE pl b s [d1, d2] = false := by
                    rcases Bool.or_eq_true .. ▸ hs with h | h
                    · rw [of_decide_eq_true h]; rfl
                    · rw [of_decide_eq_true h]; rfl
                  rw [ez] at z
                  subst hn
                  exact z
                · subst hn
                  rw [decide_eq_false (by simp only [List.length_cons]; omega)]
                  exact z
              walk_at "Zs"
              cases c0 : (decide (s = "still") || decide (s = "drawn")) with
              | true =>
                walk_at "Zs"
                exact one r.length _ e1 c0 rfl
              | false =>
                have ns : s ≠ "still" := fun h => by rw [h] at c0; cases c0
                have nd : s ≠ "drawn" := fun h => by rw [h] at c0; cases c0
                walk_at "Zs"
                refine w_ixZTs hd1 atI_zero ?_
                walk_at "Zs"
                refine w_dec (fun c1 => ?_) (fun c1 => ?_)
                · subst c1
                  walk_at "Zs"
                  rcases r with _ | ⟨d1, _ | ⟨d2, r⟩⟩
                  · refine w_if (by decide) ?_
                    exact q2 _ e1
                  · refine w_it rfl ?_
                    walk_at "Zs"
                    refine w_ixZT hd1 (d := d1) rfl fun x1 h1' => ?_
                    walk_at "Zs"
                    refine go_is_value h1' b0 b1 ?_
                    have z : kindE pl b "step" [d1] = betwD 0 (p2 b - 1) d1 := by
                      show ((decide (("step" : Str) = "step") && betwD 0 (p2 b - 1) d1) || (decide (("step" : Str) = "turn") && turnD b d1)) = _
                      rw [show decide (("step" : Str) = "turn") = false from rfl, decide_eq_true rfl, Bool.true_and, Bool.false_and, Bool.or_false]
                    rw [← z]
                    exact q2 _ e1
                  · refine w_if (by simp only [List.length_cons]; omega) ?_
                    have z : kindE pl b "step" (d1 :: d2 :: r) = false := by cases r <;> rfl
                    rw [← z]
                    exact q2 _ e1
                · walk_at "Zs"
                  refine w_ixZTs hd1 atI_zero ?_
                  walk_at "Zs"
                  refine w_dec (fun c2 => ?_) (fun c2 => ?_)
                  · subst c2
                    walk_at "Zs"
                    rcases r with _ | ⟨d1, _ | ⟨d2, r⟩⟩
                    · refine w_if (by decide) ?_
                      exact q2 _ e1
                    · refine w_it rfl ?_
                      walk_at "Zs"
                      refine w_ixZT hd1 (d := d1) rfl fun x1 h1' => ?_
                      walk_at "Zs"
                      refine go_is_turn h1' b0 b1 fun H2 e2 => ?_
                      have z : kindE pl b "turn" [d1] = turnD b d1 := by
                        show ((decide (("turn" : Str) = "step") && betwD 0 (p2 b - 1) d1) || (decide (("turn" : Str) = "turn") && turnD b d1)) = _
                        rw [show decide (("turn" : Str) = "step") = false from rfl, decide_eq_true rfl, Bool.true_and, Bool.false_and, Bool.false_or]
                      rw [← z]
                      exact q2 _ (e1.trans e2)
                    · refine w_if (by simp only [List.length_cons]; omega) ?_
                      have z : kindE pl b "turn" (d1 :: d2 :: r) = false := by cases r <;> rfl
                      rw [← z]
                      exact q2 _ e1
                  · walk_at "Zs"
                    refine w_ixZTs hd1 atI_zero ?_
                    walk_at "Zs"
                    refine w_dec (fun c3 => ?_) (fun c3 => ?_)
                    · subst c3
                      walk_at "Zs"
                      rcases r with _ | ⟨d1, _ | ⟨d2, _ | ⟨d3, r⟩⟩⟩
                      · refine w_if (by decide) ?_
                        walk_at "Zs"
                        exact q2 _ e1
                      · refine w_if (by simp only [List.length_cons, List.length_nil]; decide) ?_
                        walk_at "Zs"
                        exact q2 _ e1
                      · refine w_it rfl ?_
                        walk_at "Zs"
                        refine w_ixZT hd1 (d := d1) rfl fun x1 h1' => ?_
                        walk_at "Zs"
                        have z : kindE pl b "with" [d1, d2] = (betwD 0 (pl - 1) d1 && betwD (-99) 99 d2) := by
                          show (decide (("with" : Str) = "with") && (betwD 0 (pl - 1) d1 && betwD (-99) 99 d2)) = _
                          rw [decide_eq_true rfl]
                          exact Bool.true_and _
                        rw [z] at q2
                        cases c4 : betwD 0 (pl - 1) d1 with
                        | false =>
                          rw [c4, Bool.false_and] at q2
                          walk_at "Zs"
                          exact q2 _ e1
                        | true =>
                          rw [c4, Bool.true_and] at q2
                          walk_at "Zs"
                          refine w_ixZT hd1 (d := d2) rfl fun x2 h2' => ?_
                          walk_at "Zs"
                          exact q2 _ e1
                      · refine w_if (by simp only [List.length_cons]; omega) ?_
                        walk_at "Zs"
                        exact q2 _ e1
                    · have z : kindE pl b s r = false := by
                        rcases r with _ | ⟨d1, _ | ⟨d2, _ | ⟨d3, r⟩⟩⟩
                        · exact c0
                        · show ((decide (s = "step") && _) || (decide (s = "turn") && _)) = false
                          rw [decide_eq_false c1, decide_eq_false c2, Bool.false_and, Bool.false_and]
                          rfl
                        · show (decide (s = "with") && _) = false
                          rw [decide_eq_false c3, Bool.false_and]
                        · rfl
                      walk_at "Zs"
                      rw [← z]
                      exact q2 _ e1
            | _ =>
              walk_at "Zs"
              exact q _ (Same.refl _)
        | _ =>
          walk_at "Zs"
          exact q _ (Same.refl _)
  exact F0
theorem c_is_kind {W : Wd} {mg : Str → Option Value} {base : Heap} (B : Bi mg) (S : Src W.K mg "is_kind" s_is_kind) (C_is_between : Cal W mg base "is_between" 2 ["thing", "least", "most"] (sp_is_between W)) (C_is_turn : Cal W mg base "is_turn" 4 ["thing", "breadth"] (sp_is_turn W)) (C_is_value : Cal W mg base "is_value" 3 ["thing", "breadth"] (sp_is_value W)) : Cal W mg base "is_kind" 5 ["thing", "place", "breadth"] (sp_is_kind W) := by
  obtain ⟨f, fd, g, F⟩ := S
  exact ⟨f, fd, g, f_is_kind B F C_is_between C_is_turn C_is_value, F.kp, (F.binds (ps := ["thing", "place", "breadth"]) fun _ _ _ _ _ _ us hl => match us, hl with | [_, _, _], _ => rfl)⟩
theorem go_is_kind {W : Wd} {H : Hp} {Q : VK} {E : XK} {v : V} {d : PyData} {pl b : Int} (hd : Dz W.K Ever H v d) (b0 : 0 ≤ b) (b1 : b ≤ 60) (q : ∀ H', Same H H' → Q (.bl (kindD pl b d)) H') : sp_is_kind W [v, .int pl, .int b] H Q E := ⟨d, pl, b, hd, rfl, rfl, b0, b1, q⟩
def sp_is_field (W : Wd) : Sp := fun vs H Q _ => match vs with
  | [v_thing, v_place] =>
  ∃ (d : PyData) (pl : Int), Dz W.K Ever H v_thing d ∧ v_place = .int pl ∧ (∀ z r, d = .tuple (.str z :: r) → z.length ≤ 1000000) ∧ ∀ H', Same H H' → Q (.bl (fieldD pl d)) H'
  | _ => False
abbrev N_is_field : List Str := ["thing", "place"]
theorem sc_is_field : FnScope N_is_field ["thing", "place"] (defScope s_is_field) := ⟨rfl, rfl, rfl, by decide +kernel, rfl, by decide +kernel, by decide +kernel⟩
theorem f_is_field {W : Wd} {mg : Str → Option Value} {base : Heap} (B : Bi mg) {f : Addr} {fd : FuncData} (F : Fun W.K "is_field" "is_field" s_is_field f fd) (C_is_between : Cal W mg base "is_between" 2 ["thing", "least", "most"] (sp_is_between W)) (C_is_kind : Cal W mg base "is_kind" 5 ["thing", "place", "breadth"] (sp_is_kind W)) (C_is_name : Cal W mg base "is_name" 1 ["thing"] (sp_is_name W)) : FnOk W.P W.w W.K mg base CX0 6 f fd ["thing", "place"] (sp_is_field W) := by
  obtain ⟨a_is_between, d_is_between, g_is_between, F_is_between, k_is_between, b_is_between⟩ := C_is_between
  obtain ⟨a_is_kind, d_is_kind, g_is_kind, F_is_kind, k_is_kind, b_is_kind⟩ := C_is_kind
  obtain ⟨a_is_name, d_is_name, g_is_name, F_is_name, k_is_name, b_is_name⟩ := C_is_name
  obtain ⟨t_MOST_BREADTH, hc_MOST_BREADTH, rc_MOST_BREADTH⟩ := B.c_MOST_BREADTH
  have nd := sc_is_field.nd
  have F0 : FnOk W.P W.w W.K mg base CX0 6 f fd ["thing", "place"] (sp_is_field W) := by
    refine F.ok sc_is_field (fun vs H Q E h => ?_) (fun cdv A outer s H vs Q E hr h => ?_)
    · match vs, h with | [_, _], _ => rfl
    · match vs, h with
      | [v_thing, v_place], h =>
        change sp_is_field W [v_thing, v_place] H Q E at h
        refine ⟨tSeq (tIfS (tOr (tNot (tB (tCB (rIsi W.K) (tCons (tVar 0) (tCons (tC (.ty "tuple")) tNil))))) (tOr (tTest (tOp (rNeU W.K) (tCB (rLenU W.K) (tCons (tVar 0) (tNil))) (tC (.int 3)))) (tNot (tB (tCall (sp_is_name W) [] E0 (tCons (tOp (rIxU W.K) (tVar 0) (tC (.int 0))) (tNil))))))) (tRet (tC (.bl false))) (tNext)) (tRet (tAndV (tCall (sp_is_between W) [] E0 (tCons (tOp (rIxU W.K) (tVar 0) (tC (.int 1))) (tCons (tC (.int 1)) (tCons (tC (.int 40)) (tNil))))) (tCall (sp_is_kind W) [] E0 (tCons (tOp (rIxU W.K) (tVar 0) (tC (.int 2))) (tCons (tVar 1) (tCons (tOp (rIxU W.K) (tVar 0) (tC (.int 1))) (tNil))))))), pss_cons (ps_if (PW.pt (pw_or (pt_not (pt_val (pe_callB call_isi (by rfl) B.b_isinstance (by decide +kernel) (pa_cons (pv 0) (pa_cons (pe_bltn (v := .ty "tuple") (u := .type "tuple") (by rfl) B.b_tuple (by decide +kernel) rfl) pa_nil))))) (pw_or (pt_cmpR (u_ne hr.units) (pe_callB u_len (by rfl) B.b_len (by decide +kernel) (pa_cons (pv 0) (pa_nil))) (pe_int) (nomark _)) (pw_or1 (pt_not (pt_val (pe_call F_is_name (hr.mono (by decide)) (by rfl) g_is_name k_is_name b_is_name .nil pass0 (pa_cons (pe_ix u_ix (pv 0) (pe_int) (fun _ _ => rfl)) (pa_nil))))))))) (pss_one (ps_ret (pe_bl))) (pss_nil)) (pss_one (ps_ret (pe_and (pe_call F_is_between (hr.mono (by decide)) (by rfl) g_is_between k_is_between b_is_between .nil pass0 (pa_cons (pe_ix u_ix (pv 0) (pe_int) (fun _ _ => rfl)) (pa_cons (pe_int) (pa_cons (pe_glob (by rfl) hc_MOST_BREADTH rc_MOST_BREADTH) (pa_nil))))) (pe_one (pe_call F_is_kind (hr.mono (by decide)) (by rfl) g_is_kind k_is_kind b_is_kind .nil pass0 (pa_cons (pe_ix u_ix (pv 0) (pe_int) (fun _ _ => rfl)) (pa_cons (pv 1) (pa_cons (pe_ix u_ix (pv 0) (pe_int) (fun _ _ => rfl)) (pa_nil))))))))), ?_⟩
        clear hr
        clear F_is_between g_is_between k_is_between b_is_between d_is_between a_is_between
        clear F_is_kind g_is_kind k_is_kind b_is_kind d_is_kind a_is_kind
        clear F_is_name g_is_name k_is_name b_is_name d_is_name a_is_name
        rw [show L2.start N_is_field [v_thing, v_place] = [some v_thing, some v_place] from rfl]
        obtain ⟨d, pl, hd, rfl, hz, q⟩ := h
        walk_at "Zs"
        refine w_istupz hd ?_
        cases d with
        | tuple ds =>
          walk_at "Zs"
          rcases ds with _ | ⟨d0, _ | ⟨d1, _ | ⟨d2, _ | ⟨d3, r⟩⟩⟩⟩
          · exact q _ (Same.refl _)
          · exact q _ (Same.refl _)
          · exact q _ (Same.refl _)
          · walk_at "Zs"
            refine w_ixZT hd (d := d0) rfl fun x0 h0 => ?_
            walk_at "Zs"
            refine go_is_name h0 (fun z e => hz z _ (by rw [e])) fun H1 e1 => ?_
            have hd1 := dz_mono e1 hd
            have e : fieldD pl (.tuple [d0, d1, d2]) = (nameD d0 && (betwD 1 40 d1 && fieldE pl d2 d1)) := rfl
            rw [e] at q
            walk_at "Zs"
            cases c0 : nameD d0 with
            | false =>
              rw [c0, Bool.false_and] at q
              walk_at "Zs"
              exact q _ e1
            | true =>
              rw [c0, Bool.true_and] at q
              walk_at "Zs"
              refine w_ixZT hd1 (d := d1) rfl fun x1 h1 => ?_
              walk_at "Zs"
              cases c1 : betwD 1 40 d1 with
              | false =>
                rw [c1, Bool.false_and] at q
                walk_at "Zs"
                exact q _ e1
              | true =>
                rw [c1, Bool.true_and] at q
                cases d1 with
                | int b =>
                  have cb : (decide (1 ≤ b) && decide (b ≤ 40)) = true := c1
                  rw [Bool.and_eq_true, decide_eq_true_iff, decide_eq_true_iff] at cb
                  walk_at "Zs"
                  refine w_ixZT hd1 (d := d2) rfl fun x2 h2 => ?_
                  walk_at "Zs"
                  refine w_ixZTi hd1 (n := b) rfl ?_
                  walk_at "Zs"
                  exact go_is_kind h2 (by omega) (by omega) fun H2 e2 => q _ (e1.trans e2)
                | _ => cases c1
          · refine w_if (by simp only [List.length_cons]; omega) ?_
            walk_at "Zs"
            exact q _ (Same.refl _)
        | _ =>
          walk_at "Zs"
          exact q _ (Same.refl _)
  exact F0
theorem c_is_field {W : Wd} {mg : Str → Option Value} {base : Heap} (B : Bi mg) (S : Src W.K mg "is_field" s_is_field) (C_is_between : Cal W mg base "is_between" 2 ["thing", "least", "most"] (sp_is_between W)) (C_is_kind : Cal W mg base "is_kind" 5 ["thing", "place", "breadth"] (sp_is_kind W)) (C_is_name : Cal W mg base "is_name" 1 ["thing"] (sp_is_name W)) : Cal W mg base "is_field" 6 ["thing", "place"] (sp_is_field W) := by
  obtain ⟨f, fd, g, F⟩ := S
  exact ⟨f, fd, g, f_is_field B F C_is_between C_is_kind C_is_name, F.kp, (F.binds (ps := ["thing", "place"]) fun _ _ _ _ _ _ us hl => match us, hl with | [_, _], _ => rfl)⟩
theorem go_is_field {W : Wd} {H : Hp} {Q : VK} {E : XK} {v : V} {d : PyData} {pl : Int} (hd : Dz W.K Ever H v d) (hz : ∀ z r, d = .tuple (.str z :: r) → z.length ≤ 1000000) (q : ∀ H', Same H H' → Q (.bl (fieldD pl d)) H') : sp_is_field W [v, .int pl] H Q E := ⟨d, pl, hd, rfl, hz, q⟩
def sp_is_shape (W : Wd) : Sp := fun vs H Q _ => match vs with
  | [v_thing] =>
  ∃ d : PyData, Dz W.K Ever H v_thing d ∧ SmSh d ∧ ∀ H', Same H H' → Q (.bl (shapeD d)) H'
  | _ => False
abbrev N_is_shape : List Str := ["thing", "fields", "place", "field"]
theorem sc_is_shape : FnScope N_is_shape ["thing"] (defScope s_is_shape) := ⟨rfl, rfl, rfl, by decide +kernel, rfl, by decide +kernel, by decide +kernel⟩
theorem f_is_shape {W : Wd} {mg : Str → Option Value} {base : Heap} (B : Bi mg) {f : Addr} {fd : FuncData} (F : Fun W.K "is_shape" "is_shape" s_is_shape f fd) (C_is_field : Cal W mg base "is_field" 6 ["thing", "place"] (sp_is_field W)) (C_is_between : Cal W mg base "is_between" 2 ["thing", "least", "most"] (sp_is_between W)) : FnOk W.P W.w W.K mg base CX0 7 f fd ["thing"] (sp_is_shape W) := by
  obtain ⟨a_is_field, d_is_field, g_is_field, F_is_field, k_is_field, b_is_field⟩ := C_is_field
  obtain ⟨a_is_between, d_is_between, g_is_between, F_is_between, k_is_between, b_is_between⟩ := C_is_between
  obtain ⟨t_MOST_FIELDS, hc_MOST_FIELDS, rc_MOST_FIELDS⟩ := B.c_MOST_FIELDS
  obtain ⟨t_MOST_CHECK, hc_MOST_CHECK, rc_MOST_CHECK⟩ := B.c_MOST_CHECK
  have nd := sc_is_shape.nd
  have F0 : FnOk W.P W.w W.K mg base CX0 7 f fd ["thing"] (sp_is_shape W) := by
    refine F.ok sc_is_shape (fun vs H Q E h => ?_) (fun cdv A outer s H vs Q E hr h => ?_)
    · match vs, h with | [_], _ => rfl
    · match vs, h with
      | [v_thing], h =>
        change sp_is_shape W [v_thing] H Q E at h
        refine ⟨tSeq (tIfS (tOr (tNot (tB (tCB (rIsi W.K) (tCons (tVar 0) (tCons (tC (.ty "tuple")) tNil))))) (tOr (tTest (tOp (rNeU W.K) (tCB (rLenU W.K) (tCons (tVar 0) (tNil))) (tC (.int 2)))) (tNot (tB (tCall (sp_is_between W) [] E0 (tCons (tOp (rIxU W.K) (tVar 0) (tC (.int 1))) (tCons (tC (.int 1)) (tCons (tC (.int 1000000)) (tNil))))))))) (tRet (tC (.bl false))) (tNext)) (tSeq (tAsg (tOp (rIxU W.K) (tVar 0) (tC (.int 0))) (gName 1)) (tSeq (tIfS (tOr (tNot (tB (tCB (rIsi W.K) (tCons (tVar 1) (tCons (tC (.ty "tuple")) tNil))))) (tNot (tTest (tChain (rLeU) (rLeU) (tC (.int 1)) (tCB (rLenU W.K) (tCons (tVar 1) (tNil))) (tC (.int 12)))))) (tRet (tC (.bl false))) (tNext)) (tSeq (tIfS (tNot (tB (tCB (rAll W.K) (tCons (tLc (iEnumU W.K (tCons (tVar 1) (tNil))) (gTup W.K 2 (gCons (gName 2) (gCons (gName 3) (gNil)))) (tYes) (tCall (sp_is_field W) [] E0 (tCons (tVar 3) (tCons (tVar 2) (tNil)))) [2, 3]) (tNil))))) (tRet (tC (.bl false))) (tNext)) (tRet (tOp (rEqU W.K) (tLenSetU W.K (tLc (iAny W.K (tVar 1)) (gName 3) (tYes) (tOp (rIxU W.K) (tVar 3) (tC (.int 0))) [3])) (tCB (rLenU W.K) (tCons (tVar 1) (tNil)))))))), pss_cons (ps_if (PW.pt (pw_or (pt_not (pt_val (pe_callB call_isi (by rfl) B.b_isinstance (by decide +kernel) (pa_cons (pv 0) (pa_cons (pe_bltn (v := .ty "tuple") (u := .type "tuple") (by rfl) B.b_tuple (by decide +kernel) rfl) pa_nil))))) (pw_or (pt_cmpR (u_ne hr.units) (pe_callB u_len (by rfl) B.b_len (by decide +kernel) (pa_cons (pv 0) (pa_nil))) (pe_int) (nomark _)) (pw_or1 (pt_not (pt_val (pe_call F_is_between (hr.mono (by decide)) (by rfl) g_is_between k_is_between b_is_between .nil pass0 (pa_cons (pe_ix u_ix (pv 0) (pe_int) (fun _ _ => rfl)) (pa_cons (pe_int) (pa_cons (pe_glob (by rfl) hc_MOST_CHECK rc_MOST_CHECK) (pa_nil))))))))))) (pss_one (ps_ret (pe_bl))) (pss_nil)) (pss_cons (ps_set (i := 1) nd rfl (.inl rfl) (pe_ix u_ix (pv 0) (pe_int) (fun _ _ => rfl))) (pss_cons (ps_if (PW.pt (pw_or (pt_not (pt_val (pe_callB call_isi (by rfl) B.b_isinstance (by decide +kernel) (pa_cons (pv 1) (pa_cons (pe_bltn (v := .ty "tuple") (u := .type "tuple") (by rfl) B.b_tuple (by decide +kernel) rfl) pa_nil))))) (pw_or1 (pt_not (pt_chain u_le u_le (pe_int) (pe_callB u_len (by rfl) B.b_len (by decide +kernel) (pa_cons (pv 1) (pa_nil))) (pe_glob (by rfl) hc_MOST_FIELDS rc_MOST_FIELDS)))))) (pss_one (ps_ret (pe_bl))) (pss_nil)) (pss_cons (ps_if (pt_not (pt_val (pe_callB (cr_all rfl) (by rfl) B.b_all (by decide +kernel) (pa_cons (pe_lc (own := [("place", 2), ("field", 3)]) rfl nd (pi_enumU (by rfl) B.b_enumerate (pa_cons (pv 1) (pa_nil))) (blkOk_by (own := [("place", 2), ("field", 3)]) (N := N_is_shape) (sc := defScope s_is_shape) (by decide +kernel)) (fun _ _ _ _ _ => pg_tup rfl (pgs_cons (pg_name (i := 2) nd rfl (by first | exact Or.inl rfl | exact Or.inr rfl)) (pgs_cons (pg_name (i := 3) nd rfl (by first | exact Or.inl rfl | exact Or.inr rfl)) (pgs_nil)))) (fun _ _ _ _ _ => pts_nil) (fun _ _ _ _ _ => pe_call F_is_field (hr.mono (by decide)) (by rfl) g_is_field k_is_field b_is_field .nil pass0 (pa_cons (pv 3) (pa_cons (pv 2) (pa_nil))))) (pa_nil))))) (pss_one (ps_ret (pe_bl))) (pss_nil)) (pss_one (ps_ret (pe_cmpR (u_eq hr.units) (pe_lenSetU (by rfl) (by rfl) B.b_len (by rfl) B.b_set (pe_lc (own := [("field", 3)]) rfl nd (pi_any (pv 1)) (blkOk_by (own := [("field", 3)]) (N := N_is_shape) (sc := defScope s_is_shape) (by decide +kernel)) (fun _ _ _ _ _ => pg_name (i := 3) nd rfl (by first | exact Or.inl rfl | exact Or.inr rfl)) (fun _ _ _ _ _ => pts_nil) (fun _ _ _ _ _ => pe_ix u_ix (pv 3) (pe_int) (fun _ _ => rfl)))) (pe_callB u_len (by rfl) B.b_len (by decide +kernel) (pa_cons (pv 1) (pa_nil))) (nomark _))))))), ?_⟩
        clear hr
        clear F_is_field g_is_field k_is_field b_is_field d_is_field a_is_field
        clear F_is_between g_is_between k_is_between b_is_between d_is_between a_is_between
        rw [show L2.start N_is_shape [v_thing] = [some v_thing, none, none, none] from rfl]
        obtain ⟨d, hd, hz, q⟩ := h
        walk_at "Zs"
        refine w_istupz hd ?_
        cases d with
        | tuple ds =>
          walk_at "Zs"
          rcases ds with _ | ⟨d0, _ | ⟨d1, _ | ⟨d2, r⟩⟩⟩
          · exact q _ (Same.refl _)
          · exact q _ (Same.refl _)
          · have e : shapeD (.tuple [d0, d1]) = (betwD 1 1000000 d1 && fieldsD d0) := rfl
            rw [e] at q
            walk_at "Zs"
            refine w_ixZT hd (d := d1) rfl fun x1 h1 => ?_
            walk_at "Zs"
            cases c1 : betwD 1 1000000 d1 with
            | false =>
              rw [c1, Bool.false_and] at q
              walk_at "Zs"
              exact q _ (Same.refl _)
            | true =>
              rw [c1, Bool.true_and] at q
              walk_at "Zs"
              refine w_ixZT hd (d := d0) rfl fun x0 h0 => ?_
              walk_at "Zs"
              refine w_istupz h0 ?_
              cases d0 with
              | tuple fs =>
                have e2 : fieldsD (.tuple fs) = (decide (1 ≤ fs.length) && (decide (fs.length ≤ 12) && (fieldsB fs && decide ((fs.map nmD).Nodup)))) := rfl
                rw [e2] at q
                walk_at "Zs"
                refine w_dec (fun c2 => ?_) (fun c2 => ?_)
                · rw [decide_eq_true (by omega), Bool.true_and] at q
                  walk_at "Zs"
                  refine w_dec (fun c3 => ?_) (fun c3 => ?_)
                  · rw [decide_eq_true (by omega), Bool.true_and] at q
                    obtain ⟨a, xs, rfl, hxs, hds⟩ := dz_tt h0
                    have lx := dzs_len hds
                    walk_at "Zs"
                    refine w_goET hxs ?_
                    refine lcET hxs (fun i acc _ => acc = ((fs.take i).mapIdx fun j d => fieldD (j : Int) d).map V.bl) stb_pure (by omega) (fun i acc H' e => by rw [e, List.length_map, List.length_mapIdx, List.length_take]; omega) (fun H' _ => rfl) (fun i x acc H' hx e1 ea H2 e2 k k' hk hk' => ?_) fun D acc H1 hD e1 hD' ea => ?_
                    · obtain ⟨d, hd1, hxd⟩ := dzs_get2 hds hx
                      have hi := (List.getElem?_eq_some_iff.mp hd1).1
                      walk_at "Zs"
                      refine go_is_field (dz_mono (e1.trans e2) hxd) (hz _ _ rfl d (List.mem_of_getElem? hd1)) fun H3 e3 => ?_
                      refine hk _ _ e3 ?_
                      rw [ea, take_snoc hd1, List.mapIdx_concat, List.map_append, List.length_take, show min i fs.length = i by omega]
                      rfl
                    · rw [List.take_of_length_le (by omega)] at ea
                      walk_at "Zs"
                      refine w_all (bs := fs.mapIdx fun j d => fieldD (j : Int) d) (SqL.of (by rw [hD', ea])) ?_
                      rw [show ((fs.mapIdx fun j d => fieldD (j : Int) d).all id) = fieldsB fs from rfl]
                      cases c4 : fieldsB fs with
                      | false =>
                        rw [c4, Bool.false_and] at q
                        walk_at "Zs"
                        exact q _ e1
                      | true =>
                        rw [c4, Bool.true_and] at q
                        walk_at "Zs"
                        refine w_goT (same_t e1 hxs) ?_
                        refine lcT (same_t e1 hxs) (fun i acc _ => acc = (fs.take i).map fun d => V.str (nmD d)) stb_pure (by omega) (fun i acc H' e => by rw [e, List.length_map, List.length_take]; omega) (fun H' _ => rfl) (fun i x acc H' hx e2 ea k k' hk hk' => ?_) fun D2 acc H2 hD2 e2 hD2' ea => ?_
                        · obtain ⟨d, hd1, hxd⟩ := dzs_get2 hds hx
                          obtain ⟨z, a', b', rfl⟩ := field_nm (fields_get c4 hd1)
                          walk_at "Zs"
                          refine w_ixZTs (dz_mono (e1.trans e2) hxd) (z := z) rfl ?_
                          refine hk _ _ (Same.refl _) ?_
                          rw [ea, take_snoc hd1, List.map_append]
                          rfl
                        · rw [List.take_of_length_le (by omega)] at ea
                          walk_at "Zs"
                          refine .inl ⟨D2, fs.map nmD, rfl, SqL.of (by rw [hD2', ea, List.map_map]; rfl), by rw [List.length_map]; omega, fun c hc => ?_⟩
                          walk_at "Zs"
                          have z : decide ((c : Int) = (fs.length : Int)) = decide ((fs.map nmD).Nodup) := by
                            rw [decide_eq_decide, ← hc, List.length_map]
                            omega
                          rw [z]
                          exact q _ (e1.trans e2)
                  · rw [decide_eq_false (by omega), Bool.false_and] at q
                    walk_at "Zs"
                    exact q _ (Same.refl _)
                · rw [decide_eq_false (by omega), Bool.false_and] at q
                  walk_at "Zs"
                  exact q _ (Same.refl _)
              | _ =>
                walk_at "Zs"
                exact q _ (Same.refl _)
          · refine w_if (by simp only [List.length_cons]; omega) ?_
            walk_at "Zs"
            exact q _ (Same.refl _)
        | _ =>
          walk_at "Zs"
          exact q _ (Same.refl _)
  exact F0
theorem c_is_shape {W : Wd} {mg : Str → Option Value} {base : Heap} (B : Bi mg) (S : Src W.K mg "is_shape" s_is_shape) (C_is_field : Cal W mg base "is_field" 6 ["thing", "place"] (sp_is_field W)) (C_is_between : Cal W mg base "is_between" 2 ["thing", "least", "most"] (sp_is_between W)) : Cal W mg base "is_shape" 7 ["thing"] (sp_is_shape W) := by
  obtain ⟨f, fd, g, F⟩ := S
  exact ⟨f, fd, g, f_is_shape B F C_is_field C_is_between, F.kp, (F.binds (ps := ["thing"]) fun _ _ _ _ _ _ us hl => match us, hl with | [_], _ => rfl)⟩
theorem go_is_shape {W : Wd} {H : Hp} {Q : VK} {E : XK} {v : V} {d : PyData} (hd : Dz W.K Ever H v d) (hz : SmSh d) (q : ∀ H', Same H H' → Q (.bl (shapeD d)) H') : sp_is_shape W [v] H Q E := ⟨d, hd, hz, q⟩
def sp__law_pot (W : Wd) : Sp := fun vs H Q _ => match vs with
  | [v_script, v_k] =>
  ∃ (a : Addr) (ns : List Int) (k : Int), v_script = .ref a ∧ v_k = .int k ∧ SqL W.K H a (ns.map V.int) ∧ 0 ≤ k ∧ ∀ v H', Same H H' → PotAt W H' v → Q v H'
  | _ => False
def sp0__law_pot (W : Wd) : Sp := fun vs H Q _ => match vs with
  | [v_script, v_k] =>
  ∃ (a : Addr) (ns : List Int) (k : Int), v_script = .ref a ∧ v_k = .int k ∧ SqL W.K H a (ns.map V.int) ∧ 0 ≤ k ∧ ∀ (p : Addr) (g s : Int) H', Same H H' → H p = none → H' p = some (.lst [.int g, .int s]) → 0 ≤ g → 0 ≤ s → s < 2305843009213693951 → Q (.ref p) H'
  | _ => False
abbrev N__law_pot : List Str := ["_law_script", "_law_k", "_law_cell", "_law_great"]
theorem sc__law_pot : FnScope N__law_pot ["_law_script", "_law_k"] (defScope s__law_pot) := ⟨rfl, rfl, rfl, by decide +kernel, rfl, by decide +kernel, by decide +kernel⟩
theorem f__law_pot {W : Wd} {mg : Str → Option Value} {base : Heap} (B : Bi mg) {f : Addr} {fd : FuncData} (F : Fun W.K "_law_pot" "_law_pot" s__law_pot f fd)  : FnOk W.P W.w W.K mg base CX0 1 f fd ["_law_script", "_law_k"] (sp__law_pot W) := by
  have nd := sc__law_pot.nd
  have F0 : FnOk W.P W.w W.K mg base CX0 1 f fd ["_law_script", "_law_k"] (sp0__law_pot W) := by
    refine F.ok sc__law_pot (fun vs H Q E h => ?_) (fun cdv A outer s H vs Q E hr h => ?_)
    · match vs, h with | [_, _], _ => rfl
    · match vs, h with
      | [v_script, v_k], h =>
        change sp0__law_pot W [v_script, v_k] H Q E at h
        refine ⟨tSeq (tAsg (tIf (tTest (tOp (rLtU W.K) (tVar 1) (tCB (rLenU W.K) (tCons (tVar 0) (tNil))))) (tOp (rIxU W.K) (tVar 0) (tVar 1)) (tOp (rAddN W.K) (tCB (rLenU W.K) (tCons (tVar 0) (tNil))) (tVar 1))) (gName 2)) (tSeq (tAsg (tOp (rMulN W.K) (tOp (rModU) (tCB (rAbs) (tCons (tVar 2) (tNil))) (tC (.int farN))) (tCB (rIntU) (tCons (tOp (rGeU) (tCB (rAbs) (tCons (tVar 2) (tNil))) (tOp (rCon 10 18 1000000000000000000) (tC (.int 10)) (tC (.int 18)))) (tNil)))) (gName 3)) (tRet (tLst (tCons (tVar 3) (tCons (tOp (rModU) (tOp (rMulN W.K) (tOp (rAddN W.K) (tOp (rAddN W.K) (tOp (rModU) (tVar 2) (tC (.int 2305843009213693921))) (tOp (rMulN W.K) (tC (.int 104729)) (tVar 1))) (tC (.int 5))) (tC (.int 48271))) (tC (.int 2305843009213693951))) (tNil)))))), pss_cons (ps_set (i := 2) nd rfl (.inl rfl) (pe_ifExp (pt_cmpR u_lt (pv 1) (pe_callB u_len (by rfl) B.b_len (by decide +kernel) (pa_cons (pv 0) (pa_nil))) (nomark _)) (pe_ix u_ix (pv 0) (pv 1) (fun _ _ => rfl)) (pe_op u_addN (pe_callB u_len (by rfl) B.b_len (by decide +kernel) (pa_cons (pv 0) (pa_nil))) (pv 1)))) (pss_cons (ps_set (i := 3) nd rfl (.inl rfl) (pe_op u_mulN (pe_op u_mod (pe_callB call_abs (by rfl) B.b_abs (by decide +kernel) (pa_cons (pv 2) (pa_nil))) (pe_far (by rfl) B.b_int)) (pe_callTy u_int (by rfl) B.b_int (by decide +kernel) (pa_cons (pe_cmpR u_ge (pe_callB call_abs (by rfl) B.b_abs (by decide +kernel) (pa_cons (pv 2) (pa_nil))) (pe_op (u_powc ⟨by decide, by decide, by decide⟩ (by decide +kernel)) pe_int pe_int) (nomark _)) (pa_nil))))) (pss_one (ps_ret (pe_lst (pa_cons (pv 3) (pa_cons (pe_op u_mod (pe_op u_mulN (pe_op u_addN (pe_op u_addN (pe_op u_mod (pv 2) (pe_int)) (pe_op u_mulN (pe_int) (pv 1))) (pe_int)) (pe_int)) (pe_int)) (pa_nil))))))), ?_⟩
        clear hr
        rw [show L2.start N__law_pot [v_script, v_k] = [some v_script, some v_k, none, none] from rfl]
        obtain ⟨a, ns, k, rfl, rfl, hS, hk, q⟩ := h
        walk_at "Zs"
        refine w_lenL hS ?_
        walk_at "Zs"
        have fin : ∀ (c s : Int) (p : Addr) (H' : Hp), H p = none → Same H H' → H' p = some (.lst [.int ((if c < 0 then -c else c) % farN * if decide (1000000000000000000 ≤ if c < 0 then -c else c) = true then 1 else 0), .int (s % 2305843009213693951)]) → Q (.ref p) H' := by
          intro c s p H' hp e1 e2
          refine q p _ _ H' e1 hp e2 ?_ (by omega) (by omega)
          have h1 := Int.emod_nonneg (if c < 0 then -c else c) (Int.ne_of_gt far_pos)
          by_cases hc : decide (1000000000000000000 ≤ (if c < 0 then -c else c)) = true
          · rw [if_pos hc, Int.mul_one]
            exact h1
          · rw [if_neg hc, Int.mul_zero]
            exact Int.le_refl 0
        refine w_dec (fun hlt => ?_) (fun hge => ?_)
        · walk_at "Zs"
          have hl : k.toNat < ns.length := by
            rw [List.length_map] at hlt
            omega
          refine w_ixl hS (x := .int (ns[k.toNat])) ?_ ?_
          · unfold atI ixN
            rw [if_pos hk, if_pos hlt]
            simp [List.getElem?_eq_getElem hl]
          walk_at "Zs"
          rename_i p H' hp e1 e2
          exact fin _ _ p H' hp e1 e2
        · walk_at "Zs"
          refine w_lenL hS ?_
          walk_at "Zs"
          rename_i p H' hp e1 e2
          exact fin _ _ p H' hp e1 e2
  refine fn_seal pot_flat F0 (fun vs H Q E h => ?_) fun vs H Q E h => ?_
  · match vs, h with | [_, _], _ => rfl
  · match vs, h with
    | [v1, v2], h =>
      obtain ⟨a, ns, k, rfl, rfl, hS, hk, q⟩ := h
      refine ⟨a, ns, k, rfl, rfl, hS, hk, fun p g s H' e1 hp e2 h1 h2 h3 => ?_⟩
      exact ⟨p, _, ⟨g, s, rfl, h1, h2, h3⟩, e2, q _ _ (same_mut e1 hp) ⟨p, rfl, upd_same⟩⟩
theorem c__law_pot {W : Wd} {mg : Str → Option Value} {base : Heap} (B : Bi mg) (S : Src W.K mg "_law_pot" s__law_pot)  : Cal W mg base "_law_pot" 1 ["_law_script", "_law_k"] (sp__law_pot W) := by
  obtain ⟨f, fd, g, F⟩ := S
  exact ⟨f, fd, g, f__law_pot B F , F.kp, (F.binds (ps := ["_law_script", "_law_k"]) fun _ _ _ _ _ _ us hl => match us, hl with | [_, _], _ => rfl)⟩
theorem go__law_pot {W : Wd} {H : Hp} {Q : VK} {E : XK} {a : Addr} {ns : List Int} {k : Int} (hS : SqL W.K H a (ns.map V.int)) (h0 : 0 ≤ k) (q : ∀ v H', Same H H' → PotAt W H' v → Q v H') : sp__law_pot W [.ref a, .int k] H Q E := ⟨a, ns, k, rfl, rfl, hS, h0, q⟩
theorem ne_lst {H : Hp} {a b : Addr} {o u : HO} (h : H a = some o) (h' : H b = none) : a ≠ b := ne_of_none h h'
def sp__law_draw (W : Wd) : Sp := fun vs H Q _ => match vs with
  | [v_pot_here, v_many] =>
  ∃ m : Int, PotAt W H v_pot_here ∧ v_many = .int m ∧ 0 < m ∧ m < 1267650600228229401496703205376 ∧ ∀ (d : Int) H', Same H H' → 0 ≤ d → d < m → Q (.int d) H'
  | _ => False
def sp0__law_draw (W : Wd) : Sp := fun vs H Q _ => match vs with
  | [v_pot_here, v_many] =>
  ∃ (p : Addr) (g s m : Int), v_pot_here = .ref p ∧ v_many = .int m ∧ H p = some (.lst [.int g, .int s]) ∧ 0 ≤ g ∧ 0 ≤ s ∧ s < 2305843009213693951 ∧ 0 < m ∧ m < 1267650600228229401496703205376 ∧
    ∀ (d g' s' : Int) H', (∀ b o, b ≠ p → H b = some o → H' b = some o) → H' p = some (.lst [.int g', .int s']) → 0 ≤ g' → 0 ≤ s' → s' < 2305843009213693951 → 0 ≤ d → d < m → Q (.int d) H'
  | _ => False
abbrev N__law_draw : List Str := ["_law_pot_here", "_law_many", "_law_digit", "_law_mixed"]
theorem sc__law_draw : FnScope N__law_draw ["_law_pot_here", "_law_many"] (defScope s__law_draw) := ⟨rfl, rfl, rfl, by decide +kernel, rfl, by decide +kernel, by decide +kernel⟩
theorem f__law_draw {W : Wd} {mg : Str → Option Value} {base : Heap} (B : Bi mg) {f : Addr} {fd : FuncData} (F : Fun W.K "_law_draw" "_law_draw" s__law_draw f fd)  : FnOk W.P W.w W.K mg base CX0 1 f fd ["_law_pot_here", "_law_many"] (sp__law_draw W) := by
  have nd := sc__law_draw.nd
  have F0 : FnOk W.P W.w W.K mg base CX0 1 f fd ["_law_pot_here", "_law_many"] (sp0__law_draw W) := by
    refine F.ok sc__law_draw (fun vs H Q E h => ?_) (fun cdv A outer s H vs Q E hr h => ?_)
    · match vs, h with | [_, _], _ => rfl
    · match vs, h with
      | [v_pot_here, v_many], h =>
        change sp0__law_draw W [v_pot_here, v_many] H Q E at h
        refine ⟨tSeq (tIfS (tTest (tOp (rGtU) (tOp (rIxU W.K) (tVar 0) (tC (.int 0))) (tC (.int 0)))) (tSeq (tAsg (tTupN (tCons (tOp (rDivU) (tOp (rIxU W.K) (tVar 0) (tC (.int 0))) (tVar 1)) (tCons (tOp (rModU) (tOp (rIxU W.K) (tVar 0) (tC (.int 0))) (tVar 1)) (tNil)))) (gTup W.K 2 (gCons (gSub (tVar 0) (tC (.int 0)) rSetU) (gCons (gName 2) (gNil))))) (tRet (tVar 2))) (tNext)) (tSeq (tAsg (tOp (rModU) (tOp (rAddN W.K) (tOp (rMulN W.K) (tOp (rIxU W.K) (tVar 0) (tC (.int 1))) (tC (.int 6364136223846793005))) (tC (.int 1442695040888963407))) (tC (.int 2305843009213693951))) (gSub (tVar 0) (tC (.int 1)) rSetU)) (tSeq (tAsg (tOp (rDivU) (tOp (rIxU W.K) (tVar 0) (tC (.int 1))) (tC (.int 131071))) (gName 3)) (tRet (tOp (rModU) (tOp (rDivU) (tOp (rModU) (tOp (rMulN W.K) (tVar 3) (tVar 3)) (tC (.int 1000000007))) (tC (.int 7))) (tVar 1))))), pss_cons (ps_if (pt_cmpR u_gt (pe_ix u_ix (pv 0) (pe_int) (fun _ _ => rfl)) (pe_int) (nomark _)) (pss_cons (ps_asg (pe_tupN (pa_cons (pe_op u_div (pe_ix u_ix (pv 0) (pe_int) (fun _ _ => rfl)) (pv 1)) (pa_cons (pe_op u_mod (pe_ix u_ix (pv 0) (pe_int) (fun _ _ => rfl)) (pv 1)) (pa_nil)))) (pg_tup rfl (pgs_cons (pg_sub (pv 0) (pe_int) (u_set hr.units)) (pgs_cons (pg_name (i := 2) nd rfl (by first | exact Or.inl rfl | exact Or.inr rfl)) (pgs_nil))))) (pss_one (ps_ret (pv 2)))) (pss_nil)) (pss_cons (ps_asg (pe_op u_mod (pe_op u_addN (pe_op u_mulN (pe_ix u_ix (pv 0) (pe_int) (fun _ _ => rfl)) (pe_int)) (pe_int)) (pe_int)) (pg_sub (pv 0) (pe_int) (u_set hr.units))) (pss_cons (ps_set (i := 3) nd rfl (.inl rfl) (pe_op u_div (pe_ix u_ix (pv 0) (pe_int) (fun _ _ => rfl)) (pe_int))) (pss_one (ps_ret (pe_op u_mod (pe_op u_div (pe_op u_mod (pe_op u_mulN (pv 3) (pv 3)) (pe_int)) (pe_int)) (pv 1)))))), ?_⟩
        clear hr
        rw [show L2.start N__law_draw [v_pot_here, v_many] = [some v_pot_here, some v_many, none, none] from rfl]
        obtain ⟨p, g, s, m, rfl, rfl, hp, hg, hs, hs2, hm, hm2, q⟩ := h
        walk_at "Zs"
        refine w_dec (fun h0 => ?_) (fun h0 => ?_)
        · walk_at "Zs"
          rename_i t H1 ht e1 e2
          have hp1 := e1 _ _ hp
          refine w_setl hp1 (j := 0) rfl ?_
          walk_at "Zs"
          refine q _ (g / m) s _ (fun b o hb e => ?_) upd_same (Int.ediv_nonneg hg (by omega)) hs hs2 (Int.emod_nonneg _ (by omega)) (Int.emod_lt_of_pos _ hm)
          rw [upd_ne hb]
          exact e1 _ _ e
        · walk_at "Zs"
          refine w_setl hp (j := 1) rfl ?_
          have hp1 : upd H p (.lst [.int g, .int ((s * 6364136223846793005 + 1442695040888963407) % 2305843009213693951)]) p = some (.lst [.int g, .int ((s * 6364136223846793005 + 1442695040888963407) % 2305843009213693951)]) := upd_same
          walk_at "Zs"
          refine q _ g _ _ (fun b o hb e => ?_) upd_same hg (by omega) (by omega) (Int.emod_nonneg _ (by omega)) (Int.emod_lt_of_pos _ hm)
          rw [upd_ne hb]
          exact e
  refine fn_view pot_flat F0 (fun vs H Q E h => ?_) fun vs H Q E h => ?_
  · match vs, h with | [_, _], _ => rfl
  · match vs, h with
    | [v1, v2], h =>
      obtain ⟨m, ⟨p, rfl, hp⟩, rfl, hm, hm2, q⟩ := h
      refine ⟨p, hp, fun u hu => ?_⟩
      obtain ⟨g, s, rfl, hg, hs, hs2⟩ := hu
      refine ⟨p, g, s, m, rfl, rfl, upd_same, hg, hs, hs2, hm, hm2, fun d g' s' H' e1 e2 h1 h2 h3 h4 h5 => ?_⟩
      refine ⟨_, ⟨g', s', rfl, h1, h2, h3⟩, e2, q d _ (fun b o e => ?_) h4 h5⟩
      by_cases hb : b = p
      · subst hb
        rw [upd_same, ← hp, e]
      · rw [upd_ne hb]
        exact e1 b o hb (by rw [upd_ne hb]; exact e)
theorem c__law_draw {W : Wd} {mg : Str → Option Value} {base : Heap} (B : Bi mg) (S : Src W.K mg "_law_draw" s__law_draw)  : Cal W mg base "_law_draw" 1 ["_law_pot_here", "_law_many"] (sp__law_draw W) := by
  obtain ⟨f, fd, g, F⟩ := S
  exact ⟨f, fd, g, f__law_draw B F , F.kp, (F.binds (ps := ["_law_pot_here", "_law_many"]) fun _ _ _ _ _ _ us hl => match us, hl with | [_, _], _ => rfl)⟩
theorem go__law_draw {W : Wd} {H : Hp} {Q : VK} {E : XK} {v : V} {m : Int} (hp : PotAt W H v) (h0 : 0 < m) (h1 : m < 1267650600228229401496703205376) (k : ∀ (d : Int) H', Same H H' → 0 ≤ d → d < m → Q (.int d) H') : sp__law_draw W [v, .int m] H Q E := ⟨m, hp, rfl, h0, h1, k⟩
local macro_rules | `(tactic| walk_at "Zc") => `(tactic| ((with_reducible refine' go__law_draw ?hp ?h0 ?h1 ?_); (case hp => walk_at "Zpot"); (case h0 => walk_at "Znum"); (case h1 => walk_at "Znum"); intro d H' e h0 h1))
def sp__law_value (W : Wd) : Sp := fun vs H Q _ => match vs with
  | [v_pot_here, v_breadth] =>
  ∃ b : Int, PotAt W H v_pot_here ∧ v_breadth = .int b ∧ 0 ≤ b ∧ b ≤ 60 ∧ ∀ (n : Int) H', Same H H' → 0 ≤ n → n < p2 b → Q (.int n) H'
  | _ => False
abbrev N__law_value : List Str := ["_law_pot_here", "_law_breadth", "_law_top", "_law_far", "_law_turn_here", "_law_some"]
theorem sc__law_value : FnScope N__law_value ["_law_pot_here", "_law_breadth"] (defScope s__law_value) := ⟨rfl, rfl, rfl, by decide +kernel, rfl, by decide +kernel, by decide +kernel⟩
theorem f__law_value {W : Wd} {mg : Str → Option Value} {base : Heap} (B : Bi mg) {f : Addr} {fd : FuncData} (F : Fun W.K "_law_value" "_law_value" s__law_value f fd) (C__law_draw : Cal W mg base "_law_draw" 1 ["_law_pot_here", "_law_many"] (sp__law_draw W)) : FnOk W.P W.w W.K mg base CX0 2 f fd ["_law_pot_here", "_law_breadth"] (sp__law_value W) := by
  obtain ⟨a__law_draw, d__law_draw, g__law_draw, F__law_draw, k__law_draw, b__law_draw⟩ := C__law_draw
  have nd := sc__law_value.nd
  have F0 : FnOk W.P W.w W.K mg base CX0 2 f fd ["_law_pot_here", "_law_breadth"] (sp__law_value W) := by
    refine F.ok sc__law_value (fun vs H Q E h => ?_) (fun cdv A outer s H vs Q E hr h => ?_)
    · match vs, h with | [_, _], _ => rfl
    · match vs, h with
      | [v_pot_here, v_breadth], h =>
        change sp__law_value W [v_pot_here, v_breadth] H Q E at h
        refine ⟨tSeq (tAsg (tOp (rSubU) (tOp (rShlU) (tC (.int 1)) (tVar 1)) (tC (.int 1))) (gName 2)) (tSeq (tAsg (tC (.int 0)) (gName 3)) (tSeq (tFor (iRng1 (tCons (tC (.int 3)) (tNil))) (gName 4) (tAsg (tOp (rAddN W.K) (tOp (rMulN W.K) (tVar 3) (tOp (rCon 1 20 1048576) (tC (.int 1)) (tC (.int 20)))) (tCall (sp__law_draw W) [] E0 (tCons (tVar 0) (tCons (tOp (rCon 1 20 1048576) (tC (.int 1)) (tC (.int 20))) (tNil))))) (gName 3))) (tSeq (tAsg (tLst (tCons (tC (.int 0)) (tCons (tVar 2) (tCons (tOp (rDivU) (tVar 2) (tC (.int 2))) (tCons (tCB (rMin2) (tCons (tVar 2) (tCons (tOp (rAddN W.K) (tOp (rDivU) (tVar 2) (tC (.int 2))) (tC (.int 1))) (tNil)))) (tCons (tCB (rMin2) (tCons (tVar 2) (tCons (tCall (sp__law_draw W) [] E0 (tCons (tVar 0) (tCons (tC (.int 4)) (tNil)))) (tNil)))) (tCons (tOp (rModU) (tVar 3) (tOp (rAddN W.K) (tVar 2) (tC (.int 1)))) (tCons (tOp (rModU) (tVar 3) (tOp (rAddN W.K) (tVar 2) (tC (.int 1)))) (tNil))))))))) (gName 5)) (tRet (tOp (rIxU W.K) (tVar 5) (tCall (sp__law_draw W) [] E0 (tCons (tVar 0) (tCons (tC (.int 7)) (tNil))))))))), pss_cons (ps_set (i := 2) nd rfl (.inl rfl) (pe_op u_sub (pe_op u_shl (pe_int) (pv 1)) (pe_int))) (pss_cons (ps_set (i := 3) nd rfl (.inl rfl) (pe_int)) (pss_cons (ps_for PassesOwn.never rfl (pi_range1 (by rfl) B.b_range (pa_cons (pe_int) (pa_nil))) (pg_name (i := 4) nd rfl (by first | exact Or.inl rfl | exact Or.inr rfl)) (pss_one (ps_set (i := 3) nd rfl (.inl rfl) (pe_op u_addN (pe_op u_mulN (pv 3) (pe_op (u_shlc ⟨by decide, by decide, by decide⟩ (by decide +kernel)) pe_int pe_int)) (pe_call F__law_draw (hr.mono (by decide)) (by rfl) g__law_draw k__law_draw b__law_draw .nil pass0 (pa_cons (pv 0) (pa_cons (pe_op (u_shlc ⟨by decide, by decide, by decide⟩ (by decide +kernel)) pe_int pe_int) (pa_nil)))))))) (pss_cons (ps_set (i := 5) nd rfl (.inl rfl) (pe_lst (pa_cons (pe_int) (pa_cons (pv 2) (pa_cons (pe_op u_div (pv 2) (pe_int)) (pa_cons (pe_callB (call_min2 rfl) (by rfl) B.b_min (by decide +kernel) (pa_cons (pv 2) (pa_cons (pe_op u_addN (pe_op u_div (pv 2) (pe_int)) (pe_int)) (pa_nil)))) (pa_cons (pe_callB (call_min2 rfl) (by rfl) B.b_min (by decide +kernel) (pa_cons (pv 2) (pa_cons (pe_call F__law_draw (hr.mono (by decide)) (by rfl) g__law_draw k__law_draw b__law_draw .nil pass0 (pa_cons (pv 0) (pa_cons (pe_int) (pa_nil)))) (pa_nil)))) (pa_cons (pe_op u_mod (pv 3) (pe_op u_addN (pv 2) (pe_int))) (pa_cons (pe_op u_mod (pv 3) (pe_op u_addN (pv 2) (pe_int))) (pa_nil)))))))))) (pss_one (ps_ret (pe_ix u_ix (pv 5) (pe_call F__law_draw (hr.mono (by decide)) (by rfl) g__law_draw k__law_draw b__law_draw .nil pass0 (pa_cons (pv 0) (pa_cons (pe_int) (pa_nil)))) (fun _ _ => rfl))))))), ?_⟩
        clear hr
        clear F__law_draw g__law_draw k__law_draw b__law_draw d__law_draw a__law_draw
        rw [show L2.start N__law_value [v_pot_here, v_breadth] = [some v_pot_here, some v_breadth, none, none, none, none] from rfl]
        obtain ⟨b, hp, rfl, hb0, hb1, q⟩ := h
        walk_at "Zs"
        refine forR0 (fun j σ' H' => Same H H' ∧ ∃ far y4 y5, σ' = [some v_pot_here, some (.int b), some (.int (p2 b - 1)), some (.int far), y4, y5] ∧ 0 ≤ far ∧ far < 1048576 ^ j) ⟨Same.refl _, 0, _, _, rfl, by decide, by decide⟩ (fun j σ' H' hj h => ?_) (fun σ' H' h => ?_)
        · obtain ⟨g1, far, y4, y5, rfl, hf1, hf2⟩ := h
          walk_at "Zs"
          refine ⟨?_, _, _, _, rfl, by omega, ?_⟩
          · walk_at "Zkt"
          · rw [Int.pow_succ]
            omega
        · obtain ⟨g1, far, y4, y5, rfl, hf1, hf2⟩ := h
          have pb := p2_pos b
          have m1 := Int.emod_nonneg far (Int.ne_of_gt pb)
          have m2 := Int.emod_lt_of_pos far pb
          have e1 : p2 b - 1 + 1 = p2 b := by omega
          walk_at "Zs"
          rw [e1] at *
          tbr_iter (fun n => 0 ≤ n ∧ n < p2 b)
          intro n hn
          refine q n _ ?_ hn.1 hn.2
          walk_at "Zkt"
  exact F0
theorem c__law_value {W : Wd} {mg : Str → Option Value} {base : Heap} (B : Bi mg) (S : Src W.K mg "_law_value" s__law_value) (C__law_draw : Cal W mg base "_law_draw" 1 ["_law_pot_here", "_law_many"] (sp__law_draw W)) : Cal W mg base "_law_value" 2 ["_law_pot_here", "_law_breadth"] (sp__law_value W) := by
  obtain ⟨f, fd, g, F⟩ := S
  exact ⟨f, fd, g, f__law_value B F C__law_draw, F.kp, (F.binds (ps := ["_law_pot_here", "_law_breadth"]) fun _ _ _ _ _ _ us hl => match us, hl with | [_, _], _ => rfl)⟩
theorem go__law_value {W : Wd} {H : Hp} {Q : VK} {E : XK} {v : V} {b : Int} (hp : PotAt W H v) (h0 : 0 ≤ b) (h1 : b ≤ 60) (q : ∀ (n : Int) H', Same H H' → 0 ≤ n → n < p2 b → Q (.int n) H') : sp__law_value W [v, .int b] H Q E := ⟨b, hp, rfl, h0, h1, q⟩
local macro_rules | `(tactic| walk_at "Zc") => `(tactic| ((with_reducible refine' go__law_value ?hp ?h0 ?h1 ?_); (case hp => walk_at "Zpot"); (case h0 => walk_at "Znum"); (case h1 => walk_at "Znum"); intro n H' e h0 h1))
abbrev azS : Str := "abcdefghijklmnopqrstuvwxyz"
theorem az_all : ∀ n : Fin 26, atI azS.cps.toList ((n.val : Nat) : Int) = some (97 + n.val) := by decide +kernel
theorem az_at {i : Int} (h0 : 0 ≤ i) (h1 : i < 26) : atI azS.cps.toList i = some (97 + i.toNat) := by
  have z := az_all ⟨i.toNat, by omega⟩
  have e : ((i.toNat : Nat) : Int) = i := by omega
  rw [← z]
  show atI azS.cps.toList i = atI azS.cps.toList ((i.toNat : Nat) : Int)
  rw [e]
/-- names: unlike by their first signs -/
def NmOk (f t : Int) (nms : List Str) : Prop := nms.Nodup ∧ ∀ z ∈ nms, OkNm z ∧ ∃ j : Int, 0 ≤ j ∧ j < nms.length ∧ z.cps.toList.head? = some (97 + ((f + t * j) % 26).toNat)
theorem nmOk_snoc {f t : Int} {nms : List Str} {z : Str} (h : NmOk f t nms) (hz : OkNm z) (hl : nms.length < 12) (ht : t = 1 ∨ t = 3 ∨ t = 5 ∨ t = 7 ∨ t = 11) (hh : z.cps.toList.head? = some (97 + ((f + t * nms.length) % 26).toNat)) : NmOk f t (nms ++ [z]) := by
  refine ⟨?_, fun y hy => ?_⟩
  · rw [List.nodup_append]
    refine ⟨h.1, by simp, fun y hy w hw e => ?_⟩
    rw [List.mem_singleton.mp hw] at e
    obtain ⟨_, j, j0, j1, ej⟩ := h.2 y hy
    rw [e, hh] at ej
    have e2 := Option.some.inj ej
    rcases ht with rfl | rfl | rfl | rfl | rfl <;> omega
  · rw [List.length_append, List.length_singleton]
    rcases List.mem_append.mp hy with hy | hy
    · obtain ⟨a, j, j0, j1, ej⟩ := h.2 y hy
      exact ⟨a, j, j0, by omega, ej⟩
    · rw [List.mem_singleton.mp hy]
      exact ⟨hz, nms.length, by omega, by omega, hh⟩
def endOk (x : V) : Prop := ∃ z : Str, x = .str z ∧ z.length ≤ 7 ∧ ∀ c ∈ z.cps.toList, 97 ≤ c ∧ c ≤ 122
theorem end_ok : ∀ x ∈ [V.str "", V.str "a", V.str "zz", V.str "abcdefg"], endOk x := fun x hx => by
  simp only [List.mem_cons, List.not_mem_nil, or_false] at hx
  rcases hx with rfl | rfl | rfl | rfl <;> exact ⟨_, rfl, by decide +kernel, by decide +kernel⟩
theorem nm_okN {c : Nat} {z : Str} (h0 : 97 ≤ c) (h1 : c ≤ 122) (hz : z.length ≤ 7) (ha : ∀ c ∈ z.cps.toList, 97 ≤ c ∧ c ≤ 122) : OkNm ((⟨#[c]⟩ : Str) ++ z) ∧ ((⟨#[c]⟩ : Str) ++ z).cps.toList.head? = some c := by
  have e : ((⟨#[c]⟩ : Str) ++ z).cps.toList = c :: z.cps.toList := by
    show ((#[c] : Array Nat) ++ z.cps).toList = _
    simp
  have l : ((⟨#[c]⟩ : Str) ++ z).length = z.length + 1 := by
    show ((⟨#[c]⟩ : Str) ++ z).cps.size = z.cps.size + 1
    rw [← Array.length_toList, e, List.length_cons, Array.length_toList]
  refine ⟨⟨by omega, by omega, ?_⟩, by rw [e]; rfl⟩
  rw [e]
  intro x hx
  rcases List.mem_cons.mp hx with rfl | hx
  · exact ⟨h0, h1⟩
  · exact ha x hx
def sp__law_names (W : Wd) : Sp := fun vs H Q _ => match vs with
  | [v_pot_here, v_many] =>
  ∃ m : Int, PotAt W H v_pot_here ∧ v_many = .int m ∧ 1 ≤ m ∧ m ≤ 12 ∧ ∀ (p : Addr) (nms : List Str) H', Same H H' → H p = none → H' p = some (.lst (nms.map V.str)) → nms.length = m.toNat → (∀ z ∈ nms, OkNm z) → nms.Nodup → Q (.ref p) H'
  | _ => False
abbrev N__law_names : List Str := ["_law_pot_here", "_law_many", "_law_letters", "_law_first", "_law_turn_here", "_law_ends", "_law_k"]
theorem sc__law_names : FnScope N__law_names ["_law_pot_here", "_law_many"] (defScope s__law_names) := ⟨rfl, rfl, rfl, by decide +kernel, rfl, by decide +kernel, by decide +kernel⟩
theorem f__law_names {W : Wd} {mg : Str → Option Value} {base : Heap} (B : Bi mg) {f : Addr} {fd : FuncData} (F : Fun W.K "_law_names" "_law_names" s__law_names f fd) (C__law_draw : Cal W mg base "_law_draw" 1 ["_law_pot_here", "_law_many"] (sp__law_draw W)) : FnOk W.P W.w W.K mg base CX0 2 f fd ["_law_pot_here", "_law_many"] (sp__law_names W) := by
  obtain ⟨a__law_draw, d__law_draw, g__law_draw, F__law_draw, k__law_draw, b__law_draw⟩ := C__law_draw
  have nd := sc__law_names.nd
  have F0 : FnOk W.P W.w W.K mg base CX0 2 f fd ["_law_pot_here", "_law_many"] (sp__law_names W) := by
    refine F.ok sc__law_names (fun vs H Q E h => ?_) (fun cdv A outer s H vs Q E hr h => ?_)
    · match vs, h with | [_, _], _ => rfl
    · match vs, h with
      | [v_pot_here, v_many], h =>
        change sp__law_names W [v_pot_here, v_many] H Q E at h
        refine ⟨tSeq (tAsg (tC (.str "abcdefghijklmnopqrstuvwxyz")) (gName 2)) (tSeq (tAsg (tTupN (tCons (tCall (sp__law_draw W) [] E0 (tCons (tVar 0) (tCons (tC (.int 26)) (tNil)))) (tCons (tOp (rIxU W.K) (tLst (tCons (tC (.int 1)) (tCons (tC (.int 3)) (tCons (tC (.int 5)) (tCons (tC (.int 7)) (tCons (tC (.int 11)) (tNil))))))) (tCall (sp__law_draw W) [] E0 (tCons (tVar 0) (tCons (tC (.int 5)) (tNil))))) (tNil)))) (gTup W.K 2 (gCons (gName 3) (gCons (gName 4) (gNil))))) (tSeq (tAsg (tLst (tCons (tC (.str "")) (tCons (tC (.str "a")) (tCons (tC (.str "zz")) (tCons (tC (.str "abcdefg")) (tNil)))))) (gName 5)) (tRet (tLc (iRng1 (tCons (tVar 1) (tNil))) (gName 6) (tYes) (tOp (rAddN W.K) (tOp (rIxU W.K) (tVar 2) (tOp (rModU) (tOp (rAddN W.K) (tVar 3) (tOp (rMulN W.K) (tVar 4) (tVar 6))) (tC (.int 26)))) (tOp (rIxU W.K) (tVar 5) (tCall (sp__law_draw W) [] E0 (tCons (tVar 0) (tCons (tC (.int 4)) (tNil)))))) [6])))), pss_cons (ps_set (i := 2) nd rfl (.inr rfl) (pe_str)) (pss_cons (ps_asg (pe_tupN (pa_cons (pe_call F__law_draw (hr.mono (by decide)) (by rfl) g__law_draw k__law_draw b__law_draw .nil pass0 (pa_cons (pv 0) (pa_cons (pe_int) (pa_nil)))) (pa_cons (pe_ix u_ix (pe_lst (pa_cons (pe_int) (pa_cons (pe_int) (pa_cons (pe_int) (pa_cons (pe_int) (pa_cons (pe_int) (pa_nil))))))) (pe_call F__law_draw (hr.mono (by decide)) (by rfl) g__law_draw k__law_draw b__law_draw .nil pass0 (pa_cons (pv 0) (pa_cons (pe_int) (pa_nil)))) (fun _ _ => rfl)) (pa_nil)))) (pg_tup rfl (pgs_cons (pg_name (i := 3) nd rfl (by first | exact Or.inl rfl | exact Or.inr rfl)) (pgs_cons (pg_name (i := 4) nd rfl (by first | exact Or.inl rfl | exact Or.inr rfl)) (pgs_nil))))) (pss_cons (ps_set (i := 5) nd rfl (.inr rfl) (pe_lst (pa_cons (pe_str) (pa_cons (pe_str) (pa_cons (pe_str) (pa_cons (pe_str) (pa_nil))))))) (pss_one (ps_ret (pe_lc (own := [("_law_k", 6)]) rfl nd (pi_range1 (by rfl) B.b_range (pa_cons (pv 1) (pa_nil))) (blkOk_by (own := [("_law_k", 6)]) (N := N__law_names) (sc := defScope s__law_names) (by decide +kernel)) (fun _ _ _ _ _ => pg_name (i := 6) nd rfl (by first | exact Or.inl rfl | exact Or.inr rfl)) (fun _ _ _ _ _ => pts_nil) (fun _ _ _ _ _ => pe_op u_addN (pe_ix u_ix (pv 2) (pe_op u_mod (pe_op u_addN (pv 3) (pe_op u_mulN (pv 4) (pv 6))) (pe_int)) (fun _ _ => rfl)) (pe_ix u_ix (pv 5) (pe_call F__law_draw (hr.mono (by decide)) (by rfl) g__law_draw k__law_draw b__law_draw .nil pass0 (pa_cons (pv 0) (pa_cons (pe_int) (pa_nil)))) (fun _ _ => rfl)))))))), ?_⟩
        clear hr
        clear F__law_draw g__law_draw k__law_draw b__law_draw d__law_draw a__law_draw
        rw [show L2.start N__law_names [v_pot_here, v_many] = [some v_pot_here, some v_many, none, none, none, none, none] from rfl]
        obtain ⟨m, hp, rfl, hm0, hm1, q⟩ := h
        walk_at "Zs"
        tbr_iter (fun t => t = 1 ∨ t = 3 ∨ t = 5 ∨ t = 7 ∨ t = 11)
        intro t ht
        walk_at "Zs"
        rename_i f G1 f1 h1 h1' p2 G2 np2 f2 h2 d3 G3 f3 h3 h3' p4 G4 np4 f4 h4 p5 G5 np5 f5 h5
        have S5 : Same H G5 := by walk_at "Zkt"
        refine lcR (n := m.toNat) (fun i acc _ => ∃ nms : List Str, acc = nms.map V.str ∧ nms.length = i ∧ NmOk f t nms) stb_pure (by omega) (fun i acc _ h => ?_) (fun _ _ => ⟨[], rfl, rfl, .nil, fun _ h => nomatch h⟩) (fun i acc H' hi e6 ea k k' hk hk' => ?_) fun D acc H6 hD e6 hD' ea => ?_
        · obtain ⟨nms, rfl, h, _⟩ := h
          rw [List.length_map, h]
          exact Nat.le_refl _
        · obtain ⟨nms, rfl, hl, hn⟩ := ea
          walk_at "Zs"
          refine w_ixs (by decide +kernel) (az_at (by omega) (by omega)) ?_
          walk_at "Zs"
          refine w_ixP endOk (by walk_at "Zsql") (by omega) (by walk_at "Zlen") end_ok fun x hx => ?_
          obtain ⟨z, rfl, hz1, hz2⟩ := hx
          have hz3 := nm_okN (c := 97 + ((f + t * (i : Int)) % 26).toNat) (by omega) (by omega) hz1 hz2
          refine w_addsN (Nat.le_trans (m := 8) ?_ (by decide)) ?_
          · show 1 + z.length ≤ 8
            omega
          rename_i d7 G7 f7 h7 h7'
          refine hk _ _ f7 ⟨nms ++ [_], by rw [List.map_append]; rfl, by rw [List.length_append, hl]; rfl, nmOk_snoc hn hz3.1 (by omega) ht ?_⟩
          rw [hz3.2, hl]
        · obtain ⟨nms, rfl, hl, hn⟩ := ea
          have nD : H D = none := by
            cases hc : H D with
            | none => rfl
            | some u => rw [S5 _ _ hc] at hD; cases hD
          exact q D nms _ (S5.trans e6) nD hD' hl (fun z hz => (hn.2 z hz).1) hn.1
  exact F0
theorem c__law_names {W : Wd} {mg : Str → Option Value} {base : Heap} (B : Bi mg) (S : Src W.K mg "_law_names" s__law_names) (C__law_draw : Cal W mg base "_law_draw" 1 ["_law_pot_here", "_law_many"] (sp__law_draw W)) : Cal W mg base "_law_names" 2 ["_law_pot_here", "_law_many"] (sp__law_names W) := by
  obtain ⟨f, fd, g, F⟩ := S
  exact ⟨f, fd, g, f__law_names B F C__law_draw, F.kp, (F.binds (ps := ["_law_pot_here", "_law_many"]) fun _ _ _ _ _ _ us hl => match us, hl with | [_, _], _ => rfl)⟩
theorem go__law_names {W : Wd} {H : Hp} {Q : VK} {E : XK} {v : V} {m : Int} (hp : PotAt W H v) (h0 : 1 ≤ m) (h1 : m ≤ 12) (q : ∀ (p : Addr) (nms : List Str) H', Same H H' → H p = none → H' p = some (.lst (nms.map V.str)) → nms.length = m.toNat → (∀ z ∈ nms, OkNm z) → nms.Nodup → Q (.ref p) H') : sp__law_names W [v, .int m] H Q E := ⟨m, hp, rfl, h0, h1, q⟩
theorem dvd_odd {c : Int} (hc : c % 2 = 1) : ∀ (n : Nat) (x : Int), (2 : Int) ^ n ∣ c * x → (2 : Int) ^ n ∣ x
  | 0, x, _ => by simp
  | n + 1, x, h => by
    obtain ⟨k, hk⟩ := h
    have e0 : (2 : Int) ^ (n + 1) = 2 * 2 ^ n := by rw [Int.pow_succ, Int.mul_comm]
    rw [e0, Int.mul_assoc] at hk
    have hx : x % 2 = 0 := by
      have z : (c * x) % 2 = 0 := by rw [hk]; exact Int.mul_emod_right 2 _
      rw [Int.mul_emod, hc] at z
      omega
    obtain ⟨y, rfl⟩ : ∃ y, x = 2 * y := ⟨x / 2, by omega⟩
    have h2 : (2 : Int) ^ n ∣ c * y := ⟨k, by
      have z : c * (2 * y) = 2 * (c * y) := by rw [← Int.mul_assoc, Int.mul_comm c 2, Int.mul_assoc]
      omega⟩
    obtain ⟨w, hw⟩ := dvd_odd hc n y h2
    exact ⟨w, by rw [hw, e0, Int.mul_assoc]⟩
theorem turn_ne {b f c i j : Int} (hc : c % 2 = 1) (h0 : 0 ≤ i) (h1 : i < j) (h2 : j < p2 b) (e : (f + c * i) % p2 b = (f + c * j) % p2 b) : False := by
  have hd : p2 b ∣ c * (j - i) := by
    have z : (f + c * j) - (f + c * i) = c * (j - i) := by
      rw [Int.mul_sub]
      omega
    rw [← z]
    exact Int.dvd_of_emod_eq_zero (Int.emod_eq_emod_iff_emod_sub_eq_zero.mp e.symm)
  have h3 := dvd_odd hc b.toNat _ hd
  have h4 := Int.le_of_dvd (by omega) h3
  have h5 : p2 b = 2 ^ b.toNat := rfl
  omega
def sp__law_turn (W : Wd) : Sp := fun vs H Q _ => match vs with
  | [v_pot_here, v_breadth] =>
  ∃ b : Int, PotAt W H v_pot_here ∧ v_breadth = .int b ∧ 1 ≤ b ∧ b ≤ 40 ∧ ∀ (ns : List Int) v H', Same H H' → Dq W.K H' v (.tuple (ns.map .int)) → OkKd 0 b (.turn ns) → Q v H'
  | _ => False
abbrev N__law_turn : List Str := ["_law_pot_here", "_law_breadth", "_law_top", "_law_many", "_law_first", "_law_by", "_law_k"]
theorem sc__law_turn : FnScope N__law_turn ["_law_pot_here", "_law_breadth"] (defScope s__law_turn) := ⟨rfl, rfl, rfl, by decide +kernel, rfl, by decide +kernel, by decide +kernel⟩
theorem f__law_turn {W : Wd} {mg : Str → Option Value} {base : Heap} (B : Bi mg) {f : Addr} {fd : FuncData} (F : Fun W.K "_law_turn" "_law_turn" s__law_turn f fd) (C__law_value : Cal W mg base "_law_value" 2 ["_law_pot_here", "_law_breadth"] (sp__law_value W)) (C__law_draw : Cal W mg base "_law_draw" 1 ["_law_pot_here", "_law_many"] (sp__law_draw W)) : FnOk W.P W.w W.K mg base CX0 3 f fd ["_law_pot_here", "_law_breadth"] (sp__law_turn W) := by
  obtain ⟨a__law_value, d__law_value, g__law_value, F__law_value, k__law_value, b__law_value⟩ := C__law_value
  obtain ⟨a__law_draw, d__law_draw, g__law_draw, F__law_draw, k__law_draw, b__law_draw⟩ := C__law_draw
  have nd := sc__law_turn.nd
  have F0 : FnOk W.P W.w W.K mg base CX0 3 f fd ["_law_pot_here", "_law_breadth"] (sp__law_turn W) := by
    refine F.ok sc__law_turn (fun vs H Q E h => ?_) (fun cdv A outer s H vs Q E hr h => ?_)
    · match vs, h with | [_, _], _ => rfl
    · match vs, h with
      | [v_pot_here, v_breadth], h =>
        change sp__law_turn W [v_pot_here, v_breadth] H Q E at h
        refine ⟨tSeq (tAsg (tOp (rSubU) (tOp (rShlU) (tC (.int 1)) (tVar 1)) (tC (.int 1))) (gName 2)) (tSeq (tAsg (tCB (rMin2) (tCons (tOp (rAddN W.K) (tC (.int 2)) (tCall (sp__law_draw W) [] E0 (tCons (tVar 0) (tCons (tC (.int 11)) (tNil))))) (tCons (tOp (rAddN W.K) (tVar 2) (tC (.int 1))) (tNil)))) (gName 3)) (tSeq (tAsg (tTupN (tCons (tCall (sp__law_value W) [] E0 (tCons (tVar 0) (tCons (tVar 1) (tNil)))) (tCons (tOp (rAddN W.K) (tOp (rMulN W.K) (tC (.int 2)) (tCall (sp__law_value W) [] E0 (tCons (tVar 0) (tCons (tVar 1) (tNil))))) (tC (.int 1))) (tNil)))) (gTup W.K 2 (gCons (gName 4) (gCons (gName 5) (gNil))))) (tRet (tCB (rTupleOfN W.K) (tCons (tLc (iRng1 (tCons (tVar 3) (tNil))) (gName 6) (tYes) (tOp (rModU) (tOp (rAddN W.K) (tVar 4) (tOp (rMulN W.K) (tVar 5) (tVar 6))) (tOp (rAddN W.K) (tVar 2) (tC (.int 1)))) [6]) (tNil)))))), pss_cons (ps_set (i := 2) nd rfl (.inr rfl) (pe_op u_sub (pe_op u_shl (pe_int) (pv 1)) (pe_int))) (pss_cons (ps_set (i := 3) nd rfl (.inl rfl) (pe_callB (call_min2 rfl) (by rfl) B.b_min (by decide +kernel) (pa_cons (pe_op u_addN (pe_int) (pe_call F__law_draw (hr.mono (by decide)) (by rfl) g__law_draw k__law_draw b__law_draw .nil pass0 (pa_cons (pv 0) (pa_cons (pe_int) (pa_nil))))) (pa_cons (pe_op u_addN (pv 2) (pe_int)) (pa_nil))))) (pss_cons (ps_asg (pe_tupN (pa_cons (pe_call F__law_value (hr.mono (by decide)) (by rfl) g__law_value k__law_value b__law_value .nil pass0 (pa_cons (pv 0) (pa_cons (pv 1) (pa_nil)))) (pa_cons (pe_op u_addN (pe_op u_mulN (pe_int) (pe_call F__law_value (hr.mono (by decide)) (by rfl) g__law_value k__law_value b__law_value .nil pass0 (pa_cons (pv 0) (pa_cons (pv 1) (pa_nil))))) (pe_int)) (pa_nil)))) (pg_tup rfl (pgs_cons (pg_name (i := 4) nd rfl (by first | exact Or.inl rfl | exact Or.inr rfl)) (pgs_cons (pg_name (i := 5) nd rfl (by first | exact Or.inl rfl | exact Or.inr rfl)) (pgs_nil))))) (pss_one (ps_ret (pe_callTy call_tuple_ofN (by rfl) B.b_tuple (by decide +kernel) (pa_cons (pe_lc (own := [("_law_k", 6)]) rfl nd (pi_range1 (by rfl) B.b_range (pa_cons (pv 3) (pa_nil))) (blkOk_by (own := [("_law_k", 6)]) (N := N__law_turn) (sc := defScope s__law_turn) (by decide +kernel)) (fun _ _ _ _ _ => pg_name (i := 6) nd rfl (by first | exact Or.inl rfl | exact Or.inr rfl)) (fun _ _ _ _ _ => pts_nil) (fun _ _ _ _ _ => pe_op u_mod (pe_op u_addN (pv 4) (pe_op u_mulN (pv 5) (pv 6))) (pe_op u_addN (pv 2) (pe_int)))) (pa_nil))))))), ?_⟩
        clear hr
        clear F__law_value g__law_value k__law_value b__law_value d__law_value a__law_value
        clear F__law_draw g__law_draw k__law_draw b__law_draw d__law_draw a__law_draw
        rw [show L2.start N__law_turn [v_pot_here, v_breadth] = [some v_pot_here, some v_breadth, none, none, none, none, none] from rfl]
        obtain ⟨b, hp, rfl, hb0, hb1, q⟩ := h
        have pb := p2_pos b
        have pb2 : 2 ≤ p2 b := p2_le (m := 1) hb0
        walk_at "Zs"
        rename_i d1 G1 f1 h1 h1' n2 G2 f2 h2 h2' n3 G3 f3 h3 h3' p4 G4 np4 f4 h4
        generalize hmm : (if p2 b - 1 + 1 < 2 + d1 then p2 b - 1 + 1 else 2 + d1) = m
        have hm3 : (m = p2 b ∧ p2 b < 2 + d1) ∨ (m = 2 + d1 ∧ 2 + d1 ≤ p2 b) := by split at hmm <;> omega
        have m0 : 2 ≤ m := by omega
        have m1 : m ≤ 12 := by omega
        have m2 : m ≤ p2 b := by omega
        refine lcR (n := m.toNat) (fun i acc _ => ∃ ns : List Int, acc = ns.map V.int ∧ ns.length = i ∧ ns.Nodup ∧ ∀ n ∈ ns, ∃ j : Int, 0 ≤ j ∧ j < i ∧ n = (n2 + (2 * n3 + 1) * j) % p2 b) stb_pure (by omega) (fun i acc _ h => ?_) (fun _ _ => ⟨[], rfl, rfl, .nil, fun _ h => nomatch h⟩) (fun i acc H' hi e6 ea k k' hk hk' => ?_) fun D acc H6 hD e6 hD' ea => ?_
        · obtain ⟨ns, rfl, h, _⟩ := h
          rw [List.length_map, h]
          exact Nat.le_refl _
        · obtain ⟨ns, rfl, hl, hn, hj⟩ := ea
          walk_at "Zs"
          have e1 : p2 b - 1 + 1 = p2 b := by omega
          rw [e1]
          refine hk _ _ (Same.refl _) ⟨ns ++ [_], by rw [List.map_append]; rfl, by rw [List.length_append, hl]; rfl, ?_, fun n hn2 => ?_⟩
          · rw [List.nodup_append]
            refine ⟨hn, by simp, fun y hy w hw e => ?_⟩
            rw [List.mem_singleton.mp hw] at e
            obtain ⟨j, j0, j1, ej⟩ := hj y hy
            rw [ej] at e
            exact turn_ne (by omega) j0 j1 (by omega) e
          · rcases List.mem_append.mp hn2 with hn2 | hn2
            · obtain ⟨j, j0, j1, ej⟩ := hj n hn2
              exact ⟨j, j0, by omega, ej⟩
            · rw [List.mem_singleton.mp hn2]
              exact ⟨i, by omega, by omega, rfl⟩
        · obtain ⟨ns, rfl, hl, hn, hj⟩ := ea
          refine w_tupleN (SqL.of hD') fun p H7 np e7 hT => ?_
          refine q ns _ _ ?_ (dq_ofN hT) ⟨by omega, by omega, fun n hn2 => ?_, hn⟩
          · walk_at "Zkt"
          · obtain ⟨j, _, _, rfl⟩ := hj n hn2
            exact ⟨Int.emod_nonneg _ (by omega), Int.emod_lt_of_pos _ pb⟩
  exact F0
theorem c__law_turn {W : Wd} {mg : Str → Option Value} {base : Heap} (B : Bi mg) (S : Src W.K mg "_law_turn" s__law_turn) (C__law_value : Cal W mg base "_law_value" 2 ["_law_pot_here", "_law_breadth"] (sp__law_value W)) (C__law_draw : Cal W mg base "_law_draw" 1 ["_law_pot_here", "_law_many"] (sp__law_draw W)) : Cal W mg base "_law_turn" 3 ["_law_pot_here", "_law_breadth"] (sp__law_turn W) := by
  obtain ⟨f, fd, g, F⟩ := S
  exact ⟨f, fd, g, f__law_turn B F C__law_value C__law_draw, F.kp, (F.binds (ps := ["_law_pot_here", "_law_breadth"]) fun _ _ _ _ _ _ us hl => match us, hl with | [_, _], _ => rfl)⟩
theorem go__law_turn {W : Wd} {H : Hp} {Q : VK} {E : XK} {v : V} {b : Int} (hp : PotAt W H v) (h0 : 1 ≤ b) (h1 : b ≤ 40) (q : ∀ (ns : List Int) v H', Same H H' → Dq W.K H' v (.tuple (ns.map .int)) → OkKd 0 b (.turn ns) → Q v H') : sp__law_turn W [v, .int b] H Q E := ⟨b, hp, rfl, h0, h1, q⟩
theorem okKd_turn {b : Int} {pl : Nat} {ns : List Int} (h : OkKd 0 b (.turn ns)) : OkKd pl b (.turn ns) := h
def sp__law_kind (W : Wd) : Sp := fun vs H Q _ => match vs with
  | [v_pot_here, v_place, v_breadth] =>
  ∃ (pl : Nat) (b : Int), PotAt W H v_pot_here ∧ v_place = .int pl ∧ pl ≤ 11 ∧ v_breadth = .int b ∧ 1 ≤ b ∧ b ≤ 40 ∧ ∀ (k : Kd) v H', Same H H' → Dq W.K H' v (kdD k) → OkKd pl b k → Q v H'
  | _ => False
abbrev N__law_kind : List Str := ["_law_pot_here", "_law_place", "_law_breadth", "_law_way"]
theorem sc__law_kind : FnScope N__law_kind ["_law_pot_here", "_law_place", "_law_breadth"] (defScope s__law_kind) := ⟨rfl, rfl, rfl, by decide +kernel, rfl, by decide +kernel, by decide +kernel⟩
theorem f__law_kind {W : Wd} {mg : Str → Option Value} {base : Heap} (B : Bi mg) {f : Addr} {fd : FuncData} (F : Fun W.K "_law_kind" "_law_kind" s__law_kind f fd) (C__law_draw : Cal W mg base "_law_draw" 1 ["_law_pot_here", "_law_many"] (sp__law_draw W)) (C__law_turn : Cal W mg base "_law_turn" 3 ["_law_pot_here", "_law_breadth"] (sp__law_turn W)) (C__law_value : Cal W mg base "_law_value" 2 ["_law_pot_here", "_law_breadth"] (sp__law_value W)) : FnOk W.P W.w W.K mg base CX0 4 f fd ["_law_pot_here", "_law_place", "_law_breadth"] (sp__law_kind W) := by
  obtain ⟨a__law_draw, d__law_draw, g__law_draw, F__law_draw, k__law_draw, b__law_draw⟩ := C__law_draw
  obtain ⟨a__law_turn, d__law_turn, g__law_turn, F__law_turn, k__law_turn, b__law_turn⟩ := C__law_turn
  obtain ⟨a__law_value, d__law_value, g__law_value, F__law_value, k__law_value, b__law_value⟩ := C__law_value
  have nd := sc__law_kind.nd
  have F0 : FnOk W.P W.w W.K mg base CX0 4 f fd ["_law_pot_here", "_law_place", "_law_breadth"] (sp__law_kind W) := by
    refine F.ok sc__law_kind (fun vs H Q E h => ?_) (fun cdv A outer s H vs Q E hr h => ?_)
    · match vs, h with | [_, _, _], _ => rfl
    · match vs, h with
      | [v_pot_here, v_place, v_breadth], h =>
        change sp__law_kind W [v_pot_here, v_place, v_breadth] H Q E at h
        refine ⟨tSeq (tAsg (tCall (sp__law_draw W) [] E0 (tCons (tVar 0) (tCons (tC (.int 7)) (tNil)))) (gName 3)) (tSeq (tIfS (tTest (tOp (rLtU W.K) (tVar 3) (tC (.int 2)))) (tRet (tOp (rIxU W.K) (tLst (tCons (tTupN (tCons (tC (.str "still")) (tNil))) (tCons (tTupN (tCons (tC (.str "drawn")) (tNil))) (tNil)))) (tVar 3))) (tNext)) (tSeq (tIfS (tTest (tOp (rLtU W.K) (tVar 3) (tC (.int 4)))) (tRet (tTupN (tCons (tC (.str "step")) (tCons (tOp (rIxU W.K) (tLst (tCons (tCall (sp__law_value W) [] E0 (tCons (tVar 0) (tCons (tVar 2) (tNil)))) (tCons (tC (.int 1)) (tNil)))) (tCall (sp__law_draw W) [] E0 (tCons (tVar 0) (tCons (tC (.int 2)) (tNil))))) (tNil))))) (tNext)) (tSeq (tIfS (tTest (tOp (rEqU W.K) (tVar 3) (tC (.int 4)))) (tRet (tTupN (tCons (tC (.str "turn")) (tCons (tCall (sp__law_turn W) [] E0 (tCons (tVar 0) (tCons (tVar 2) (tNil)))) (tNil))))) (tNext)) (tSeq (tIfS (tTest (tOp (rEqU W.K) (tVar 1) (tC (.int 0)))) (tRet (tTupN (tCons (tC (.str "still")) (tNil)))) (tNext)) (tRet (tTupN (tCons (tC (.str "with")) (tCons (tCall (sp__law_draw W) [] E0 (tCons (tVar 0) (tCons (tVar 1) (tNil)))) (tCons (tOp (rIxU W.K) (tLst (tCons (tC (.int 0)) (tCons (tC (.int 1)) (tCons (tUn (rU fun i => .int (-i)) (tC (.int 1))) (tCons (tC (.int 99)) (tCons (tUn (rU fun i => .int (-i)) (tC (.int 99))) (tCons (tOp (rSubU) (tCall (sp__law_draw W) [] E0 (tCons (tVar 0) (tCons (tC (.int 199)) (tNil)))) (tC (.int 99))) (tNil)))))))) (tCall (sp__law_draw W) [] E0 (tCons (tVar 0) (tCons (tC (.int 6)) (tNil))))) (tNil)))))))))), pss_cons (ps_set (i := 3) nd rfl (.inl rfl) (pe_call F__law_draw (hr.mono (by decide)) (by rfl) g__law_draw k__law_draw b__law_draw .nil pass0 (pa_cons (pv 0) (pa_cons (pe_int) (pa_nil))))) (pss_cons (ps_if (pt_cmpR u_lt (pv 3) (pe_int) (nomark _)) (pss_one (ps_ret (pe_ix u_ix (pe_lst (pa_cons (pe_tupN (pa_cons (pe_str) (pa_nil))) (pa_cons (pe_tupN (pa_cons (pe_str) (pa_nil))) (pa_nil)))) (pv 3) (fun _ _ => rfl)))) (pss_nil)) (pss_cons (ps_if (pt_cmpR u_lt (pv 3) (pe_int) (nomark _)) (pss_one (ps_ret (pe_tupN (pa_cons (pe_str) (pa_cons (pe_ix u_ix (pe_lst (pa_cons (pe_call F__law_value (hr.mono (by decide)) (by rfl) g__law_value k__law_value b__law_value .nil pass0 (pa_cons (pv 0) (pa_cons (pv 2) (pa_nil)))) (pa_cons (pe_int) (pa_nil)))) (pe_call F__law_draw (hr.mono (by decide)) (by rfl) g__law_draw k__law_draw b__law_draw .nil pass0 (pa_cons (pv 0) (pa_cons (pe_int) (pa_nil)))) (fun _ _ => rfl)) (pa_nil)))))) (pss_nil)) (pss_cons (ps_if (pt_cmpR (u_eq hr.units) (pv 3) (pe_int) (nomark _)) (pss_one (ps_ret (pe_tupN (pa_cons (pe_str) (pa_cons (pe_call F__law_turn (hr.mono (by decide)) (by rfl) g__law_turn k__law_turn b__law_turn .nil pass0 (pa_cons (pv 0) (pa_cons (pv 2) (pa_nil)))) (pa_nil)))))) (pss_nil)) (pss_cons (ps_if (pt_cmpR (u_eq hr.units) (pv 1) (pe_int) (nomark _)) (pss_one (ps_ret (pe_tupN (pa_cons (pe_str) (pa_nil))))) (pss_nil)) (pss_one (ps_ret (pe_tupN (pa_cons (pe_str) (pa_cons (pe_call F__law_draw (hr.mono (by decide)) (by rfl) g__law_draw k__law_draw b__law_draw .nil pass0 (pa_cons (pv 0) (pa_cons (pv 1) (pa_nil)))) (pa_cons (pe_ix u_ix (pe_lst (pa_cons (pe_int) (pa_cons (pe_int) (pa_cons (pe_un un_neg (pe_int)) (pa_cons (pe_int) (pa_cons (pe_un un_neg (pe_int)) (pa_cons (pe_op u_sub (pe_call F__law_draw (hr.mono (by decide)) (by rfl) g__law_draw k__law_draw b__law_draw .nil pass0 (pa_cons (pv 0) (pa_cons (pe_int) (pa_nil)))) (pe_int)) (pa_nil)))))))) (pe_call F__law_draw (hr.mono (by decide)) (by rfl) g__law_draw k__law_draw b__law_draw .nil pass0 (pa_cons (pv 0) (pa_cons (pe_int) (pa_nil)))) (fun _ _ => rfl)) (pa_nil))))))))))), ?_⟩
        clear hr
        clear F__law_draw g__law_draw k__law_draw b__law_draw d__law_draw a__law_draw
        clear F__law_turn g__law_turn k__law_turn b__law_turn d__law_turn a__law_turn
        clear F__law_value g__law_value k__law_value b__law_value d__law_value a__law_value
        rw [show L2.start N__law_kind [v_pot_here, v_place, v_breadth] = [some v_pot_here, some v_place, some v_breadth, none] from rfl]
        obtain ⟨pl, b, hp, rfl, hpl, rfl, hb0, hb1, q⟩ := h
        walk_at "Zs"
        rename_i way G1 f1 h1 h1'
        refine w_dec (fun c1 => ?_) (fun c1 => ?_)
        · walk_at "Zs"
          rename_i p2 G2 np2 f2 h2 p3 G3 np3 f3 h3 p4 G4 np4 f4 h4
          rcases (show way = 0 ∨ way = 1 by omega) with rfl | rfl
          · refine w_ixl (SqL.of h4) rfl ?_
            exact q .still _ _ (f1.trans (f2.trans (f3.trans f4))) (dq_mono (f3.trans f4) (dq_new h2 (dqs_one (.str _)))) trivial
          · refine w_ixl (SqL.of h4) rfl ?_
            exact q .drawn _ _ (f1.trans (f2.trans (f3.trans f4))) (dq_mono f4 (dq_new h3 (dqs_one (.str _)))) trivial
        · walk_at "Zs"
          refine w_dec (fun c2 => ?_) (fun c2 => ?_)
          · have pb := p2_pos b
            have pb2 : 2 ≤ p2 b := p2_le (m := 1) hb0
            walk_at "Zs"
            tbr_iter (fun n => 0 ≤ n ∧ n < p2 b)
            intro n hn
            walk_at "Zs"
            rename_i p5 G5 np5 f5 h5
            refine q (.step n) _ _ ?_ (dq_new h5 (dqs_two (.str _) (.int n))) hn
            walk_at "Zkt"
          · walk_at "Zs"
            refine w_dec (fun c3 => ?_) (fun c3 => ?_)
            · walk_at "Zs"
              refine go__law_turn (by walk_at "Zpot") hb0 hb1 fun ns v H2 e2 hd hk => ?_
              walk_at "Zs"
              rename_i p5 G5 np5 f5 h5
              refine q (.turn ns) _ _ ?_ (dq_new h5 (dqs_two (.str _) (dq_mono f5 hd))) (okKd_turn hk)
              walk_at "Zkt"
            · walk_at "Zs"
              refine w_dec (fun c4 => ?_) (fun c4 => ?_)
              · walk_at "Zs"
                rename_i p5 G5 np5 f5 h5
                refine q .still _ _ ?_ (dq_new h5 (dqs_one (.str _))) trivial
                walk_at "Zkt"
              · walk_at "Zs"
                rename_i p5 G5 f5 h5 h5' p6 G6 f6 h6 h6' p7 G7 np7 f7 h7 p8 G8 f8 h8 h8'
                tbr_iter (fun n => -99 ≤ n ∧ n ≤ 99)
                intro n hn
                walk_at "Zs"
                rename_i p9 G9 np9 f9 h9
                refine q (.wth p5 n) _ _ ?_ (dq_new h9 (.cons (.str _) (dqs_two (.int _) (.int n)))) ⟨h5, h5', hn⟩
                walk_at "Zkt"
  exact F0
theorem c__law_kind {W : Wd} {mg : Str → Option Value} {base : Heap} (B : Bi mg) (S : Src W.K mg "_law_kind" s__law_kind) (C__law_draw : Cal W mg base "_law_draw" 1 ["_law_pot_here", "_law_many"] (sp__law_draw W)) (C__law_turn : Cal W mg base "_law_turn" 3 ["_law_pot_here", "_law_breadth"] (sp__law_turn W)) (C__law_value : Cal W mg base "_law_value" 2 ["_law_pot_here", "_law_breadth"] (sp__law_value W)) : Cal W mg base "_law_kind" 4 ["_law_pot_here", "_law_place", "_law_breadth"] (sp__law_kind W) := by
  obtain ⟨f, fd, g, F⟩ := S
  exact ⟨f, fd, g, f__law_kind B F C__law_draw C__law_turn C__law_value, F.kp, (F.binds (ps := ["_law_pot_here", "_law_place", "_law_breadth"]) fun _ _ _ _ _ _ us hl => match us, hl with | [_, _, _], _ => rfl)⟩
theorem go__law_kind {W : Wd} {H : Hp} {Q : VK} {E : XK} {v : V} {pl : Nat} {b : Int} (hp : PotAt W H v) (hpl : pl ≤ 11) (h0 : 1 ≤ b) (h1 : b ≤ 40) (q : ∀ (k : Kd) v H', Same H H' → Dq W.K H' v (kdD k) → OkKd pl b k → Q v H') : sp__law_kind W [v, .int (pl : Int), .int b] H Q E := ⟨pl, b, hp, rfl, hpl, rfl, h0, h1, q⟩
def sp__law_shape (W : Wd) : Sp := fun vs H Q _ => match vs with
  | [v_pot_here] =>
  PotAt W H v_pot_here ∧ ∀ (s : Shp) v H', Same H H' → Dq W.K H' v (shD s) → OkShp s → Q v H'
  | _ => False
abbrev N__law_shape : List Str := ["_law_pot_here", "_law_many", "_law_fields", "_law_place", "_law_name", "_law_breadth"]
theorem sc__law_shape : FnScope N__law_shape ["_law_pot_here"] (defScope s__law_shape) := ⟨rfl, rfl, rfl, by decide +kernel, rfl, by decide +kernel, by decide +kernel⟩
theorem f__law_shape {W : Wd} {mg : Str → Option Value} {base : Heap} (B : Bi mg) {f : Addr} {fd : FuncData} (F : Fun W.K "_law_shape" "_law_shape" s__law_shape f fd) (C__law_draw : Cal W mg base "_law_draw" 1 ["_law_pot_here", "_law_many"] (sp__law_draw W)) (C__law_names : Cal W mg base "_law_names" 2 ["_law_pot_here", "_law_many"] (sp__law_names W)) (C__law_kind : Cal W mg base "_law_kind" 4 ["_law_pot_here", "_law_place", "_law_breadth"] (sp__law_kind W)) : FnOk W.P W.w W.K mg base CX0 5 f fd ["_law_pot_here"] (sp__law_shape W) := by
  obtain ⟨a__law_draw, d__law_draw, g__law_draw, F__law_draw, k__law_draw, b__law_draw⟩ := C__law_draw
  obtain ⟨a__law_names, d__law_names, g__law_names, F__law_names, k__law_names, b__law_names⟩ := C__law_names
  obtain ⟨a__law_kind, d__law_kind, g__law_kind, F__law_kind, k__law_kind, b__law_kind⟩ := C__law_kind
  have nd := sc__law_shape.nd
  have F0 : FnOk W.P W.w W.K mg base CX0 5 f fd ["_law_pot_here"] (sp__law_shape W) := by
    refine F.ok sc__law_shape (fun vs H Q E h => ?_) (fun cdv A outer s H vs Q E hr h => ?_)
    · match vs, h with | [_], _ => rfl
    · match vs, h with
      | [v_pot_here], h =>
        change sp__law_shape W [v_pot_here] H Q E at h
        refine ⟨tSeq (tAsg (tOp (rIxU W.K) (tLst (tCons (tC (.int 1)) (tCons (tC (.int 2)) (tCons (tC (.int 3)) (tCons (tC (.int 4)) (tCons (tOp (rAddN W.K) (tC (.int 1)) (tCall (sp__law_draw W) [] E0 (tCons (tVar 0) (tCons (tC (.int 12)) (tNil))))) (tCons (tC (.int 12)) (tNil)))))))) (tCall (sp__law_draw W) [] E0 (tCons (tVar 0) (tCons (tC (.int 6)) (tNil))))) (gName 1)) (tSeq (tAsg (tLst (tNil)) (gName 2)) (tSeq (tFor (iEnumU W.K (tCons (tCall (sp__law_names W) [] E0 (tCons (tVar 0) (tCons (tVar 1) (tNil)))) (tNil))) (gTup W.K 2 (gCons (gName 3) (gCons (gName 4) (gNil)))) (tSeq (tAsg (tOp (rIxU W.K) (tLst (tCons (tC (.int 1)) (tCons (tC (.int 2)) (tCons (tC (.int 8)) (tCons (tC (.int 40)) (tCons (tOp (rAddN W.K) (tC (.int 1)) (tCall (sp__law_draw W) [] E0 (tCons (tVar 0) (tCons (tC (.int 40)) (tNil))))) (tNil))))))) (tCall (sp__law_draw W) [] E0 (tCons (tVar 0) (tCons (tC (.int 5)) (tNil))))) (gName 5)) (tDrop (tBM W.K "list" rAppend (tVar 2) (tCons (tTupN (tCons (tVar 4) (tCons (tVar 5) (tCons (tCall (sp__law_kind W) [] E0 (tCons (tVar 0) (tCons (tVar 3) (tCons (tVar 5) (tNil))))) (tNil))))) (tNil)))))) (tRet (tTupN (tCons (tCB (rTupleOfN W.K) (tCons (tVar 2) (tNil))) (tCons (tOp (rIxU W.K) (tLst (tCons (tC (.int 1)) (tCons (tC (.int 2)) (tCons (tC (.int 7)) (tCons (tC (.int 256)) (tCons (tOp (rAddN W.K) (tC (.int 1)) (tCall (sp__law_draw W) [] E0 (tCons (tVar 0) (tCons (tOp (rCon 10 6 1000000) (tC (.int 10)) (tC (.int 6))) (tNil))))) (tCons (tOp (rCon 10 6 1000000) (tC (.int 10)) (tC (.int 6))) (tNil)))))))) (tCall (sp__law_draw W) [] E0 (tCons (tVar 0) (tCons (tC (.int 6)) (tNil))))) (tNil))))))), pss_cons (ps_set (i := 1) nd rfl (.inl rfl) (pe_ix u_ix (pe_lst (pa_cons (pe_int) (pa_cons (pe_int) (pa_cons (pe_int) (pa_cons (pe_int) (pa_cons (pe_op u_addN (pe_int) (pe_call F__law_draw (hr.mono (by decide)) (by rfl) g__law_draw k__law_draw b__law_draw .nil pass0 (pa_cons (pv 0) (pa_cons (pe_int) (pa_nil))))) (pa_cons (pe_int) (pa_nil)))))))) (pe_call F__law_draw (hr.mono (by decide)) (by rfl) g__law_draw k__law_draw b__law_draw .nil pass0 (pa_cons (pv 0) (pa_cons (pe_int) (pa_nil)))) (fun _ _ => rfl))) (pss_cons (ps_set (i := 2) nd rfl (.inl rfl) (pe_lst (pa_nil))) (pss_cons (ps_for PassesOwn.never rfl (pi_enumU (by rfl) B.b_enumerate (pa_cons (pe_call F__law_names (hr.mono (by decide)) (by rfl) g__law_names k__law_names b__law_names .nil pass0 (pa_cons (pv 0) (pa_cons (pv 1) (pa_nil)))) (pa_nil))) (pg_tup rfl (pgs_cons (pg_name (i := 3) nd rfl (by first | exact Or.inl rfl | exact Or.inr rfl)) (pgs_cons (pg_name (i := 4) nd rfl (by first | exact Or.inl rfl | exact Or.inr rfl)) (pgs_nil)))) (pss_cons (ps_set (i := 5) nd rfl (.inl rfl) (pe_ix u_ix (pe_lst (pa_cons (pe_int) (pa_cons (pe_int) (pa_cons (pe_int) (pa_cons (pe_int) (pa_cons (pe_op u_addN (pe_int) (pe_call F__law_draw (hr.mono (by decide)) (by rfl) g__law_draw k__law_draw b__law_draw .nil pass0 (pa_cons (pv 0) (pa_cons (pe_int) (pa_nil))))) (pa_nil))))))) (pe_call F__law_draw (hr.mono (by decide)) (by rfl) g__law_draw k__law_draw b__law_draw .nil pass0 (pa_cons (pv 0) (pa_cons (pe_int) (pa_nil)))) (fun _ _ => rfl))) (pss_one (ps_expr (pe_bm PySem.F.plainAttrs_list PySem.F.slot_list_append PySem.F.type_list_append mt_append (pv 2) (pa_cons (pe_tupN (pa_cons (pv 4) (pa_cons (pv 5) (pa_cons (pe_call F__law_kind (hr.mono (by decide)) (by rfl) g__law_kind k__law_kind b__law_kind .nil pass0 (pa_cons (pv 0) (pa_cons (pv 3) (pa_cons (pv 5) (pa_nil))))) (pa_nil))))) (pa_nil))))))) (pss_one (ps_ret (pe_tupN (pa_cons (pe_callTy call_tuple_ofN (by rfl) B.b_tuple (by decide +kernel) (pa_cons (pv 2) (pa_nil))) (pa_cons (pe_ix u_ix (pe_lst (pa_cons (pe_int) (pa_cons (pe_int) (pa_cons (pe_int) (pa_cons (pe_int) (pa_cons (pe_op u_addN (pe_int) (pe_call F__law_draw (hr.mono (by decide)) (by rfl) g__law_draw k__law_draw b__law_draw .nil pass0 (pa_cons (pv 0) (pa_cons (pe_op (u_powc ⟨by decide, by decide, by decide⟩ (by decide +kernel)) pe_int pe_int) (pa_nil))))) (pa_cons (pe_op (u_powc ⟨by decide, by decide, by decide⟩ (by decide +kernel)) pe_int pe_int) (pa_nil)))))))) (pe_call F__law_draw (hr.mono (by decide)) (by rfl) g__law_draw k__law_draw b__law_draw .nil pass0 (pa_cons (pv 0) (pa_cons (pe_int) (pa_nil)))) (fun _ _ => rfl)) (pa_nil)))))))), ?_⟩
        clear hr
        clear F__law_draw g__law_draw k__law_draw b__law_draw d__law_draw a__law_draw
        clear F__law_names g__law_names k__law_names b__law_names d__law_names a__law_names
        clear F__law_kind g__law_kind k__law_kind b__law_kind d__law_kind a__law_kind
        rw [show L2.start N__law_shape [v_pot_here] = [some v_pot_here, none, none, none, none, none] from rfl]
        obtain ⟨hp, q⟩ := h
        walk_at "Zs"
        tbr_iter (fun n => 1 ≤ n ∧ n ≤ 12)
        intro m hm
        walk_at "Zs"
        rename_i d1 G1 f1 h1 h1' p2 G2 np2 f2 h2 d3 G3 f3 h3 h3' D G4 np4 f4 h4
        have S4 : Same H G4 := by walk_at "Zkt"
        refine go__law_names (by walk_at "Zpot") hm.1 hm.2 fun N nms G5 f5 nN hN hl hok hnd => ?_
        have eD : N ≠ D := fun z => by rw [z, h4] at nN; cases nN
        have S5 : Same H G5 := S4.trans f5
        have HD : H D = none := none_of (H' := G3) (by walk_at "Zkt") np4
        walk_at "Zs"
        refine w_goEL (SqL.of hN) ?_
        refine forEL2 (xs := nms.map V.str) (fun i σ' H' => Same H H' ∧ H' N = some (.lst (nms.map V.str)) ∧ ∃ (fs : List Fd) (vs : List V), H' D = some (.lst vs) ∧ DqAll W.K H' vs (fs.map fdD) ∧ fs.length = i ∧ fs.map Fd.nm = nms.take i ∧ (∀ j f, fs[j]? = some f → OkFd j f) ∧
          ∃ y3 y4 y5, σ' = [some v_pot_here, some (.int m), some (.ref D), y3, y4, y5]) ⟨S5, hN, [], [], f5 _ _ h4, .nil, rfl, rfl, (fun j f h => by simp at h), _, _, _, rfl⟩ (fun i σ' H' h => SqL.of h.2.1) (fun i x σ' H' hx h H2 e2 => ?_) (fun σ' H' h => ?_)
        · obtain ⟨S, hN', fs, vs, hD, hvs, hfl, hnm, hok2, y3, y4, y5, rfl⟩ := h
          rw [List.getElem?_map] at hx
          cases hv : nms[i]? with
          | none => rw [hv] at hx; cases hx
          | some z =>
            rw [hv] at hx
            obtain rfl := Option.some.inj hx
            have hi := (List.getElem?_eq_some_iff.mp hv).1
            walk_at "Zs"
            tbr_iter (fun n => 1 ≤ n ∧ n ≤ 40)
            intro b hb
            walk_at "Zs"
            rename_i d6 G6 f6 h6 h6' p7 G7 np7 f7 h7 d8 G8 f8 h8 h8'
            have z8 : Same H' G8 := by walk_at "Zkt"
            refine w_tyL (z8 _ _ hD) ?_
            walk_at "Zs"
            refine go__law_kind (by walk_at "Zpot") (by omega) hb.1 hb.2 fun k kv G9 f9 hkd hk => ?_
            walk_at "Zs"
            rename_i pA GA npA fA hA
            have zA : Same H' GA := z8.trans (f9.trans fA)
            have lv := dqs_len hvs
            rw [List.length_map] at lv
            refine w_append (zA _ _ hD) (by omega) ?_
            walk_at "Zs"
            have hf : Dq W.K GA (.ref pA) (fdD ⟨z, b, k⟩) := dq_new hA (.cons (.str z) (dqs_two (.int b) (dq_mono fA hkd)))
            refine ⟨same_mut (S.trans zA) HD, ?_, fs ++ [⟨z, b, k⟩], vs ++ [.ref pA], upd_same, ?_, by rw [List.length_append, hfl]; rfl, ?_, fun j f hj => ?_, _, _, _, rfl⟩
            · rw [upd_ne eD]
              exact zA _ _ hN'
            · rw [List.map_append]
              refine dqs_lst (zA _ _ hD) (dqs_app (dqs_mono zA hvs) (dqs_one hf)) ?_
              rw [← List.map_append]
              exact tupO_fds _
            · rw [List.map_append, hnm, List.take_add_one, hv]
              rfl
            · by_cases hj2 : j < fs.length
              · rw [List.getElem?_append_left hj2] at hj
                exact hok2 j f hj
              · rw [List.getElem?_append_right (by omega)] at hj
                have e : j = fs.length := by
                  by_cases c : j - fs.length = 0
                  · omega
                  · rw [List.getElem?_eq_none (by simp; omega)] at hj
                    cases hj
                subst e
                rw [Nat.sub_self] at hj
                obtain rfl := Option.some.inj hj
                rw [hfl]
                exact ⟨hok z (List.mem_of_getElem? hv), hb.1, hb.2, hk⟩
        · obtain ⟨S, hN', fs, vs, hD, hvs, hfl, hnm, hok2, y3, y4, y5, rfl⟩ := h
          rw [List.length_map] at hfl hnm
          rw [List.take_length] at hnm
          walk_at "Zs"
          refine w_tupleN (SqL.of hD) fun p6 G6 np6 f6 h6 => ?_
          walk_at "Zs"
          tbr_iter (fun n => 1 ≤ n ∧ n ≤ 1000000)
          intro m2 hm2
          walk_at "Zs"
          rename_i pA GA npA fA hA
          refine q ⟨fs, m2⟩ _ _ ?_ (dq_new hA (dqs_two (.tup (same_n (H := G6) ?_ (.inl h6)) (dqs_mono (H := H') ?_ hvs)) (.int m2))) ⟨?_, ?_, hok2, ?_, hm2.1, hm2.2⟩
          · walk_at "Zkt"
          · walk_at "Zkt"
          · walk_at "Zkt"
          · show 1 ≤ fs.length
            omega
          · show fs.length ≤ 12
            omega
          · show (fs.map Fd.nm).Nodup
            rw [hnm]
            exact hnd
  exact F0
theorem c__law_shape {W : Wd} {mg : Str → Option Value} {base : Heap} (B : Bi mg) (S : Src W.K mg "_law_shape" s__law_shape) (C__law_draw : Cal W mg base "_law_draw" 1 ["_law_pot_here", "_law_many"] (sp__law_draw W)) (C__law_names : Cal W mg base "_law_names" 2 ["_law_pot_here", "_law_many"] (sp__law_names W)) (C__law_kind : Cal W mg base "_law_kind" 4 ["_law_pot_here", "_law_place", "_law_breadth"] (sp__law_kind W)) : Cal W mg base "_law_shape" 5 ["_law_pot_here"] (sp__law_shape W) := by
  obtain ⟨f, fd, g, F⟩ := S
  exact ⟨f, fd, g, f__law_shape B F C__law_draw C__law_names C__law_kind, F.kp, (F.binds (ps := ["_law_pot_here"]) fun _ _ _ _ _ _ us hl => match us, hl with | [_], _ => rfl)⟩
theorem go__law_shape {W : Wd} {H : Hp} {Q : VK} {E : XK} {v : V} (hp : PotAt W H v) (q : ∀ (s : Shp) v H', Same H H' → Dq W.K H' v (shD s) → OkShp s → Q v H') : sp__law_shape W [v] H Q E := ⟨hp, q⟩
def sp__law_whole (W : Wd) : Sp := fun vs H Q _ => match vs with
  | [v_thing] =>
  ∃ d, Dz W.K Ever H v_thing d ∧ Q (.bl (isIntD d)) H
  | _ => False
abbrev N__law_whole : List Str := ["_law_thing"]
theorem sc__law_whole : FnScope N__law_whole ["_law_thing"] (defScope s__law_whole) := ⟨rfl, rfl, rfl, by decide +kernel, rfl, by decide +kernel, by decide +kernel⟩
theorem f__law_whole {W : Wd} {mg : Str → Option Value} {base : Heap} (B : Bi mg) {f : Addr} {fd : FuncData} (F : Fun W.K "_law_whole" "_law_whole" s__law_whole f fd)  : FnOk W.P W.w W.K mg base CX0 1 f fd ["_law_thing"] (sp__law_whole W) := by
  have nd := sc__law_whole.nd
  have F0 : FnOk W.P W.w W.K mg base CX0 1 f fd ["_law_thing"] (sp__law_whole W) := by
    refine F.ok sc__law_whole (fun vs H Q E h => ?_) (fun cdv A outer s H vs Q E hr h => ?_)
    · match vs, h with | [_], _ => rfl
    · match vs, h with
      | [v_thing], h =>
        change sp__law_whole W [v_thing] H Q E at h
        refine ⟨tRet (tAndV (tCB (rIsi W.K) (tCons (tVar 0) (tCons (tC (.ty "int")) tNil))) (tNotV (tCB (rIsi W.K) (tCons (tVar 0) (tCons (tC (.ty "bool")) tNil))))), pss_one (ps_ret (pe_and (pe_callB call_isi (by rfl) B.b_isinstance (by decide +kernel) (pa_cons (pv 0) (pa_cons (pe_bltn (v := .ty "int") (u := .type "int") (by rfl) B.b_int (by decide +kernel) rfl) pa_nil))) (pe_one (pe_not (pe_callB call_isi (by rfl) B.b_isinstance (by decide +kernel) (pa_cons (pv 0) (pa_cons (pe_bltn (v := .ty "bool") (u := .type "bool") (by rfl) B.b_bool (by decide +kernel) rfl) pa_nil))))))), ?_⟩
        clear hr
        rw [show L2.start N__law_whole [v_thing] = [some v_thing] from rfl]
        obtain ⟨d, hd, q⟩ := h
        walk_at "Zs"
        refine w_isintz hd ?_
        cases d with
        | int i =>
          walk_at "Zs"
          refine w_isboolz hd ?_
          walk_at "Zs"
          exact q
        | bool b =>
          walk_at "Zs"
          refine w_isboolz hd ?_
          walk_at "Zs"
          exact q
        | _ =>
          walk_at "Zs"
          exact q
  exact F0
theorem c__law_whole {W : Wd} {mg : Str → Option Value} {base : Heap} (B : Bi mg) (S : Src W.K mg "_law_whole" s__law_whole)  : Cal W mg base "_law_whole" 1 ["_law_thing"] (sp__law_whole W) := by
  obtain ⟨f, fd, g, F⟩ := S
  exact ⟨f, fd, g, f__law_whole B F , F.kp, (F.binds (ps := ["_law_thing"]) fun _ _ _ _ _ _ us hl => match us, hl with | [_], _ => rfl)⟩
theorem go__law_whole {W : Wd} {H : Hp} {Q : VK} {E : XK} {v : V} {d : PyData} (hd : Dz W.K Ever H v d) (k : Q (.bl (isIntD d)) H) : sp__law_whole W [v] H Q E := ⟨d, hd, k⟩
local macro_rules | `(tactic| walk_at "Zc") => `(tactic| ((with_reducible refine' go__law_whole ?hd ?_); (case hd => walk_at "Zdz")))
def sp__law_between (W : Wd) : Sp := fun vs H Q _ => match vs with
  | [v_thing, v_least, v_most] =>
  ∃ (d : PyData) (lo hi : Int), Dz W.K Ever H v_thing d ∧ v_least = .int lo ∧ v_most = .int hi ∧ Q (.bl (betwD lo hi d)) H
  | _ => False
abbrev N__law_between : List Str := ["_law_thing", "_law_least", "_law_most"]
theorem sc__law_between : FnScope N__law_between ["_law_thing", "_law_least", "_law_most"] (defScope s__law_between) := ⟨rfl, rfl, rfl, by decide +kernel, rfl, by decide +kernel, by decide +kernel⟩
theorem f__law_between {W : Wd} {mg : Str → Option Value} {base : Heap} (B : Bi mg) {f : Addr} {fd : FuncData} (F : Fun W.K "_law_between" "_law_between" s__law_between f fd) (C__law_whole : Cal W mg base "_law_whole" 1 ["_law_thing"] (sp__law_whole W)) : FnOk W.P W.w W.K mg base CX0 2 f fd ["_law_thing", "_law_least", "_law_most"] (sp__law_between W) := by
  obtain ⟨a__law_whole, d__law_whole, g__law_whole, F__law_whole, k__law_whole, b__law_whole⟩ := C__law_whole
  have nd := sc__law_between.nd
  have F0 : FnOk W.P W.w W.K mg base CX0 2 f fd ["_law_thing", "_law_least", "_law_most"] (sp__law_between W) := by
    refine F.ok sc__law_between (fun vs H Q E h => ?_) (fun cdv A outer s H vs Q E hr h => ?_)
    · match vs, h with | [_, _, _], _ => rfl
    · match vs, h with
      | [v_thing, v_least, v_most], h =>
        change sp__law_between W [v_thing, v_least, v_most] H Q E at h
        refine ⟨tRet (tAndV (tCall (sp__law_whole W) [] E0 (tCons (tVar 0) (tNil))) (tChain (rLeU) (rLeU) (tVar 1) (tVar 0) (tVar 2))), pss_one (ps_ret (pe_and (pe_call F__law_whole (hr.mono (by decide)) (by rfl) g__law_whole k__law_whole b__law_whole .nil pass0 (pa_cons (pv 0) (pa_nil))) (pe_one (pe_chain u_le u_le (pv 1) (pv 0) (pv 2))))), ?_⟩
        clear hr
        clear F__law_whole g__law_whole k__law_whole b__law_whole d__law_whole a__law_whole
        rw [show L2.start N__law_between [v_thing, v_least, v_most] = [some v_thing, some v_least, some v_most] from rfl]
        obtain ⟨d, lo, hi, hd, rfl, rfl, q⟩ := h
        walk_at "Zs"
        cases d with
        | int i =>
          obtain rfl := dz_int hd
          walk_at "Zs"
          have e : betwD lo hi (.int i) = (decide (lo ≤ i) && decide (i ≤ hi)) := rfl
          rw [e] at q
          cases c : decide (lo ≤ i) with
          | true =>
            rw [c, Bool.true_and] at q
            walk_at "Zs"
            exact q
          | false =>
            rw [c, Bool.false_and] at q
            walk_at "Zs"
            exact q
        | _ =>
          walk_at "Zs"
          exact q
  exact F0
theorem c__law_between {W : Wd} {mg : Str → Option Value} {base : Heap} (B : Bi mg) (S : Src W.K mg "_law_between" s__law_between) (C__law_whole : Cal W mg base "_law_whole" 1 ["_law_thing"] (sp__law_whole W)) : Cal W mg base "_law_between" 2 ["_law_thing", "_law_least", "_law_most"] (sp__law_between W) := by
  obtain ⟨f, fd, g, F⟩ := S
  exact ⟨f, fd, g, f__law_between B F C__law_whole, F.kp, (F.binds (ps := ["_law_thing", "_law_least", "_law_most"]) fun _ _ _ _ _ _ us hl => match us, hl with | [_, _, _], _ => rfl)⟩
theorem go__law_between {W : Wd} {H : Hp} {Q : VK} {E : XK} {v : V} {d : PyData} {lo hi : Int} (hd : Dz W.K Ever H v d) (q : Q (.bl (betwD lo hi d)) H) : sp__law_between W [v, .int lo, .int hi] H Q E := ⟨d, lo, hi, hd, rfl, rfl, q⟩
def cntB (xs : List V) (d : PyData) : Bool := match d with
  | .int m => decide (((xs.countP fun z => eqV z (.int m) : Nat) : Int) = 1)
  | _ => false
def sp__law_is_turn (W : Wd) : Sp := fun vs H Q _ => match vs with
  | [v_thing, v_top] =>
  ∃ (d : PyData) (b : Int), Dq W.K H v_thing d ∧ (∀ ds, d = .tuple ds → ds.all flatB = true) ∧ v_top = .int (p2 b - 1) ∧ ∀ H', Same H H' → Q (.bl (turnD b d)) H'
  | _ => False
abbrev N__law_is_turn : List Str := ["_law_thing", "_law_top", "_law_one"]
theorem sc__law_is_turn : FnScope N__law_is_turn ["_law_thing", "_law_top"] (defScope s__law_is_turn) := ⟨rfl, rfl, rfl, by decide +kernel, rfl, by decide +kernel, by decide +kernel⟩
theorem f__law_is_turn {W : Wd} {mg : Str → Option Value} {base : Heap} (B : Bi mg) {f : Addr} {fd : FuncData} (F : Fun W.K "_law_is_turn" "_law_is_turn" s__law_is_turn f fd) (C__law_between : Cal W mg base "_law_between" 2 ["_law_thing", "_law_least", "_law_most"] (sp__law_between W)) : FnOk W.P W.w W.K mg base CX0 3 f fd ["_law_thing", "_law_top"] (sp__law_is_turn W) := by
  obtain ⟨a__law_between, d__law_between, g__law_between, F__law_between, k__law_between, b__law_between⟩ := C__law_between
  have nd := sc__law_is_turn.nd
  have F0 : FnOk W.P W.w W.K mg base CX0 3 f fd ["_law_thing", "_law_top"] (sp__law_is_turn W) := by
    refine F.ok sc__law_is_turn (fun vs H Q E h => ?_) (fun cdv A outer s H vs Q E hr h => ?_)
    · match vs, h with | [_, _], _ => rfl
    · match vs, h with
      | [v_thing, v_top], h =>
        change sp__law_is_turn W [v_thing, v_top] H Q E at h
        refine ⟨tSeq (tIfS (tOr (tNot (tB (tCB (rIsi W.K) (tCons (tVar 0) (tCons (tC (.ty "tuple")) tNil))))) (tNot (tTest (tChain (rLeU) (rLeU) (tC (.int 2)) (tCB (rLenU W.K) (tCons (tVar 0) (tNil))) (tC (.int 12)))))) (tRet (tC (.bl false))) (tNext)) (tRet (tCB (rAll W.K) (tCons (tLc (iAny W.K (tVar 0)) (gName 2) (tYes) (tAndV (tCall (sp__law_between W) [] E0 (tCons (tVar 2) (tCons (tC (.int 0)) (tCons (tVar 1) (tNil))))) (tOp (rEqU W.K) (tTM W.K (rCntT W.K) (tVar 0) (tCons (tVar 2) (tNil))) (tC (.int 1)))) [2]) (tNil)))), pss_cons (ps_if (PW.pt (pw_or (pt_not (pt_val (pe_callB call_isi (by rfl) B.b_isinstance (by decide +kernel) (pa_cons (pv 0) (pa_cons (pe_bltn (v := .ty "tuple") (u := .type "tuple") (by rfl) B.b_tuple (by decide +kernel) rfl) pa_nil))))) (pw_or1 (pt_not (pt_chain u_le u_le (pe_int) (pe_callB u_len (by rfl) B.b_len (by decide +kernel) (pa_cons (pv 0) (pa_nil))) (pe_int)))))) (pss_one (ps_ret (pe_bl))) (pss_nil)) (pss_one (ps_ret (pe_callB (cr_all rfl) (by rfl) B.b_all (by decide +kernel) (pa_cons (pe_lc (own := [("_law_one", 2)]) rfl nd (pi_any (pv 0)) (blkOk_by (own := [("_law_one", 2)]) (N := N__law_is_turn) (sc := defScope s__law_is_turn) (by decide +kernel)) (fun _ _ _ _ _ => pg_name (i := 2) nd rfl (by first | exact Or.inl rfl | exact Or.inr rfl)) (fun _ _ _ _ _ => pts_nil) (fun _ _ _ _ _ => pe_and (pe_call F__law_between (hr.mono (by decide)) (by rfl) g__law_between k__law_between b__law_between .nil pass0 (pa_cons (pv 2) (pa_cons (pe_int) (pa_cons (pv 1) (pa_nil))))) (pe_one (pe_cmpR (u_eq hr.units) (pe_tm PySem.F.slot_tuple_count PySem.F.type_tuple_count mt_cntT (pv 0) (pa_cons (pv 2) (pa_nil))) (pe_int) (nomark _))))) (pa_nil))))), ?_⟩
        clear hr
        clear F__law_between g__law_between k__law_between b__law_between d__law_between a__law_between
        rw [show L2.start N__law_is_turn [v_thing, v_top] = [some v_thing, some v_top, none] from rfl]
        obtain ⟨d, b, hd, hf, rfl, q⟩ := h
        walk_at "Zs"
        refine w_istup' (dq_dp hd) ?_
        cases d with
        | tuple ds =>
          have e : turnD b (.tuple ds) = (decide (2 ≤ ds.length) && (decide (ds.length ≤ 12) && (ds.all (betwD 0 (p2 b - 1)) && decide ((intsD ds).Nodup)))) := rfl
          rw [e] at q
          have hff := hf ds rfl
          have hdz := dz_dq hd
          walk_at "Zs"
          refine w_dec (fun c1 => ?_) (fun c1 => ?_)
          · rw [decide_eq_true (by omega), Bool.true_and] at q
            walk_at "Zs"
            refine w_dec (fun c2 => ?_) (fun c2 => ?_)
            · rw [decide_eq_true (by omega), Bool.true_and] at q
              obtain ⟨a, xs, rfl, hxn, hqs⟩ := dq_tt hd
              have hxs := hxn.t
              have hds : DzAll W.K Ever H xs ds := dzs_dq hqs
              have lx := dzs_len hds
              have hfl := dz_flat hds hff
              walk_at "Zs"
              refine w_goT hxs ?_
              refine lcT hxs (fun i acc _ => acc = (ds.take i).map fun d => V.bl (betwD 0 (p2 b - 1) d && cntB xs d)) stb_pure (by omega) (fun i acc H' e => by rw [e, List.length_map, List.length_take]; omega) (fun H' _ => rfl) (fun i x acc H' hx e1 ea k k' hk hk' => ?_) fun D acc H1 hD e1 hD' ea => ?_
              · obtain ⟨d, hd1, hxd⟩ := dzs_get2 hds hx
                have step : acc ++ [V.bl (betwD 0 (p2 b - 1) d && cntB xs d)] = (ds.take (i + 1)).map fun d => V.bl (betwD 0 (p2 b - 1) d && cntB xs d) := by
                  rw [List.take_add_one, hd1, List.map_append, ea]
                  rfl
                walk_at "Zs"
                refine go__law_between (dz_mono e1 hxd) ?_
                walk_at "Zs"
                cases c : betwD 0 (p2 b - 1) d with
                | false =>
                  rw [c, Bool.false_and] at step
                  walk_at "Zs"
                  exact hk _ _ (Same.refl _) step
                | true =>
                  rw [c, Bool.true_and] at step
                  cases d with
                  | int m =>
                    obtain rfl := dz_int hxd
                    walk_at "Zs"
                    refine w_tyN (same_n e1 hxn) ?_
                    walk_at "Zs"
                    refine w_cntT (same_t e1 hxs) rfl hfl ?_
                    walk_at "Zs"
                    refine hk _ _ (Same.refl _) ?_
                    exact step
                  | _ => cases c
              · rw [List.take_of_length_le (by omega)] at ea
                walk_at "Zs"
                refine w_all (bs := ds.map fun d => betwD 0 (p2 b - 1) d && cntB xs d) (SqL.of (by rw [hD', ea, List.map_map]; rfl)) ?_
                have key : ((ds.map fun d => betwD 0 (p2 b - 1) d && cntB xs d).all id) = (ds.all (betwD 0 (p2 b - 1)) && decide ((intsD ds).Nodup)) := by
                  cases c : ds.all (betwD 0 (p2 b - 1)) with
                  | false =>
                    rw [Bool.false_and, List.all_eq_false]
                    rw [List.all_eq_false] at c
                    obtain ⟨x, hx, hx2⟩ := c
                    exact ⟨_, List.mem_map.mpr ⟨x, hx, rfl⟩, by simp only [id]; rw [Bool.eq_false_iff.mpr hx2, Bool.false_and]; decide⟩
                  | true =>
                    rw [Bool.true_and, ← nodup_counts]
                    have ed := intsD_of c
                    have e1 : (ds.map fun d => betwD 0 (p2 b - 1) d && cntB xs d) = ds.map (cntB xs) := List.map_congr_left fun x hx => by
                      rw [List.all_eq_true.mp c x hx, Bool.true_and]
                    rw [e1]
                    have ex : xs = (intsD ds).map V.int := dzs_intsD (by rw [← ed]; exact hds)
                    have e2 : ∀ m : Int, cntB xs (.int m) = decide ((intsD ds).count m = 1) := fun m => by
                      show decide (((xs.countP fun z => eqV z (.int m) : Nat) : Int) = 1) = _
                      rw [ex, count_intsV, decide_eq_decide]
                      omega
                    conv => lhs; rw [ed]
                    rw [List.map_map]
                    congr 1
                    exact List.map_congr_left fun m _ => e2 m
                rw [key]
                exact q _ e1
            · rw [decide_eq_false (by omega), Bool.false_and] at q
              walk_at "Zs"
              exact q _ (Same.refl _)
          · rw [decide_eq_false (by omega), Bool.false_and] at q
            walk_at "Zs"
            exact q _ (Same.refl _)
        | _ =>
          walk_at "Zs"
          exact q _ (Same.refl _)
  exact F0
theorem c__law_is_turn {W : Wd} {mg : Str → Option Value} {base : Heap} (B : Bi mg) (S : Src W.K mg "_law_is_turn" s__law_is_turn) (C__law_between : Cal W mg base "_law_between" 2 ["_law_thing", "_law_least", "_law_most"] (sp__law_between W)) : Cal W mg base "_law_is_turn" 3 ["_law_thing", "_law_top"] (sp__law_is_turn W) := by
  obtain ⟨f, fd, g, F⟩ := S
  exact ⟨f, fd, g, f__law_is_turn B F C__law_between, F.kp, (F.binds (ps := ["_law_thing", "_law_top"]) fun _ _ _ _ _ _ us hl => match us, hl with | [_, _], _ => rfl)⟩
theorem go__law_is_turn {W : Wd} {H : Hp} {Q : VK} {E : XK} {v : V} {d : PyData} {b : Int} (hd : Dq W.K H v d) (hf : ∀ ds, d = .tuple ds → ds.all flatB = true) (q : ∀ H', Same H H' → Q (.bl (turnD b d)) H') : sp__law_is_turn W [v, .int (p2 b - 1)] H Q E := ⟨d, b, hd, hf, rfl, q⟩
theorem w_elsK {p : Prop} [Decidable p] {A B : Prop} (h2 : ¬ p → B) (h1 : p → A) : if decide p = true then A else B := w_dec h1 h2
def sp__law_is_kind (W : Wd) : Sp := fun vs H Q _ => match vs with
  | [v_thing, v_place, v_breadth] =>
  ∃ (d : PyData) (pl b : Int), Dq W.K H v_thing d ∧ KdZ d ∧ v_place = .int pl ∧ v_breadth = .int b ∧ 0 ≤ b ∧ b ≤ 60 ∧ ∀ H', Same H H' → Q (.bl (kindD pl b d)) H'
  | _ => False
abbrev N__law_is_kind : List Str := ["_law_thing", "_law_place", "_law_breadth", "_law_top", "_law_sizes"]
theorem sc__law_is_kind : FnScope N__law_is_kind ["_law_thing", "_law_place", "_law_breadth"] (defScope s__law_is_kind) := ⟨rfl, rfl, rfl, by decide +kernel, rfl, by decide +kernel, by decide +kernel⟩
theorem f__law_is_kind {W : Wd} {mg : Str → Option Value} {base : Heap} (B : Bi mg) {f : Addr} {fd : FuncData} (F : Fun W.K "_law_is_kind" "_law_is_kind" s__law_is_kind f fd) (C__law_between : Cal W mg base "_law_between" 2 ["_law_thing", "_law_least", "_law_most"] (sp__law_between W)) (C__law_is_turn : Cal W mg base "_law_is_turn" 3 ["_law_thing", "_law_top"] (sp__law_is_turn W)) : FnOk W.P W.w W.K mg base CX0 4 f fd ["_law_thing", "_law_place", "_law_breadth"] (sp__law_is_kind W) := by
  obtain ⟨a__law_between, d__law_between, g__law_between, F__law_between, k__law_between, b__law_between⟩ := C__law_between
  obtain ⟨a__law_is_turn, d__law_is_turn, g__law_is_turn, F__law_is_turn, k__law_is_turn, b__law_is_turn⟩ := C__law_is_turn
  have nd := sc__law_is_kind.nd
  have F0 : FnOk W.P W.w W.K mg base CX0 4 f fd ["_law_thing", "_law_place", "_law_breadth"] (sp__law_is_kind W) := by
    refine F.ok sc__law_is_kind (fun vs H Q E h => ?_) (fun cdv A outer s H vs Q E hr h => ?_)
    · match vs, h with | [_, _, _], _ => rfl
    · match vs, h with
      | [v_thing, v_place, v_breadth], h =>
        change sp__law_is_kind W [v_thing, v_place, v_breadth] H Q E at h
        refine ⟨tSeq (tIfS (tOr (tNot (tB (tCB (rIsi W.K) (tCons (tVar 0) (tCons (tC (.ty "tuple")) tNil))))) (tOr (tTest (tOp (rEqU W.K) (tVar 0) (tTupN (tNil)))) (tNot (tB (tCB (rIsi W.K) (tCons (tOp (rIxU W.K) (tVar 0) (tC (.int 0))) (tCons (tC (.ty "str")) tNil))))))) (tRet (tC (.bl false))) (tNext)) (tSeq (tAsg (tOp (rSubU) (tOp (rShlU) (tC (.int 1)) (tVar 2)) (tC (.int 1))) (gName 3)) (tSeq (tAsg (tDisp [(tC (.str "still"), tC (.int 1)), (tC (.str "drawn"), tC (.int 1)), (tC (.str "step"), tC (.int 2)), (tC (.str "turn"), tC (.int 2)), (tC (.str "with"), tC (.int 3))]) (gName 4)) (tSeq (tIfS (tTest (tOp (rNeU W.K) (tCB (rLenU W.K) (tCons (tVar 0) (tNil))) (tDGet2 (tVar 4) (tOp (rIxU W.K) (tVar 0) (tC (.int 0))) (tC (.int 0))))) (tRet (tC (.bl false))) (tNext)) (tSeq (tIfS (tTest (tOp (rEqU W.K) (tOp (rIxU W.K) (tVar 0) (tC (.int 0))) (tC (.str "step")))) (tRet (tCall (sp__law_between W) [] E0 (tCons (tOp (rIxU W.K) (tVar 0) (tC (.int 1))) (tCons (tC (.int 0)) (tCons (tVar 3) (tNil)))))) (tNext)) (tSeq (tIfS (tTest (tOp (rEqU W.K) (tOp (rIxU W.K) (tVar 0) (tC (.int 0))) (tC (.str "turn")))) (tRet (tCall (sp__law_is_turn W) [] E0 (tCons (tOp (rIxU W.K) (tVar 0) (tC (.int 1))) (tCons (tVar 3) (tNil))))) (tNext)) (tRet (tOrV (tOp (rNeU W.K) (tOp (rIxU W.K) (tVar 0) (tC (.int 0))) (tC (.str "with"))) (tAndV (tCall (sp__law_between W) [] E0 (tCons (tOp (rIxU W.K) (tVar 0) (tC (.int 1))) (tCons (tC (.int 0)) (tCons (tOp (rSubU) (tVar 1) (tC (.int 1))) (tNil))))) (tCall (sp__law_between W) [] E0 (tCons (tOp (rIxU W.K) (tVar 0) (tC (.int 2))) (tCons (tUn (rU fun i => .int (-i)) (tC (.int 99))) (tCons (tC (.int 99)) (tNil))))))))))))), pss_cons (ps_if (PW.pt (pw_or (pt_not (pt_val (pe_callB call_isi (by rfl) B.b_isinstance (by decide +kernel) (pa_cons (pv 0) (pa_cons (pe_bltn (v := .ty "tuple") (u := .type "tuple") (by rfl) B.b_tuple (by decide +kernel) rfl) pa_nil))))) (pw_or (pt_cmpR (u_eq hr.units) (pv 0) (pe_tupN (pa_nil)) (nomark _)) (pw_or1 (pt_not (pt_val (pe_callB call_isi (by rfl) B.b_isinstance (by decide +kernel) (pa_cons (pe_ix u_ix (pv 0) (pe_int) (fun _ _ => rfl)) (pa_cons (pe_bltn (v := .ty "str") (u := .type "str") (by rfl) B.b_str (by decide +kernel) rfl) pa_nil))))))))) (pss_one (ps_ret (pe_bl))) (pss_nil)) (pss_cons (ps_set (i := 3) nd rfl (.inl rfl) (pe_op u_sub (pe_op u_shl (pe_int) (pv 2)) (pe_int))) (pss_cons (ps_set (i := 4) nd rfl (.inl rfl) (pe_disp (pps_cons (pe_str) (pe_int) (pps_cons (pe_str) (pe_int) (pps_cons (pe_str) (pe_int) (pps_cons (pe_str) (pe_int) (pps_cons (pe_str) (pe_int) (pps_nil)))))) (by rfl) (by rfl) (fun z => by cases z) (by decide))) (pss_cons (ps_if (pt_cmpR (u_ne hr.units) (pe_callB u_len (by rfl) B.b_len (by decide +kernel) (pa_cons (pv 0) (pa_nil))) (pe_dget2 (Nat.lt_of_le_of_lt (Nat.add_le_add_left (by decide) _) hr.units) (pv 4) (pe_ix u_ix (pv 0) (pe_int) (fun _ _ => rfl)) (pe_int) ⟨by rfl, by rfl, by rfl, by rfl⟩) (nomark _)) (pss_one (ps_ret (pe_bl))) (pss_nil)) (pss_cons (ps_if (pt_cmpR (u_eq hr.units) (pe_ix u_ix (pv 0) (pe_int) (fun _ _ => rfl)) (pe_str) (nomark _)) (pss_one (ps_ret (pe_call F__law_between (hr.mono (by decide)) (by rfl) g__law_between k__law_between b__law_between .nil pass0 (pa_cons (pe_ix u_ix (pv 0) (pe_int) (fun _ _ => rfl)) (pa_cons (pe_int) (pa_cons (pv 3) (pa_nil))))))) (pss_nil)) (pss_cons (ps_if (pt_cmpR (u_eq hr.units) (pe_ix u_ix (pv 0) (pe_int) (fun _ _ => rfl)) (pe_str) (nomark _)) (pss_one (ps_ret (pe_call F__law_is_turn (hr.mono (by decide)) (by rfl) g__law_is_turn k__law_is_turn b__law_is_turn .nil pass0 (pa_cons (pe_ix u_ix (pv 0) (pe_int) (fun _ _ => rfl)) (pa_cons (pv 3) (pa_nil)))))) (pss_nil)) (pss_one (ps_ret (pe_or (pe_cmpR (u_ne hr.units) (pe_ix u_ix (pv 0) (pe_int) (fun _ _ => rfl)) (pe_str) (nomark _)) (pe_one (pe_and (pe_call F__law_between (hr.mono (by decide)) (by rfl) g__law_between k__law_between b__law_between .nil pass0 (pa_cons (pe_ix u_ix (pv 0) (pe_int) (fun _ _ => rfl)) (pa_cons (pe_int) (pa_cons (pe_op u_sub (pv 1) (pe_int)) (pa_nil))))) (pe_one (pe_call F__law_between (hr.mono (by decide)) (by rfl) g__law_between k__law_between b__law_between .nil pass0 (pa_cons (pe_ix u_ix (pv 0) (pe_int) (fun _ _ => rfl)) (pa_cons (pe_un un_neg (pe_int)) (pa_cons (pe_int) (pa_nil)))))))))))))))), ?_⟩
        clear hr
        clear F__law_between g__law_between k__law_between b__law_between d__law_between a__law_between
        clear F__law_is_turn g__law_is_turn k__law_is_turn b__law_is_turn d__law_is_turn a__law_is_turn
        rw [show L2.start N__law_is_kind [v_thing, v_place, v_breadth] = [some v_thing, some v_place, some v_breadth, none, none] from rfl]
        obtain ⟨d, pl, b, hd, hz, rfl, rfl, b0, b1, q⟩ := h
        walk_at "Zs"
        refine w_istup' (dq_dp hd) ?_
        cases d with
        | tuple ds =>
          walk_at "Zs"
          rename_i p1 H1 n1 e1 h1
          have hd1 := dq_mono e1 hd
          refine w_eqD hd1 (dq_new h1 .nil) hz.sh (by decide +kernel) ?_
          cases ds with
          | nil =>
            rw [show PyData.eqv (.tuple []) (.tuple []) = true from SeqAt.eqv_refl _ (SeqAt.canLay_of_shaped hz.sh)]
            walk_at "Zs"
            exact q _ e1
          | cons d0 r =>
            rw [show PyData.eqv (.tuple (d0 :: r)) (.tuple []) = false by simp [PyData.eqv, PyData.eqvAll]]
            walk_at "Zs"
            refine w_ixQT hd1 (d := d0) atI_zero fun x0 h0 => ?_
            walk_at "Zs"
            refine w_isstr' (dq_dp h0) ?_
            cases d0 with
            | str s =>
              have q : ∀ H', Same H H' → Q (.bl (kindE pl b s r)) H' := q
              walk_at "Zs"
              refine w_disp fun p2' hp2 => ?_
              walk_at "Zs"
              refine w_DB5 upd_same (by rfl) ?_
              have e2 : Same H1 (upd (upd H1 p2' (.dK [])) p2' (.dK [(.inr "still", .int 1), (.inr "drawn", .int 1), (.inr "step", .int 2), (.inr "turn", .int 2), (.inr "with", .int 3)])) := same_mut (same_new hp2) hp2
              have hD : upd (upd H1 p2' (.dK [])) p2' (.dK [(.inr "still", .int 1), (.inr "drawn", .int 1), (.inr "step", .int 2), (.inr "turn", .int 2), (.inr "with", .int 3)]) p2' = some (.dK [(.inr "still", .int 1), (.inr "drawn", .int 1), (.inr "step", .int 2), (.inr "turn", .int 2), (.inr "with", .int 3)]) := upd_same
              generalize upd (upd H1 p2' (.dK [])) p2' (.dK [(.inr "still", .int 1), (.inr "drawn", .int 1), (.inr "step", .int 2), (.inr "turn", .int 2), (.inr "with", .int 3)]) = H2 at e2 hD
              have hd2 := dq_mono e2 hd1
              have e12 := e1.trans e2
              have q : ∀ H', Same H2 H' → Q (.bl (kindE pl b s r)) H' := fun H' e => q H' (e12.trans e)
              walk_at "Zs"
              refine w_dget2 ?_
              walk_at "Zs"
              refine w_isD hD ?_
              walk_at "Zs"
              refine w_ixQTs hd2 atI_zero ?_
              walk_at "Zs"
              refine ⟨_, DGet.k (k := Sum.inr s) hD, ?_⟩
              rw [szK_get]
              walk_at "Zs"
              refine w_elsK (fun hn => ?_) (fun hs => ?_)
              · walk_at "Zs"
                rw [← kindE_sz (pl := pl) (b := b) (r := r) (s := s) (fun z => hn (by rw [List.length_cons]; omega))]
                exact q _ (Same.refl _)
              have hs : (r.length : Int) + 1 = szK s := by rw [List.length_cons] at hs; omega
              walk_at "Zs"
              refine w_ixQTs hd2 atI_zero ?_
              walk_at "Zs"
              refine w_dec (fun c1 => ?_) (fun c1 => ?_)
              · subst c1
                have l1 : r.length = 1 := by have e : szK "step" = 2 := rfl; omega
                obtain ⟨d1, rfl⟩ := List.length_eq_one_iff.mp l1
                have eK : kindE pl b "step" [d1] = betwD 0 (p2 b - 1) d1 := by
                  show ((decide (("step" : Str) = "step") && betwD 0 (p2 b - 1) d1) || (decide (("step" : Str) = "turn") && turnD b d1)) = _
                  rw [decide_eq_true rfl, decide_eq_false (p := ("step" : Str) = "turn") (by decide +kernel), Bool.true_and, Bool.false_and, Bool.or_false]
                rw [eK] at q
                walk_at "Zs"
                refine w_ixQT hd2 (i := 1) (d := d1) rfl fun x1 g1 => ?_
                walk_at "Zs"
                refine go__law_between (dz_dq g1) ?_
                exact q _ (Same.refl _)
              walk_at "Zs"
              refine w_ixQTs hd2 atI_zero ?_
              walk_at "Zs"
              refine w_dec (fun c2 => ?_) (fun c2 => ?_)
              · subst c2
                have l1 : r.length = 1 := by have e : szK "turn" = 2 := rfl; omega
                obtain ⟨d1, rfl⟩ := List.length_eq_one_iff.mp l1
                have eK : kindE pl b "turn" [d1] = turnD b d1 := by
                  show ((decide (("turn" : Str) = "step") && betwD 0 (p2 b - 1) d1) || (decide (("turn" : Str) = "turn") && turnD b d1)) = _
                  rw [decide_eq_true (p := ("turn" : Str) = "turn") rfl, decide_eq_false (by decide +kernel), Bool.true_and, Bool.false_and, Bool.false_or]
                rw [eK] at q
                walk_at "Zs"
                refine w_ixQT hd2 (i := 1) (d := d1) rfl fun x1 g1 => ?_
                walk_at "Zs"
                refine go__law_is_turn g1 (fun ds e => ?_) fun H3 e3 => q _ e3
                subst e
                exact hz.row
              walk_at "Zs"
              refine w_ixQTs hd2 atI_zero ?_
              walk_at "Zs"
              by_cases c3 : s = "with"
              · subst c3
                have l2 : r.length = 2 := by have e : szK "with" = 3 := rfl; omega
                obtain ⟨d1, d2, rfl⟩ : ∃ d1 d2, r = [d1, d2] := by
                  rcases r with _ | ⟨d1, _ | ⟨d2, _ | ⟨d3, r⟩⟩⟩
                  · cases l2
                  · cases l2
                  · exact ⟨d1, d2, rfl⟩
                  · rw [List.length_cons, List.length_cons, List.length_cons] at l2
                    omega
                have eK : kindE pl b "with" [d1, d2] = (betwD 0 (pl - 1) d1 && betwD (-99) 99 d2) := by
                  show (decide (("with" : Str) = "with") && (betwD 0 (pl - 1) d1 && betwD (-99) 99 d2)) = _
                  rw [decide_eq_true rfl, Bool.true_and]
                rw [eK] at q
                rw [decide_eq_true rfl]
                walk_at "Zs"
                refine w_ixQT hd2 (i := 1) (d := d1) rfl fun x1 g1 => ?_
                walk_at "Zs"
                refine go__law_between (dz_dq g1) ?_
                cases c : betwD 0 (pl - 1) d1 with
                | false =>
                  rw [c, Bool.false_and] at q
                  walk_at "Zs"
                  exact q _ (Same.refl _)
                | true =>
                  rw [c, Bool.true_and] at q
                  walk_at "Zs"
                  refine w_ixQT hd2 (i := 2) (d := d2) rfl fun x2 g2 => ?_
                  walk_at "Zs"
                  refine go__law_between (dz_dq g2) ?_
                  exact q _ (Same.refl _)
              · rw [decide_eq_false c3]
                have l0 : r.length = 0 ∧ (s = "still" ∨ s = "drawn") := by
                  unfold szK at hs
                  rw [if_neg c1, if_neg c2, if_neg c3] at hs
                  split at hs
                  · exact ⟨by omega, .inl (by assumption)⟩
                  · split at hs
                    · exact ⟨by omega, .inr (by assumption)⟩
                    · omega
                obtain ⟨l0, hs2⟩ := l0
                obtain rfl := List.length_eq_zero_iff.mp l0
                have eK : kindE pl b s [] = true := by
                  rcases hs2 with rfl | rfl <;> rfl
                rw [eK] at q
                walk_at "Zs"
                exact q _ (Same.refl _)
            | _ =>
              walk_at "Zs"
              exact q _ e1
        | _ =>
          walk_at "Zs"
          exact q _ (Same.refl _)
  exact F0
theorem c__law_is_kind {W : Wd} {mg : Str → Option Value} {base : Heap} (B : Bi mg) (S : Src W.K mg "_law_is_kind" s__law_is_kind) (C__law_between : Cal W mg base "_law_between" 2 ["_law_thing", "_law_least", "_law_most"] (sp__law_between W)) (C__law_is_turn : Cal W mg base "_law_is_turn" 3 ["_law_thing", "_law_top"] (sp__law_is_turn W)) : Cal W mg base "_law_is_kind" 4 ["_law_thing", "_law_place", "_law_breadth"] (sp__law_is_kind W) := by
  obtain ⟨f, fd, g, F⟩ := S
  exact ⟨f, fd, g, f__law_is_kind B F C__law_between C__law_is_turn, F.kp, (F.binds (ps := ["_law_thing", "_law_place", "_law_breadth"]) fun _ _ _ _ _ _ us hl => match us, hl with | [_, _, _], _ => rfl)⟩
theorem go__law_is_kind {W : Wd} {H : Hp} {Q : VK} {E : XK} {v : V} {d : PyData} {pl b : Int} (hd : Dq W.K H v d) (hz : KdZ d) (b0 : 0 ≤ b) (b1 : b ≤ 60) (q : ∀ H', Same H H' → Q (.bl (kindD pl b d)) H') : sp__law_is_kind W [v, .int pl, .int b] H Q E := ⟨d, pl, b, hd, hz, rfl, rfl, b0, b1, q⟩
theorem lt_one (a b : Nat) : decide ([a] < [b]) = decide (a < b) := by
  rw [decide_eq_decide]
  constructor
  · intro h
    cases h with
    | rel h => exact h
    | cons h => cases h
  · intro h
    exact .rel h
theorem az_in (c : Nat) : decide (c ∈ ("abcdefghijklmnopqrstuvwxyz" : Str).cps.toList) = ((!decide (c < 97)) && !decide (122 < c)) := by
  rw [show ("abcdefghijklmnopqrstuvwxyz" : Str).cps.toList = (List.range 26).map (97 + ·) by decide +kernel]
  by_cases h : 97 ≤ c ∧ c ≤ 122
  · rw [decide_eq_true (p := c ∈ _) (List.mem_map.mpr ⟨c - 97, List.mem_range.mpr (by omega), by omega⟩), decide_eq_false (by omega), decide_eq_false (by omega)]
    rfl
  · rw [decide_eq_false (p := c ∈ _) (fun hm => by
      obtain ⟨k, hk, rfl⟩ := List.mem_map.mp hm
      have := List.mem_range.mp hk
      omega)]
    by_cases h2 : c < 97
    · rw [decide_eq_true h2]; rfl
    · rw [decide_eq_true (p := 122 < c) (by omega), decide_eq_false h2]; rfl
def sp__law_is_name (W : Wd) : Sp := fun vs H Q _ => match vs with
  | [v_thing] =>
  ∃ d : PyData, Dz W.K Ever H v_thing d ∧ (∀ z, d = .str z → z.length ≤ 1000000) ∧ ∀ H', Same H H' → Q (.bl (nameD d)) H'
  | _ => False
abbrev N__law_is_name : List Str := ["_law_thing", "_law_letter"]
theorem sc__law_is_name : FnScope N__law_is_name ["_law_thing"] (defScope s__law_is_name) := ⟨rfl, rfl, rfl, by decide +kernel, rfl, by decide +kernel, by decide +kernel⟩
theorem f__law_is_name {W : Wd} {mg : Str → Option Value} {base : Heap} (B : Bi mg) {f : Addr} {fd : FuncData} (F : Fun W.K "_law_is_name" "_law_is_name" s__law_is_name f fd)  : FnOk W.P W.w W.K mg base CX0 1 f fd ["_law_thing"] (sp__law_is_name W) := by
  have nd := sc__law_is_name.nd
  have F0 : FnOk W.P W.w W.K mg base CX0 1 f fd ["_law_thing"] (sp__law_is_name W) := by
    refine F.ok sc__law_is_name (fun vs H Q E h => ?_) (fun cdv A outer s H vs Q E hr h => ?_)
    · match vs, h with | [_], _ => rfl
    · match vs, h with
      | [v_thing], h =>
        change sp__law_is_name W [v_thing] H Q E at h
        refine ⟨tSeq (tIfS (tOr (tNot (tB (tCB (rIsi W.K) (tCons (tVar 0) (tCons (tC (.ty "str")) tNil))))) (tNot (tTest (tChain (rLeU) (rLeU) (tC (.int 1)) (tCB (rLenU W.K) (tCons (tVar 0) (tNil))) (tC (.int 8)))))) (tRet (tC (.bl false))) (tNext)) (tRet (tCB (rAll W.K) (tCons (tLc (iAny W.K (tVar 0)) (gName 1) (tYes) (tChain (rLeU) (rLeU) (tC (.str "a")) (tVar 1) (tC (.str "z"))) [1]) (tNil)))), pss_cons (ps_if (PW.pt (pw_or (pt_not (pt_val (pe_callB call_isi (by rfl) B.b_isinstance (by decide +kernel) (pa_cons (pv 0) (pa_cons (pe_bltn (v := .ty "str") (u := .type "str") (by rfl) B.b_str (by decide +kernel) rfl) pa_nil))))) (pw_or1 (pt_not (pt_chain u_le u_le (pe_int) (pe_callB u_len (by rfl) B.b_len (by decide +kernel) (pa_cons (pv 0) (pa_nil))) (pe_int)))))) (pss_one (ps_ret (pe_bl))) (pss_nil)) (pss_one (ps_ret (pe_callB (cr_all rfl) (by rfl) B.b_all (by decide +kernel) (pa_cons (pe_lc (own := [("_law_letter", 1)]) rfl nd (pi_any (pv 0)) (blkOk_by (own := [("_law_letter", 1)]) (N := N__law_is_name) (sc := defScope s__law_is_name) (by decide +kernel)) (fun _ _ _ _ _ => pg_name (i := 1) nd rfl (by first | exact Or.inl rfl | exact Or.inr rfl)) (fun _ _ _ _ _ => pts_nil) (fun _ _ _ _ _ => pe_chain u_le u_le (pe_str) (pv 1) (pe_str))) (pa_nil))))), ?_⟩
        clear hr
        rw [show L2.start N__law_is_name [v_thing] = [some v_thing, none] from rfl]
        obtain ⟨d, hd, hl, q⟩ := h
        have line : (1000000 : Nat) ≤ sizeLine := by decide
        walk_at "Zs"
        refine w_isstrz hd ?_
        cases d with
        | str z =>
          obtain rfl := dz_str hd
          have hz := hl z rfl
          have e : nameD (.str z) = (decide (1 ≤ z.length) && (decide (z.length ≤ 8) && (cz z).all fun c => decide (c ∈ ("abcdefghijklmnopqrstuvwxyz" : Str).cps.toList))) := rfl
          rw [e] at q
          walk_at "Zs"
          refine w_lenS (Nat.le_trans hz line) ?_
          walk_at "Zs"
          refine w_dec (fun c1 => ?_) (fun c1 => ?_)
          · rw [decide_eq_true (by omega), Bool.true_and] at q
            walk_at "Zs"
            refine w_dec (fun c2 => ?_) (fun c2 => ?_)
            · rw [decide_eq_true (by omega), Bool.true_and] at q
              walk_at "Zs"
              refine w_goS ?_
              refine lcS (fun i acc _ => acc = ((cz z).take i).map fun c => V.bl (decide (c ∈ ("abcdefghijklmnopqrstuvwxyz" : Str).cps.toList))) stb_pure hz (fun i acc H' e => by rw [e, List.length_map, List.length_take]; omega) (fun H' _ => rfl) (fun i c acc H' hc e1 ea k k' hk hk' => ?_) fun D acc H' hD e1 hD' ea => ?_
              · have step : acc ++ [V.bl ((!decide (c < 97)) && !decide (122 < c))] = ((cz z).take (i + 1)).map fun c => V.bl (decide (c ∈ ("abcdefghijklmnopqrstuvwxyz" : Str).cps.toList)) := by
                  rw [List.take_add_one, hc, List.map_append, ea, ← az_in]
                  rfl
                walk_at "Zs"
                refine .inr ⟨_, _, rfl, rfl, ?_⟩
                rw [show decide ((⟨#[c]⟩ : Str).cps.toList < ("a" : Str).cps.toList) = decide (c < 97) from lt_one c 97]
                cases c1' : decide (c < 97) with
                | true =>
                  rw [c1'] at step
                  walk_at "Zs"
                  exact hk _ _ (Same.refl _) step
                | false =>
                  rw [c1'] at step
                  walk_at "Zs"
                  refine .inr ⟨_, _, rfl, rfl, ?_⟩
                  rw [show decide (("z" : Str).cps.toList < (⟨#[c]⟩ : Str).cps.toList) = decide (122 < c) from lt_one 122 c]
                  exact hk _ _ (Same.refl _) step
              · rw [List.take_of_length_le (by rw [cz_len]; exact Nat.le_refl _)] at ea
                walk_at "Zs"
                refine w_all (bs := (cz z).map fun c => decide (c ∈ ("abcdefghijklmnopqrstuvwxyz" : Str).cps.toList)) (SqL.of (by rw [hD', ea, List.map_map]; rfl)) ?_
                rw [List.all_map]
                exact q _ e1
            · rw [decide_eq_false (by omega), Bool.false_and] at q
              walk_at "Zs"
              exact q _ (Same.refl _)
          · rw [decide_eq_false (by omega), Bool.false_and] at q
            walk_at "Zs"
            exact q _ (Same.refl _)
        | _ =>
          walk_at "Zs"
          exact q _ (Same.refl _)
  exact F0
theorem c__law_is_name {W : Wd} {mg : Str → Option Value} {base : Heap} (B : Bi mg) (S : Src W.K mg "_law_is_name" s__law_is_name)  : Cal W mg base "_law_is_name" 1 ["_law_thing"] (sp__law_is_name W) := by
  obtain ⟨f, fd, g, F⟩ := S
  exact ⟨f, fd, g, f__law_is_name B F , F.kp, (F.binds (ps := ["_law_thing"]) fun _ _ _ _ _ _ us hl => match us, hl with | [_], _ => rfl)⟩
theorem go__law_is_name {W : Wd} {H : Hp} {Q : VK} {E : XK} {v : V} {d : PyData} (hd : Dz W.K Ever H v d) (hl : ∀ z, d = .str z → z.length ≤ 1000000) (q : ∀ H', Same H H' → Q (.bl (nameD d)) H') : sp__law_is_name W [v] H Q E := ⟨d, hd, hl, q⟩
def sp__law_is_field (W : Wd) : Sp := fun vs H Q _ => match vs with
  | [v_thing, v_place] =>
  ∃ (d : PyData) (pl : Int), Dq W.K H v_thing d ∧ FldZ d ∧ v_place = .int pl ∧ (∀ z r, d = .tuple (.str z :: r) → z.length ≤ 1000000) ∧ ∀ H', Same H H' → Q (.bl (fieldD pl d)) H'
  | _ => False
abbrev N__law_is_field : List Str := ["_law_thing", "_law_place"]
theorem sc__law_is_field : FnScope N__law_is_field ["_law_thing", "_law_place"] (defScope s__law_is_field) := ⟨rfl, rfl, rfl, by decide +kernel, rfl, by decide +kernel, by decide +kernel⟩
theorem f__law_is_field {W : Wd} {mg : Str → Option Value} {base : Heap} (B : Bi mg) {f : Addr} {fd : FuncData} (F : Fun W.K "_law_is_field" "_law_is_field" s__law_is_field f fd) (C__law_between : Cal W mg base "_law_between" 2 ["_law_thing", "_law_least", "_law_most"] (sp__law_between W)) (C__law_is_kind : Cal W mg base "_law_is_kind" 4 ["_law_thing", "_law_place", "_law_breadth"] (sp__law_is_kind W)) (C__law_is_name : Cal W mg base "_law_is_name" 1 ["_law_thing"] (sp__law_is_name W)) : FnOk W.P W.w W.K mg base CX0 5 f fd ["_law_thing", "_law_place"] (sp__law_is_field W) := by
  obtain ⟨a__law_between, d__law_between, g__law_between, F__law_between, k__law_between, b__law_between⟩ := C__law_between
  obtain ⟨a__law_is_kind, d__law_is_kind, g__law_is_kind, F__law_is_kind, k__law_is_kind, b__law_is_kind⟩ := C__law_is_kind
  obtain ⟨a__law_is_name, d__law_is_name, g__law_is_name, F__law_is_name, k__law_is_name, b__law_is_name⟩ := C__law_is_name
  have nd := sc__law_is_field.nd
  have F0 : FnOk W.P W.w W.K mg base CX0 5 f fd ["_law_thing", "_law_place"] (sp__law_is_field W) := by
    refine F.ok sc__law_is_field (fun vs H Q E h => ?_) (fun cdv A outer s H vs Q E hr h => ?_)
    · match vs, h with | [_, _], _ => rfl
    · match vs, h with
      | [v_thing, v_place], h =>
        change sp__law_is_field W [v_thing, v_place] H Q E at h
        refine ⟨tSeq (tIfS (tOr (tNot (tB (tCB (rIsi W.K) (tCons (tVar 0) (tCons (tC (.ty "tuple")) tNil))))) (tOr (tTest (tOp (rNeU W.K) (tCB (rLenU W.K) (tCons (tVar 0) (tNil))) (tC (.int 3)))) (tNot (tB (tCall (sp__law_is_name W) [] E0 (tCons (tOp (rIxU W.K) (tVar 0) (tC (.int 0))) (tNil))))))) (tRet (tC (.bl false))) (tNext)) (tRet (tAndV (tCall (sp__law_between W) [] E0 (tCons (tOp (rIxU W.K) (tVar 0) (tC (.int 1))) (tCons (tC (.int 1)) (tCons (tC (.int 40)) (tNil))))) (tCall (sp__law_is_kind W) [] E0 (tCons (tOp (rIxU W.K) (tVar 0) (tC (.int 2))) (tCons (tVar 1) (tCons (tOp (rIxU W.K) (tVar 0) (tC (.int 1))) (tNil))))))), pss_cons (ps_if (PW.pt (pw_or (pt_not (pt_val (pe_callB call_isi (by rfl) B.b_isinstance (by decide +kernel) (pa_cons (pv 0) (pa_cons (pe_bltn (v := .ty "tuple") (u := .type "tuple") (by rfl) B.b_tuple (by decide +kernel) rfl) pa_nil))))) (pw_or (pt_cmpR (u_ne hr.units) (pe_callB u_len (by rfl) B.b_len (by decide +kernel) (pa_cons (pv 0) (pa_nil))) (pe_int) (nomark _)) (pw_or1 (pt_not (pt_val (pe_call F__law_is_name (hr.mono (by decide)) (by rfl) g__law_is_name k__law_is_name b__law_is_name .nil pass0 (pa_cons (pe_ix u_ix (pv 0) (pe_int) (fun _ _ => rfl)) (pa_nil))))))))) (pss_one (ps_ret (pe_bl))) (pss_nil)) (pss_one (ps_ret (pe_and (pe_call F__law_between (hr.mono (by decide)) (by rfl) g__law_between k__law_between b__law_between .nil pass0 (pa_cons (pe_ix u_ix (pv 0) (pe_int) (fun _ _ => rfl)) (pa_cons (pe_int) (pa_cons (pe_int) (pa_nil))))) (pe_one (pe_call F__law_is_kind (hr.mono (by decide)) (by rfl) g__law_is_kind k__law_is_kind b__law_is_kind .nil pass0 (pa_cons (pe_ix u_ix (pv 0) (pe_int) (fun _ _ => rfl)) (pa_cons (pv 1) (pa_cons (pe_ix u_ix (pv 0) (pe_int) (fun _ _ => rfl)) (pa_nil))))))))), ?_⟩
        clear hr
        clear F__law_between g__law_between k__law_between b__law_between d__law_between a__law_between
        clear F__law_is_kind g__law_is_kind k__law_is_kind b__law_is_kind d__law_is_kind a__law_is_kind
        clear F__law_is_name g__law_is_name k__law_is_name b__law_is_name d__law_is_name a__law_is_name
        rw [show L2.start N__law_is_field [v_thing, v_place] = [some v_thing, some v_place] from rfl]
        obtain ⟨d, pl, hd, hf, rfl, hz, q⟩ := h
        walk_at "Zs"
        refine w_istup' (dq_dp hd) ?_
        cases d with
        | tuple ds =>
          walk_at "Zs"
          rcases ds with _ | ⟨d0, _ | ⟨d1, _ | ⟨d2, _ | ⟨d3, r⟩⟩⟩⟩
          · exact q _ (Same.refl _)
          · exact q _ (Same.refl _)
          · exact q _ (Same.refl _)
          · walk_at "Zs"
            refine w_ixQT hd (d := d0) rfl fun x0 h0 => ?_
            walk_at "Zs"
            refine go__law_is_name (dz_dq h0) (fun z e => hz z _ (by rw [e])) fun H1 e1 => ?_
            have hd1 := dq_mono e1 hd
            have e : fieldD pl (.tuple [d0, d1, d2]) = (nameD d0 && (betwD 1 40 d1 && fieldE pl d2 d1)) := rfl
            rw [e] at q
            walk_at "Zs"
            cases c0 : nameD d0 with
            | false =>
              rw [c0, Bool.false_and] at q
              walk_at "Zs"
              exact q _ e1
            | true =>
              rw [c0, Bool.true_and] at q
              walk_at "Zs"
              refine w_ixQT hd1 (d := d1) rfl fun x1 h1 => ?_
              walk_at "Zs"
              refine go__law_between (dz_dq h1) ?_
              cases c1 : betwD 1 40 d1 with
              | false =>
                rw [c1, Bool.false_and] at q
                walk_at "Zs"
                exact q _ e1
              | true =>
                rw [c1, Bool.true_and] at q
                cases d1 with
                | int b =>
                  have cb : (decide (1 ≤ b) && decide (b ≤ 40)) = true := c1
                  rw [Bool.and_eq_true, decide_eq_true_iff, decide_eq_true_iff] at cb
                  walk_at "Zs"
                  refine w_ixQT hd1 (d := d2) rfl fun x2 h2 => ?_
                  walk_at "Zs"
                  refine w_ixQTi hd1 (n := b) rfl ?_
                  walk_at "Zs"
                  exact go__law_is_kind h2 (hf _ _ _ rfl) (by omega) (by omega) fun H2 e2 => q _ (e1.trans e2)
                | _ => cases c1
          · refine w_if (by simp only [List.length_cons]; omega) ?_
            walk_at "Zs"
            exact q _ (Same.refl _)
        | _ =>
          walk_at "Zs"
          exact q _ (Same.refl _)
  exact F0
theorem c__law_is_field {W : Wd} {mg : Str → Option Value} {base : Heap} (B : Bi mg) (S : Src W.K mg "_law_is_field" s__law_is_field) (C__law_between : Cal W mg base "_law_between" 2 ["_law_thing", "_law_least", "_law_most"] (sp__law_between W)) (C__law_is_kind : Cal W mg base "_law_is_kind" 4 ["_law_thing", "_law_place", "_law_breadth"] (sp__law_is_kind W)) (C__law_is_name : Cal W mg base "_law_is_name" 1 ["_law_thing"] (sp__law_is_name W)) : Cal W mg base "_law_is_field" 5 ["_law_thing", "_law_place"] (sp__law_is_field W) := by
  obtain ⟨f, fd, g, F⟩ := S
  exact ⟨f, fd, g, f__law_is_field B F C__law_between C__law_is_kind C__law_is_name, F.kp, (F.binds (ps := ["_law_thing", "_law_place"]) fun _ _ _ _ _ _ us hl => match us, hl with | [_, _], _ => rfl)⟩
theorem go__law_is_field {W : Wd} {H : Hp} {Q : VK} {E : XK} {v : V} {d : PyData} {pl : Int} (hd : Dq W.K H v d) (hf : FldZ d) (hz : ∀ z r, d = .tuple (.str z :: r) → z.length ≤ 1000000) (q : ∀ H', Same H H' → Q (.bl (fieldD pl d)) H') : sp__law_is_field W [v, .int pl] H Q E := ⟨d, pl, hd, hf, rfl, hz, q⟩
def sp__law_is_shape (W : Wd) : Sp := fun vs H Q _ => match vs with
  | [v_thing] =>
  ∃ d : PyData, Dq W.K H v_thing d ∧ ShpZ d ∧ SmSh d ∧ ∀ H', Same H H' → Q (.bl (shapeD d)) H'
  | _ => False
abbrev N__law_is_shape : List Str := ["_law_thing", "_law_place", "_law_field"]
theorem sc__law_is_shape : FnScope N__law_is_shape ["_law_thing"] (defScope s__law_is_shape) := ⟨rfl, rfl, rfl, by decide +kernel, rfl, by decide +kernel, by decide +kernel⟩
theorem f__law_is_shape {W : Wd} {mg : Str → Option Value} {base : Heap} (B : Bi mg) {f : Addr} {fd : FuncData} (F : Fun W.K "_law_is_shape" "_law_is_shape" s__law_is_shape f fd) (C__law_is_field : Cal W mg base "_law_is_field" 5 ["_law_thing", "_law_place"] (sp__law_is_field W)) (C__law_between : Cal W mg base "_law_between" 2 ["_law_thing", "_law_least", "_law_most"] (sp__law_between W)) : FnOk W.P W.w W.K mg base CX0 6 f fd ["_law_thing"] (sp__law_is_shape W) := by
  obtain ⟨a__law_is_field, d__law_is_field, g__law_is_field, F__law_is_field, k__law_is_field, b__law_is_field⟩ := C__law_is_field
  obtain ⟨a__law_between, d__law_between, g__law_between, F__law_between, k__law_between, b__law_between⟩ := C__law_between
  have nd := sc__law_is_shape.nd
  have F0 : FnOk W.P W.w W.K mg base CX0 6 f fd ["_law_thing"] (sp__law_is_shape W) := by
    refine F.ok sc__law_is_shape (fun vs H Q E h => ?_) (fun cdv A outer s H vs Q E hr h => ?_)
    · match vs, h with | [_], _ => rfl
    · match vs, h with
      | [v_thing], h =>
        change sp__law_is_shape W [v_thing] H Q E at h
        refine ⟨tSeq (tIfS (tOr (tNot (tB (tCB (rIsi W.K) (tCons (tVar 0) (tCons (tC (.ty "tuple")) tNil))))) (tOr (tTest (tOp (rNeU W.K) (tCB (rLenU W.K) (tCons (tVar 0) (tNil))) (tC (.int 2)))) (tNot (tB (tCB (rIsi W.K) (tCons (tOp (rIxU W.K) (tVar 0) (tC (.int 0))) (tCons (tC (.ty "tuple")) tNil))))))) (tRet (tC (.bl false))) (tNext)) (tSeq (tIfS (tOr (tNot (tTest (tChain (rLeU) (rLeU) (tC (.int 1)) (tCB (rLenU W.K) (tCons (tOp (rIxU W.K) (tVar 0) (tC (.int 0))) (tNil))) (tC (.int 12))))) (tNot (tB (tCall (sp__law_between W) [] E0 (tCons (tOp (rIxU W.K) (tVar 0) (tC (.int 1))) (tCons (tC (.int 1)) (tCons (tOp (rCon 10 6 1000000) (tC (.int 10)) (tC (.int 6))) (tNil)))))))) (tRet (tC (.bl false))) (tNext)) (tSeq (tIfS (tNot (tB (tCB (rAll W.K) (tCons (tLc (iEnumU W.K (tCons (tOp (rIxU W.K) (tVar 0) (tC (.int 0))) (tNil))) (gTup W.K 2 (gCons (gName 1) (gCons (gName 2) (gNil)))) (tYes) (tCall (sp__law_is_field W) [] E0 (tCons (tVar 2) (tCons (tVar 1) (tNil)))) [1, 2]) (tNil))))) (tRet (tC (.bl false))) (tNext)) (tRet (tOp (rEqU W.K) (tLenSetU W.K (tLc (iAny W.K (tOp (rIxU W.K) (tVar 0) (tC (.int 0)))) (gName 2) (tYes) (tOp (rIxU W.K) (tVar 2) (tC (.int 0))) [2])) (tCB (rLenU W.K) (tCons (tOp (rIxU W.K) (tVar 0) (tC (.int 0))) (tNil))))))), pss_cons (ps_if (PW.pt (pw_or (pt_not (pt_val (pe_callB call_isi (by rfl) B.b_isinstance (by decide +kernel) (pa_cons (pv 0) (pa_cons (pe_bltn (v := .ty "tuple") (u := .type "tuple") (by rfl) B.b_tuple (by decide +kernel) rfl) pa_nil))))) (pw_or (pt_cmpR (u_ne hr.units) (pe_callB u_len (by rfl) B.b_len (by decide +kernel) (pa_cons (pv 0) (pa_nil))) (pe_int) (nomark _)) (pw_or1 (pt_not (pt_val (pe_callB call_isi (by rfl) B.b_isinstance (by decide +kernel) (pa_cons (pe_ix u_ix (pv 0) (pe_int) (fun _ _ => rfl)) (pa_cons (pe_bltn (v := .ty "tuple") (u := .type "tuple") (by rfl) B.b_tuple (by decide +kernel) rfl) pa_nil))))))))) (pss_one (ps_ret (pe_bl))) (pss_nil)) (pss_cons (ps_if (PW.pt (pw_or (pt_not (pt_chain u_le u_le (pe_int) (pe_callB u_len (by rfl) B.b_len (by decide +kernel) (pa_cons (pe_ix u_ix (pv 0) (pe_int) (fun _ _ => rfl)) (pa_nil))) (pe_int))) (pw_or1 (pt_not (pt_val (pe_call F__law_between (hr.mono (by decide)) (by rfl) g__law_between k__law_between b__law_between .nil pass0 (pa_cons (pe_ix u_ix (pv 0) (pe_int) (fun _ _ => rfl)) (pa_cons (pe_int) (pa_cons (pe_op (u_powc ⟨by decide, by decide, by decide⟩ (by decide +kernel)) pe_int pe_int) (pa_nil)))))))))) (pss_one (ps_ret (pe_bl))) (pss_nil)) (pss_cons (ps_if (pt_not (pt_val (pe_callB (cr_all rfl) (by rfl) B.b_all (by decide +kernel) (pa_cons (pe_lc (own := [("_law_place", 1), ("_law_field", 2)]) rfl nd (pi_enumU (by rfl) B.b_enumerate (pa_cons (pe_ix u_ix (pv 0) (pe_int) (fun _ _ => rfl)) (pa_nil))) (blkOk_by (own := [("_law_place", 1), ("_law_field", 2)]) (N := N__law_is_shape) (sc := defScope s__law_is_shape) (by decide +kernel)) (fun _ _ _ _ _ => pg_tup rfl (pgs_cons (pg_name (i := 1) nd rfl (by first | exact Or.inl rfl | exact Or.inr rfl)) (pgs_cons (pg_name (i := 2) nd rfl (by first | exact Or.inl rfl | exact Or.inr rfl)) (pgs_nil)))) (fun _ _ _ _ _ => pts_nil) (fun _ _ _ _ _ => pe_call F__law_is_field (hr.mono (by decide)) (by rfl) g__law_is_field k__law_is_field b__law_is_field .nil pass0 (pa_cons (pv 2) (pa_cons (pv 1) (pa_nil))))) (pa_nil))))) (pss_one (ps_ret (pe_bl))) (pss_nil)) (pss_one (ps_ret (pe_cmpR (u_eq hr.units) (pe_lenSetU (by rfl) (by rfl) B.b_len (by rfl) B.b_set (pe_lc (own := [("_law_field", 2)]) rfl nd (pi_any (pe_ix u_ix (pv 0) (pe_int) (fun _ _ => rfl))) (blkOk_by (own := [("_law_field", 2)]) (N := N__law_is_shape) (sc := defScope s__law_is_shape) (by decide +kernel)) (fun _ _ _ _ _ => pg_name (i := 2) nd rfl (by first | exact Or.inl rfl | exact Or.inr rfl)) (fun _ _ _ _ _ => pts_nil) (fun _ _ _ _ _ => pe_ix u_ix (pv 2) (pe_int) (fun _ _ => rfl)))) (pe_callB u_len (by rfl) B.b_len (by decide +kernel) (pa_cons (pe_ix u_ix (pv 0) (pe_int) (fun _ _ => rfl)) (pa_nil))) (nomark _)))))), ?_⟩
        clear hr
        clear F__law_is_field g__law_is_field k__law_is_field b__law_is_field d__law_is_field a__law_is_field
        clear F__law_between g__law_between k__law_between b__law_between d__law_between a__law_between
        rw [show L2.start N__law_is_shape [v_thing] = [some v_thing, none, none] from rfl]
        obtain ⟨d, hd, hf, hz, q⟩ := h
        walk_at "Zs"
        refine w_istup' (dq_dp hd) ?_
        cases d with
        | tuple ds =>
          walk_at "Zs"
          rcases ds with _ | ⟨d0, _ | ⟨d1, _ | ⟨d2, r⟩⟩⟩
          · exact q _ (Same.refl _)
          · exact q _ (Same.refl _)
          · have e : shapeD (.tuple [d0, d1]) = (betwD 1 1000000 d1 && fieldsD d0) := rfl
            rw [e, Bool.and_comm] at q
            walk_at "Zs"
            refine w_ixQT hd (d := d0) rfl fun x0 h0 => ?_
            walk_at "Zs"
            refine w_istup' (dq_dp h0) ?_
            cases d0 with
            | tuple fs =>
              have e2 : fieldsD (.tuple fs) = (decide (1 ≤ fs.length) && (decide (fs.length ≤ 12) && (fieldsB fs && decide ((fs.map nmD).Nodup)))) := rfl
              rw [e2] at q
              walk_at "Zs"
              refine w_ixQT hd (d := .tuple fs) rfl fun x0 h0 => ?_
              walk_at "Zs"
              refine w_dec (fun c2 => ?_) (fun c2 => ?_)
              · rw [decide_eq_true (by omega), Bool.true_and] at q
                walk_at "Zs"
                refine w_dec (fun c3 => ?_) (fun c3 => ?_)
                · rw [decide_eq_true (by omega), Bool.true_and] at q
                  walk_at "Zs"
                  refine w_ixQT hd (d := d1) rfl fun x1 h1 => ?_
                  walk_at "Zs"
                  refine go__law_between (dz_dq h1) ?_
                  cases c1 : betwD 1 1000000 d1 with
                  | false =>
                    rw [c1, Bool.and_false] at q
                    walk_at "Zs"
                    exact q _ (Same.refl _)
                  | true =>
                    rw [c1, Bool.and_true] at q
                    walk_at "Zs"
                    refine w_ixQT hd (d := .tuple fs) rfl fun x0 h0 => ?_
                    walk_at "Zs"
                    obtain ⟨a, xs, rfl, hxn, hds⟩ := dq_tt h0
                    have hxs := hxn.t
                    have lx := dqs_len hds
                    refine w_goET hxs ?_
                    refine lcET hxs (fun i acc _ => acc = ((fs.take i).mapIdx fun j d => fieldD (j : Int) d).map V.bl) stb_pure (by omega) (fun i acc H' e => by rw [e, List.length_map, List.length_mapIdx, List.length_take]; omega) (fun H' _ => rfl) (fun i x acc H' hx e1 ea H2 e2 k k' hk hk' => ?_) fun D acc H1 hD e1 hD' ea => ?_
                    · obtain ⟨d, hd1, hxd⟩ := dqs_get2 hds hx
                      have hi := (List.getElem?_eq_some_iff.mp hd1).1
                      walk_at "Zs"
                      refine go__law_is_field (dq_mono (e1.trans e2) hxd) (hf _ _ rfl d (List.mem_of_getElem? hd1)) (hz _ _ rfl d (List.mem_of_getElem? hd1)) fun H3 e3 => ?_
                      refine hk _ _ e3 ?_
                      rw [ea, take_snoc hd1, List.mapIdx_concat, List.map_append, List.length_take, show min i fs.length = i by omega]
                      rfl
                    · rw [List.take_of_length_le (by omega)] at ea
                      walk_at "Zs"
                      refine w_all (bs := fs.mapIdx fun j d => fieldD (j : Int) d) (SqL.of (by rw [hD', ea])) ?_
                      rw [show ((fs.mapIdx fun j d => fieldD (j : Int) d).all id) = fieldsB fs from rfl]
                      cases c4 : fieldsB fs with
                      | false =>
                        rw [c4, Bool.false_and] at q
                        walk_at "Zs"
                        exact q _ e1
                      | true =>
                        rw [c4, Bool.true_and] at q
                        have hd1 := dq_mono e1 hd
                        walk_at "Zs"
                        refine w_ixQT hd1 (d := .tuple fs) rfl fun x0 h0' => ?_
                        obtain ⟨a2, xs2, rfl, hxn2, hds2⟩ := dq_tt h0'
                        have lx2 := dqs_len hds2
                        walk_at "Zs"
                        refine w_goT hxn2.t ?_
                        refine lcT hxn2.t (fun i acc _ => acc = (fs.take i).map fun d => V.str (nmD d)) stb_pure (by omega) (fun i acc H' e => by rw [e, List.length_map, List.length_take]; omega) (fun H' _ => rfl) (fun i x acc H' hx e2 ea k k' hk hk' => ?_) fun D2 acc H2 hD2 e2 hD2' ea => ?_
                        · obtain ⟨d, hd1, hxd⟩ := dqs_get2 hds2 hx
                          obtain ⟨z, a', b', rfl⟩ := field_nm (fields_get c4 hd1)
                          walk_at "Zs"
                          refine w_ixQTs (dq_mono e2 hxd) (z := z) rfl ?_
                          refine hk _ _ (Same.refl _) ?_
                          rw [ea, take_snoc hd1, List.map_append]
                          rfl
                        · rw [List.take_of_length_le (by omega)] at ea
                          walk_at "Zs"
                          refine .inl ⟨D2, fs.map nmD, rfl, SqL.of (by rw [hD2', ea, List.map_map]; rfl), by rw [List.length_map]; omega, fun c hc => ?_⟩
                          walk_at "Zs"
                          refine w_ixQT (dq_mono e2 hd1) (d := .tuple fs) rfl fun x0 h0'' => ?_
                          walk_at "Zs"
                          have z : decide ((c : Int) = (fs.length : Int)) = decide ((fs.map nmD).Nodup) := by
                            rw [decide_eq_decide, ← hc, List.length_map]
                            omega
                          rw [z]
                          exact q _ (e1.trans e2)
                · rw [decide_eq_false (by omega), Bool.false_and, Bool.false_and] at q
                  walk_at "Zs"
                  exact q _ (Same.refl _)
              · rw [decide_eq_false (by omega), Bool.false_and, Bool.false_and] at q
                walk_at "Zs"
                exact q _ (Same.refl _)
            | _ =>
              walk_at "Zs"
              exact q _ (Same.refl _)
          · refine w_if (by simp only [List.length_cons]; omega) ?_
            walk_at "Zs"
            exact q _ (Same.refl _)
        | _ =>
          walk_at "Zs"
          exact q _ (Same.refl _)
  exact F0
theorem c__law_is_shape {W : Wd} {mg : Str → Option Value} {base : Heap} (B : Bi mg) (S : Src W.K mg "_law_is_shape" s__law_is_shape) (C__law_is_field : Cal W mg base "_law_is_field" 5 ["_law_thing", "_law_place"] (sp__law_is_field W)) (C__law_between : Cal W mg base "_law_between" 2 ["_law_thing", "_law_least", "_law_most"] (sp__law_between W)) : Cal W mg base "_law_is_shape" 6 ["_law_thing"] (sp__law_is_shape W) := by
  obtain ⟨f, fd, g, F⟩ := S
  exact ⟨f, fd, g, f__law_is_shape B F C__law_is_field C__law_between, F.kp, (F.binds (ps := ["_law_thing"]) fun _ _ _ _ _ _ us hl => match us, hl with | [_], _ => rfl)⟩
theorem go__law_is_shape {W : Wd} {H : Hp} {Q : VK} {E : XK} {v : V} {d : PyData} (hd : Dq W.K H v d) (hf : ShpZ d) (hz : SmSh d) (q : ∀ H', Same H H' → Q (.bl (shapeD d)) H') : sp__law_is_shape W [v] H Q E := ⟨d, hd, hf, hz, q⟩
def IB (d : PyData) : Prop := (∃ i, d = .int i) ∨ ∃ b, d = .bool b
theorem ib_can {d : PyData} (h : IB d) : PyData.canLay0 d = true ∧ PyData.depth d ≤ 1 ∧ flatB d = true := by
  rcases h with ⟨i, rfl⟩ | ⟨b, rfl⟩
  · exact ⟨by simp [PyData.canLay0], by simp [PyData.depth], rfl⟩
  · exact ⟨by simp [PyData.canLay0], by simp [PyData.depth], rfl⟩
theorem ibs_can {ds : List PyData} (h : ∀ d ∈ ds, IB d) : PyData.canLayAll0 ds = true ∧ PyData.depthAll ds ≤ 1 ∧ ds.all flatB = true :=
  ⟨canAll ds fun d hd => (ib_can (h d hd)).1, depAll ds fun d hd => (ib_can (h d hd)).2.1, List.all_eq_true.mpr fun d hd => (ib_can (h d hd)).2.2⟩
theorem sok_step : PyData.strOk ("step" : Str) = true := by decide +kernel
theorem sok_turn : PyData.strOk ("turn" : Str) = true := by decide +kernel
theorem sok_with : PyData.strOk ("with" : Str) = true := by decide +kernel
/-- a word and flat things -/
theorem kz_word {z : Str} {ds : List PyData} (hz : PyData.strOk z = true) (h : ∀ d ∈ ds, IB d) : KdZ (.tuple (.str z :: ds)) := by
  obtain ⟨a, b, c⟩ := ibs_can h
  refine ⟨?_, ?_, ?_⟩
  · cases ds with
    | nil => rfl
    | cons d r => rcases h d List.mem_cons_self with ⟨i, rfl⟩ | ⟨b, rfl⟩ <;> rfl
  · simp [PyData.canLay0, PyData.canLayAll0, hz, a]
  · simp only [PyData.depth, PyData.depthAll]
    omega
theorem kz_turn {ds : List PyData} (h : ∀ d ∈ ds, IB d) : KdZ (.tuple [.str "turn", .tuple ds]) := by
  obtain ⟨a, b, c⟩ := ibs_can h
  refine ⟨c, ?_, ?_⟩
  · simp [PyData.canLay0, PyData.canLayAll0, sok_turn, a]
  · simp only [PyData.depth, PyData.depthAll]
    omega
theorem kz_list {ds : List PyData} (h : ∀ d ∈ ds, IB d) : KdZ (.tuple [.str "turn", .list ds]) := by
  obtain ⟨a, b, c⟩ := ibs_can h
  refine ⟨rfl, ?_, ?_⟩
  · simp [PyData.canLay0, PyData.canLayAll0, sok_turn, a]
  · simp only [PyData.depth, PyData.depthAll]
    omega
theorem ib_nil : ∀ d ∈ ([] : List PyData), IB d := fun _ h => nomatch h
theorem ib_int {i : Int} {ds : List PyData} (h : ∀ d ∈ ds, IB d) : ∀ d ∈ PyData.int i :: ds, IB d := fun d hd => by
  rcases List.mem_cons.mp hd with rfl | hd
  · exact .inl ⟨i, rfl⟩
  · exact h d hd
theorem ib_bool {b : Bool} {ds : List PyData} (h : ∀ d ∈ ds, IB d) : ∀ d ∈ PyData.bool b :: ds, IB d := fun d hd => by
  rcases List.mem_cons.mp hd with rfl | hd
  · exact .inr ⟨b, rfl⟩
  · exact h d hd
theorem ib_cut {ds : List PyData} {lo hi : Option Int} (h : ∀ d ∈ ds, IB d) : ∀ d ∈ cutD ds lo hi, IB d := fun d hd => h d (cutD_mem hd)
theorem ib_app {ds es : List PyData} (h : ∀ d ∈ ds, IB d) (h' : ∀ d ∈ es, IB d) : ∀ d ∈ ds ++ es, IB d := fun d hd => (List.mem_append.mp hd).elim (h d) (h' d)
theorem ib_ints (ns : List Int) : ∀ d ∈ ns.map PyData.int, IB d := fun d hd => by
  obtain ⟨i, _, rfl⟩ := List.mem_map.mp hd
  exact .inl ⟨i, rfl⟩
def OdK (K : PySem.W.Frag) (H : Hp) (x : V) : Prop := ∃ d, Dq K H x d ∧ KdZ d
def OdL (K : PySem.W.Frag) (H : Hp) (p : Addr) (n : Nat) : Prop := ∃ xs, H p = some (.lst xs) ∧ xs.length = n ∧ ∀ x ∈ xs, OdK K H x
theorem odK_mono {K : PySem.W.Frag} {H H' : Hp} {x : V} (e : Same H H') (h : OdK K H x) : OdK K H' x := by
  obtain ⟨d, h1, h2⟩ := h
  exact ⟨d, dq_mono e h1, h2⟩
theorem w_odL {K : PySem.W.Frag} {H0 H : Hp} {Q : VK} {a b : Addr} {m n : Nat} {ys : List V} (h : OdL K H0 a m) (e0 : Same H0 H) (h2 : H b = some (.lst ys)) (l2 : ys.length = n) (hy : ∀ y ∈ ys, OdK K H y) (hm : m + n ≤ 1000) (q : ∀ p H', H p = none → Same H H' → OdL K H' p (m + n) → Q (.ref p) H') : rAddN K (.ref a) (.ref b) H Q := by
  obtain ⟨xs, h, l, r⟩ := h
  exact w_catL (e0 _ _ h) h2 (by omega) fun p H' np e hp => q p H' np e ⟨_, hp, by rw [List.length_append, l, l2], fun x hx => by
    rcases List.mem_append.mp hx with z | z
    · exact odK_mono (e0.trans e) (r x z)
    · exact odK_mono e (hy x z)⟩
def sp__law_odd_kind (W : Wd) : Sp := fun vs H Q _ => match vs with
  | [v_pot_here, v_place, v_breadth] =>
  ∃ (pl b : Int), PotAt W H v_pot_here ∧ v_place = .int pl ∧ 0 ≤ pl ∧ pl ≤ 100 ∧ v_breadth = .int b ∧ 1 ≤ b ∧ b ≤ 40 ∧ ∀ x H', Same H H' → OdK W.K H' x → Q x H'
  | _ => False
abbrev N__law_odd_kind : List Str := ["_law_pot_here", "_law_place", "_law_breadth", "_law_size", "_law_row", "_law_some"]
theorem sc__law_odd_kind : FnScope N__law_odd_kind ["_law_pot_here", "_law_place", "_law_breadth"] (defScope s__law_odd_kind) := ⟨rfl, rfl, rfl, by decide +kernel, rfl, by decide +kernel, by decide +kernel⟩
theorem f__law_odd_kind {W : Wd} {mg : Str → Option Value} {base : Heap} (B : Bi mg) {f : Addr} {fd : FuncData} (F : Fun W.K "_law_odd_kind" "_law_odd_kind" s__law_odd_kind f fd) (C__law_draw : Cal W mg base "_law_draw" 1 ["_law_pot_here", "_law_many"] (sp__law_draw W)) (C__law_turn : Cal W mg base "_law_turn" 3 ["_law_pot_here", "_law_breadth"] (sp__law_turn W)) : FnOk W.P W.w W.K mg base CX0 4 f fd ["_law_pot_here", "_law_place", "_law_breadth"] (sp__law_odd_kind W) := by
  obtain ⟨a__law_draw, d__law_draw, g__law_draw, F__law_draw, k__law_draw, b__law_draw⟩ := C__law_draw
  obtain ⟨a__law_turn, d__law_turn, g__law_turn, F__law_turn, k__law_turn, b__law_turn⟩ := C__law_turn
  have nd := sc__law_odd_kind.nd
  have F0 : FnOk W.P W.w W.K mg base CX0 4 f fd ["_law_pot_here", "_law_place", "_law_breadth"] (sp__law_odd_kind W) := by
    refine F.ok sc__law_odd_kind (fun vs H Q E h => ?_) (fun cdv A outer s H vs Q E hr h => ?_)
    · match vs, h with | [_, _, _], _ => rfl
    · match vs, h with
      | [v_pot_here, v_place, v_breadth], h =>
        change sp__law_odd_kind W [v_pot_here, v_place, v_breadth] H Q E at h
        refine ⟨tSeq (tAsg (tOp (rShlU) (tC (.int 1)) (tVar 2)) (gName 3)) (tSeq (tAsg (tSl (rSlU W.K) (tOp (rAddN W.K) (tCall (sp__law_turn W) [] E0 (tCons (tVar 0) (tCons (tVar 2) (tNil)))) (tTupN (tCons (tVar 3) (tCons (tC (.int 0)) (tCons (tC (.bl true)) (tCons (tOp (rSubU) (tVar 3) (tC (.int 1))) (tNil))))))) (tNoPart) (tPart (tC (.int 13)))) (gName 4)) (tSeq (tAsg (tLst (tCons (tTupN (tCons (tC (.str "Still")) (tNil))) (tCons (tTupN (tCons (tC (.str "still")) (tCons (tC (.int 0)) (tNil)))) (tCons (tTupN (tCons (tC (.str "drawn")) (tCons (tC .non) (tNil)))) (tCons (tTupN (tNil)) (tCons (tC (.str "still")) (tCons (tLst (tCons (tC (.str "still")) (tNil))) (tCons (tC .non) (tCons (tTupN (tCons (tC (.str "step")) (tNil))) (tCons (tTupN (tCons (tC (.str "step")) (tCons (tVar 3) (tNil)))) (tNil))))))))))) (gName 5)) (tSeq (tAsg (tOp (rAddN W.K) (tVar 5) (tLst (tCons (tTupN (tCons (tC (.str "step")) (tCons (tUn (rU fun i => .int (-i)) (tC (.int 1))) (tNil)))) (tCons (tTupN (tCons (tC (.str "step")) (tCons (tC (.bl true)) (tNil)))) (tCons (tTupN (tCons (tC (.str "step")) (tCons (tC (.int 0)) (tCons (tC (.int 1)) (tNil))))) (tCons (tTupN (tCons (tC (.str "step")) (tCons (tOp (rSubU) (tVar 3) (tC (.int 1))) (tNil)))) (tCons (tTupN (tCons (tC (.str "turn")) (tCons (tVar 4) (tNil)))) (tCons (tTupN (tCons (tC (.str "turn")) (tCons (tSl (rSlU W.K) (tVar 4) (tNoPart) (tPart (tC (.int 1)))) (tNil)))) (tNil))))))))) (gName 5)) (tSeq (tAsg (tOp (rAddN W.K) (tVar 5) (tLst (tCons (tTupN (tCons (tC (.str "turn")) (tCons (tOp (rAddN W.K) (tSl (rSlU W.K) (tVar 4) (tNoPart) (tPart (tC (.int 2)))) (tSl (rSlU W.K) (tVar 4) (tNoPart) (tPart (tC (.int 1))))) (tNil)))) (tCons (tTupN (tCons (tC (.str "turn")) (tCons (tCB (rListU W.K) (tCons (tSl (rSlU W.K) (tVar 4) (tNoPart) (tPart (tC (.int 2)))) (tNil))) (tNil)))) (tCons (tTupN (tCons (tC (.str "turn")) (tCons (tTupN (tNil)) (tNil)))) (tCons (tOp (rAddN W.K) (tTupN (tCons (tC (.str "turn")) (tNil))) (tSl (rSlU W.K) (tVar 4) (tNoPart) (tPart (tC (.int 2))))) (tNil))))))) (gName 5)) (tSeq (tAsg (tOp (rAddN W.K) (tVar 5) (tLst (tCons (tTupN (tCons (tC (.str "turn")) (tCons (tTupRgN (tRg1 (tCB (rMin2) (tCons (tVar 3) (tCons (tC (.int 13)) (tNil)))))) (tNil)))) (tCons (tTupN (tCons (tC (.str "turn")) (tCons (tTupRgN (tRg1 (tCB (rMin2) (tCons (tVar 3) (tCons (tC (.int 12)) (tNil)))))) (tNil)))) (tCons (tTupN (tCons (tC (.str "with")) (tCons (tVar 1) (tCons (tC (.int 1)) (tNil))))) (tNil)))))) (gName 5)) (tSeq (tAsg (tOp (rAddN W.K) (tVar 5) (tLst (tCons (tTupN (tCons (tC (.str "with")) (tCons (tOp (rSubU) (tVar 1) (tC (.int 1))) (tCons (tC (.int 100)) (tNil))))) (tCons (tTupN (tCons (tC (.str "with")) (tCons (tOp (rSubU) (tVar 1) (tC (.int 1))) (tCons (tUn (rU fun i => .int (-i)) (tC (.int 100))) (tNil))))) (tCons (tTupN (tCons (tC (.str "with")) (tCons (tOp (rSubU) (tVar 1) (tC (.int 1))) (tCons (tUn (rU fun i => .int (-i)) (tC (.int 99))) (tNil))))) (tCons (tTupN (tCons (tC (.str "with")) (tCons (tC (.int 0)) (tCons (tC (.bl true)) (tNil))))) (tNil))))))) (gName 5)) (tSeq (tAsg (tOp (rAddN W.K) (tVar 5) (tLst (tCons (tTupN (tCons (tC (.str "with")) (tCons (tUn (rU fun i => .int (-i)) (tC (.int 1))) (tCons (tC (.int 1)) (tNil))))) (tCons (tTupN (tCons (tC (.str "with")) (tCons (tC (.bl true)) (tCons (tC (.int 1)) (tNil))))) (tCons (tTupN (tCons (tC (.str "with")) (tCons (tOp (rSubU) (tVar 1) (tC (.int 1))) (tNil)))) (tCons (tTupN (tCons (tC (.str "with")) (tCons (tC (.str "a")) (tCons (tC (.int 1)) (tNil))))) (tCons (tTupN (tCons (tTupN (tCons (tC (.str "still")) (tNil))) (tNil))) (tCons (tTupN (tCons (tC (.str "go")) (tNil))) (tNil))))))))) (gName 5)) (tRet (tOp (rIxU W.K) (tVar 5) (tCall (sp__law_draw W) [] E0 (tCons (tVar 0) (tCons (tCB (rLenU W.K) (tCons (tVar 5) (tNil))) (tNil))))))))))))), pss_cons (ps_set (i := 3) nd rfl (.inl rfl) (pe_op u_shl (pe_int) (pv 2))) (pss_cons (ps_set (i := 4) nd rfl (.inl rfl) (pe_slice u_sl (pe_op u_addN (pe_call F__law_turn (hr.mono (by decide)) (by rfl) g__law_turn k__law_turn b__law_turn .nil pass0 (pa_cons (pv 0) (pa_cons (pv 2) (pa_nil)))) (pe_tupN (pa_cons (pv 3) (pa_cons (pe_int) (pa_cons (pe_bl) (pa_cons (pe_op u_sub (pv 3) (pe_int)) (pa_nil))))))) (po_none) (po_some (pe_int)))) (pss_cons (ps_set (i := 5) nd rfl (.inl rfl) (pe_lst (pa_cons (pe_tupN (pa_cons (pe_str) (pa_nil))) (pa_cons (pe_tupN (pa_cons (pe_str) (pa_cons (pe_int) (pa_nil)))) (pa_cons (pe_tupN (pa_cons (pe_str) (pa_cons (pe_non) (pa_nil)))) (pa_cons (pe_tupN (pa_nil)) (pa_cons (pe_str) (pa_cons (pe_lst (pa_cons (pe_str) (pa_nil))) (pa_cons (pe_non) (pa_cons (pe_tupN (pa_cons (pe_str) (pa_nil))) (pa_cons (pe_tupN (pa_cons (pe_str) (pa_cons (pv 3) (pa_nil)))) (pa_nil)))))))))))) (pss_cons (ps_set (i := 5) nd rfl (.inl rfl) (pe_op u_addN (pv 5) (pe_lst (pa_cons (pe_tupN (pa_cons (pe_str) (pa_cons (pe_un un_neg (pe_int)) (pa_nil)))) (pa_cons (pe_tupN (pa_cons (pe_str) (pa_cons (pe_bl) (pa_nil)))) (pa_cons (pe_tupN (pa_cons (pe_str) (pa_cons (pe_int) (pa_cons (pe_int) (pa_nil))))) (pa_cons (pe_tupN (pa_cons (pe_str) (pa_cons (pe_op u_sub (pv 3) (pe_int)) (pa_nil)))) (pa_cons (pe_tupN (pa_cons (pe_str) (pa_cons (pv 4) (pa_nil)))) (pa_cons (pe_tupN (pa_cons (pe_str) (pa_cons (pe_slice u_sl (pv 4) (po_none) (po_some (pe_int))) (pa_nil)))) (pa_nil)))))))))) (pss_cons (ps_set (i := 5) nd rfl (.inl rfl) (pe_op u_addN (pv 5) (pe_lst (pa_cons (pe_tupN (pa_cons (pe_str) (pa_cons (pe_op u_addN (pe_slice u_sl (pv 4) (po_none) (po_some (pe_int))) (pe_slice u_sl (pv 4) (po_none) (po_some (pe_int)))) (pa_nil)))) (pa_cons (pe_tupN (pa_cons (pe_str) (pa_cons (pe_callTy (u_list (by rfl)) (by rfl) B.b_list (by decide +kernel) (pa_cons (pe_slice u_sl (pv 4) (po_none) (po_some (pe_int))) (pa_nil))) (pa_nil)))) (pa_cons (pe_tupN (pa_cons (pe_str) (pa_cons (pe_tupN (pa_nil)) (pa_nil)))) (pa_cons (pe_op u_addN (pe_tupN (pa_cons (pe_str) (pa_nil))) (pe_slice u_sl (pv 4) (po_none) (po_some (pe_int)))) (pa_nil)))))))) (pss_cons (ps_set (i := 5) nd rfl (.inl rfl) (pe_op u_addN (pv 5) (pe_lst (pa_cons (pe_tupN (pa_cons (pe_str) (pa_cons (pe_tupRgN (by rfl) (by rfl) B.b_tuple (prg_1 (by rfl) B.b_range (pe_callB (call_min2 rfl) (by rfl) B.b_min (by decide +kernel) (pa_cons (pv 3) (pa_cons (pe_int) (pa_nil)))))) (pa_nil)))) (pa_cons (pe_tupN (pa_cons (pe_str) (pa_cons (pe_tupRgN (by rfl) (by rfl) B.b_tuple (prg_1 (by rfl) B.b_range (pe_callB (call_min2 rfl) (by rfl) B.b_min (by decide +kernel) (pa_cons (pv 3) (pa_cons (pe_int) (pa_nil)))))) (pa_nil)))) (pa_cons (pe_tupN (pa_cons (pe_str) (pa_cons (pv 1) (pa_cons (pe_int) (pa_nil))))) (pa_nil))))))) (pss_cons (ps_set (i := 5) nd rfl (.inl rfl) (pe_op u_addN (pv 5) (pe_lst (pa_cons (pe_tupN (pa_cons (pe_str) (pa_cons (pe_op u_sub (pv 1) (pe_int)) (pa_cons (pe_int) (pa_nil))))) (pa_cons (pe_tupN (pa_cons (pe_str) (pa_cons (pe_op u_sub (pv 1) (pe_int)) (pa_cons (pe_un un_neg (pe_int)) (pa_nil))))) (pa_cons (pe_tupN (pa_cons (pe_str) (pa_cons (pe_op u_sub (pv 1) (pe_int)) (pa_cons (pe_un un_neg (pe_int)) (pa_nil))))) (pa_cons (pe_tupN (pa_cons (pe_str) (pa_cons (pe_int) (pa_cons (pe_bl) (pa_nil))))) (pa_nil)))))))) (pss_cons (ps_set (i := 5) nd rfl (.inl rfl) (pe_op u_addN (pv 5) (pe_lst (pa_cons (pe_tupN (pa_cons (pe_str) (pa_cons (pe_un un_neg (pe_int)) (pa_cons (pe_int) (pa_nil))))) (pa_cons (pe_tupN (pa_cons (pe_str) (pa_cons (pe_bl) (pa_cons (pe_int) (pa_nil))))) (pa_cons (pe_tupN (pa_cons (pe_str) (pa_cons (pe_op u_sub (pv 1) (pe_int)) (pa_nil)))) (pa_cons (pe_tupN (pa_cons (pe_str) (pa_cons (pe_str) (pa_cons (pe_int) (pa_nil))))) (pa_cons (pe_tupN (pa_cons (pe_tupN (pa_cons (pe_str) (pa_nil))) (pa_nil))) (pa_cons (pe_tupN (pa_cons (pe_str) (pa_nil))) (pa_nil)))))))))) (pss_one (ps_ret (pe_ix u_ix (pv 5) (pe_call F__law_draw (hr.mono (by decide)) (by rfl) g__law_draw k__law_draw b__law_draw .nil pass0 (pa_cons (pv 0) (pa_cons (pe_callB u_len (by rfl) B.b_len (by decide +kernel) (pa_cons (pv 5) (pa_nil))) (pa_nil)))) (fun _ _ => rfl))))))))))), ?_⟩
        clear hr
        clear F__law_draw g__law_draw k__law_draw b__law_draw d__law_draw a__law_draw
        clear F__law_turn g__law_turn k__law_turn b__law_turn d__law_turn a__law_turn
        rw [show L2.start N__law_odd_kind [v_pot_here, v_place, v_breadth] = [some v_pot_here, some v_place, some v_breadth, none, none, none] from rfl]
        obtain ⟨pl, b, hp, rfl, p0, p1, rfl, b0, b1, q⟩ := h
        have p40 : p2 b ≤ 1099511627776 := Int.le_trans (p2_le b1) (by decide)
        have pp := p2_pos b
        have l100 : ∀ {m : Nat}, m ≤ 100 → m ≤ sizeLine := fun h => Nat.le_trans h (by decide)
        walk_at "Zs"
        refine go__law_turn hp b0 b1 fun ns v1 H1 e1 h1 okt => ?_
        have lns := okt.2.1
        walk_at "Zs"
        rename_i pa Ha na ea ha
        refine w_catQT (dq_mono ea h1) (dq_new ha (.cons (.int _) (.cons (.int 0) (dqs_two (.bl true) (.int _))))) (l100 (by rw [List.length_map]; show ns.length + 4 ≤ 100; omega)) fun v2 H2 e2 h2 => ?_
        walk_at "Zs"
        refine w_slQT h2 fun v3 H3 e3 h3 => ?_
        have ibr := ib_cut (lo := none) (hi := some 13) (ib_app (ib_ints ns) (ib_int (i := p2 b) (ib_int (i := 0) (ib_bool (b := true) (ib_int (i := p2 b - 1) ib_nil)))))
        have hrl : (cutD (ns.map PyData.int ++ [.int (p2 b), .int 0, .bool true, .int (p2 b - 1)]) none (some 13)).length ≤ 16 := by
          refine Nat.le_trans cutD_len ?_
          rw [List.length_append, List.length_map]
          show ns.length + 4 ≤ 16
          omega
        generalize cutD (ns.map PyData.int ++ [.int (p2 b), .int 0, .bool true, .int (p2 b - 1)]) none (some 13) = rd at h3 ibr hrl
        walk_at "Zs"
        rename_i pa1 Ha1 na1 ea1 ha1 pa2 Ha2 na2 ea2 ha2 pa3 Ha3 na3 ea3 ha3 pa4 Ha4 na4 ea4 ha4 pa5 Ha5 na5 ea5 ha5 pa6 Ha6 na6 ea6 ha6 pa7 Ha7 na7 ea7 ha7 pA HA nA eA hA pb1 Hb1 nb1 eb1 hb1 pb2 Hb2 nb2 eb2 hb2 pb3 Hb3 nb3 eb3 hb3 pb4 Hb4 nb4 eb4 hb4 pb5 Hb5 nb5 eb5 hb5
        have fA : ∀ y ∈ [V.ref pa1, .ref pa2, .ref pa3, .ref pa4, .str "still", .ref pa5, .non, .ref pa6, .ref pa7], OdK W.K HA y := fun y hy => by
          simp only [List.mem_cons, List.mem_nil_iff, or_false] at hy
          rcases hy with rfl | rfl | rfl | rfl | rfl | rfl | rfl | rfl | rfl
          · exact odK_mono (by walk_at "Zkt") ⟨_, dq_new ha1 (dqs_one (.str _)), ⟨rfl, by decide +kernel, by decide +kernel⟩⟩
          · exact odK_mono (by walk_at "Zkt") ⟨_, dq_new ha2 (dqs_two (.str _) (.int 0)), kz_word (by decide +kernel) (ib_int ib_nil)⟩
          · exact odK_mono (by walk_at "Zkt") ⟨_, dq_new ha3 (dqs_two (.str _) .non), ⟨rfl, by decide +kernel, by decide +kernel⟩⟩
          · exact odK_mono (by walk_at "Zkt") ⟨_, dq_new ha4 .nil, ⟨rfl, by decide +kernel, by decide +kernel⟩⟩
          · exact ⟨_, .str _, ⟨rfl, by decide +kernel, by decide +kernel⟩⟩
          · exact odK_mono (by walk_at "Zkt") ⟨_, dq_newl ha5 (dqs_one (.str _)), ⟨rfl, by decide +kernel, by decide +kernel⟩⟩
          · exact ⟨_, .non, ⟨rfl, by decide +kernel, by decide +kernel⟩⟩
          · exact odK_mono (by walk_at "Zkt") ⟨_, dq_new ha6 (dqs_one (.str _)), ⟨rfl, by decide +kernel, by decide +kernel⟩⟩
          · exact odK_mono (by walk_at "Zkt") ⟨_, dq_new ha7 (dqs_two (.str _) (.int _)), kz_word sok_step (ib_int ib_nil)⟩
        have LA : OdL W.K HA pA 9 := ⟨_, hA, rfl, fA⟩
        have hrow := fun H' (e : Same H3 H') => dq_mono e h3
        refine w_slQT (dq_mono (by walk_at "Zkt") h3) fun vb6 Hb6 eb6 hb6 => ?_
        walk_at "Zs"
        rename_i pb7 Hb7 nb7 eb7 hb7 pB HB nB eB hB
        have kb1 : OdK W.K HB (.ref pb1) := odK_mono (by walk_at "Zkt") ⟨_, dq_new hb1 (dqs_two (.str _) (.int (-1))), kz_word sok_step (ib_int ib_nil)⟩
        have kb2 : OdK W.K HB (.ref pb2) := odK_mono (by walk_at "Zkt") ⟨_, dq_new hb2 (dqs_two (.str _) (.bl true)), kz_word sok_step (ib_bool ib_nil)⟩
        have kb3 : OdK W.K HB (.ref pb3) := odK_mono (by walk_at "Zkt") ⟨_, dq_new hb3 (.cons (.str _) (dqs_two (.int 0) (.int 1))), kz_word sok_step (ib_int (ib_int ib_nil))⟩
        have kb4 : OdK W.K HB (.ref pb4) := odK_mono (by walk_at "Zkt") ⟨_, dq_new hb4 (dqs_two (.str _) (.int _)), kz_word sok_step (ib_int ib_nil)⟩
        have kb5 : OdK W.K HB (.ref pb5) := odK_mono (by walk_at "Zkt") ⟨_, dq_new hb5 (dqs_two (.str _) (dq_mono (by walk_at "Zkt") h3)), kz_turn ibr⟩
        have kb7 : OdK W.K HB (.ref pb7) := odK_mono (by walk_at "Zkt") ⟨_, dq_new hb7 (dqs_two (.str _) (dq_mono (by walk_at "Zkt") hb6)), kz_turn (ib_cut ibr)⟩
        have eALL : Same HA HB ∧ Same H3 HB ∧ Same H HB := ⟨by walk_at "Zkt", by walk_at "Zkt", by walk_at "Zkt"⟩
        obtain ⟨eAB, e3B, eHB⟩ := eALL
        refine w_odL (n := 6) LA eAB hB rfl (fun y hy => by
          simp only [List.mem_cons, List.mem_nil_iff, or_false] at hy
          rcases hy with rfl | rfl | rfl | rfl | rfl | rfl
          · exact kb1
          · exact kb2
          · exact kb3
          · exact kb4
          · exact kb5
          · exact kb7) (by decide) fun pC HC nC eC LC => ?_
        have hR := dq_mono (e3B.trans eC) h3
        have eHC := eHB.trans eC
        clear na1 ea1 ha1 na2 ea2 ha2 na3 ea3 ha3 na4 ea4 ha4 na5 ea5 ha5 na6 ea6 ha6 na7 ea7 ha7 nA eA hA nb1 eb1 hb1 nb2 eb2 hb2 nb3 eb3 hb3 nb4 eb4 hb4 nb5 eb5 hb5 nb7 eb7 hb7 nB eB hB hrow fA LA kb1 kb2 kb3 kb4 kb5 kb7 e3B eHB eAB h3 h1 h2 ha eb6 hb6 e1 ea e2 e3 nC eC na
        walk_at "Zs"
        refine w_slQT hR fun vc1 Hc1 ec1 hc1 => ?_
        walk_at "Zs"
        refine w_slQT (dq_mono ec1 hR) fun vc2 Hc2 ec2 hc2 => ?_
        walk_at "Zs"
        refine w_catQT (dq_mono ec2 hc1) hc2 (l100 (by have := cutD_len (xs := rd) (lo := none) (hi := some 2); have := cutD_len (xs := rd) (lo := none) (hi := some 1); omega)) fun vc3 Hc3 ec3 hc3 => ?_
        walk_at "Zs"
        rename_i pc4 Hc4 nc4 ec4 hc4
        refine w_slQT (dq_mono (by walk_at "Zkt") hR) fun vc5 Hc5 ec5 hc5 => ?_
        walk_at "Zs"
        obtain ⟨ac5, xc5, rfl, hxc5, hdc5⟩ := dq_tt hc5
        refine w_listUT hxc5.t fun pc6 Hc6 nc6 ec6 hc6 => ?_
        walk_at "Zs"
        rename_i pc7 Hc7 nc7 ec7 hc7 pc8 Hc8 nc8 ec8 hc8 pc9 Hc9 nc9 ec9 hc9 pd1 Hd1 nd1 ed1 hd1
        refine w_slQT (dq_mono (by walk_at "Zkt") hR) fun vd2 Hd2 ed2 hd2 => ?_
        walk_at "Zs"
        refine w_catQT (dq_mono ed2 (dq_new hd1 (dqs_one (.str _)))) hd2 (l100 (by have := cutD_len (xs := rd) (lo := none) (hi := some 2); show 1 + _ ≤ 100; omega)) fun vd3 Hd3 ed3 hd3 => ?_
        walk_at "Zs"
        rename_i pD HD nD eD hD
        have k1 : OdK W.K HD (.ref pc4) := odK_mono (by walk_at "Zkt") ⟨_, dq_new hc4 (dqs_two (.str _) (dq_mono ec4 hc3)), kz_turn (ib_app (ib_cut ibr) (ib_cut ibr))⟩
        have k2 : OdK W.K HD (.ref pc7) := odK_mono (by walk_at "Zkt") ⟨_, dq_new hc7 (dqs_two (.str _) (dq_mono ec7 (dq_newl hc6 (dqs_mono ec6 hdc5)))), kz_list (ib_cut ibr)⟩
        have k3 : OdK W.K HD (.ref pc9) := odK_mono (by walk_at "Zkt") ⟨_, dq_new hc9 (dqs_two (.str _) (dq_mono ec9 (dq_new hc8 .nil))), kz_turn ib_nil⟩
        have k4 : OdK W.K HD vd3 := odK_mono eD ⟨_, hd3, kz_word sok_turn (ib_cut ibr)⟩
        have eCD : Same HC HD := (by walk_at "Zkt")
        refine w_odL (n := 4) LC eCD hD rfl (fun y hy => by
          simp only [List.mem_cons, List.mem_nil_iff, or_false] at hy
          rcases hy with rfl | rfl | rfl | rfl
          · exact k1
          · exact k2
          · exact k3
          · exact k4) (by decide) fun pE HE nE eE LE => ?_
        have eHE := eHC.trans (eCD.trans eE)
        clear nc4 ec4 hc4 nc7 ec7 hc7 nc8 ec8 hc8 nc9 ec9 hc9 nd1 ed1 hd1 nD eD hD k1 k2 k3 k4 eCD LC nE eE ec1 ec2 ec3 hc1 hc2 hc3 ec5 hc5 hxc5 hdc5 nc6 ec6 hc6 ed2 hd2 ed3 hd3 hR eHC ibr hrl
        walk_at "Zs"
        refine w_tupRg ?_
        walk_at "Zs"
        refine w_rgT (K := W.K) (n := if (13 : Int) < p2 b then 13 else p2 b) (by split <;> omega) (by split <;> omega) fun pf1 nsf1 Hf1 nf1 ef1 hf1 => ?_
        walk_at "Zs"
        rename_i pf2 Hf2 nf2 ef2 hf2
        refine w_tupRg ?_
        walk_at "Zs"
        refine w_rgT (K := W.K) (n := if (12 : Int) < p2 b then 12 else p2 b) (by split <;> omega) (by split <;> omega) fun pf3 nsf3 Hf3 nf3 ef3 hf3 => ?_
        walk_at "Zs"
        rename_i pf4 Hf4 nf4 ef4 hf4 pf5 Hf5 nf5 ef5 hf5 pF HF nF eF hF
        have k1 : OdK W.K HF (.ref pf2) := odK_mono (by walk_at "Zkt") ⟨_, dq_new hf2 (dqs_two (.str _) (dq_mono ef2 (dq_new hf1 (dqs_ints nsf1)))), kz_turn (ib_ints _)⟩
        have k2 : OdK W.K HF (.ref pf4) := odK_mono (by walk_at "Zkt") ⟨_, dq_new hf4 (dqs_two (.str _) (dq_mono ef4 (dq_new hf3 (dqs_ints nsf3)))), kz_turn (ib_ints _)⟩
        have k3 : OdK W.K HF (.ref pf5) := odK_mono (by walk_at "Zkt") ⟨_, dq_new hf5 (.cons (.str _) (dqs_two (.int _) (.int 1))), kz_word sok_with (ib_int (ib_int ib_nil))⟩
        have eEF : Same HE HF := (by walk_at "Zkt")
        refine w_odL (n := 3) LE eEF hF rfl (fun y hy => by
          simp only [List.mem_cons, List.mem_nil_iff, or_false] at hy
          rcases hy with rfl | rfl | rfl
          · exact k1
          · exact k2
          · exact k3) (by decide) fun pG HG nG eG LG => ?_
        have eHG := eHE.trans (eEF.trans eG)
        clear nf2 ef2 hf2 nf4 ef4 hf4 nf5 ef5 hf5 nF eF hF k1 k2 k3 eEF LE nG eG nf1 ef1 hf1 nf3 ef3 hf3 eHE
        walk_at "Zs"
        rename_i pg1 Hg1 ng1 eg1 hg1 pg2 Hg2 ng2 eg2 hg2 pg3 Hg3 ng3 eg3 hg3 pg4 Hg4 ng4 eg4 hg4 pI HI nI eI hI
        have k1 : OdK W.K HI (.ref pg1) := odK_mono (by walk_at "Zkt") ⟨_, dq_new hg1 (.cons (.str _) (dqs_two (.int _) (.int _))), kz_word sok_with (ib_int (ib_int ib_nil))⟩
        have k2 : OdK W.K HI (.ref pg2) := odK_mono (by walk_at "Zkt") ⟨_, dq_new hg2 (.cons (.str _) (dqs_two (.int _) (.int _))), kz_word sok_with (ib_int (ib_int ib_nil))⟩
        have k3 : OdK W.K HI (.ref pg3) := odK_mono (by walk_at "Zkt") ⟨_, dq_new hg3 (.cons (.str _) (dqs_two (.int _) (.int _))), kz_word sok_with (ib_int (ib_int ib_nil))⟩
        have k4 : OdK W.K HI (.ref pg4) := odK_mono (by walk_at "Zkt") ⟨_, dq_new hg4 (.cons (.str _) (dqs_two (.int _) (.bl true))), kz_word sok_with (ib_int (ib_bool ib_nil))⟩
        have eGI : Same HG HI := (by walk_at "Zkt")
        refine w_odL (n := 4) LG eGI hI rfl (fun y hy => by
          simp only [List.mem_cons, List.mem_nil_iff, or_false] at hy
          rcases hy with rfl | rfl | rfl | rfl
          · exact k1
          · exact k2
          · exact k3
          · exact k4) (by decide) fun pJ HJ nJ eJ LJ => ?_
        have eHJ := eHG.trans (eGI.trans eJ)
        clear ng1 eg1 hg1 ng2 eg2 hg2 ng3 eg3 hg3 ng4 eg4 hg4 nI eI hI k1 k2 k3 k4 eGI LG nJ eJ eHG
        walk_at "Zs"
        rename_i pj1 Hj1 nj1 ej1 hj1 pj2 Hj2 nj2 ej2 hj2 pj3 Hj3 nj3 ej3 hj3 pj4 Hj4 nj4 ej4 hj4 pj5 Hj5 nj5 ej5 hj5 pj6 Hj6 nj6 ej6 hj6 pj7 Hj7 nj7 ej7 hj7 pL HL nL eL hL
        have k1 : OdK W.K HL (.ref pj1) := odK_mono (by walk_at "Zkt") ⟨_, dq_new hj1 (.cons (.str _) (dqs_two (.int _) (.int _))), kz_word sok_with (ib_int (ib_int ib_nil))⟩
        have k2 : OdK W.K HL (.ref pj2) := odK_mono (by walk_at "Zkt") ⟨_, dq_new hj2 (.cons (.str _) (dqs_two (.bl true) (.int _))), kz_word sok_with (ib_bool (ib_int ib_nil))⟩
        have k3 : OdK W.K HL (.ref pj3) := odK_mono (by walk_at "Zkt") ⟨_, dq_new hj3 (dqs_two (.str _) (.int _)), kz_word sok_with (ib_int ib_nil)⟩
        have k4 : OdK W.K HL (.ref pj4) := odK_mono (by walk_at "Zkt") ⟨_, dq_new hj4 (.cons (.str _) (dqs_two (.str _) (.int _))), ⟨rfl, by decide +kernel, by decide +kernel⟩⟩
        have k5 : OdK W.K HL (.ref pj6) := odK_mono (by walk_at "Zkt") ⟨_, dq_new hj6 (dqs_one (dq_mono ej6 (dq_new hj5 (dqs_one (.str _))))), ⟨rfl, by decide +kernel, by decide +kernel⟩⟩
        have k6 : OdK W.K HL (.ref pj7) := odK_mono (by walk_at "Zkt") ⟨_, dq_new hj7 (dqs_one (.str _)), ⟨rfl, by decide +kernel, by decide +kernel⟩⟩
        have eJL : Same HJ HL := (by walk_at "Zkt")
        refine w_odL (n := 6) LJ eJL hL rfl (fun y hy => by
          simp only [List.mem_cons, List.mem_nil_iff, or_false] at hy
          rcases hy with rfl | rfl | rfl | rfl | rfl | rfl
          · exact k1
          · exact k2
          · exact k3
          · exact k4
          · exact k5
          · exact k6) (by decide) fun pM HM nM eM LM => ?_
        have eHM := eHJ.trans (eJL.trans eM)
        obtain ⟨xs, hxs, lxs, oxs⟩ := LM
        walk_at "Zs"
        refine w_lenL (SqL.of hxs) ?_
        rw [lxs]
        walk_at "Zs"
        rename_i dn HN eN dn0 dn1
        refine w_ixP (OdK W.K HN) (SqL.of (eN _ _ hxs)) dn0 (by rw [lxs]; exact dn1) (fun x hx => odK_mono eN (oxs x hx)) fun x hx => ?_
        exact q x HN (eHM.trans eN) hx
  exact F0
theorem c__law_odd_kind {W : Wd} {mg : Str → Option Value} {base : Heap} (B : Bi mg) (S : Src W.K mg "_law_odd_kind" s__law_odd_kind) (C__law_draw : Cal W mg base "_law_draw" 1 ["_law_pot_here", "_law_many"] (sp__law_draw W)) (C__law_turn : Cal W mg base "_law_turn" 3 ["_law_pot_here", "_law_breadth"] (sp__law_turn W)) : Cal W mg base "_law_odd_kind" 4 ["_law_pot_here", "_law_place", "_law_breadth"] (sp__law_odd_kind W) := by
  obtain ⟨f, fd, g, F⟩ := S
  exact ⟨f, fd, g, f__law_odd_kind B F C__law_draw C__law_turn, F.kp, (F.binds (ps := ["_law_pot_here", "_law_place", "_law_breadth"]) fun _ _ _ _ _ _ us hl => match us, hl with | [_, _, _], _ => rfl)⟩
theorem go__law_odd_kind {W : Wd} {H : Hp} {Q : VK} {E : XK} {v : V} {pl b : Int} (hp : PotAt W H v) (p0 : 0 ≤ pl) (p1 : pl ≤ 100) (b0 : 1 ≤ b) (b1 : b ≤ 40) (q : ∀ x H', Same H H' → OdK W.K H' x → Q x H') : sp__law_odd_kind W [v, .int pl, .int b] H Q E := ⟨pl, b, hp, rfl, p0, p1, rfl, b0, b1, q⟩
theorem kz_kd (k : Kd) : KdZ (kdD k) := by
  cases k with
  | still => exact ⟨rfl, by decide +kernel, by decide +kernel⟩
  | drawn => exact ⟨rfl, by decide +kernel, by decide +kernel⟩
  | step n => exact kz_word sok_step (ib_int ib_nil)
  | turn ns => exact kz_turn (ib_ints ns)
  | wth p b => exact kz_word sok_with (ib_int (ib_int ib_nil))
def OdD (K : PySem.W.Frag) (H : Hp) (x : V) : Prop := ∃ d, Dq K H x d
def OdN (K : PySem.W.Frag) (H : Hp) (x : V) : Prop := ∃ d, Dq K H x d ∧ ∀ z, d = .str z → z.length ≤ 1000000
def OdF (K : PySem.W.Frag) (H : Hp) (x : V) : Prop := ∃ d, Dq K H x d ∧ FldZ d ∧ SmNm d
theorem odN_mono {K : PySem.W.Frag} {H H' : Hp} {x : V} (e : Same H H') (h : OdN K H x) : OdN K H' x := by
  obtain ⟨d, h1, h2⟩ := h
  exact ⟨d, dq_mono e h1, h2⟩
theorem odF_mono {K : PySem.W.Frag} {H H' : Hp} {x : V} (e : Same H H') (h : OdF K H x) : OdF K H' x := by
  obtain ⟨d, h1, h2⟩ := h
  exact ⟨d, dq_mono e h1, h2⟩
theorem odN_s {K : PySem.W.Frag} {H : Hp} {z : Str} (h : z.length ≤ 1000000) : OdN K H (.str z) := ⟨_, .str z, fun y e => by injection e with e; rw [← e]; exact h⟩
theorem odF_3 {K : PySem.W.Frag} {H : Hp} {x y z : V} {a : Addr} (h : TupN H a [x, y, z]) (hx : OdN K H x) (hy : OdD K H y) (hz : OdK K H z) : OdF K H (.ref a) := by
  obtain ⟨d1, h1, l1⟩ := hx
  obtain ⟨d2, h2⟩ := hy
  obtain ⟨d3, h3, k3⟩ := hz
  refine ⟨.tuple [d1, d2, d3], dq_new h (.cons h1 (dqs_two h2 h3)), fun a b k e => ?_, fun z r e => ?_⟩
  · injection e with e
    injection e with _ e
    injection e with _ e
    injection e with e _
    rw [← e]
    exact k3
  · injection e with e
    injection e with e _
    exact l1 z e
def sp__law_odd_field (W : Wd) : Sp := fun vs H Q _ => match vs with
  | [v_pot_here, v_fields, v_place] =>
  ∃ (s : Shp) (pl : Int), PotAt W H v_pot_here ∧ Dq W.K H v_fields (.tuple (s.fs.map fdD)) ∧ OkShp s ∧ v_place = .int pl ∧ 0 ≤ pl ∧ pl < s.fs.length ∧ ∀ x H', Same H H' → OdF W.K H' x → Q x H'
  | _ => False
abbrev N__law_odd_field : List Str := ["_law_pot_here", "_law_fields", "_law_place", "_law_name", "_law_breadth", "_law_kind_here", "_law_names_here", "_law_way"]
theorem sc__law_odd_field : FnScope N__law_odd_field ["_law_pot_here", "_law_fields", "_law_place"] (defScope s__law_odd_field) := ⟨rfl, rfl, rfl, by decide +kernel, rfl, by decide +kernel, by decide +kernel⟩
theorem f__law_odd_field {W : Wd} {mg : Str → Option Value} {base : Heap} (B : Bi mg) {f : Addr} {fd : FuncData} (F : Fun W.K "_law_odd_field" "_law_odd_field" s__law_odd_field f fd) (C__law_draw : Cal W mg base "_law_draw" 1 ["_law_pot_here", "_law_many"] (sp__law_draw W)) (C__law_odd_kind : Cal W mg base "_law_odd_kind" 4 ["_law_pot_here", "_law_place", "_law_breadth"] (sp__law_odd_kind W)) : FnOk W.P W.w W.K mg base CX0 5 f fd ["_law_pot_here", "_law_fields", "_law_place"] (sp__law_odd_field W) := by
  obtain ⟨a__law_draw, d__law_draw, g__law_draw, F__law_draw, k__law_draw, b__law_draw⟩ := C__law_draw
  obtain ⟨a__law_odd_kind, d__law_odd_kind, g__law_odd_kind, F__law_odd_kind, k__law_odd_kind, b__law_odd_kind⟩ := C__law_odd_kind
  have nd := sc__law_odd_field.nd
  have F0 : FnOk W.P W.w W.K mg base CX0 5 f fd ["_law_pot_here", "_law_fields", "_law_place"] (sp__law_odd_field W) := by
    refine F.ok sc__law_odd_field (fun vs H Q E h => ?_) (fun cdv A outer s H vs Q E hr h => ?_)
    · match vs, h with | [_, _, _], _ => rfl
    · match vs, h with
      | [v_pot_here, v_fields, v_place], h =>
        change sp__law_odd_field W [v_pot_here, v_fields, v_place] H Q E at h
        refine ⟨tSeq (tAsg (tOp (rIxU W.K) (tVar 1) (tVar 2)) (gTup W.K 3 (gCons (gName 3) (gCons (gName 4) (gCons (gName 5) (gNil)))))) (tSeq (tAsg (tLst (tCons (tM0 rUpper (tVar 3)) (tCons (tOp (rAddN W.K) (tVar 3) (tC (.str "aaaaaaaa"))) (tCons (tC (.str "")) (tCons (tC (.str "a b")) (tCons (tC (.str "1")) (tCons (tC .non) (tCons (tC (.int 7)) (tCons (tTupN (tCons (tVar 3) (tNil))) (tCons (tOp (rIxU W.K) (tOp (rIxU W.K) (tVar 1) (tC (.int 0))) (tC (.int 0))) (tCons (tC (.str "{")) (tNil)))))))))))) (gName 6)) (tSeq (tAsg (tCall (sp__law_draw W) [] E0 (tCons (tVar 0) (tCons (tC (.int 8)) (tNil)))) (gName 7)) (tSeq (tIfS (tTest (tOp (rLtU W.K) (tVar 7) (tC (.int 2)))) (tRet (tTupN (tCons (tOp (rIxU W.K) (tOp (rAddN W.K) (tVar 6) (tLst (tCons (tC (.str "zzzzzzzz")) (tNil)))) (tCall (sp__law_draw W) [] E0 (tCons (tVar 0) (tCons (tC (.int 11)) (tNil))))) (tCons (tVar 4) (tCons (tVar 5) (tNil)))))) (tNext)) (tSeq (tIfS (tTest (tOp (rEqU W.K) (tVar 7) (tC (.int 2)))) (tRet (tTupN (tCons (tVar 3) (tCons (tOp (rIxU W.K) (tLst (tCons (tC (.int 0)) (tCons (tC (.int 41)) (tCons (tUn (rU fun i => .int (-i)) (tC (.int 1))) (tCons (tC (.bl true)) (tCons (tC .non) (tCons (tC (.str "8")) (tCons (tC (.int 1)) (tCons (tC (.int 40)) (tCons (tTupN (tCons (tC (.int 8)) (tNil))) (tNil))))))))))) (tCall (sp__law_draw W) [] E0 (tCons (tVar 0) (tCons (tC (.int 9)) (tNil))))) (tCons (tVar 5) (tNil)))))) (tNext)) (tSeq (tIfS (tTest (tOp (rLtU W.K) (tVar 7) (tC (.int 6)))) (tRet (tTupN (tCons (tVar 3) (tCons (tVar 4) (tCons (tCall (sp__law_odd_kind W) [] E0 (tCons (tVar 0) (tCons (tVar 2) (tCons (tVar 4) (tNil))))) (tNil)))))) (tNext)) (tRet (tOp (rIxU W.K) (tLst (tCons (tTupN (tCons (tVar 3) (tCons (tVar 4) (tNil)))) (tCons (tTupN (tCons (tVar 3) (tCons (tVar 4) (tCons (tVar 5) (tCons (tVar 5) (tNil)))))) (tCons (tLst (tCons (tVar 3) (tCons (tVar 4) (tCons (tVar 5) (tNil))))) (tCons (tC .non) (tCons (tVar 3) (tCons (tTupN (tNil)) (tNil)))))))) (tCall (sp__law_draw W) [] E0 (tCons (tVar 0) (tCons (tC (.int 6)) (tNil))))))))))), pss_cons (ps_asg (pe_ix u_ix (pv 1) (pv 2) (fun _ _ => rfl)) (pg_tup rfl (pgs_cons (pg_name (i := 3) nd rfl (by first | exact Or.inl rfl | exact Or.inr rfl)) (pgs_cons (pg_name (i := 4) nd rfl (by first | exact Or.inl rfl | exact Or.inr rfl)) (pgs_cons (pg_name (i := 5) nd rfl (by first | exact Or.inl rfl | exact Or.inr rfl)) (pgs_nil)))))) (pss_cons (ps_set (i := 6) nd rfl (.inl rfl) (pe_lst (pa_cons (pe_upper (pv 3)) (pa_cons (pe_op u_addN (pv 3) (pe_str)) (pa_cons (pe_str) (pa_cons (pe_str) (pa_cons (pe_str) (pa_cons (pe_non) (pa_cons (pe_int) (pa_cons (pe_tupN (pa_cons (pv 3) (pa_nil))) (pa_cons (pe_ix u_ix (pe_ix u_ix (pv 1) (pe_int) (fun _ _ => rfl)) (pe_int) (fun _ _ => rfl)) (pa_cons (pe_str) (pa_nil))))))))))))) (pss_cons (ps_set (i := 7) nd rfl (.inl rfl) (pe_call F__law_draw (hr.mono (by decide)) (by rfl) g__law_draw k__law_draw b__law_draw .nil pass0 (pa_cons (pv 0) (pa_cons (pe_int) (pa_nil))))) (pss_cons (ps_if (pt_cmpR u_lt (pv 7) (pe_int) (nomark _)) (pss_one (ps_ret (pe_tupN (pa_cons (pe_ix u_ix (pe_op u_addN (pv 6) (pe_lst (pa_cons (pe_str) (pa_nil)))) (pe_call F__law_draw (hr.mono (by decide)) (by rfl) g__law_draw k__law_draw b__law_draw .nil pass0 (pa_cons (pv 0) (pa_cons (pe_int) (pa_nil)))) (fun _ _ => rfl)) (pa_cons (pv 4) (pa_cons (pv 5) (pa_nil))))))) (pss_nil)) (pss_cons (ps_if (pt_cmpR (u_eq hr.units) (pv 7) (pe_int) (nomark _)) (pss_one (ps_ret (pe_tupN (pa_cons (pv 3) (pa_cons (pe_ix u_ix (pe_lst (pa_cons (pe_int) (pa_cons (pe_int) (pa_cons (pe_un un_neg (pe_int)) (pa_cons (pe_bl) (pa_cons (pe_non) (pa_cons (pe_str) (pa_cons (pe_int) (pa_cons (pe_int) (pa_cons (pe_tupN (pa_cons (pe_int) (pa_nil))) (pa_nil))))))))))) (pe_call F__law_draw (hr.mono (by decide)) (by rfl) g__law_draw k__law_draw b__law_draw .nil pass0 (pa_cons (pv 0) (pa_cons (pe_int) (pa_nil)))) (fun _ _ => rfl)) (pa_cons (pv 5) (pa_nil))))))) (pss_nil)) (pss_cons (ps_if (pt_cmpR u_lt (pv 7) (pe_int) (nomark _)) (pss_one (ps_ret (pe_tupN (pa_cons (pv 3) (pa_cons (pv 4) (pa_cons (pe_call F__law_odd_kind (hr.mono (by decide)) (by rfl) g__law_odd_kind k__law_odd_kind b__law_odd_kind .nil pass0 (pa_cons (pv 0) (pa_cons (pv 2) (pa_cons (pv 4) (pa_nil))))) (pa_nil))))))) (pss_nil)) (pss_one (ps_ret (pe_ix u_ix (pe_lst (pa_cons (pe_tupN (pa_cons (pv 3) (pa_cons (pv 4) (pa_nil)))) (pa_cons (pe_tupN (pa_cons (pv 3) (pa_cons (pv 4) (pa_cons (pv 5) (pa_cons (pv 5) (pa_nil)))))) (pa_cons (pe_lst (pa_cons (pv 3) (pa_cons (pv 4) (pa_cons (pv 5) (pa_nil))))) (pa_cons (pe_non) (pa_cons (pv 3) (pa_cons (pe_tupN (pa_nil)) (pa_nil)))))))) (pe_call F__law_draw (hr.mono (by decide)) (by rfl) g__law_draw k__law_draw b__law_draw .nil pass0 (pa_cons (pv 0) (pa_cons (pe_int) (pa_nil)))) (fun _ _ => rfl))))))))), ?_⟩
        clear hr
        clear F__law_draw g__law_draw k__law_draw b__law_draw d__law_draw a__law_draw
        clear F__law_odd_kind g__law_odd_kind k__law_odd_kind b__law_odd_kind d__law_odd_kind a__law_odd_kind
        rw [show L2.start N__law_odd_field [v_pot_here, v_fields, v_place] = [some v_pot_here, some v_fields, some v_place, none, none, none, none, none] from rfl]
        obtain ⟨s, pl, hp, hf, ok, rfl, p0, p1, q⟩ := h
        have l0 := ok.l0
        have l1 := ok.l1
        walk_at "Zs"
        refine w_ixM hf p0 p1 fun f x he hx => ?_
        have okf := ok.fd _ _ he
        have ln := okf.nm.2.1
        obtain ⟨a, xs, rfl, ha, hxs⟩ := dq_tt hx
        cases hxs with
        | cons g1 hxs => cases hxs with
        | cons g2 hxs => cases hxs with
        | cons g3 hxs =>
          cases hxs
          obtain rfl := dq_str g1
          obtain rfl := dq_int g2
          walk_at "Zs"
          refine w_m0 ?_
          walk_at "Zs"
          refine w_upper (by omega) fun z hz => ?_
          walk_at "Zs"
          refine w_addsN (Nat.le_trans (m := 16) (by rw [show ("aaaaaaaa" : Str).length = 8 from rfl]; omega) (by decide)) ?_
          walk_at "Zs"
          rename_i pn1 Hn1 nn1 en1 hn1
          refine w_ixM (dq_mono en1 hf) (by decide) (by omega) fun f0 x0 he0 hx0 => ?_
          have ln0 := (ok.fd _ _ he0).nm.2.1
          walk_at "Zs"
          refine w_ixQTs hx0 (z := f0.nm) rfl ?_
          walk_at "Zs"
          rename_i pL HL nL eL hL d8 H8 e8 d80 d81
          have n8 : Same H H8 := by walk_at "Zkt"
          have hnm : ∀ x ∈ [V.str z, V.str (f.nm ++ "aaaaaaaa"), .str "", .str "a b", .str "1", .non, .int 7, .ref pn1, .str f0.nm, .str "{"], OdN W.K H8 x := fun x hx => by
            simp only [List.mem_cons, List.not_mem_nil, or_false] at hx
            rcases hx with rfl | rfl | rfl | rfl | rfl | rfl | rfl | rfl | rfl | rfl
            · exact odN_s (by omega)
            · exact odN_s (by rw [Str.length_append, show ("aaaaaaaa" : Str).length = 8 from rfl]; omega)
            · exact odN_s (by decide)
            · exact odN_s (by decide)
            · exact odN_s (by decide)
            · exact ⟨_, .non, fun z e => nomatch e⟩
            · exact ⟨_, .int 7, fun z e => nomatch e⟩
            · exact ⟨_, dq_mono (eL.trans e8) (dq_new hn1 (dqs_one (.str _))), fun z e => nomatch e⟩
            · exact odN_s (by omega)
            · exact odN_s (by decide)
          have g3k : ∀ {H'}, Same H H' → OdK W.K H' _ := fun e => ⟨_, dq_mono e g3, kz_kd f.kd⟩
          have hLL := e8 _ _ hL
          clear hL nL eL nn1 en1 hn1 e8
          refine w_dec (fun c1 => ?_) (fun c1 => ?_)
          · walk_at "Zs"
            rename_i p1 H1 n1 e1 h1
            refine w_catL (e1 _ _ hLL) h1 (show 10 + 1 ≤ 1000000 by decide) fun p2' H2 n2 e2 h2 => ?_
            walk_at "Zs"
            rename_i d3 H3 e3 d30 d31
            refine w_ixP (OdN W.K H3) (SqL.of (e3 _ _ h2)) d30 (by show d3 < 11; exact d31) (fun x hx => ?_) fun x hx => ?_
            · rcases List.mem_append.mp hx with hx | hx
              · exact odN_mono (by walk_at "Zkt") (hnm x hx)
              · rw [List.mem_singleton.mp hx]
                exact odN_s (by decide)
            walk_at "Zs"
            rename_i p4 H4 n4 e4 h4
            exact q _ _ (by walk_at "Zkt") (odF_3 h4 (odN_mono e4 hx) ⟨_, .int _⟩ (g3k (by walk_at "Zkt")))
          walk_at "Zs"
          refine w_dec (fun c2 => ?_) (fun c2 => ?_)
          · walk_at "Zs"
            rename_i p0' H0 n0 e0 h0 p1 H1 n1 e1 h1 d3 H3 e3 d30 d31
            refine w_ixP (OdD W.K H3) (SqL.of (e3 _ _ h1)) d30 (by show d3 < 9; exact d31) (fun x hx => ?_) fun x hx => ?_
            · simp only [List.mem_cons, List.not_mem_nil, or_false] at hx
              rcases hx with rfl | rfl | rfl | rfl | rfl | rfl | rfl | rfl | rfl
              · exact ⟨_, .int _⟩
              · exact ⟨_, .int _⟩
              · exact ⟨_, .int _⟩
              · exact ⟨_, .bl _⟩
              · exact ⟨_, .non⟩
              · exact ⟨_, .str _⟩
              · exact ⟨_, .int _⟩
              · exact ⟨_, .int _⟩
              · exact ⟨_, dq_mono (by walk_at "Zkt") (dq_new h0 (dqs_one (.int 8)))⟩
            walk_at "Zs"
            rename_i p4 H4 n4 e4 h4
            obtain ⟨dx, hx⟩ := hx
            exact q _ _ (by walk_at "Zkt") (odF_3 h4 (odN_s (by omega)) ⟨_, dq_mono e4 hx⟩ (g3k (by walk_at "Zkt")))
          walk_at "Zs"
          refine w_dec (fun c3 => ?_) (fun c3 => ?_)
          · walk_at "Zs"
            refine go__law_odd_kind (by walk_at "Zpot") p0 (by omega) okf.b0 okf.b1 fun x H1 e1 hx => ?_
            walk_at "Zs"
            rename_i p4 H4 n4 e4 h4
            exact q _ _ (by walk_at "Zkt") (odF_3 h4 (odN_s (by omega)) ⟨_, .int _⟩ (odK_mono e4 hx))
          walk_at "Zs"
          rename_i p0' H0 n0 e0 h0 p1 H1 n1 e1 h1 p2' H2 n2 e2 h2 p3 H3 n3 e3 h3 p4 H4 n4 e4 h4 d5 H5 e5 d50 d51
          have z : ∀ {d : PyData}, (∀ a b k, d ≠ .tuple [a, b, k]) → FldZ d := fun h a b k e => (h a b k e).elim
          refine w_ixP (OdF W.K H5) (SqL.of (e5 _ _ h4)) d50 (by show d5 < 6; exact d51) (fun x hx => ?_) fun x hx => ?_
          · simp only [List.mem_cons, List.not_mem_nil, or_false] at hx
            rcases hx with rfl | rfl | rfl | rfl | rfl | rfl
            · refine ⟨_, dq_mono (by walk_at "Zkt") (dq_new h0 (dqs_two (.str _) (.int _))), z (fun a b k e => by injection e with e; injection e with _ e; injection e with _ e; cases e), fun z r e => ?_⟩
              injection e with e
              injection e with e _
              injection e with e
              rw [← e]
              omega
            · refine ⟨_, dq_mono (by walk_at "Zkt") (dq_new h1 (.cons (.str _) (.cons (.int _) (dqs_two (dq_mono (by walk_at "Zkt") g3) (dq_mono (by walk_at "Zkt") g3))))), z (fun a b k e => by injection e with e; injection e with _ e; injection e with _ e; injection e with _ e; cases e), fun z r e => ?_⟩
              injection e with e
              injection e with e _
              injection e with e
              rw [← e]
              omega
            · exact ⟨_, dq_mono (by walk_at "Zkt") (dq_newl h2 (.cons (.str _) (dqs_two (.int _) (dq_mono (by walk_at "Zkt") g3)))), z (fun a b k e => nomatch e), fun z r e => nomatch e⟩
            · exact ⟨_, .non, z (fun a b k e => nomatch e), fun z r e => nomatch e⟩
            · exact ⟨_, .str _, z (fun a b k e => nomatch e), fun z r e => nomatch e⟩
            · exact ⟨_, dq_mono (by walk_at "Zkt") (dq_new h3 .nil), z (fun a b k e => by injection e with e; cases e), fun z r e => by injection e with e; cases e⟩
          exact q _ _ (by walk_at "Zkt") hx
  exact F0
theorem c__law_odd_field {W : Wd} {mg : Str → Option Value} {base : Heap} (B : Bi mg) (S : Src W.K mg "_law_odd_field" s__law_odd_field) (C__law_draw : Cal W mg base "_law_draw" 1 ["_law_pot_here", "_law_many"] (sp__law_draw W)) (C__law_odd_kind : Cal W mg base "_law_odd_kind" 4 ["_law_pot_here", "_law_place", "_law_breadth"] (sp__law_odd_kind W)) : Cal W mg base "_law_odd_field" 5 ["_law_pot_here", "_law_fields", "_law_place"] (sp__law_odd_field W) := by
  obtain ⟨f, fd, g, F⟩ := S
  exact ⟨f, fd, g, f__law_odd_field B F C__law_draw C__law_odd_kind, F.kp, (F.binds (ps := ["_law_pot_here", "_law_fields", "_law_place"]) fun _ _ _ _ _ _ us hl => match us, hl with | [_, _, _], _ => rfl)⟩
theorem go__law_odd_field {W : Wd} {H : Hp} {Q : VK} {E : XK} {v u : V} {s : Shp} {pl : Int} (hp : PotAt W H v) (hf : Dq W.K H u (.tuple (s.fs.map fdD))) (ok : OkShp s) (p0 : 0 ≤ pl) (p1 : pl < s.fs.length) (q : ∀ x H', Same H H' → OdF W.K H' x → Q x H') : sp__law_odd_field W [v, u, .int pl] H Q E := ⟨s, pl, hp, hf, ok, rfl, p0, p1, q⟩
def GdF (d : PyData) : Prop := FldZ d ∧ SmNm d
theorem gd_fs {s : Shp} (ok : OkShp s) : ∀ f ∈ s.fs.map fdD, GdF f := fun d hd => ⟨fun a b k e => by
  obtain ⟨f, _, rfl⟩ := List.mem_map.mp hd
  injection e with e
  injection e with _ e
  injection e with _ e
  injection e with e _
  rw [← e]
  exact kz_kd f.kd, smnm_ok ok d hd⟩
theorem gd_cut {ds : List PyData} {lo hi : Option Int} (h : ∀ d ∈ ds, GdF d) : ∀ d ∈ cutD ds lo hi, GdF d := fun d hd => h d (cutD_mem hd)
theorem gd_app {ds es : List PyData} (h : ∀ d ∈ ds, GdF d) (h' : ∀ d ∈ es, GdF d) : ∀ d ∈ ds ++ es, GdF d := fun d hd => (List.mem_append.mp hd).elim (h d) (h' d)
theorem gd_one {d : PyData} (h : GdF d) : ∀ e ∈ [d], GdF e := fun e he => by rw [List.mem_singleton.mp he]; exact h
def OdS (K : PySem.W.Frag) (H : Hp) (x : V) : Prop := ∃ d, Dq K H x d ∧ ShpZ d ∧ SmSh d
def OsL (K : PySem.W.Frag) (H : Hp) (p : Addr) (n : Nat) : Prop := ∃ xs, H p = some (.lst xs) ∧ xs.length = n ∧ ∀ x ∈ xs, OdS K H x
theorem odS_mono {K : PySem.W.Frag} {H H' : Hp} {x : V} (e : Same H H') (h : OdS K H x) : OdS K H' x := by
  obtain ⟨d, h1, h2⟩ := h
  exact ⟨d, dq_mono e h1, h2⟩
theorem w_osL {K : PySem.W.Frag} {H0 H : Hp} {Q : VK} {a b : Addr} {m n : Nat} {ys : List V} (h : OsL K H0 a m) (e0 : Same H0 H) (h2 : H b = some (.lst ys)) (l2 : ys.length = n) (hy : ∀ y ∈ ys, OdS K H y) (hm : m + n ≤ 1000) (q : ∀ p H', H p = none → Same H H' → OsL K H' p (m + n) → Q (.ref p) H') : rAddN K (.ref a) (.ref b) H Q := by
  obtain ⟨xs, h, l, r⟩ := h
  exact w_catL (e0 _ _ h) h2 (by omega) fun p H' np e hp => q p H' np e ⟨_, hp, by rw [List.length_append, l, l2], fun x hx => by
    rcases List.mem_append.mp hx with z | z
    · exact odS_mono (e0.trans e) (r x z)
    · exact odS_mono e (hy x z)⟩
theorem odS_2 {K : PySem.W.Frag} {H : Hp} {x : V} {a : Addr} {ds r : List PyData} {xr : List V} (h : TupN H a (x :: xr)) (hx : Dq K H x (.tuple ds)) (hf : ∀ f ∈ ds, GdF f) (hr : DqAll K H xr r) : OdS K H (.ref a) :=
  ⟨.tuple (.tuple ds :: r), dq_new h (.cons hx hr), fun fs m e f hf' => by
    injection e with e
    injection e with e _
    injection e with e
    rw [← e] at hf'
    exact (hf f hf').1, fun es r' e f hf' => by
    injection e with e
    injection e with e _
    injection e with e
    rw [← e] at hf'
    exact (hf f hf').2⟩
theorem kz_int (i : Int) : KdZ (.int i) := ⟨rfl, by simp [PyData.canLay0], by simp [PyData.depth]⟩
theorem gd_kd (k : Kd) : GdF (kdD k) := by
  refine ⟨fun a b c e => ?_, fun z r e => ?_⟩
  · cases k with
    | wth p q =>
      injection e with e
      injection e with _ e
      injection e with _ e
      injection e with e _
      rw [← e]
      exact kz_int q
    | _ => injection e with e; injection e with _ e; first | cases e | (injection e with _ e; cases e)
  · cases k <;> (injection e with e; injection e with e _; injection e with e; rw [← e]; decide +kernel)
theorem gd_str {z : Str} : GdF (.str z) := ⟨(fun _ _ _ e => nomatch e), (fun _ _ e => nomatch e)⟩
theorem gd_int {i : Int} : GdF (.int i) := ⟨(fun _ _ _ e => nomatch e), (fun _ _ e => nomatch e)⟩
/-- the fields themselves -/
theorem odS_fs {K : PySem.W.Frag} {H : Hp} {x : V} {fs : List Fd} (h : Dq K H x (.tuple (fs.map fdD))) : OdS K H x := by
  have key : ∀ f : Fd, ∀ e ∈ [PyData.str f.nm, .int f.br, kdD f.kd], GdF e := fun f e he => by
    simp only [List.mem_cons, List.not_mem_nil, or_false] at he
    rcases he with rfl | rfl | rfl
    · exact gd_str
    · exact gd_int
    · exact gd_kd _
  refine ⟨_, h, fun gs m e f hf => ?_, fun ds r e g hg => ?_⟩
  · cases fs with
    | nil => injection e with e; cases e
    | cons f0 r0 =>
      injection e with e
      injection e with e _
      injection e with e
      rw [← e] at hf
      exact (key f0 f hf).1
  · cases fs with
    | nil => injection e with e; cases e
    | cons f0 r0 =>
      injection e with e
      injection e with e _
      injection e with e
      rw [← e] at hg
      exact (key f0 g hg).2
theorem odS_n {K : PySem.W.Frag} {H : Hp} {x : V} {d : PyData} (h : Dq K H x d) (hn : ∀ ds r, d ≠ .tuple (.tuple ds :: r)) : OdS K H x := ⟨d, h, fun fs m e => (hn _ _ e).elim, fun ds r e => (hn _ _ e).elim⟩
def MoD (d : PyData) : Prop := ∃ z : Str, d = .tuple [.str z, .int 1, .tuple [.str "still"]] ∧ z.length ≤ 2
theorem mo_gd {d : PyData} (h : MoD d) : GdF d := by
  obtain ⟨z, rfl, hz⟩ := h
  refine ⟨fun a b k e => ?_, fun y r e => ?_⟩
  · injection e with e
    injection e with _ e
    injection e with _ e
    injection e with e _
    rw [← e]
    exact ⟨rfl, by decide +kernel, by decide +kernel⟩
  · injection e with e
    injection e with e _
    injection e with e
    rw [← e]
    omega
theorem mo_tup {ds : List PyData} (h : ∀ d ∈ ds, MoD d) : tupOs ds := tupOs_of fun d hd => by
  obtain ⟨z, rfl, _⟩ := h d hd
  simp [tupO, tupOs]
def sp__law_odd (W : Wd) : Sp := fun vs H Q _ => match vs with
  | [v_pot_here, v_shape_here] =>
  ∃ s : Shp, PotAt W H v_pot_here ∧ Dq W.K H v_shape_here (shD s) ∧ OkShp s ∧ ∀ x H', Same H H' → OdS W.K H' x → Q x H'
  | _ => False
abbrev N__law_odd : List Str := ["_law_pot_here", "_law_shape_here", "_law_fields", "_law_m", "_law_place", "_law_odd_here", "_law_some", "_law_more", "_law_letter"]
theorem sc__law_odd : FnScope N__law_odd ["_law_pot_here", "_law_shape_here"] (defScope s__law_odd) := ⟨rfl, rfl, rfl, by decide +kernel, rfl, by decide +kernel, by decide +kernel⟩
theorem f__law_odd {W : Wd} {mg : Str → Option Value} {base : Heap} (B : Bi mg) {f : Addr} {fd : FuncData} (F : Fun W.K "_law_odd" "_law_odd" s__law_odd f fd) (C__law_draw : Cal W mg base "_law_draw" 1 ["_law_pot_here", "_law_many"] (sp__law_draw W)) (C__law_odd_field : Cal W mg base "_law_odd_field" 5 ["_law_pot_here", "_law_fields", "_law_place"] (sp__law_odd_field W)) : FnOk W.P W.w W.K mg base CX0 6 f fd ["_law_pot_here", "_law_shape_here"] (sp__law_odd W) := by
  obtain ⟨a__law_draw, d__law_draw, g__law_draw, F__law_draw, k__law_draw, b__law_draw⟩ := C__law_draw
  obtain ⟨a__law_odd_field, d__law_odd_field, g__law_odd_field, F__law_odd_field, k__law_odd_field, b__law_odd_field⟩ := C__law_odd_field
  have nd := sc__law_odd.nd
  have F0 : FnOk W.P W.w W.K mg base CX0 6 f fd ["_law_pot_here", "_law_shape_here"] (sp__law_odd W) := by
    refine F.ok sc__law_odd (fun vs H Q E h => ?_) (fun cdv A outer s H vs Q E hr h => ?_)
    · match vs, h with | [_, _], _ => rfl
    · match vs, h with
      | [v_pot_here, v_shape_here], h =>
        change sp__law_odd W [v_pot_here, v_shape_here] H Q E at h
        refine ⟨tSeq (tAsg (tVar 1) (gTup W.K 2 (gCons (gName 2) (gCons (gName 3) (gNil))))) (tSeq (tAsg (tCall (sp__law_draw W) [] E0 (tCons (tVar 0) (tCons (tCB (rLenU W.K) (tCons (tVar 2) (tNil))) (tNil)))) (gName 4)) (tSeq (tAsg (tCall (sp__law_odd_field W) [] E0 (tCons (tVar 0) (tCons (tVar 2) (tCons (tVar 4) (tNil))))) (gName 5)) (tSeq (tAsg (tOp (rAddN W.K) (tOp (rMulN W.K) (tLst (tCons (tTupN (tCons (tOp (rAddN W.K) (tOp (rAddN W.K) (tSl (rSlU W.K) (tVar 2) (tNoPart) (tPart (tVar 4))) (tTupN (tCons (tVar 5) (tNil)))) (tSl (rSlU W.K) (tVar 2) (tPart (tOp (rAddN W.K) (tVar 4) (tC (.int 1)))) (tNoPart))) (tCons (tVar 3) (tNil)))) (tNil))) (tC (.int 6))) (tLst (tCons (tTupN (tCons (tOp (rAddN W.K) (tVar 2) (tTupN (tCons (tVar 5) (tNil)))) (tCons (tVar 3) (tNil)))) (tCons (tTupN (tCons (tOp (rAddN W.K) (tVar 2) (tSl (rSlU W.K) (tVar 2) (tNoPart) (tPart (tC (.int 1))))) (tCons (tVar 3) (tNil)))) (tNil))))) (gName 6)) (tSeq (tAsg (tOp (rAddN W.K) (tVar 6) (tLst (tCons (tTupN (tCons (tVar 2) (tCons (tOp (rIxU W.K) (tLst (tCons (tC (.int 0)) (tCons (tUn (rU fun i => .int (-i)) (tC (.int 1))) (tCons (tOp (rAddN W.K) (tOp (rCon 10 6 1000000) (tC (.int 10)) (tC (.int 6))) (tC (.int 1))) (tCons (tC (.bl true)) (tCons (tC .non) (tCons (tC (.str "7")) (tCons (tTupN (tCons (tC (.int 7)) (tNil))) (tCons (tC (.int 1)) (tCons (tC (.int 9)) (tNil))))))))))) (tCall (sp__law_draw W) [] E0 (tCons (tVar 0) (tCons (tC (.int 9)) (tNil))))) (tNil)))) (tCons (tTupN (tCons (tTupN (tNil)) (tCons (tVar 3) (tNil)))) (tCons (tVar 2) (tNil)))))) (gName 6)) (tSeq (tAsg (tCB (rTupleOfN W.K) (tCons (tLc (iAny W.K (tC (.str "abcdefghijklm"))) (gName 8) (tYes) (tTupN (tCons (tOp (rAddN W.K) (tC (.str "q")) (tVar 8)) (tCons (tC (.int 1)) (tCons (tTupN (tCons (tC (.str "still")) (tNil))) (tNil))))) [8]) (tNil))) (gName 7)) (tSeq (tAsg (tOp (rAddN W.K) (tVar 6) (tLst (tCons (tTupN (tCons (tCB (rListU W.K) (tCons (tVar 2) (tNil))) (tCons (tVar 3) (tNil)))) (tCons (tLst (tCons (tVar 2) (tCons (tVar 3) (tNil)))) (tCons (tTupN (tCons (tVar 2) (tCons (tVar 3) (tCons (tVar 3) (tNil))))) (tCons (tTupN (tCons (tVar 2) (tNil))) (tCons (tTupN (tCons (tVar 3) (tCons (tVar 2) (tNil)))) (tCons (tTupN (tCons (tVar 7) (tCons (tVar 3) (tNil)))) (tCons (tTupN (tCons (tSl (rSlU W.K) (tVar 7) (tNoPart) (tPart (tC (.int 12)))) (tCons (tVar 3) (tNil)))) (tNil)))))))))) (gName 6)) (tRet (tOp (rIxU W.K) (tVar 6) (tCall (sp__law_draw W) [] E0 (tCons (tVar 0) (tCons (tCB (rLenU W.K) (tCons (tVar 6) (tNil))) (tNil)))))))))))), pss_cons (ps_asg (pv 1) (pg_tup rfl (pgs_cons (pg_name (i := 2) nd rfl (by first | exact Or.inl rfl | exact Or.inr rfl)) (pgs_cons (pg_name (i := 3) nd rfl (by first | exact Or.inl rfl | exact Or.inr rfl)) (pgs_nil))))) (pss_cons (ps_set (i := 4) nd rfl (.inl rfl) (pe_call F__law_draw (hr.mono (by decide)) (by rfl) g__law_draw k__law_draw b__law_draw .nil pass0 (pa_cons (pv 0) (pa_cons (pe_callB u_len (by rfl) B.b_len (by decide +kernel) (pa_cons (pv 2) (pa_nil))) (pa_nil))))) (pss_cons (ps_set (i := 5) nd rfl (.inl rfl) (pe_call F__law_odd_field (hr.mono (by decide)) (by rfl) g__law_odd_field k__law_odd_field b__law_odd_field .nil pass0 (pa_cons (pv 0) (pa_cons (pv 2) (pa_cons (pv 4) (pa_nil)))))) (pss_cons (ps_set (i := 6) nd rfl (.inl rfl) (pe_op u_addN (pe_op u_mulN (pe_lst (pa_cons (pe_tupN (pa_cons (pe_op u_addN (pe_op u_addN (pe_slice u_sl (pv 2) (po_none) (po_some (pv 4))) (pe_tupN (pa_cons (pv 5) (pa_nil)))) (pe_slice u_sl (pv 2) (po_some (pe_op u_addN (pv 4) (pe_int))) (po_none))) (pa_cons (pv 3) (pa_nil)))) (pa_nil))) (pe_int)) (pe_lst (pa_cons (pe_tupN (pa_cons (pe_op u_addN (pv 2) (pe_tupN (pa_cons (pv 5) (pa_nil)))) (pa_cons (pv 3) (pa_nil)))) (pa_cons (pe_tupN (pa_cons (pe_op u_addN (pv 2) (pe_slice u_sl (pv 2) (po_none) (po_some (pe_int)))) (pa_cons (pv 3) (pa_nil)))) (pa_nil)))))) (pss_cons (ps_set (i := 6) nd rfl (.inl rfl) (pe_op u_addN (pv 6) (pe_lst (pa_cons (pe_tupN (pa_cons (pv 2) (pa_cons (pe_ix u_ix (pe_lst (pa_cons (pe_int) (pa_cons (pe_un un_neg (pe_int)) (pa_cons (pe_op u_addN (pe_op (u_powc ⟨by decide, by decide, by decide⟩ (by decide +kernel)) pe_int pe_int) (pe_int)) (pa_cons (pe_bl) (pa_cons (pe_non) (pa_cons (pe_str) (pa_cons (pe_tupN (pa_cons (pe_int) (pa_nil))) (pa_cons (pe_int) (pa_cons (pe_int) (pa_nil))))))))))) (pe_call F__law_draw (hr.mono (by decide)) (by rfl) g__law_draw k__law_draw b__law_draw .nil pass0 (pa_cons (pv 0) (pa_cons (pe_int) (pa_nil)))) (fun _ _ => rfl)) (pa_nil)))) (pa_cons (pe_tupN (pa_cons (pe_tupN (pa_nil)) (pa_cons (pv 3) (pa_nil)))) (pa_cons (pv 2) (pa_nil))))))) (pss_cons (ps_set (i := 7) nd rfl (.inl rfl) (pe_callTy call_tuple_ofN (by rfl) B.b_tuple (by decide +kernel) (pa_cons (pe_lc (own := [("_law_letter", 8)]) rfl nd (pi_any (pe_str)) (blkOk_by (own := [("_law_letter", 8)]) (N := N__law_odd) (sc := defScope s__law_odd) (by decide +kernel)) (fun _ _ _ _ _ => pg_name (i := 8) nd rfl (by first | exact Or.inl rfl | exact Or.inr rfl)) (fun _ _ _ _ _ => pts_nil) (fun _ _ _ _ _ => pe_tupN (pa_cons (pe_op u_addN (pe_str) (pv 8)) (pa_cons (pe_int) (pa_cons (pe_tupN (pa_cons (pe_str) (pa_nil))) (pa_nil)))))) (pa_nil)))) (pss_cons (ps_set (i := 6) nd rfl (.inl rfl) (pe_op u_addN (pv 6) (pe_lst (pa_cons (pe_tupN (pa_cons (pe_callTy (u_list (by rfl)) (by rfl) B.b_list (by decide +kernel) (pa_cons (pv 2) (pa_nil))) (pa_cons (pv 3) (pa_nil)))) (pa_cons (pe_lst (pa_cons (pv 2) (pa_cons (pv 3) (pa_nil)))) (pa_cons (pe_tupN (pa_cons (pv 2) (pa_cons (pv 3) (pa_cons (pv 3) (pa_nil))))) (pa_cons (pe_tupN (pa_cons (pv 2) (pa_nil))) (pa_cons (pe_tupN (pa_cons (pv 3) (pa_cons (pv 2) (pa_nil)))) (pa_cons (pe_tupN (pa_cons (pv 7) (pa_cons (pv 3) (pa_nil)))) (pa_cons (pe_tupN (pa_cons (pe_slice u_sl (pv 7) (po_none) (po_some (pe_int))) (pa_cons (pv 3) (pa_nil)))) (pa_nil))))))))))) (pss_one (ps_ret (pe_ix u_ix (pv 6) (pe_call F__law_draw (hr.mono (by decide)) (by rfl) g__law_draw k__law_draw b__law_draw .nil pass0 (pa_cons (pv 0) (pa_cons (pe_callB u_len (by rfl) B.b_len (by decide +kernel) (pa_cons (pv 6) (pa_nil))) (pa_nil)))) (fun _ _ => rfl)))))))))), ?_⟩
        clear hr
        clear F__law_draw g__law_draw k__law_draw b__law_draw d__law_draw a__law_draw
        clear F__law_odd_field g__law_odd_field k__law_odd_field b__law_odd_field d__law_odd_field a__law_odd_field
        rw [show L2.start N__law_odd [v_pot_here, v_shape_here] = [some v_pot_here, some v_shape_here, none, none, none, none, none, none, none] from rfl]
        obtain ⟨s, hp, hs, ok, q⟩ := h
        have l0 := ok.l0
        have l1 := ok.l1
        obtain ⟨as, xs, rfl, has, hxs⟩ := dq_tt hs
        cases hxs with
        | cons hF hxs => cases hxs with
        | cons hm hxs =>
          cases hxs
          obtain rfl := dq_int hm
          have gF := gd_fs ok
          have lF : (s.fs.map fdD).length = s.fs.length := List.length_map _
          walk_at "Zs"
          rename_i vF d0 H0 e0 d00 d01
          refine go__law_odd_field (by walk_at "Zpot") (dq_mono e0 hF) ok d00 d01 fun xo H1 e1 ho => ?_
          walk_at "Zs"
          have hF1 := dq_mono (e0.trans e1) hF
          refine w_slQT hF1 fun v2 H2 e2 h2 => ?_
          walk_at "Zs"
          rename_i p3 H3 n3 e3 h3
          obtain ⟨dO, hO, gO1, gO2⟩ := ho
          have gO : GdF dO := ⟨gO1, gO2⟩
          have lc := fun (lo hi : Option Int) => cutD_len (xs := s.fs.map fdD) (lo := lo) (hi := hi)
          have sl : ∀ {m : Nat}, m ≤ 100 → m ≤ sizeLine := fun h => Nat.le_trans h (by decide)
          refine w_catQT (dq_mono e3 h2) (dq_new h3 (dqs_one (dq_mono (e2.trans e3) hO))) (sl (by have := lc none (some d0); show _ + 1 ≤ 100; omega)) fun v4 H4 e4 h4 => ?_
          walk_at "Zs"
          refine w_slQT (dq_mono (by walk_at "Zkt") hF1) fun v5 H5 e5 h5 => ?_
          walk_at "Zs"
          refine w_catQT (dq_mono e5 h4) h5 (sl (by have := lc none (some d0); have := lc (some (d0 + 1)) none; rw [List.length_append]; show _ + 1 + _ ≤ 100; omega)) fun v6 H6 e6 h6 => ?_
          walk_at "Zs"
          rename_i p7 H7 n7 e7 h7 p8 H8 n8 e8 h8
          refine .inr (.inr (.inr (.inl ⟨p8, 6, _, rfl, rfl, h8, by decide, by decide, (show 1 * 6 ≤ sizeLine by decide), fun p9 n9 => ?_⟩)))
          have e9 : Same H8 (upd H8 p9 (.lst [.ref p7, .ref p7, .ref p7, .ref p7, .ref p7, .ref p7])) := same_new n9
          have h9 : upd H8 p9 (.lst [.ref p7, .ref p7, .ref p7, .ref p7, .ref p7, .ref p7]) p9 = some (.lst [.ref p7, .ref p7, .ref p7, .ref p7, .ref p7, .ref p7]) := upd_same
          rw [show ((List.replicate (6 : Int).toNat [V.ref p7]).flatten) = [.ref p7, .ref p7, .ref p7, .ref p7, .ref p7, .ref p7] from rfl]
          generalize upd H8 p9 (.lst [.ref p7, .ref p7, .ref p7, .ref p7, .ref p7, .ref p7]) = H9 at e9 h9
          have k7 : OdS W.K H9 (.ref p7) := odS_mono (e8.trans e9) (odS_2 h7 (dq_mono e7 h6) (gd_app (gd_app (gd_cut gF) (gd_one gO)) (gd_cut gF)) (dqs_one (.int _)))
          have L9 : OsL W.K H9 p9 6 := ⟨_, h9, rfl, fun x hx => by
            simp only [List.mem_cons, List.not_mem_nil, or_false, or_self] at hx
            rw [hx]
            exact k7⟩
          have z9 : Same H1 H9 := by walk_at "Zkt"
          clear h9 k7 n9 h8 n8 h7 n7 h6 h5 h4 h2 n3 h3
          walk_at "Zs"
          rename_i p10 H10 n10 e10 h10
          have z10 := z9.trans e10
          refine w_catQT (dq_mono z10 hF1) (dq_new h10 (dqs_one (dq_mono z10 hO))) (sl (by show _ + 1 ≤ 100; omega)) fun v11 H11 e11 h11 => ?_
          walk_at "Zs"
          rename_i p12 H12 n12 e12 h12
          have z12 := z10.trans (e11.trans e12)
          refine w_slQT (dq_mono z12 hF1) fun v13 H13 e13 h13 => ?_
          walk_at "Zs"
          refine w_catQT (dq_mono (z12.trans e13) hF1) h13 (sl (by have := lc none (some 1); omega)) fun v14 H14 e14 h14 => ?_
          walk_at "Zs"
          rename_i p15 H15 n15 e15 h15 p16 H16 n16 e16 h16
          refine w_osL (n := 2) L9 (e10.trans (e11.trans (e12.trans (e13.trans (e14.trans (e15.trans e16)))))) h16 rfl (fun y hy => ?_) (by decide) fun pA HA nA eA LA => ?_
          · simp only [List.mem_cons, List.not_mem_nil, or_false] at hy
            rcases hy with rfl | rfl
            · exact odS_mono (by walk_at "Zkt") (odS_2 h12 (dq_mono e12 h11) (gd_app gF (gd_one gO)) (dqs_one (.int _)))
            · exact odS_mono (by walk_at "Zkt") (odS_2 h15 (dq_mono e15 h14) (gd_app gF (gd_cut gF)) (dqs_one (.int _)))
          have zA : Same H1 HA := z12.trans (e13.trans (e14.trans (e15.trans (e16.trans eA))))
          clear L9 h16 n16 h15 n15 h14 h13 h12 n12 h11 h10 n10 nA
          walk_at "Zs"
          rename_i p17 H17 n17 e17 h17 p18 H18 n18 e18 h18 d19 H19 e19 d190 d191
          refine w_ixP (OdD W.K H19) (SqL.of (e19 _ _ h18)) d190 (by show d19 < 9; exact d191) (fun x hx => ?_) fun x hx => ?_
          · simp only [List.mem_cons, List.not_mem_nil, or_false] at hx
            rcases hx with rfl | rfl | rfl | rfl | rfl | rfl | rfl | rfl | rfl
            · exact ⟨_, .int _⟩
            · exact ⟨_, .int _⟩
            · exact ⟨_, .int _⟩
            · exact ⟨_, .bl _⟩
            · exact ⟨_, .non⟩
            · exact ⟨_, .str _⟩
            · exact ⟨_, dq_mono (by walk_at "Zkt") (dq_new h17 (dqs_one (.int 7)))⟩
            · exact ⟨_, .int _⟩
            · exact ⟨_, .int _⟩
          obtain ⟨dx, hx⟩ := hx
          have z19 : Same HA H19 := by walk_at "Zkt"
          clear h18 n18 h17 n17
          walk_at "Zs"
          rename_i p20 H20 n20 e20 h20 p21 H21 n21 e21 h21 p22 H22 n22 e22 h22 p23 H23 n23 e23 h23
          refine w_osL (n := 3) LA (z19.trans (e20.trans (e21.trans (e22.trans e23)))) h23 rfl (fun y hy => ?_) (by decide) fun pB HB nB eB LB => ?_
          · simp only [List.mem_cons, List.not_mem_nil, or_false] at hy
            rcases hy with rfl | rfl | rfl
            · exact odS_mono (by walk_at "Zkt") (odS_2 h20 (dq_mono (zA.trans (z19.trans e20)) hF1) gF (dqs_one (dq_mono e20 hx)))
            · exact odS_mono (by walk_at "Zkt") (odS_2 h22 (dq_mono e22 (dq_new h21 .nil)) (fun _ h => nomatch h) (dqs_one (.int _)))
            · exact odS_fs (dq_mono (zA.trans (by walk_at "Zkt")) hF1)
          have zB : Same H1 HB := zA.trans (z19.trans (e20.trans (e21.trans (e22.trans (e23.trans eB)))))
          clear LA h23 n23 h22 n22 h21 n21 h20 n20 nB
          walk_at "Zs"
          refine w_goS ?_
          refine lcS (fun i acc H' => acc.length = i ∧ ∃ ds, DqAll W.K H' acc ds ∧ ∀ d ∈ ds, MoD d) (fun i acc H' D xs ys hD h => ⟨h.1, ?_⟩) (by decide) (fun i acc H' h => Nat.le_of_eq h.1) (fun H' _ => ⟨rfl, [], .nil, fun _ h => nomatch h⟩) (fun i c acc H' hc e1' ea k k' hk hk' => ?_) fun D acc HC hD eC hD' ea => ?_
          · obtain ⟨ds, h1, h2⟩ := h.2
            exact ⟨ds, dqs_lst hD h1 (mo_tup h2), h2⟩
          · obtain ⟨la, ds, h1, h2⟩ := ea
            walk_at "Zs"
            refine w_addsN (show 1 + 1 ≤ sizeLine by decide) ?_
            walk_at "Zs"
            rename_i pa Ha na ea ha pb Hb nb eb hb
            refine hk _ _ (ea.trans eb) ⟨by rw [List.length_append, la]; rfl, ds ++ [_], dqs_app (dqs_mono (ea.trans eb) h1) (dqs_one (dq_new hb (.cons (.str _) (dqs_two (.int 1) (dq_mono eb (dq_new ha (dqs_one (.str _)))))))), fun d hd => ?_⟩
            rcases List.mem_append.mp hd with hd | hd
            · exact h2 d hd
            · rw [List.mem_singleton.mp hd]
              exact ⟨_, rfl, by rw [Str.length_append]; exact Nat.le_refl 2⟩
          · obtain ⟨la, ds, h1, h2⟩ := ea
            walk_at "Zs"
            refine w_tupleN (SqL.of hD') fun pM HM nM eM hM => ?_
            have hMo : Dq W.K HM (.ref pM) (.tuple ds) := dq_new hM (dqs_mono eM h1)
            have gM : ∀ d ∈ ds, GdF d := fun d hd => mo_gd (h2 d hd)
            have zM : Same H1 HM := zB.trans (eC.trans eM)
            have LM : OsL W.K HB pB 11 := LB
            walk_at "Zs"
            obtain ⟨af, xf, rfl, hxf, hdf⟩ := dq_tt (dq_mono zM hF1)
            refine w_listUT hxf.t fun q1 K1 m1 g1 i1 => ?_
            walk_at "Zs"
            rename_i q2 K2 m2 g2 i2 q3 K3 m3 g3 i3 q4 K4 m4 g4 i4 q5 K5 m5 g5 i5 q6 K6 m6 g6 i6 q7 K7 m7 g7 i7
            have hFK : Dq W.K HM (.ref af) (.tuple (s.fs.map fdD)) := .tup hxf hdf
            refine w_slQT (dq_mono (by walk_at "Zkt") hMo) fun v8 K8 g8 i8 => ?_
            walk_at "Zs"
            rename_i q9 K9 m9 g9 i9 q10 K10 m10 g10 i10
            refine w_osL (n := 7) LM (eC.trans (eM.trans (g1.trans (g2.trans (g3.trans (g4.trans (g5.trans (g6.trans (g7.trans (g8.trans (g9.trans g10))))))))))) i10 rfl (fun y hy => ?_) (by decide) fun pE HE nE eE LE => ?_
            · simp only [List.mem_cons, List.not_mem_nil, or_false] at hy
              rcases hy with rfl | rfl | rfl | rfl | rfl | rfl | rfl
              · exact odS_n (dq_mono (by walk_at "Zkt") (dq_new i2 (dqs_two (dq_mono g2 (dq_newl i1 (dqs_mono g1 hdf))) (.int _)))) (fun ds r e => by injection e with e; injection e with e _; cases e)
              · exact odS_n (dq_mono (by walk_at "Zkt") (dq_newl i3 (dqs_two (dq_mono (by walk_at "Zkt") hFK) (.int _)))) (fun ds r e => nomatch e)
              · exact odS_mono (by walk_at "Zkt") (odS_2 i4 (dq_mono (by walk_at "Zkt") hFK) gF (dqs_two (.int _) (.int _)))
              · exact odS_mono (by walk_at "Zkt") (odS_2 i5 (dq_mono (by walk_at "Zkt") hFK) gF .nil)
              · exact odS_n (dq_mono (by walk_at "Zkt") (dq_new i6 (dqs_two (.int _) (dq_mono (by walk_at "Zkt") hFK)))) (fun ds r e => by injection e with e; injection e with e _; cases e)
              · exact odS_mono (by walk_at "Zkt") (odS_2 i7 (dq_mono (by walk_at "Zkt") hMo) gM (dqs_one (.int _)))
              · exact odS_mono (by walk_at "Zkt") (odS_2 i9 (dq_mono g9 i8) (gd_cut gM) (dqs_one (.int _)))
            have zE : Same H HE := e0.trans (e1.trans (zM.trans (by walk_at "Zkt")))
            obtain ⟨ys, hys, lys, oys⟩ := LE
            walk_at "Zs"
            refine w_lenL (SqL.of hys) ?_
            rw [lys]
            walk_at "Zs"
            rename_i dn HN eN dn0 dn1
            refine w_ixP (OdS W.K HN) (SqL.of (eN _ _ hys)) dn0 (by rw [lys]; exact dn1) (fun x hx => odS_mono eN (oys x hx)) fun x hx => ?_
            exact q x HN (zE.trans eN) hx
  exact F0
theorem c__law_odd {W : Wd} {mg : Str → Option Value} {base : Heap} (B : Bi mg) (S : Src W.K mg "_law_odd" s__law_odd) (C__law_draw : Cal W mg base "_law_draw" 1 ["_law_pot_here", "_law_many"] (sp__law_draw W)) (C__law_odd_field : Cal W mg base "_law_odd_field" 5 ["_law_pot_here", "_law_fields", "_law_place"] (sp__law_odd_field W)) : Cal W mg base "_law_odd" 6 ["_law_pot_here", "_law_shape_here"] (sp__law_odd W) := by
  obtain ⟨f, fd, g, F⟩ := S
  exact ⟨f, fd, g, f__law_odd B F C__law_draw C__law_odd_field, F.kp, (F.binds (ps := ["_law_pot_here", "_law_shape_here"]) fun _ _ _ _ _ _ us hl => match us, hl with | [_, _], _ => rfl)⟩
theorem go__law_odd {W : Wd} {H : Hp} {Q : VK} {E : XK} {v u : V} {s : Shp} (hp : PotAt W H v) (hs : Dq W.K H u (shD s)) (ok : OkShp s) (q : ∀ x H', Same H H' → OdS W.K H' x → Q x H') : sp__law_odd W [v, u] H Q E := ⟨s, hp, hs, ok, q⟩
theorem sm_no {d : PyData} (h : ∀ ds r, d ≠ .tuple (.tuple ds :: r)) : SmSh d := fun ds r e => (h ds r e).elim
def things9 : List PyData := [.none, .bool true, .int 0, .str "", .str "shape", .tuple [], .list [], .dict [], .tuple [.tuple [], .int 1], .tuple [.tuple [], .tuple []], .tuple [.none, .int 1], .tuple [.int 0, .int 1], .tuple [.tuple [.tuple [.str "a", .int 1]], .int 1], .dict []]
theorem things9_no : ∀ d ∈ things9, SmSh d ∧ shapeD d = false := fun d hd => by
  unfold things9 at hd
  simp only [List.mem_cons, List.not_mem_nil, or_false] at hd
  rcases hd with rfl | rfl | rfl | rfl | rfl | rfl | rfl | rfl | rfl | rfl | rfl | rfl | rfl | rfl
  · exact ⟨sm_no (fun _ _ e => nomatch e), rfl⟩
  · exact ⟨sm_no (fun _ _ e => nomatch e), rfl⟩
  · exact ⟨sm_no (fun _ _ e => nomatch e), rfl⟩
  · exact ⟨sm_no (fun _ _ e => nomatch e), rfl⟩
  · exact ⟨sm_no (fun _ _ e => nomatch e), rfl⟩
  · exact ⟨sm_no (fun _ _ e => by injection e with e; cases e), rfl⟩
  · exact ⟨sm_no (fun _ _ e => nomatch e), rfl⟩
  · exact ⟨sm_no (fun _ _ e => nomatch e), rfl⟩
  · exact ⟨fun ds r e => by injection e with e; injection e with e _; injection e with e; rw [← e]; exact fun _ h => (nomatch h), by decide +kernel⟩
  · exact ⟨fun ds r e => by injection e with e; injection e with e _; injection e with e; rw [← e]; exact fun _ h => (nomatch h), by decide +kernel⟩
  · exact ⟨sm_no (fun _ _ e => by injection e with e; injection e with e _; cases e), by decide +kernel⟩
  · exact ⟨sm_no (fun _ _ e => by injection e with e; injection e with e _; cases e), by decide +kernel⟩
  · refine ⟨fun ds r e => ?_, by decide +kernel⟩
    injection e with e
    injection e with e _
    injection e with e
    intro f hf
    rw [← e] at hf
    rw [List.mem_singleton.mp hf]
    intro z r' e'
    injection e' with e'
    injection e' with e' _
    injection e' with e'
    rw [← e']
    decide
  · exact ⟨sm_no (fun _ _ e => nomatch e), rfl⟩
def sp_law (W : Wd) : Sp := fun vs H Q _ => match vs with
  | [v_script] =>
  ∃ (a : Addr) (ns : List Int), v_script = .ref a ∧ SqL W.K H a (ns.map V.int) ∧ ns.length ≤ 63 ∧ (∀ z ∈ ns, Builtin.Int.intBits z ≤ 1048576) ∧ ∀ H', Q (.bl true) H'
  | _ => False
abbrev N_law : List Str := ["_law_script", "_law_k", "_law_pot_here", "_law_shape_here", "_law_turn_here", "_law_thing", "_law_again", "_law_found", "_law_things"]
theorem sc_law : FnScope N_law ["_law_script"] (defScope s_law) := ⟨rfl, rfl, rfl, by decide +kernel, rfl, by decide +kernel, by decide +kernel⟩
theorem f_law {W : Wd} {mg : Str → Option Value} {base : Heap} (B : Bi mg) {f : Addr} {fd : FuncData} (F : Fun W.K "law" "law" s_law f fd) (C_is_shape : Cal W mg base "is_shape" 7 ["thing"] (sp_is_shape W)) (C__law_is_shape : Cal W mg base "_law_is_shape" 6 ["_law_thing"] (sp__law_is_shape W)) (C__law_odd : Cal W mg base "_law_odd" 6 ["_law_pot_here", "_law_shape_here"] (sp__law_odd W)) (C__law_shape : Cal W mg base "_law_shape" 5 ["_law_pot_here"] (sp__law_shape W)) (C__law_pot : Cal W mg base "_law_pot" 1 ["_law_script", "_law_k"] (sp__law_pot W)) : FnOk W.P W.w W.K mg base CX0 8 f fd ["_law_script"] (sp_law W) := by
  obtain ⟨a_is_shape, d_is_shape, g_is_shape, F_is_shape, k_is_shape, b_is_shape⟩ := C_is_shape
  obtain ⟨a__law_is_shape, d__law_is_shape, g__law_is_shape, F__law_is_shape, k__law_is_shape, b__law_is_shape⟩ := C__law_is_shape
  obtain ⟨a__law_odd, d__law_odd, g__law_odd, F__law_odd, k__law_odd, b__law_odd⟩ := C__law_odd
  obtain ⟨a__law_shape, d__law_shape, g__law_shape, F__law_shape, k__law_shape, b__law_shape⟩ := C__law_shape
  obtain ⟨a__law_pot, d__law_pot, g__law_pot, F__law_pot, k__law_pot, b__law_pot⟩ := C__law_pot
  have nd := sc_law.nd
  have F0 : FnOk W.P W.w W.K mg base CX0 8 f fd ["_law_script"] (sp_law W) := by
    refine F.ok sc_law (fun vs H Q E h => ?_) (fun cdv A outer s H vs Q E hr h => ?_)
    · match vs, h with | [_], _ => rfl
    · match vs, h with
      | [v_script], h =>
        change sp_law W [v_script] H Q E at h
        refine ⟨tSeq (tFor (iRng1 (tCons (tOp (rAddN W.K) (tC (.int 2)) (tCB (rMin2) (tCons (tC (.int 16)) (tCons (tCB (rLenU W.K) (tCons (tVar 0) (tNil))) (tNil))))) (tNil))) (gName 1) (tSeq (tAsg (tCall (sp__law_pot W) [] E0 (tCons (tVar 0) (tCons (tVar 1) (tNil)))) (gName 2)) (tSeq (tAsg (tCall (sp__law_shape W) [] E0 (tCons (tVar 2) (tNil))) (gName 3)) (tFor (iRng1 (tCons (tC (.int 8)) (tNil))) (gName 4) (tSeq (tAsg (tCall (sp__law_odd W) [] E0 (tCons (tVar 2) (tCons (tVar 3) (tNil)))) (gName 5)) (tFor (iRng1 (tCons (tC (.int 2)) (tNil))) (gName 6) (tSeq (tAsg (tCall (sp_is_shape W) [] E0 (tCons (tVar 5) (tNil))) (gName 7)) (tIfS (tOr (tNot (tB (tCB (rIsi W.K) (tCons (tVar 7) (tCons (tC (.ty "bool")) tNil))))) (tTest (tOp (rNeU W.K) (tVar 7) (tCall (sp__law_is_shape W) [] E0 (tCons (tVar 5) (tNil)))))) (tRet (tC (.bl false))) (tNext))))))))) (tSeq (tAsg (tLst (tCons (tC .non) (tCons (tC (.bl true)) (tCons (tC (.int 0)) (tCons (tC (.str "")) (tCons (tC (.str "shape")) (tCons (tTupN (tNil)) (tCons (tLst (tNil)) (tCons (tDNewK) (tCons (tTupN (tCons (tTupN (tNil)) (tCons (tC (.int 1)) (tNil)))) (tCons (tTupN (tCons (tTupN (tNil)) (tCons (tTupN (tNil)) (tNil)))) (tCons (tTupN (tCons (tC .non) (tCons (tC (.int 1)) (tNil)))) (tCons (tTupN (tCons (tC (.int 0)) (tCons (tC (.int 1)) (tNil)))) (tCons (tTupN (tCons (tTupN (tCons (tTupN (tCons (tC (.str "a")) (tCons (tC (.int 1)) (tNil)))) (tNil))) (tCons (tC (.int 1)) (tNil)))) (tCons (tDisp [(tC (.int 1), tC (.int 2))]) (tNil)))))))))))))))) (gName 8)) (tRet (tAndV (tNotV (tCB (rAny W.K) (tCons (tLc (iAny W.K (tVar 8)) (gName 5) (tYes) (tCall (sp_is_shape W) [] E0 (tCons (tVar 5) (tNil))) [5]) (tNil)))) (tOp (rIsU) (tCall (sp_is_shape W) [] E0 (tCons (tTupN (tCons (tTupN (tCons (tTupN (tCons (tC (.str "a")) (tCons (tC (.int 1)) (tCons (tTupN (tCons (tC (.str "still")) (tNil))) (tNil))))) (tNil))) (tCons (tC (.int 1)) (tNil)))) (tNil))) (tC (.bl true)))))), pss_cons (ps_for PassesOwn.never rfl (pi_range1 (by rfl) B.b_range (pa_cons (pe_op u_addN (pe_int) (pe_callB (call_min2 rfl) (by rfl) B.b_min (by decide +kernel) (pa_cons (pe_int) (pa_cons (pe_callB u_len (by rfl) B.b_len (by decide +kernel) (pa_cons (pv 0) (pa_nil))) (pa_nil))))) (pa_nil))) (pg_name (i := 1) nd rfl (by first | exact Or.inl rfl | exact Or.inr rfl)) (pss_cons (ps_set (i := 2) nd rfl (.inl rfl) (pe_call F__law_pot (hr.mono (by decide)) (by rfl) g__law_pot k__law_pot b__law_pot .nil pass0 (pa_cons (pv 0) (pa_cons (pv 1) (pa_nil))))) (pss_cons (ps_set (i := 3) nd rfl (.inl rfl) (pe_call F__law_shape (hr.mono (by decide)) (by rfl) g__law_shape k__law_shape b__law_shape .nil pass0 (pa_cons (pv 2) (pa_nil)))) (pss_one (ps_for PassesOwn.never rfl (pi_range1 (by rfl) B.b_range (pa_cons (pe_int) (pa_nil))) (pg_name (i := 4) nd rfl (by first | exact Or.inl rfl | exact Or.inr rfl)) (pss_cons (ps_set (i := 5) nd rfl (.inl rfl) (pe_call F__law_odd (hr.mono (by decide)) (by rfl) g__law_odd k__law_odd b__law_odd .nil pass0 (pa_cons (pv 2) (pa_cons (pv 3) (pa_nil))))) (pss_one (ps_for PassesOwn.never rfl (pi_range1 (by rfl) B.b_range (pa_cons (pe_int) (pa_nil))) (pg_name (i := 6) nd rfl (by first | exact Or.inl rfl | exact Or.inr rfl)) (pss_cons (ps_set (i := 7) nd rfl (.inl rfl) (pe_call F_is_shape (hr.mono (by decide)) (by rfl) g_is_shape k_is_shape b_is_shape .nil pass0 (pa_cons (pv 5) (pa_nil)))) (pss_one (ps_if (PW.pt (pw_or (pt_not (pt_val (pe_callB call_isi (by rfl) B.b_isinstance (by decide +kernel) (pa_cons (pv 7) (pa_cons (pe_bltn (v := .ty "bool") (u := .type "bool") (by rfl) B.b_bool (by decide +kernel) rfl) pa_nil))))) (pw_or1 (pt_cmpR (u_ne hr.units) (pv 7) (pe_call F__law_is_shape (hr.mono (by decide)) (by rfl) g__law_is_shape k__law_is_shape b__law_is_shape .nil pass0 (pa_cons (pv 5) (pa_nil))) (nomark _))))) (pss_one (ps_ret (pe_bl))) (pss_nil)))))))))))) (pss_cons (ps_set (i := 8) nd rfl (.inl rfl) (pe_lst (pa_cons (pe_non) (pa_cons (pe_bl) (pa_cons (pe_int) (pa_cons (pe_str) (pa_cons (pe_str) (pa_cons (pe_tupN (pa_nil)) (pa_cons (pe_lst (pa_nil)) (pa_cons (pe_dnewK) (pa_cons (pe_tupN (pa_cons (pe_tupN (pa_nil)) (pa_cons (pe_int) (pa_nil)))) (pa_cons (pe_tupN (pa_cons (pe_tupN (pa_nil)) (pa_cons (pe_tupN (pa_nil)) (pa_nil)))) (pa_cons (pe_tupN (pa_cons (pe_non) (pa_cons (pe_int) (pa_nil)))) (pa_cons (pe_tupN (pa_cons (pe_int) (pa_cons (pe_int) (pa_nil)))) (pa_cons (pe_tupN (pa_cons (pe_tupN (pa_cons (pe_tupN (pa_cons (pe_str) (pa_cons (pe_int) (pa_nil)))) (pa_nil))) (pa_cons (pe_int) (pa_nil)))) (pa_cons (pe_disp (pps_cons (pe_int) (pe_int) (pps_nil)) (by rfl) (by rfl) (fun z => by cases z) (by decide)) (pa_nil))))))))))))))))) (pss_one (ps_ret (pe_and (pe_not (pe_callB (cr_any rfl) (by rfl) B.b_any (by decide +kernel) (pa_cons (pe_lc (own := [("_law_thing", 5)]) rfl nd (pi_any (pv 8)) (blkOk_by (own := [("_law_thing", 5)]) (N := N_law) (sc := defScope s_law) (by decide +kernel)) (fun _ _ _ _ _ => pg_name (i := 5) nd rfl (by first | exact Or.inl rfl | exact Or.inr rfl)) (fun _ _ _ _ _ => pts_nil) (fun _ _ _ _ _ => pe_call F_is_shape (hr.mono (by decide)) (by rfl) g_is_shape k_is_shape b_is_shape .nil pass0 (pa_cons (pv 5) (pa_nil)))) (pa_nil)))) (pe_one (pe_cmpR u_is (pe_call F_is_shape (hr.mono (by decide)) (by rfl) g_is_shape k_is_shape b_is_shape .nil pass0 (pa_cons (pe_tupN (pa_cons (pe_tupN (pa_cons (pe_tupN (pa_cons (pe_str) (pa_cons (pe_int) (pa_cons (pe_tupN (pa_cons (pe_str) (pa_nil))) (pa_nil))))) (pa_nil))) (pa_cons (pe_int) (pa_nil)))) (pa_nil))) (pe_bl) (nomark _))))))), ?_⟩
        clear hr
        clear F_is_shape g_is_shape k_is_shape b_is_shape d_is_shape a_is_shape
        clear F__law_is_shape g__law_is_shape k__law_is_shape b__law_is_shape d__law_is_shape a__law_is_shape
        clear F__law_odd g__law_odd k__law_odd b__law_odd d__law_odd a__law_odd
        clear F__law_shape g__law_shape k__law_shape b__law_shape d__law_shape a__law_shape
        clear F__law_pot g__law_pot k__law_pot b__law_pot d__law_pot a__law_pot
        rw [show L2.start N_law [v_script] = [some v_script, none, none, none, none, none, none, none, none] from rfl]
        obtain ⟨a, ns, rfl, hS, hlen, hb, q⟩ := h
        walk_at "Zs"
        refine w_lenL hS ?_
        rw [List.length_map]
        walk_at "Zs"
        refine forR0 (fun i σ' H' => Same H H' ∧ ∃ y1 y2 y3 y4 y5 y6 y7 y8, σ' = [some (.ref a), y1, y2, y3, y4, y5, y6, y7, y8]) ⟨Same.refl _, _, _, _, _, _, _, _, _, rfl⟩ (fun i σ' H1 hi h => ?_) (fun σ' H1 h => ?_)
        · obtain ⟨e1, y1, y2, y3, y4, y5, y6, y7, y8, rfl⟩ := h
          walk_at "Zs"
          refine go__law_pot (e1.seq hS) (by omega) fun v H2 e2 hp => ?_
          walk_at "Zs"
          refine go__law_shape hp fun s sv H3 e3 hs ok => ?_
          walk_at "Zs"
          refine forR0 (fun j σ' H' => Same H3 H' ∧ ∃ y4 y5 y6 y7 y8, σ' = [some (.ref a), some (.int (i : Int)), some v, some sv, y4, y5, y6, y7, y8]) ⟨Same.refl _, _, _, _, _, _, rfl⟩ (fun j σ' H4 hj h => ?_) (fun σ' H4 h => ?_)
          · obtain ⟨e4, y4, y5, y6, y7, y8, rfl⟩ := h
            walk_at "Zs"
            refine go__law_odd (by walk_at "Zpot") (dq_mono e4 hs) ok fun x H5 e5 hx => ?_
            obtain ⟨d, hd, hz1, hz2⟩ := hx
            walk_at "Zs"
            refine forR0 (fun l σ' H' => Same H5 H' ∧ ∃ y6 y7 y8, σ' = [some (.ref a), some (.int (i : Int)), some v, some sv, some (.int (j : Int)), some x, y6, y7, y8]) ⟨Same.refl _, _, _, _, rfl⟩ (fun l σ' H6 hl h => ?_) (fun σ' H6 h => ?_)
            · obtain ⟨e6, y6, y7, y8, rfl⟩ := h
              walk_at "Zs"
              refine go_is_shape (dz_dq (dq_mono e6 hd)) hz2 fun H7 e7 => ?_
              walk_at "Zs"
              refine w_isbool' (.bl _) ?_
              walk_at "Zs"
              refine go__law_is_shape (dq_mono (e6.trans e7) hd) hz1 hz2 fun H8 e8 => ?_
              walk_at "Zs"
              rw [decide_eq_true rfl]
              walk_at "Zs"
              exact ⟨e6.trans (e7.trans e8), _, _, _, rfl⟩
            · obtain ⟨e6, y6, y7, y8, rfl⟩ := h
              exact ⟨e4.trans (e5.trans e6), _, _, _, _, _, rfl⟩
          · obtain ⟨e4, y4, y5, y6, y7, y8, rfl⟩ := h
            exact ⟨e1.trans (e2.trans (e3.trans e4)), _, _, _, _, _, _, _, _, rfl⟩
        · obtain ⟨e1, y1, y2, y3, y4, y5, y6, y7, y8, rfl⟩ := h
          walk_at "Zs"
          rename_i p1 K1 n1 g1 i1 p2' K2 n2 g2 i2 p3 K3 n3 g3 i3 p4 K4 n4 g4 i4 p5 K5 n5 g5 i5 p6 K6 n6 g6 i6 p7 K7 n7 g7 i7 p8 K8 n8 g8 i8 p9 K9 n9 g9 i9 pa Ka na ga ia pb Kb nb gb ib pc Kc nc gc ic pd Kd nd gd ide
          refine w_disp fun pe ne => ?_
          walk_at "Zs"
          refine ⟨upd_same, [(.inl 1, .int 2)], rfl, (by decide : 1 ≤ 15), ?_⟩
          have ge : Same Kd (upd (upd Kd pe (.dK [])) pe (.dK (mergeK [] [(.inl 1, .int 2)]))) := same_mut (same_new ne) ne
          have ie : upd (upd Kd pe (.dK [])) pe (.dK (mergeK [] [(.inl 1, .int 2)])) pe = some (.dK (mergeK [] [(.inl 1, .int 2)])) := upd_same
          generalize upd (upd Kd pe (.dK [])) pe (.dK (mergeK [] [(.inl 1, .int 2)])) = Ke at ge ie
          walk_at "Zs"
          rename_i pL KL nL gL iL
          refine w_goL (SqL.of iL) ?_
          have hall : DzAll W.K Ever KL [V.non, V.bl true, V.int 0, V.str "", V.str "shape", V.ref p1, V.ref p2', V.ref p3, V.ref p5, V.ref p8, V.ref p9, V.ref pa, V.ref pd, V.ref pe] things9 := by
            unfold things9
            walk_at "Zda"
          refine lcL (SqL.of iL) (fun j acc _ => acc = List.replicate j (V.bl false)) stb_pure (show 14 ≤ 1000000 by decide) (fun j acc _ e => by rw [e, List.length_replicate]; exact Nat.le_refl _) (fun _ _ => rfl) (fun j x acc H' hx e ea k k' hk hk' => ?_) fun D acc HM hD eM hD' ea => ?_
          · walk_at "Zs"
            obtain ⟨d, hd1, hxd⟩ := dzs_get2 hall hx
            obtain ⟨b1, b2⟩ := things9_no d (List.mem_of_getElem? hd1)
            refine go_is_shape (dz_mono e hxd) b1 fun H3 e3 => ?_
            rw [b2]
            exact hk _ _ e3 (by rw [ea, List.replicate_succ'])
          · walk_at "Zs"
            refine w_any (bs := List.replicate 14 false) (SqL.of (by rw [hD', ea, List.map_replicate]; rfl)) ?_
            rw [show (List.replicate 14 false).any id = false from rfl]
            walk_at "Zs"
            rename_i q1 J1 m1 f1 o1 q2 J2 m2 f2 o2 q3 J3 m3 f3 o3 q4 J4 m4 f4 o4
            refine go_is_shape (d := .tuple [.tuple [.tuple [.str "a", .int 1, .tuple [.str "still"]]], .int 1]) (dz_dq (dq_new o4 (dqs_two (dq_mono f4 (dq_new o3 (dqs_one (dq_mono f3 (dq_new o2 (.cons (.str _) (dqs_two (.int _) (dq_mono f2 (dq_new o1 (dqs_one (.str _))))))))))) (.int _)))) (fun ds r e => ?_) fun J5 f5 => ?_
            · injection e with e
              injection e with e _
              injection e with e
              intro f hf
              rw [← e] at hf
              rw [List.mem_singleton.mp hf]
              intro z r' e'
              injection e' with e'
              injection e' with e' _
              injection e' with e'
              rw [← e']
              decide
            · rw [show shapeD (.tuple [.tuple [.tuple [.str "a", .int 1, .tuple [.str "still"]]], .int 1]) = true by decide +kernel]
              walk_at "Zs"
              exact q _
  exact F0
theorem c_law {W : Wd} {mg : Str → Option Value} {base : Heap} (B : Bi mg) (S : Src W.K mg "law" s_law) (C_is_shape : Cal W mg base "is_shape" 7 ["thing"] (sp_is_shape W)) (C__law_is_shape : Cal W mg base "_law_is_shape" 6 ["_law_thing"] (sp__law_is_shape W)) (C__law_odd : Cal W mg base "_law_odd" 6 ["_law_pot_here", "_law_shape_here"] (sp__law_odd W)) (C__law_shape : Cal W mg base "_law_shape" 5 ["_law_pot_here"] (sp__law_shape W)) (C__law_pot : Cal W mg base "_law_pot" 1 ["_law_script", "_law_k"] (sp__law_pot W)) : Cal W mg base "law" 8 ["_law_script"] (sp_law W) := by
  obtain ⟨f, fd, g, F⟩ := S
  exact ⟨f, fd, g, f_law B F C_is_shape C__law_is_shape C__law_odd C__law_shape C__law_pot, F.kp, (F.binds (ps := ["_law_script"]) fun _ _ _ _ _ _ us hl => match us, hl with | [_], _ => rfl)⟩
theorem all_ok {W : Wd} {mg : Str → Option Value} {base : Heap} (B : Bi mg) (S_is_whole : Src W.K mg "is_whole" s_is_whole) (S_is_between : Src W.K mg "is_between" s_is_between) (S_is_name : Src W.K mg "is_name" s_is_name) (S_is_value : Src W.K mg "is_value" s_is_value) (S_is_turn : Src W.K mg "is_turn" s_is_turn) (S_is_kind : Src W.K mg "is_kind" s_is_kind) (S_is_field : Src W.K mg "is_field" s_is_field) (S_is_shape : Src W.K mg "is_shape" s_is_shape) (S__law_pot : Src W.K mg "_law_pot" s__law_pot) (S__law_draw : Src W.K mg "_law_draw" s__law_draw) (S__law_value : Src W.K mg "_law_value" s__law_value) (S__law_names : Src W.K mg "_law_names" s__law_names) (S__law_turn : Src W.K mg "_law_turn" s__law_turn) (S__law_kind : Src W.K mg "_law_kind" s__law_kind) (S__law_shape : Src W.K mg "_law_shape" s__law_shape) (S__law_whole : Src W.K mg "_law_whole" s__law_whole) (S__law_between : Src W.K mg "_law_between" s__law_between) (S__law_is_turn : Src W.K mg "_law_is_turn" s__law_is_turn) (S__law_is_kind : Src W.K mg "_law_is_kind" s__law_is_kind) (S__law_is_name : Src W.K mg "_law_is_name" s__law_is_name) (S__law_is_field : Src W.K mg "_law_is_field" s__law_is_field) (S__law_is_shape : Src W.K mg "_law_is_shape" s__law_is_shape) (S__law_odd_kind : Src W.K mg "_law_odd_kind" s__law_odd_kind) (S__law_odd_field : Src W.K mg "_law_odd_field" s__law_odd_field) (S__law_odd : Src W.K mg "_law_odd" s__law_odd) {f : Addr} {fd : FuncData} (F : Fun W.K "law" "law" s_law f fd) : FnOk W.P W.w W.K mg base CX0 8 f fd ["_law_script"] (sp_law W) := by
  have C_is_whole := c_is_whole (base := base) B S_is_whole 
  have C_is_between := c_is_between (base := base) B S_is_between C_is_whole
  have C_is_name := c_is_name (base := base) B S_is_name 
  have C_is_value := c_is_value (base := base) B S_is_value C_is_between
  have C_is_turn := c_is_turn (base := base) B S_is_turn C_is_value
  have C_is_kind := c_is_kind (base := base) B S_is_kind C_is_between C_is_turn C_is_value
  have C_is_field := c_is_field (base := base) B S_is_field C_is_between C_is_kind C_is_name
  have C_is_shape := c_is_shape (base := base) B S_is_shape C_is_field C_is_between
  have C__law_pot := c__law_pot (base := base) B S__law_pot 
  have C__law_draw := c__law_draw (base := base) B S__law_draw 
  have C__law_value := c__law_value (base := base) B S__law_value C__law_draw
  have C__law_names := c__law_names (base := base) B S__law_names C__law_draw
  have C__law_turn := c__law_turn (base := base) B S__law_turn C__law_value C__law_draw
  have C__law_kind := c__law_kind (base := base) B S__law_kind C__law_draw C__law_turn C__law_value
  have C__law_shape := c__law_shape (base := base) B S__law_shape C__law_draw C__law_names C__law_kind
  have C__law_whole := c__law_whole (base := base) B S__law_whole 
  have C__law_between := c__law_between (base := base) B S__law_between C__law_whole
  have C__law_is_turn := c__law_is_turn (base := base) B S__law_is_turn C__law_between
  have C__law_is_kind := c__law_is_kind (base := base) B S__law_is_kind C__law_between C__law_is_turn
  have C__law_is_name := c__law_is_name (base := base) B S__law_is_name 
  have C__law_is_field := c__law_is_field (base := base) B S__law_is_field C__law_between C__law_is_kind C__law_is_name
  have C__law_is_shape := c__law_is_shape (base := base) B S__law_is_shape C__law_is_field C__law_between
  have C__law_odd_kind := c__law_odd_kind (base := base) B S__law_odd_kind C__law_draw C__law_turn
  have C__law_odd_field := c__law_odd_field (base := base) B S__law_odd_field C__law_draw C__law_odd_kind
  have C__law_odd := c__law_odd (base := base) B S__law_odd C__law_draw C__law_odd_field
  exact f_law B F C_is_shape C__law_is_shape C__law_odd C__law_shape C__law_pot
theorem all_mk {P : Program} {w : World} {K : PySem.W.Frag} {mg : Str → Option Value} {fa : Addr} (hfa : mg "law" = some (.ref fa)) (B : Bi mg) (S_is_whole : Src K mg "is_whole" s_is_whole) (S_is_between : Src K mg "is_between" s_is_between) (S_is_name : Src K mg "is_name" s_is_name) (S_is_value : Src K mg "is_value" s_is_value) (S_is_turn : Src K mg "is_turn" s_is_turn) (S_is_kind : Src K mg "is_kind" s_is_kind) (S_is_field : Src K mg "is_field" s_is_field) (S_is_shape : Src K mg "is_shape" s_is_shape) (S__law_pot : Src K mg "_law_pot" s__law_pot) (S__law_draw : Src K mg "_law_draw" s__law_draw) (S__law_value : Src K mg "_law_value" s__law_value) (S__law_names : Src K mg "_law_names" s__law_names) (S__law_turn : Src K mg "_law_turn" s__law_turn) (S__law_kind : Src K mg "_law_kind" s__law_kind) (S__law_shape : Src K mg "_law_shape" s__law_shape) (S__law_whole : Src K mg "_law_whole" s__law_whole) (S__law_between : Src K mg "_law_between" s__law_between) (S__law_is_turn : Src K mg "_law_is_turn" s__law_is_turn) (S__law_is_kind : Src K mg "_law_is_kind" s__law_is_kind) (S__law_is_name : Src K mg "_law_is_name" s__law_is_name) (S__law_is_field : Src K mg "_law_is_field" s__law_is_field) (S__law_is_shape : Src K mg "_law_is_shape" s__law_is_shape) (S__law_odd_kind : Src K mg "_law_odd_kind" s__law_odd_kind) (S__law_odd_field : Src K mg "_law_odd_field" s__law_odd_field) (S__law_odd : Src K mg "_law_odd" s__law_odd) (S_law : Src K mg "law" s_law) :
    ∃ fd : FuncData, (∀ (s : Shared) (v : Value), BindsTo s fd ⟨[v], []⟩ [("_law_script", v)]) ∧ ∀ base : Heap, K.In base → base.Ns mainGlobals mg → FnOk P w K mg base CX0 8 fa fd ["_law_script"] (sp_law ⟨P, w, K⟩) := by
  obtain ⟨f, fd, g, F⟩ := S_law
  have e := hfa.symm.trans g
  cases e
  refine ⟨fd, fun s v => ?_, fun base _ _ => all_ok (W := ⟨P, w, K⟩) B S_is_whole S_is_between S_is_name S_is_value S_is_turn S_is_kind S_is_field S_is_shape S__law_pot S__law_draw S__law_value S__law_names S__law_turn S__law_kind S__law_shape S__law_whole S__law_between S__law_is_turn S__law_is_kind S__law_is_name S__law_is_field S__law_is_shape S__law_odd_kind S__law_odd_field S__law_odd F⟩
  obtain ⟨oc, od, kV, doc, pm, an, cdv, ct, osl, rfl, lk, hcd⟩ := F.ex
  exact .of_eq rfl
theorem walk {l : PySem.W.OpenLaw} {q : Program} {loose : List Str} {XP : (Str → Option Value) → Heap → Prop} {YP : World → Heap → Prop} {d : DefRec} {K : Params → PySem.W.Frag} (hn : l.most = some 63) (hdf : d.params.defaults = [])
    (hY : ∀ (w : World) (h : Heap), YP w h → (K w.params).In h)
    (F : ∀ (w : World) (mg : Str → Option Value) (fa : Addr) (h : Heap), (K w.params).In h → h.Ns mainGlobals mg → mg d.name = some (.ref fa) →
      ∃ fd : FuncData, (∀ (s : Shared) (u : Value), BindsTo s fd ⟨[u], []⟩ [("_law_script", u)]) ∧ ∀ base : Heap, (K w.params).In base → base.Ns mainGlobals mg → FnOk l.prog w (K w.params) mg base CX0 8 fa fd ["_law_script"] (sp_law ⟨l.prog, w, K w.params⟩)) :
    PySem.W.WalkO q loose XP YP l.row.toRowW d [] (fun f vs => PySem.call f vs) :=
  L2.walk_ofB (n := 63) (k := 8) (x := "_law_script") (CX := fun _ => CX0) (sp := fun w => sp_law ⟨l.prog, w, K w.params⟩) hn (by decide) hdf ⟨rfl, by decide, by decide⟩ hY F (fun _ _ a ns hl hb _ hS => ⟨a, ns, rfl, hS, hl, hb, fun _ => rfl⟩) fun _ _ _ _ _ z => z
end Sh
open PySem PySem.W PyProof.Rows in
set_option maxRecDepth 100000 in
set_option maxHeartbeats 0 in
theorem PySem.Challenge.cw_shorthead_k09_shapes_spoilt_holds : PySem.Challenge.rw_shorthead_k09_shapes_spoilt.Holds := by
  w_on; o_law; k_head; (case hw => w_witness2)
  k_fill
  refine Sh.walk (l := PySem.Challenge.rw_shorthead_k09_shapes_spoilt) rfl rfl (fun w h Y => PySem.W.kIn_of Y) ?F
  case F =>
    intro w mg fa h KX G hmg
    refine' Sh.all_mk hmg ?B ?S_is_whole ?S_is_between ?S_is_name ?S_is_value ?S_is_turn ?S_is_kind ?S_is_field ?S_is_shape ?S__law_pot ?S__law_draw ?S__law_value ?S__law_names ?S__law_turn ?S__law_kind ?S__law_shape ?S__law_whole ?S__law_between ?S__law_is_turn ?S__law_is_kind ?S__law_is_name ?S__law_is_field ?S__law_is_shape ?S__law_odd_kind ?S__law_odd_field ?S__law_odd ?S_law
    case B =>
      refine' ⟨PySem.W.mg_none_of KX G ?z_abs, PySem.W.mg_none_of KX G ?z_all, PySem.W.mg_none_of KX G ?z_any, PySem.W.mg_none_of KX G ?z_bool, PySem.W.mg_none_of KX G ?z_enumerate, PySem.W.mg_none_of KX G ?z_int, PySem.W.mg_none_of KX G ?z_isinstance, PySem.W.mg_none_of KX G ?z_len, PySem.W.mg_none_of KX G ?z_list, PySem.W.mg_none_of KX G ?z_min, PySem.W.mg_none_of KX G ?z_range, PySem.W.mg_none_of KX G ?z_set, PySem.W.mg_none_of KX G ?z_str, PySem.W.mg_none_of KX G ?z_tuple, ⟨_, PySem.W.mg_of KX G ?y_LETTERS, ?r_LETTERS⟩, ⟨_, PySem.W.mg_of KX G ?y_MOST_BREADTH, ?r_MOST_BREADTH⟩, ⟨_, PySem.W.mg_of KX G ?y_MOST_CHECK, ?r_MOST_CHECK⟩, ⟨_, PySem.W.mg_of KX G ?y_MOST_FIELDS, ?r_MOST_FIELDS⟩, ⟨_, PySem.W.mg_of KX G ?y_MOST_LETTERS, ?r_MOST_LETTERS⟩, ⟨_, PySem.W.mg_of KX G ?y_MOST_TIMES, ?r_MOST_TIMES⟩, ⟨_, PySem.W.mg_of KX G ?y_MOST_TURN, ?r_MOST_TURN⟩⟩
      (case z_abs => k_is)
      (case z_all => k_is)
      (case z_any => k_is)
      (case z_bool => k_is)
      (case z_enumerate => k_is)
      (case z_int => k_is)
      (case z_isinstance => k_is)
      (case z_len => k_is)
      (case z_list => k_is)
      (case z_min => k_is)
      (case z_range => k_is)
      (case z_set => k_is)
      (case z_str => k_is)
      (case z_tuple => k_is)
      (case y_LETTERS => k_is)
      (case r_LETTERS => exact ⟨_, rfl⟩)
      (case y_MOST_BREADTH => k_is)
      (case r_MOST_BREADTH => exact ⟨_, rfl⟩)
      (case y_MOST_CHECK => k_is)
      (case r_MOST_CHECK => exact ⟨_, rfl⟩)
      (case y_MOST_FIELDS => k_is)
      (case r_MOST_FIELDS => exact ⟨_, rfl⟩)
      (case y_MOST_LETTERS => k_is)
      (case r_MOST_LETTERS => exact ⟨_, rfl⟩)
      (case y_MOST_TIMES => k_is)
      (case r_MOST_TIMES => exact ⟨_, rfl⟩)
      (case y_MOST_TURN => k_is)
      (case r_MOST_TURN => exact ⟨_, rfl⟩)
    case S_is_whole =>
      refine' Sh.src_mk KX G ?a ?l ?c ?k
      (case a => k_is)
      (case l => k_is)
      (case c => k_is)
      (case k => k_is)
    case S_is_between =>
      refine' Sh.src_mk KX G ?a ?l ?c ?k
      (case a => k_is)
      (case l => k_is)
      (case c => k_is)
      (case k => k_is)
    case S_is_name =>
      refine' Sh.src_mk KX G ?a ?l ?c ?k
      (case a => k_is)
      (case l => k_is)
      (case c => k_is)
      (case k => k_is)
    case S_is_value =>
      refine' Sh.src_mk KX G ?a ?l ?c ?k
      (case a => k_is)
      (case l => k_is)
      (case c => k_is)
      (case k => k_is)
    case S_is_turn =>
      refine' Sh.src_mk KX G ?a ?l ?c ?k
      (case a => k_is)
      (case l => k_is)
      (case c => k_is)
      (case k => k_is)
    case S_is_kind =>
      refine' Sh.src_mk KX G ?a ?l ?c ?k
      (case a => k_is)
      (case l => k_is)
      (case c => k_is)
      (case k => k_is)
    case S_is_field =>
      refine' Sh.src_mk KX G ?a ?l ?c ?k
      (case a => k_is)
      (case l => k_is)
      (case c => k_is)
      (case k => k_is)
    case S_is_shape =>
      refine' Sh.src_mk KX G ?a ?l ?c ?k
      (case a => k_is)
      (case l => k_is)
      (case c => k_is)
      (case k => k_is)
    case S__law_pot =>
      refine' Sh.src_mk KX G ?a ?l ?c ?k
      (case a => k_is)
      (case l => k_is)
      (case c => k_is)
      (case k => k_is)
    case S__law_draw =>
      refine' Sh.src_mk KX G ?a ?l ?c ?k
      (case a => k_is)
      (case l => k_is)
      (case c => k_is)
      (case k => k_is)
    case S__law_value =>
      refine' Sh.src_mk KX G ?a ?l ?c ?k
      (case a => k_is)
      (case l => k_is)
      (case c => k_is)
      (case k => k_is)
    case S__law_names =>
      refine' Sh.src_mk KX G ?a ?l ?c ?k
      (case a => k_is)
      (case l => k_is)
      (case c => k_is)
      (case k => k_is)
    case S__law_turn =>
      refine' Sh.src_mk KX G ?a ?l ?c ?k
      (case a => k_is)
      (case l => k_is)
      (case c => k_is)
      (case k => k_is)
    case S__law_kind =>
      refine' Sh.src_mk KX G ?a ?l ?c ?k
      (case a => k_is)
      (case l => k_is)
      (case c => k_is)
      (case k => k_is)
    case S__law_shape =>
      refine' Sh.src_mk KX G ?a ?l ?c ?k
      (case a => k_is)
      (case l => k_is)
      (case c => k_is)
      (case k => k_is)
    case S__law_whole =>
      refine' Sh.src_mk KX G ?a ?l ?c ?k
      (case a => k_is)
      (case l => k_is)
      (case c => k_is)
      (case k => k_is)
    case S__law_between =>
      refine' Sh.src_mk KX G ?a ?l ?c ?k
      (case a => k_is)
      (case l => k_is)
      (case c => k_is)
      (case k => k_is)
    case S__law_is_turn =>
      refine' Sh.src_mk KX G ?a ?l ?c ?k
      (case a => k_is)
      (case l => k_is)
      (case c => k_is)
      (case k => k_is)
    case S__law_is_kind =>
      refine' Sh.src_mk KX G ?a ?l ?c ?k
      (case a => k_is)
      (case l => k_is)
      (case c => k_is)
      (case k => k_is)
    case S__law_is_name =>
      refine' Sh.src_mk KX G ?a ?l ?c ?k
      (case a => k_is)
      (case l => k_is)
      (case c => k_is)
      (case k => k_is)
    case S__law_is_field =>
      refine' Sh.src_mk KX G ?a ?l ?c ?k
      (case a => k_is)
      (case l => k_is)
      (case c => k_is)
      (case k => k_is)
    case S__law_is_shape =>
      refine' Sh.src_mk KX G ?a ?l ?c ?k
      (case a => k_is)
      (case l => k_is)
      (case c => k_is)
      (case k => k_is)
    case S__law_odd_kind =>
      refine' Sh.src_mk KX G ?a ?l ?c ?k
      (case a => k_is)
      (case l => k_is)
      (case c => k_is)
      (case k => k_is)
    case S__law_odd_field =>
      refine' Sh.src_mk KX G ?a ?l ?c ?k
      (case a => k_is)
      (case l => k_is)
      (case c => k_is)
      (case k => k_is)
    case S__law_odd =>
      refine' Sh.src_mk KX G ?a ?l ?c ?k
      (case a => k_is)
      (case l => k_is)
      (case c => k_is)
      (case k => k_is)
    case S_law =>
      refine' Sh.src_mk KX G ?a ?l ?c ?k
      (case a => k_is)
      (case l => k_is)
      (case c => k_is)
      (case k => k_is)
