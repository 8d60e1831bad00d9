import PyProof.Rows.All
import Wide.All
import OpenK.AllK
import Wide.FinOn
import HandS.ForMost
import HandS.EndBits
import HandS.Wide
import HandS.IsInst
import HandS.TupAny
import HandS.Small
import HandS.TupMul
import HandS.WideBits
import KE.IntTextLaws
import HandS.SortInts
import HandS.Zip
import HandS.Strs
import HandS.SetFor
import HandS.Steps
import KE.KIndexOf
import KE.GoesEnum
import KE.GoesMore
import HandS.Conv
import HandS.Rev
import HandS.Style
import KE.GoesZip
import HandS.SortKw
import KE.DataMinMax
import HandS.Dict
import HandS.More
import HandS.Iter
import HandS.Finally
import ObjForm.LawKit
import KE.KEqNest
import HandS.Exc
import HandS.ExcOwn
import HandS.TryOnly
import HandS.TryMany
import HandS.ExcCtx
import HandS.Hot
import HandS.HotCalls
import HandS.WordsExc
import HandS.IsInst
import KE.KeyNested
import KE.SortData
import HandS.Deep
import KE.KDictCopyH
import KE.KDictSum
import KE.DataAny
import HandS.More
import PySem.Challenge.RW_shorthead_k49_proposed
set_option Elab.async false
set_option linter.all false
set_option maxRecDepth 100000
set_option maxHeartbeats 4000000
/-! heaps, data -/
namespace Sh
open PySem PySem.Spec PyProof.Rows L2

theorem same_new {H : Hp} {p : Addr} {o : HO} (h : H p = none) : Same H (upd H p o) := fun a u e => by
  rw [upd_ne (ne_of_none e h)]
  exact e
theorem same_mut {H H' : Hp} {p : Addr} {o : HO} (e : Same H H') (h : H p = none) : Same H (upd H' p o) := fun a u ha => by
  rw [upd_ne (ne_of_none ha h)]
  exact e a u ha
theorem same_t {K : PySem.W.Frag} {H H' : Hp} {a : Addr} {xs : List V} (e : Same H H') (h : SqT K H a xs) : SqT K H' a xs := by
  rcases h with (h | ⟨o, h⟩) | h
  · exact .inl (.inl (e _ _ h))
  · exact .inl (.inr ⟨o, e _ _ h⟩)
  · exact .inr h
mutual
theorem dp_mono {K : PySem.W.Frag} {H H' : Hp} (e : Same H H') : ∀ {v : V} {d : PyData}, Dp K H v d → Dp K H' v d
  | _, _, .non => .non
  | _, _, .bl b => .bl b
  | _, _, .int i => .int i
  | _, _, .str x => .str x
  | _, _, .lst h r => .lst (e.seq h) (dps_mono e r)
  | _, _, .tup h r => .tup (same_t e h) (dps_mono e r)
theorem dps_mono {K : PySem.W.Frag} {H H' : Hp} (e : Same H H') : ∀ {vs : List V} {ds : List PyData}, DpAll K H vs ds → DpAll K H' vs ds
  | _, _, .nil => .nil
  | _, _, .cons h r => .cons (dp_mono e h) (dps_mono e r)
end
theorem dps_len {K : PySem.W.Frag} {H : Hp} : ∀ {vs : List V} {ds : List PyData}, DpAll K H vs ds → vs.length = ds.length
  | _, _, .nil => rfl
  | _, _, .cons _ r => congrArg (· + 1) (dps_len r)
theorem dps_get {K : PySem.W.Frag} {H : Hp} : ∀ {vs : List V} {ds : List PyData} {i : Nat} {d : PyData}, DpAll K H vs ds → ds[i]? = some d → ∃ v, vs[i]? = some v ∧ Dp K H v d
  | _, _, _, _, .nil, e => by simp at e
  | _, _, 0, _, .cons (v := v) h _, e => by
    simp at e
    subst e
    exact ⟨v, rfl, h⟩
  | _, _, i + 1, d, .cons _ r, e => by
    obtain ⟨v, h1, h2⟩ := dps_get (i := i) (d := d) r (by simpa using e)
    exact ⟨v, by simpa using h1, h2⟩
theorem dps_get2 {K : PySem.W.Frag} {H : Hp} {vs : List V} {ds : List PyData} {i : Nat} {v : V} (r : DpAll K H vs ds) (e : vs[i]? = some v) : ∃ d, ds[i]? = some d ∧ Dp K H v d := by
  have hl := dps_len r
  have hi := (List.getElem?_eq_some_iff.mp e).1
  have e2 : ds[i]? = some (ds[i]'(hl ▸ hi)) := List.getElem?_eq_getElem _
  obtain ⟨v2, h1, h2⟩ := dps_get r e2
  rw [e] at h1
  cases h1
  exact ⟨_, e2, h2⟩
theorem dps_app {K : PySem.W.Frag} {H : Hp} : ∀ {vs ws : List V} {ds es : List PyData}, DpAll K H vs ds → DpAll K H ws es → DpAll K H (vs ++ ws) (ds ++ es)
  | _, _, _, _, .nil, s => s
  | _, _, _, _, .cons h r, s => .cons h (dps_app r s)
theorem dps_ints {K : PySem.W.Frag} {H : Hp} : ∀ ns : List Int, DpAll K H (ns.map V.int) (ns.map PyData.int)
  | [] => .nil
  | n :: r => .cons (.int n) (dps_ints r)
theorem atI_map {α β : Type} (f : α → β) (xs : List α) (i : Int) : atI (xs.map f) i = (atI xs i).map f := by
  unfold atI
  rw [List.length_map]
  cases ixN xs.length i with
  | none => rfl
  | some j => simp
theorem dps_at {K : PySem.W.Frag} {H : Hp} {vs : List V} {ds : List PyData} {i : Int} {d : PyData} (r : DpAll K H vs ds) (e : atI ds i = some d) : ∃ v, atI vs i = some v ∧ Dp K H v d := by
  unfold atI at e ⊢
  rw [dps_len r]
  cases q : ixN ds.length i with
  | none => rw [q] at e; cases e
  | some j =>
    rw [q] at e
    exact dps_get r e

/-! ### rules that join -/
section
variable {X : Cx}
theorem opor {f : Value → Value → Sem Value} {r r' : R2} (h : OpR X f r) (h' : OpR X f r') : OpR X f (fun x y H Q => r x y H Q ∨ r' x y H Q) := by
  intro pins s σ H x y v u Q I rx ry q
  rcases q with q | q
  · exact h pins s σ H x y v u Q I rx ry q
  · exact h' pins s σ H x y v u Q I rx ry q
def rAddU (K : PySem.W.Frag) : R2 := fun x y H Q => rI0 (fun i j => .int (i + j)) x y H Q ∨ (∃ i j, x = .str i ∧ y = .str j ∧ i.length + j.length ≤ sizeLine ∧ Q (.str (i ++ j)) H) ∨ rCat x y H Q ∨ rCatA K x y H Q
theorem u_add : OpR X (binaryOp .Add) (rAddU X.K) := opor op_add (opor op_add_str (opor op_cat op_catA))
def rSubU : R2 := rI0 fun i j => .int (i - j)
theorem u_sub : OpR X (binaryOp .Sub) rSubU := op_sub
/-- x * n of a text -/
def rMulS : R2 := fun x y H Q => ∃ a n, x = .str a ∧ y = .int n ∧ MulOk a n ∧ Q (.str (Txt.mul a n)) H
theorem op_mulS {X : Cx} : OpR X (binaryOp .Mult) rMulS := by
  intro pins s σ H x y v u Q I rx ry q
  obtain ⟨a, n, rfl, rfl, hm, q⟩ := q
  obtain ⟨t, rfl⟩ := rx
  obtain ⟨t2, rfl⟩ := ry
  exact SB.mul hm fun t' k => ⟨.str (Txt.mul a n), H, I.tok _, ⟨_, rfl⟩, q⟩
def rMulU (K : PySem.W.Frag) : R2 := fun x y H Q => rI CMul (fun i j => .int (i * j)) x y H Q ∨ rI CMulW (fun i j => .int (i * j)) x y H Q ∨ rMulS x y H Q ∨ rRep x y H Q ∨ rRepT K x y H Q
theorem u_mul : OpR X (binaryOp .Mult) (rMulU X.K) := opor op_mul (opor op_mulW (opor op_mulS (opor op_rep op_repT)))
def rDivU : R2 := rI CDivW fun i j => .int (i / j)
theorem u_div : OpR X (binaryOp .FloorDiv) rDivU := op_fdivW
def rModU : R2 := rI (fun _ j => 0 < j) fun i j => .int (i % j)
theorem u_mod : OpR X (binaryOp .Mod) rModU := op_mod
def rShlU : R2 := rI CPow fun i j => .int (i * 2 ^ j.toNat)
theorem u_shl : OpR X (binaryOp .LShift) rShlU := op_shl
def rPowU : R2 := rI CPow fun i j => .int (i ^ j.toNat)
theorem u_pow : OpR X (binaryOp .Pow) rPowU := op_pow
def rEqU (K : PySem.W.Frag) : R2 := fun x y H Q => rEq x y H Q ∨ rEqD K x y H Q
theorem u_eq (hu : X.A.units + 64 < cLine) : OpR X (compareOp .Eq) (rEqU X.K) := opor op_eq (op_eqD hu)
def rNeU (K : PySem.W.Frag) : R2 := fun x y H Q => rNe x y H Q ∨ rNeD K x y H Q
theorem u_ne (hu : X.A.units + 64 < cLine) : OpR X (compareOp .NotEq) (rNeU X.K) := opor op_ne (op_neD hu)
def rLtU (K : PySem.W.Frag) : R2 := rI0 fun i j => .bl (decide (i < j))
theorem u_lt : OpR X (compareOp .Lt) (rLtU X.K) := op_lt
def rLeU : R2 := fun x y H Q => rI0 (fun i j => .bl (decide (i ≤ j))) x y H Q ∨ (∃ i j, x = .str i ∧ y = .str j ∧ Q (.bl (!decide (j.cps.toList < i.cps.toList))) H)
theorem u_le : OpR X (compareOp .LtE) rLeU := opor op_le op_le_str
def rGtU : R2 := rI0 fun i j => .bl (decide (j < i))
theorem u_gt : OpR X (compareOp .Gt) rGtU := op_gt
def rGeU : R2 := rI0 fun i j => .bl (decide (j ≤ i))
theorem u_ge : OpR X (compareOp .GtE) rGeU := op_ge
end
/-! ### readings, step by step -/
section
variable {K : PySem.W.Frag} {σ : L2.St} {H : Hp} {Q : VK} {R : Bool → Hp → Prop} {te ta tb tc : TE} {t u : TT} {tA tr : TA} {ts tz : TS} {nx bk ct : L2.St → Hp → Prop} {rt : VK} {x y v : V} {i j : Int} {r r' : R2} {g : TG} {n : Nat} {D : Ends}
theorem w_seq (h : ts ⟨tz ⟨nx, rt, bk, ct⟩, rt, bk, ct⟩ σ H) : tSeq ts tz ⟨nx, rt, bk, ct⟩ σ H := h
theorem w_next (h : nx σ H) : tNext ⟨nx, rt, bk, ct⟩ σ H := h
theorem w_asg (h : te σ H fun x H1 => g x σ H1 nx) : tAsg te g ⟨nx, rt, bk, ct⟩ σ H := h
theorem w_gname {k : L2.St → Hp → Prop} (h : k (σ.set n (some v)) H) : gName n v σ H k := h
theorem w_drop (h : te σ H fun _ H1 => nx σ H1) : tDrop te ⟨nx, rt, bk, ct⟩ σ H := h
theorem w_ret (h : te σ H rt) : tRet te ⟨nx, rt, bk, ct⟩ σ H := h
theorem w_retn (h : rt .non H) : tRetN ⟨nx, rt, bk, ct⟩ σ H := h
theorem w_ifs (h : t σ H fun b H1 => if b = true then ts ⟨nx, rt, bk, ct⟩ σ H1 else tz ⟨nx, rt, bk, ct⟩ σ H1) : tIfS t ts tz ⟨nx, rt, bk, ct⟩ σ H := h
theorem w_aug {ti : TIp} (hx : σ[n]? = some (some x)) (h : te σ H fun y H1 => ti x y H1 fun z H2 => nx (σ.set n (some z)) H2) : tAug n te ti ⟨nx, rt, bk, ct⟩ σ H := ⟨x, hx, h⟩
theorem w_ip {f : Int → Int → Int} (h : Q (.int (f i j)) H) : ipI f (.int i) (.int j) H Q := ⟨i, j, rfl, rfl, h⟩
theorem w_par {m : Nat} (h : tA σ H fun vs H1 => ∃ v w, vs = [v, w] ∧ nx ((σ.set n (some v)).set m (some w)) H1) : tPar n m tA ⟨nx, rt, bk, ct⟩ σ H := h
theorem w_two {k : V → V → Prop} (h : k x y) : ∃ v w, [x, y] = [v, w] ∧ k v w := ⟨x, y, rfl, h⟩
theorem w_var (h : σ[n]? = some (some v)) (q : Q v H) : tVar n σ H Q := ⟨v, h, q⟩
theorem w_c (q : Q v H) : tC v σ H Q := q
theorem w_op (h : ta σ H fun x H1 => tb σ H1 fun y H2 => r x y H2 Q) : tOp r ta tb σ H Q := h
theorem w_un {r : V → Hp → VK → Prop} (h : ta σ H fun x H1 => r x H1 Q) : tUn r ta σ H Q := h
theorem w_rU {g : Int → V} (h : Q (g i) H) : rU g (.int i) H Q := ⟨i, rfl, h⟩
theorem w_nil {k : List V → Hp → Prop} (q : k [] H) : tNil σ H k := q
theorem w_cons {k : List V → Hp → Prop} (h : ta σ H fun x H1 => tr σ H1 fun xs H2 => k (x :: xs) H2) : tCons ta tr σ H k := h
theorem w_cb {r : List V → Hp → VK → Prop} (h : tA σ H fun vs H1 => r vs H1 Q) : tCB r tA σ H Q := h
theorem w_call {sp : Sp} {E : XK} (h : tA σ H fun vs H1 => sp vs H1 Q E) : tCall sp [] E tA σ H Q := by
  show tA σ H fun vs H1 => sp (vs ++ []) H1 Q E
  have e : (fun vs H1 => sp (vs ++ []) H1 Q E) = fun vs H1 => sp vs H1 Q E := by
    funext vs H1
    rw [List.append_nil]
  rw [e]
  exact h
theorem w_test (h : te σ H fun x H1 => ∃ k, x = .bl k ∧ R k H1) : tTest te σ H R := h
theorem w_tB (h : te σ H fun x H1 => ∃ k, x = .bl k ∧ R k H1) : tB te σ H R := h
theorem w_bl {b : Bool} {k : Bool → Prop} (h : k b) : ∃ c, V.bl b = .bl c ∧ k c := ⟨b, rfl, h⟩
theorem w_and (h : t σ H fun c H1 => if c = true then u σ H1 R else R false H1) : tAnd t u σ H R := h
theorem w_or (h : t σ H fun c H1 => if c = true then R true H1 else u σ H1 R) : tOr t u σ H R := h
theorem w_not (h : t σ H fun c H1 => R (!c) H1) : tNot t σ H R := h
theorem w_andv (h : ta σ H fun x H1 => ∃ c, x = .bl c ∧ if c = true then tb σ H1 Q else Q (.bl false) H1) : tAndV ta tb σ H Q := h
theorem w_orv (h : ta σ H fun x H1 => ∃ c, x = .bl c ∧ if c = true then Q (.bl true) H1 else tb σ H1 Q) : tOrV ta tb σ H Q := h
theorem w_notv (h : ta σ H fun x H1 => ∃ c, x = .bl c ∧ Q (.bl (!c)) H1) : tNotV ta σ H Q := h
theorem w_ife (h : t σ H fun c H1 => if c = true then ta σ H1 Q else tb σ H1 Q) : tIf t ta tb σ H Q := h
theorem w_chain (h : ta σ H fun x H1 => tb σ H1 fun y H2 => r x y H2 fun z H3 => ∃ k, z = .bl k ∧ if k = true then tc σ H3 fun w H4 => r' y w H4 Q else Q (.bl false) H3) : tChain r r' ta tb tc σ H Q := h
/-- a new object is laid -/
def NewT (xs : List V) (o : HO) (Q : VK) (H : Hp) : Prop := xs.length ≤ sizeLine ∧ ∀ p, H p = none → Q (.ref p) (upd H p o)
theorem w_tup (h : tA σ H fun xs H1 => NewT xs (.tup xs) Q H1) : tTup tA σ H Q := h
theorem w_lst (h : tA σ H fun xs H1 => NewT xs (.lst xs) Q H1) : tLst tA σ H Q := h
/-- a new object: it is there, all else is kept -/
theorem w_new {xs : List V} {o : HO} (hl : xs.length ≤ sizeLine) (h : ∀ p H', H p = none → Same H H' → H' p = some o → Q (.ref p) H') : NewT xs o Q H :=
  ⟨hl, fun p hp => h p _ hp (same_new hp) upd_same⟩
theorem w_dec {p : Prop} [Decidable p] {A B : Prop} (h1 : p → A) (h2 : ¬ p → B) : if decide p = true then A else B := by
  by_cases h : p
  · rw [decide_eq_true h]
    exact iteT (h1 h)
  · rw [decide_eq_false h]
    exact iteF (h2 h)
theorem w_ndec {p : Prop} [Decidable p] {A B : Prop} (h1 : ¬ p → A) (h2 : p → B) : if (!decide p) = true then A else B := by
  by_cases h : p
  · rw [decide_eq_true h]
    exact iteF (h2 h)
  · rw [decide_eq_false h]
    exact iteT (h1 h)
theorem w_itet {b : Bool} {A B : Prop} (h : b = true) (q : A) : if b = true then A else B := by
  rw [h]
  exact iteT q
theorem w_itef {b : Bool} {A B : Prop} (h : b = false) (q : B) : if b = true then A else B := by
  rw [h]
  exact iteF q
theorem w_nn {b : Bool} {A B : Prop} (h : if b = true then B else A) : if (!b) = true then A else B := by
  cases b
  · exact h
  · exact h
theorem w_bool {b : Bool} {A B : Prop} (h1 : b = true → A) (h2 : b = false → B) : if b = true then A else B := by
  cases b
  · exact iteF (h2 rfl)
  · exact iteT (h1 rfl)
theorem w_add (h : Q (.int (i + j)) H) : rAddU K (.int i) (.int j) H Q := .inl ⟨i, j, rfl, rfl, h⟩
theorem w_adds {a b : Str} (hl : a.length + b.length ≤ sizeLine) (h : Q (.str (a ++ b)) H) : rAddU K (.str a) (.str b) H Q := .inr (.inl ⟨a, b, rfl, rfl, hl, h⟩)
theorem w_sub (h : Q (.int (i - j)) H) : rSubU (.int i) (.int j) H Q := ⟨i, j, rfl, rfl, h⟩
theorem w_mul (hc : CMul i j) (h : Q (.int (i * j)) H) : rMulU K (.int i) (.int j) H Q := .inl ⟨i, j, rfl, rfl, hc, h⟩
theorem w_mulw (hc : CMulW i j) (h : Q (.int (i * j)) H) : rMulU K (.int i) (.int j) H Q := .inr (.inl ⟨i, j, rfl, rfl, hc, h⟩)
theorem w_div (h0 : 0 < j) (hc : j.natAbs.log2 < 9000) (h : Q (.int (i / j)) H) : rDivU (.int i) (.int j) H Q := ⟨i, j, rfl, rfl, ⟨h0, hc⟩, h⟩
theorem w_mod (h0 : 0 < j) (h : Q (.int (i % j)) H) : rModU (.int i) (.int j) H Q := ⟨i, j, rfl, rfl, h0, h⟩
theorem w_shl (hc : CPow i j) (h : Q (.int (i * 2 ^ j.toNat)) H) : rShlU (.int i) (.int j) H Q := ⟨i, j, rfl, rfl, hc, h⟩
theorem w_pow (hc : CPow i j) (h : Q (.int (i ^ j.toNat)) H) : rPowU (.int i) (.int j) H Q := ⟨i, j, rfl, rfl, hc, h⟩
theorem w_lt (h : Q (.bl (decide (i < j))) H) : rLtU K (.int i) (.int j) H Q := ⟨i, j, rfl, rfl, h⟩
theorem w_le (h : Q (.bl (decide (i ≤ j))) H) : rLeU (.int i) (.int j) H Q := .inl ⟨i, j, rfl, rfl, h⟩
theorem w_gt (h : Q (.bl (decide (j < i))) H) : rGtU (.int i) (.int j) H Q := ⟨i, j, rfl, rfl, h⟩
theorem w_ge (h : Q (.bl (decide (j ≤ i))) H) : rGeU (.int i) (.int j) H Q := ⟨i, j, rfl, rfl, h⟩
theorem dec_ii : decide (V.int i = V.int j) = decide (i = j) := by
  by_cases h : i = j
  · subst h; simp
  · simp [h]
theorem dec_ss {a b : Str} : decide (V.str a = V.str b) = decide (a = b) := by
  by_cases h : a = b
  · subst h; simp
  · simp [h]
theorem w_eqi (h : Q (.bl (decide (i = j))) H) : rEqU K (.int i) (.int j) H Q := .inl ⟨rfl, by rw [dec_ii]; exact h⟩
theorem w_eqs {a b : Str} (h : Q (.bl (decide (a = b))) H) : rEqU K (.str a) (.str b) H Q := .inl ⟨rfl, by rw [dec_ss]; exact h⟩
theorem w_nei (h : Q (.bl (!decide (i = j))) H) : rNeU K (.int i) (.int j) H Q := .inl ⟨rfl, by rw [dec_ii]; exact h⟩
theorem w_nes {a b : Str} (h : Q (.bl (!decide (a = b))) H) : rNeU K (.str a) (.str b) H Q := .inl ⟨rfl, by rw [dec_ss]; exact h⟩
theorem w_div1 (h0 : 0 < j) (hb : j < 1267650600228229401496703205376) (h : Q (.int (i / j)) H) : rDivU (.int i) (.int j) H Q := by
  refine ⟨i, j, rfl, rfl, ⟨h0, ?_⟩, h⟩
  have hn : j.natAbs < 2 ^ 100 := by omega
  exact Nat.lt_of_lt_of_le (PySem.Flt.log2_lt_of (by decide) hn) (by decide)
def p2 (n : Int) : Int := 2 ^ n.toNat
theorem p2_pos (n : Int) : 0 < p2 n := Int.pow_pos (by decide)
theorem ipow_le {a : Nat} (ha : 0 < a) {m n : Nat} (h : m ≤ n) : (a : Int) ^ m ≤ (a : Int) ^ n := by
  rw [← Int.natCast_pow, ← Int.natCast_pow]
  exact Int.ofNat_le.mpr (Nat.pow_le_pow_right ha h)
theorem p2_le {m n : Int} (h : m ≤ n) : p2 m ≤ p2 n := by
  have h1 : m.toNat ≤ n.toNat := by omega
  have h2 : (2 : Nat) ^ m.toNat ≤ 2 ^ n.toNat := Nat.pow_le_pow_right (by decide) h1
  have e1 : ((2 ^ m.toNat : Nat) : Int) = (2 : Int) ^ m.toNat := by simp
  have e2 : ((2 ^ n.toNat : Nat) : Int) = (2 : Int) ^ n.toNat := by simp
  show (2 : Int) ^ m.toNat ≤ 2 ^ n.toNat
  omega
theorem w_shl1 (h0 : 0 ≤ j) (h1 : j ≤ 1000000) (h : Q (.int (p2 j)) H) : rShlU (.int 1) (.int j) H Q := ⟨1, j, rfl, rfl, ⟨h0, h1, by decide⟩, by
  show Q (V.int (1 * 2 ^ j.toNat)) H
  rw [Int.one_mul]
  exact h⟩
abbrev rMin2 : List V → Hp → VK → Prop := fun xs H Q => ∃ i j, xs = [V.int i, V.int j] ∧ Q (.int (if j < i then j else i)) H
abbrev rMax2 : List V → Hp → VK → Prop := fun xs H Q => ∃ i j, xs = [V.int i, V.int j] ∧ Q (.int (if j > i then j else i)) H
abbrev rAbs : List V → Hp → VK → Prop := fun xs H Q => ∃ i, xs = [V.int i] ∧ Q (.int (if i < 0 then -i else i)) H
theorem w_min2 (h : Q (.int (if j < i then j else i)) H) : rMin2 [.int i, .int j] H Q := ⟨i, j, rfl, h⟩
theorem w_max2 (h : Q (.int (if j > i then j else i)) H) : rMax2 [.int i, .int j] H Q := ⟨i, j, rfl, h⟩
theorem w_abs (h : Q (.int (if i < 0 then -i else i)) H) : rAbs [.int i] H Q := ⟨i, rfl, h⟩
abbrev rIntU : List V → Hp → VK → Prop := fun xs H Q => (∃ i, xs = [V.int i] ∧ Q (.int i) H) ∨ ∃ k, xs = [V.bl k] ∧ Q (.int (if k then 1 else 0)) H
theorem u_int {X : Cx} : CallR X (.type "int") rIntU := call_int1
theorem w_inti (h : Q (.int i) H) : rIntU [.int i] H Q := .inl ⟨i, rfl, h⟩
theorem w_intb {b : Bool} (h : Q (.int (if b = true then 1 else 0)) H) : rIntU [.bl b] H Q := .inr ⟨b, rfl, h⟩
def ipAddU (K : PySem.W.Frag) : TIp := ipI fun i j => i + j
theorem w_ipadd (h : Q (.int (i + j)) H) : ipAddU K (.int i) (.int j) H Q := ⟨i, j, rfl, rfl, h⟩
theorem u_ipadd {X : Cx} : PIp X .Add (ipAddU X.K) := ip_add
end
/-! ### what the law's text is made of -/
/-- a def of the text -/
def Src (K : PySem.W.Frag) (mg : Str → Option Value) (x : Str) (st : Stmt) : Prop := ∃ f fd, mg x = some (.ref f) ∧ Fun K x x st f fd
/-- the program, the world, the written part -/
structure Wd where
  P : Program
  w : World
  K : PySem.W.Frag
/-- a def that keeps a promise -/
def Cal (W : Wd) (mg : Str → Option Value) (base : Heap) (x : Str) (k : Nat) (ps : List Str) (sp : Sp) : Prop :=
  ∃ f fd, mg x = some (.ref f) ∧ FnOk W.P W.w W.K mg base CX0 k f fd ps sp ∧ PySem.W.keepIn W.K (.ref f) = true ∧ Binds W.K fd ps []
/-- an object of which no more is said than that it is one of U -/
def flatO : HO → Prop
  | .lst _ => True
  | .dK _ => True
  | _ => False
theorem ok_flat {P : Program} {w : World} {H H' : Hp} {h : Heap} {a : Addr} {u : HO} (hf : flatO u) (x : ObjOk P w H h a u) : ObjOk P w H' h a u := by
  cases u with
  | lst xs =>
    obtain ⟨z, its, n, r, e⟩ := x
    exact ⟨z, its, n, r, e⟩
  | dK kvs =>
    obtain ⟨z, y, vs, r, m⟩ := x
    exact ⟨z, y, vs, r, m⟩
  | _ => exact hf.elim
theorem flat_there {P : Program} {w : World} {H : Hp} {h : Heap} {a : Addr} {u : HO} (hf : flatO u) (x : ObjOk P w H h a u) : ∃ o, h.get? a = some o := by
  cases u with
  | lst xs =>
    obtain ⟨z, its, n, r, e⟩ := x
    exact ⟨_, e⟩
  | dK kvs =>
    obtain ⟨z, y, vs, r, o, es, ep, e, _⟩ := x
    exact ⟨_, e⟩
  | _ => exact hf.elim
def vw (W : Wd) (U : HO → Prop) (a : Addr) : HO := .ext fun h => ∃ u, U u ∧ flatO u ∧ ObjOk W.P W.w (fun _ => none) h a u
theorem vw_ok {W : Wd} {U : HO → Prop} {H H' : Hp} {h : Heap} {a : Addr} {u : HO} (hu : U u) (hf : flatO u) (x : ObjOk W.P W.w H h a u) : ObjOk W.P W.w H' h a (vw W U a) := by
  have x0 : ObjOk W.P W.w (fun _ => none) h a u := ok_flat hf x
  refine ⟨⟨u, hu, hf, x0⟩, flat_there hf x, fun h1 h2 ⟨u1, a1, a2, a3⟩ k => ⟨u1, a1, a2, ?_⟩⟩
  refine a3.stay (fun b o hb e => ?_) (fun _ q => q) fun _ _ q => q
  rcases hb with rfl | hb
  · exact k _ e
  · cases hb
theorem flat_cases {u : HO} (h : flatO u) : (∃ x, u = .lst x) ∨ ∃ k, u = .dK k := by
  cases u <;> first | exact .inl ⟨_, rfl⟩ | exact .inr ⟨_, rfl⟩ | exact h.elim
/-- p's object shown as one of U: all else is as it was -/
theorem hok_seal {W : Wd} {U : HO → Prop} {H : Hp} {h : Heap} {p : Addr} {u : HO} (x : HOk W.P W.w H h) (hp : H p = some u) (hu : U u) (hf : flatO u) : HOk W.P W.w (upd H p (vw W U p)) h := fun a o e => by
  by_cases ha : a = p
  · subst ha
    rw [upd_same] at e
    cases e
    exact vw_ok hu hf (x a u hp)
  · rw [upd_ne ha] at e
    refine (x a o e).stay (fun _ _ _ q => q) (fun b q => ?_) fun b xs q => ?_
    · have nb : b ≠ p := fun z => by
        rw [z, hp] at q
        cases q
        exact hf
      rw [upd_ne nb]
      exact q
    · have nb : b ≠ p := fun z => by
        rw [z, hp] at q
        cases q
        exact hf
      rw [upd_ne nb]
      exact q
theorem hok_open {W : Wd} {U : HO → Prop} {H : Hp} {h : Heap} {p : Addr} (x : HOk W.P W.w H h) (hp : H p = some (vw W U p)) : ∃ u, U u ∧ flatO u ∧ HOk W.P W.w (upd H p u) h := by
  obtain ⟨⟨u, hu, hf, o⟩, _, _⟩ := (show ObjOk W.P W.w H h p (vw W U p) from x p _ hp)
  refine ⟨u, hu, hf, fun a ob e => ?_⟩
  by_cases ha : a = p
  · subst ha
    rw [upd_same] at e
    cases e
    exact ok_flat hf o
  · rw [upd_ne ha] at e
    refine (x a ob e).stay (fun _ _ _ q => q) (fun b q => ?_) fun b xs q => ?_
    · have nb : b ≠ p := fun z => by
        rw [z, hp] at q
        cases q
      rw [upd_ne nb]
      exact q
    · have nb : b ≠ p := fun z => by
        rw [z, hp] at q
        cases q
      rw [upd_ne nb]
      exact q
theorem un_seal {W : Wd} {U : HO → Prop} {fs ex : List Addr} {H H' : Hp} {h h' : Heap} {p : Addr} {u : HO} (x : Un fs ex H H' h h') (hp : H' p = some u) (hf : flatO u) : Un fs ex H (upd H' p (vw W U p)) h h' where
  keep := x.keep
  slot := x.slot
  free := fun b o q n he => by
    have e := x.free b o q n he
    have nb : b ≠ p := fun z => by
      rw [z, hp] at e
      cases e
    rw [upd_ne nb]
    exact e
  there := x.there
  tups := fun b xs q => by
    have e := x.tups b xs q
    have nb : b ≠ p := fun z => by
      rw [z, hp] at e
      cases e
      exact hf
    rw [upd_ne nb]
    exact e
  frzs := fun b o v q => by
    have e := x.frzs b o v q
    have nb : b ≠ p := fun z => by
      rw [z, hp] at e
      cases e
      exact hf
    rw [upd_ne nb]
    exact e
  tbls := fun b ps q => by
    obtain ⟨m, e⟩ := x.tbls b ps q
    have nb : b ≠ p := fun z => by
      rw [z, hp] at e
      cases e
      exact hf
    exact ⟨m, by rw [upd_ne nb]; exact e⟩
theorem un_open {W : Wd} {U : HO → Prop} {fs ex : List Addr} {H H' : Hp} {h h' : Heap} {p : Addr} {u : HO} (x : Un fs ex (upd H p u) H' h h') (hp : H p = some (vw W U p)) : Un fs ex H H' h h' := by
  have nb : ∀ b, H b = none → b ≠ p := fun b e z => by
    rw [z, hp] at e
    cases e
  have up : ∀ b, b ≠ p → upd H p u b = H b := fun b z => upd_ne z
  have no : ∀ b o, H b = some o → (∀ φ, o ≠ .ext φ) → b ≠ p := fun b o e z q => by
    rw [q, hp] at e
    exact z _ (Option.some.inj e).symm
  refine ⟨fun b o q n => x.keep b o q (by rw [up b (nb b n)]; exact n), fun b o q n => x.slot b o q (by rw [up b (nb b n)]; exact n), fun b o q n => x.free b o q (by rw [up b (nb b n)]; exact n), x.there,
    fun b xs q => x.tups b xs ?_, fun b o v q => x.frzs b o v ?_, fun b ps q => x.tbls b ps ?_⟩
  · rw [up b (no b _ q fun φ z => by cases z)]
    exact q
  · rw [up b (no b _ q fun φ z => by cases z)]
    exact q
  · rw [up b (no b _ q fun φ z => by cases z)]
    exact q
/-- a def that has a promise by the object itself has one by its view -/
theorem fn_view {W : Wd} {mg : Str → Option Value} {base : Heap} {k : Nat} {f : Addr} {fd : FuncData} {ps : List Str} {sp sp' : Sp} {U : HO → Prop} (hU : ∀ u, U u → flatO u) (F : FnOk W.P W.w W.K mg base CX0 k f fd ps sp)
    (hl : ∀ vs H Q E, sp' vs H Q E → vs.length = ps.length)
    (h : ∀ vs H Q E, sp' vs H Q E → ∃ p, H p = some (vw W U p) ∧ ∀ u, U u → sp vs (upd H p u) (fun v H' => ∃ u', U u' ∧ H' p = some u' ∧ Q v (upd H' p (vw W U p))) E) :
    FnOk W.P W.w W.K mg base CX0 k f fd ps sp' := by
  refine ⟨hl, fun A outer s H args us vs Q E hr e0 hb hv hs => ?_⟩
  obtain ⟨p, hp, k⟩ := h _ _ _ _ hs
  obtain ⟨u, hu, hf, hok⟩ := hok_open e0.hok hp
  have np : ∀ b, H b = none → upd H p u b = none := fun b e => by
    have nb : b ≠ p := fun z => by
      rw [z, hp] at e
      cases e
    rw [upd_ne nb]
    exact e
  have e1 : Env0 W.P W.w W.K mg base A outer s (upd H p u) := ⟨e0.frames, e0.mod, fun b o q => ⟨(e0.bs b o q).1, np b (e0.bs b o q).2⟩, e0.bsz, e0.funs, fun b q => np b (e0.frf b q), hok, e0.bare⟩
  refine codeAny_mono (F.run A outer s (upd H p u) args us vs _ E hr e1 hb hv (k u hu)) fun r s' q => ?_
  cases r with
  | error e => exact q
  | ok fl =>
    cases fl with
    | ret v =>
      obtain ⟨v1, H', q1, q2, q3, q4, q5, u', hu', hp', q6⟩ := q
      exact ⟨v1, _, q1, q2, un_open (un_seal q3 hp' (hU _ hu')) hp, hok_seal q4 hp' hu' (hU _ hu'), q5, q6⟩
    | next => exact q
    | brk => exact q
    | cont => exact q
theorem fn_seal {W : Wd} {mg : Str → Option Value} {base : Heap} {k : Nat} {f : Addr} {fd : FuncData} {ps : List Str} {sp sp' : Sp} {U : HO → Prop} (hU : ∀ u, U u → flatO u) (F : FnOk W.P W.w W.K mg base CX0 k f fd ps sp)
    (hl : ∀ vs H Q E, sp' vs H Q E → vs.length = ps.length)
    (h : ∀ vs H Q E, sp' vs H Q E → sp vs H (fun v H' => ∃ p u', U u' ∧ H' p = some u' ∧ Q v (upd H' p (vw W U p))) E) :
    FnOk W.P W.w W.K mg base CX0 k f fd ps sp' := by
  refine ⟨hl, fun A outer s H args us vs Q E hr e0 hb hv hs => ?_⟩
  refine codeAny_mono (F.run A outer s H args us vs _ E hr e0 hb hv (h _ _ _ _ hs)) fun r s' q => ?_
  cases r with
  | error e => exact q
  | ok fl =>
    cases fl with
    | ret v =>
      obtain ⟨v1, H', q1, q2, q3, q4, q5, p, u', hu', hp', q6⟩ := q
      exact ⟨v1, _, q1, q2, un_seal q3 hp' (hU _ hu'), hok_seal q4 hp' hu' (hU _ hu'), q5, q6⟩
    | next => exact q
    | brk => exact q
    | cont => exact q
theorem src_mk {K : PySem.W.Frag} {mg : Str → Option Value} {h : Heap} {x : Str} {st : Stmt} {f : Addr} {oc : Value} {od an : Option Addr} {osl : Array (Option Value)} {kV doc pm cdv ct : Value} (X : K.In h) (G : h.Ns mainGlobals mg)
    (a : PySem.W.nsIn K mainGlobals x = some (some (.ref f))) (l : K.lookup f = some ⟨oc, od, .func (PySem.W.fnOf x x (defArgs st) (defBody st) (defScope st) .none kV doc pm an cdv ct), osl⟩)
    (c : PySem.W.codeIn K cdv x = true) (k : PySem.W.keepIn K (.ref f) = true) : Src K mg x st := ⟨f, _, PySem.W.mg_of X G a, fun_mk l c k⟩
/-! ### loops -/
section
variable {K : PySem.W.Frag} {σ : L2.St} {H : Hp} {Q : VK} {te : TE} {tA : TA} {tb : TS} {nx bk ct : L2.St → Hp → Prop} {rt : VK} {g : TG} {n : Nat} {wi : TI} {c : TT}
/-- what a for asks once its iterator has come -/
def ForOk (J : It) (g : TG) (tb : TS) (nx : L2.St → Hp → Prop) (rt : VK) (σ : L2.St) (H1 : Hp) : Prop := ∃ W : Nat → Nat → L2.St → Hp → Prop, (∃ m, W 0 m σ H1) ∧ ∀ i m σ H, W i m σ H →
  (J.stop i H ∧ nx σ H) ∨ (J.go i H ∧ ∃ N : L2.St → Hp → Prop, (∀ σ' H', N σ' H' → ∃ m', m' < m ∧ W (i + 1) m' σ' H') ∧ ∀ x H', J.yld i H x H' → g x σ H' fun σ2 H2 => tb ⟨N, rt, nx, N⟩ σ2 H2)
theorem w_for (h : wi σ H fun J H1 => ForOk J g tb nx rt σ H1) : tFor wi g tb ⟨nx, rt, bk, ct⟩ σ H := h
def Rg1 (R : It → Hp → Prop) (vs : List V) (H : Hp) : Prop := ∃ j : Int, vs = [.int j] ∧ -(2 ^ 62) ≤ j ∧ j < 2 ^ 62 ∧ R (Itr 0 j.toNat) H
def Rg2 (R : It → Hp → Prop) (vs : List V) (H : Hp) : Prop := ∃ i j : Int, vs = [.int i, .int j] ∧ (-(2 ^ 62) ≤ i ∧ i < 2 ^ 62 ∧ -(2 ^ 62) ≤ j ∧ j < 2 ^ 62) ∧ R (Itr i (j - i).toNat) H
theorem w_irng1 {R : It → Hp → Prop} (h : tA σ H fun vs H1 => Rg1 R vs H1) : iRng1 tA σ H R := h
theorem w_irng2 {R : It → Hp → Prop} (h : tA σ H fun vs H1 => Rg2 R vs H1) : iRng2 tA σ H R := h
theorem w_rg1 {R : It → Hp → Prop} {j : Int} (h0 : -(2 ^ 62) ≤ j) (h1 : j < 2 ^ 62) (h : R (Itr 0 j.toNat) H) : Rg1 R [.int j] H := ⟨j, rfl, h0, h1, h⟩
theorem w_rg2 {R : It → Hp → Prop} {i j : Int} (h0 : -(2 ^ 62) ≤ i ∧ i < 2 ^ 62 ∧ -(2 ^ 62) ≤ j ∧ j < 2 ^ 62) (h : R (Itr i (j - i).toNat) H) : Rg2 R [.int i, .int j] H := ⟨i, j, rfl, h0, h⟩
theorem forR {lo : Int} (I : Nat → L2.St → Hp → Prop) (h0 : I 0 σ H) (hs : ∀ i σ H, i < n → I i σ H → g (.int (lo + i)) σ H fun σ2 H2 => tb ⟨I (i + 1), rt, nx, I (i + 1)⟩ σ2 H2) (hd : ∀ σ H, I n σ H → nx σ H) : ForOk (Itr lo n) g tb nx rt σ H :=
  for_range (D := ⟨nx, rt, fun _ _ => False, fun _ _ => False⟩) I h0 hs hd
theorem forR0 (I : Nat → L2.St → Hp → Prop) (h0 : I 0 σ H) (hs : ∀ (i : Nat) σ H, i < n → I i σ H → g (.int (i : Int)) σ H fun σ2 H2 => tb ⟨I (i + 1), rt, nx, I (i + 1)⟩ σ2 H2) (hd : ∀ σ H, I n σ H → nx σ H) : ForOk (Itr 0 n) g tb nx rt σ H :=
  forR I h0 (fun i σ H hi q => by
    rw [Int.zero_add]
    exact hs i σ H hi q) hd
theorem w_while (I : Nat → L2.St → Hp → Prop) (m0 : Nat) (h0 : I m0 σ H) (hs : ∀ m σ H, I m σ H → c σ H fun b H1 => if b = true then ∃ N : L2.St → Hp → Prop, (∀ σ' H', N σ' H' → ∃ m', m' < m ∧ I m' σ' H') ∧ tb ⟨N, rt, nx, N⟩ σ H1 else nx σ H1) :
    tWhile c tb ⟨nx, rt, bk, ct⟩ σ H := ⟨I, ⟨m0, h0⟩, hs⟩
theorem w_N {P : (L2.St → Hp → Prop) → Prop} {J : L2.St → Hp → Prop} (h : P J) : ∃ N : L2.St → Hp → Prop, (∀ σ' H', N σ' H' → J σ' H') ∧ P N := ⟨J, fun _ _ h => h, h⟩
def GoAny (K : PySem.W.Frag) (R : It → Hp → Prop) (x : V) (H1 : Hp) : Prop := (∃ a, x = .ref a ∧ ((∃ xs, SqL K H1 a xs) ∧ R (Itl K a) H1 ∨ (∃ xs, SqT K H1 a xs) ∧ R (Itt K a) H1)) ∨ ∃ s, x = .str s ∧ R (Its s) H1
def iAny (K : PySem.W.Frag) (te : TE) : TI := fun σ H R => te σ H fun x H1 => GoAny K R x H1
theorem w_iany {R : It → Hp → Prop} (h : te σ H fun x H1 => GoAny K R x H1) : iAny K te σ H R := h
theorem w_goL {R : It → Hp → Prop} {a : Addr} {xs : List V} (h : SqL K H a xs) (q : R (Itl K a) H) : GoAny K R (.ref a) H := .inl ⟨a, rfl, .inl ⟨⟨xs, h⟩, q⟩⟩
theorem w_goT {R : It → Hp → Prop} {a : Addr} {xs : List V} (h : SqT K H a xs) (q : R (Itt K a) H) : GoAny K R (.ref a) H := .inl ⟨a, rfl, .inr ⟨⟨xs, h⟩, q⟩⟩
theorem w_goS {R : It → Hp → Prop} {z : Str} (q : R (Its z) H) : GoAny K R (.str z) H := .inr ⟨z, rfl, q⟩
theorem pi_any {X : Cx} {tg l : Expr} {tl : TE} (hl : PE X l tl) : PI X tg l (iAny X.K tl) := ⟨fun pins s σ H R I h => thn (hl.run pins s σ H _ I h) fun v s1 z => by
  obtain ⟨x, H1, J, rx, z⟩ := z
  have fp : ∀ b ∈ [s1.heap.objs.size], FpOk X pins H1 b := fun b hb => by
    rw [List.mem_singleton.mp hb]
    exact J.fpOk (Nat.le_refl _) (J.hok.fresh (Nat.le_refl _))
  rcases z with ⟨a, rfl, z⟩ | ⟨z, rfl, q⟩
  · obtain rfl : v = Value.ref a := rx
    rcases z with ⟨⟨xs, hs⟩, q⟩ | ⟨⟨xs, hs⟩, q⟩
    · obtain ⟨_, _, pl, _⟩ := J.list hs
      exact wpAny_pyIter_list pl.isList
        ⟨_, _, _, _, H1, rfl, J.kept (t' := s1.toks) (fun _ _ e => Heap.get?_push_of_some _ e), turn_list a _, ⟨_, Heap.get?_push_size _ rfl, rfl, rfl⟩, fp, q⟩
    · obtain ⟨_, _, pl, _⟩ := J.tuple hs
      exact wpAny_pyIter_tuple pl
        ⟨_, _, _, _, H1, rfl, J.kept (t' := s1.toks) (fun _ _ e => Heap.get?_push_of_some _ e), turn_tuple a _, ⟨_, Heap.get?_push_size _ rfl, rfl, rfl⟩, fp, q⟩
  · obtain ⟨t, rfl⟩ := rx
    cases ha : z.cps.all (· < 128) with
    | false => exact wpAny_pyIter_wide ha (pi_one (tk := s1.toks) J _ (turn_str _ z t "str_iterator" (.inr rfl)) ⟨_, Heap.get?_push_size _ rfl, rfl, rfl⟩ q)
    | true => exact wpAny_pyIter_ascii ha (pi_one (tk := s1.toks) J _ (turn_str _ z t "str_ascii_iterator" (.inl rfl)) ⟨_, Heap.get?_push_size _ rfl, rfl, rfl⟩ q)⟩
theorem forL {a : Addr} {xs : List V} (I : Nat → L2.St → Hp → Prop) (h0 : I 0 σ H) (hl : ∀ i σ H, i ≤ xs.length → I i σ H → SqL K H a xs)
    (hs : ∀ i x σ H, xs[i]? = some x → I i σ H → g x σ H fun σ2 H2 => tb ⟨I (i + 1), rt, nx, I (i + 1)⟩ σ2 H2) (hd : ∀ σ H, I xs.length σ H → nx σ H) : ForOk (Itl K a) g tb nx rt σ H :=
  for_list (D := ⟨nx, rt, fun _ _ => False, fun _ _ => False⟩) I h0 hl hs hd
theorem forT {a : Addr} {xs : List V} (I : Nat → L2.St → Hp → Prop) (h0 : I 0 σ H) (hl : ∀ i σ H, i ≤ xs.length → I i σ H → SqT K H a xs)
    (hs : ∀ i x σ H, xs[i]? = some x → I i σ H → g x σ H fun σ2 H2 => tb ⟨I (i + 1), rt, nx, I (i + 1)⟩ σ2 H2) (hd : ∀ σ H, I xs.length σ H → nx σ H) : ForOk (Itt K a) g tb nx rt σ H :=
  for_tup (D := ⟨nx, rt, fun _ _ => False, fun _ _ => False⟩) I h0 hl hs hd
end
/-! ### types, lengths, items -/
def tyD : PyData → String
  | .none => "NoneType"
  | .bool _ => "bool"
  | .int _ => "int"
  | .str _ => "str"
  | .list _ => "list"
  | .tuple _ => "tuple"
  | .dict _ => "dict"
theorem ty_of {K : PySem.W.Frag} {H : Hp} {v : V} {d : PyData} (h : Dp K H v d) : TyX K H v (.type (tyD d)) := by
  cases h with
  | non => exact .base .non
  | bl b => exact .base (.bl b)
  | int i => exact .base (.int i)
  | str x => exact .base (.str x)
  | lst h r =>
    rcases h with (h | ⟨o, h⟩) | ⟨o, its, n, h, c, _⟩
    · exact .base (.lst h)
    · exact .base (.frz h)
    · exact .kList h c
  | tup h r =>
    rcases h with (h | ⟨o, h⟩) | ⟨o, its, n, h, c, _⟩
    · exact .base (.tup h)
    · exact .fTuple h
    · exact .kTuple h c
def isIntD : PyData → Bool
  | .int _ => true
  | _ => false
def isIntB : PyData → Bool
  | .int _ => true
  | .bool _ => true
  | _ => false
def isBoolD : PyData → Bool
  | .bool _ => true
  | _ => false
def isStrD : PyData → Bool
  | .str _ => true
  | _ => false
def isTupD : PyData → Bool
  | .tuple _ => true
  | _ => false
def isListD : PyData → Bool
  | .list _ => true
  | _ => false
section
variable {K : PySem.W.Frag} {H : Hp} {Q : VK} {v : V} {d : PyData}
theorem w_isi {b : String} {r : Bool} (h : Dp K H v d) (hk : kitB (tyD d) b = some r) (q : Q (.bl r) H) : rIsi K [v, .ty b] H Q := ⟨v, .ty b, _, _, r, rfl, .ty b, ty_of h, kit_ty hk, q⟩
theorem w_isint (h : Dp K H v d) (hd : tyD d ≠ "dict") (q : Q (.bl (isIntB d)) H) : rIsi K [v, .ty "int"] H Q := w_isi h (by cases d <;> first | exact (hd rfl).elim | (simp only [tyD, isIntB]; decide +kernel)) q
theorem w_isbool (h : Dp K H v d) (hd : tyD d ≠ "dict") (q : Q (.bl (isBoolD d)) H) : rIsi K [v, .ty "bool"] H Q := w_isi h (by cases d <;> first | exact (hd rfl).elim | (simp only [tyD, isBoolD]; decide +kernel)) q
theorem w_isstr (h : Dp K H v d) (hd : tyD d ≠ "dict") (q : Q (.bl (isStrD d)) H) : rIsi K [v, .ty "str"] H Q := w_isi h (by cases d <;> first | exact (hd rfl).elim | (simp only [tyD, isStrD]; decide +kernel)) q
theorem w_istup (h : Dp K H v d) (hd : tyD d ≠ "dict") (q : Q (.bl (isTupD d)) H) : rIsi K [v, .ty "tuple"] H Q := w_isi h (by cases d <;> first | exact (hd rfl).elim | (simp only [tyD, isTupD]; decide +kernel)) q
theorem dp_nodict (h : Dp K H v d) : tyD d ≠ "dict" := by
  cases h <;> (intro z; simp [tyD] at z)
theorem w_isint' (h : Dp K H v d) (q : Q (.bl (isIntB d)) H) : rIsi K [v, .ty "int"] H Q := w_isint h (dp_nodict h) q
theorem w_isbool' (h : Dp K H v d) (q : Q (.bl (isBoolD d)) H) : rIsi K [v, .ty "bool"] H Q := w_isbool h (dp_nodict h) q
theorem w_isstr' (h : Dp K H v d) (q : Q (.bl (isStrD d)) H) : rIsi K [v, .ty "str"] H Q := w_isstr h (dp_nodict h) q
theorem w_istup' (h : Dp K H v d) (q : Q (.bl (isTupD d)) H) : rIsi K [v, .ty "tuple"] H Q := w_istup h (dp_nodict h) q
abbrev rLenU (K : PySem.W.Frag) : List V → Hp → VK → Prop := fun xs H Q => ∃ x n, xs = [x] ∧ LenV K x H n ∧ Q (.int n) H
theorem u_len {X : Cx} : CallR X (.builtin "len") (rLenU X.K) := call_len
theorem w_lenL {a : Addr} {xs : List V} (h : SqL K H a xs) (q : Q (.int xs.length) H) : rLenU K [.ref a] H Q := ⟨_, _, rfl, .inl ⟨xs, h, rfl⟩, q⟩
theorem w_lenT {a : Addr} {xs : List V} (h : SqT K H a xs) (q : Q (.int xs.length) H) : rLenU K [.ref a] H Q := ⟨_, _, rfl, .inr ⟨xs, h, rfl⟩, q⟩
theorem w_lenS {z : Str} (h : z.length ≤ sizeLine) (q : Q (.int z.length) H) : rLenU K [.str z] H Q := ⟨_, _, rfl, ⟨h, rfl⟩, q⟩
theorem w_lenDL {ds : List PyData} (h : Dp K H v (.list ds)) (q : Q (.int ds.length) H) : rLenU K [v] H Q := by
  cases h with
  | lst h r => exact w_lenL h (by rw [dps_len r]; exact q)
theorem w_lenDT {ds : List PyData} (h : Dp K H v (.tuple ds)) (q : Q (.int ds.length) H) : rLenU K [v] H Q := by
  cases h with
  | tup h r => exact w_lenT h (by rw [dps_len r]; exact q)
abbrev rIxU (K : PySem.W.Frag) : R2 := rIx K
theorem u_ix {X : Cx} : IxR X (rIxU X.K) := ix_seq
theorem w_ixl {a : Addr} {xs : List V} {i : Int} {x : V} (h : SqL K H a xs) (e : atI xs i = some x) (q : Q x H) : rIxU K (.ref a) (.int i) H Q := .inl ⟨a, xs, i, x, rfl, rfl, h, e, q⟩
theorem w_ixt {a : Addr} {xs : List V} {i : Int} {x : V} (h : SqT K H a xs) (e : atI xs i = some x) (q : Q x H) : rIxU K (.ref a) (.int i) H Q := .inr (.inl ⟨a, xs, i, x, rfl, rfl, h, e, q⟩)
theorem w_ixP {a : Addr} {xs : List V} {i : Int} (P : V → Prop) (h : SqL K H a xs) (h0 : 0 ≤ i) (h1 : i < xs.length) (hx : ∀ x ∈ xs, P x) (q : ∀ x, P x → Q x H) : rIxU K (.ref a) (.int i) H Q := by
  have hn : i.toNat < xs.length := by omega
  refine w_ixl h (x := xs[i.toNat]) ?_ (q _ (hx _ (List.getElem_mem hn)))
  unfold atI ixN
  rw [if_pos h0, if_pos (by omega)]
  simp [List.getElem?_eq_getElem hn]
def isI (P : Int → Prop) (x : V) : Prop := ∃ n, x = .int n ∧ P n
theorem w_ixI {a : Addr} {xs : List V} {i : Int} (P : Int → Prop) (h : SqL K H a xs) (h0 : 0 ≤ i) (h1 : i < xs.length) (hx : ∀ x ∈ xs, isI P x) (q : ∀ n, P n → Q (.int n) H) : rIxU K (.ref a) (.int i) H Q :=
  w_ixP (isI P) h h0 h1 hx fun x ⟨n, e, hn⟩ => by
    rw [e]
    exact q n hn
theorem isI_at {P : Int → Prop} {xs : List V} {i : Nat} {x : V} (h : ∀ x ∈ xs, isI P x) (e : xs[i]? = some x) : ∃ n, x = .int n ∧ P n := h x (List.mem_of_getElem? e)
theorem isI_nil {P : Int → Prop} : ∀ x ∈ ([] : List V), isI P x := fun x hx => nomatch hx
theorem isI_cons {P : Int → Prop} {n : Int} {r : List V} (h : P n) (hr : ∀ x ∈ r, isI P x) : ∀ x ∈ V.int n :: r, isI P x := fun x hx => by
  rcases List.mem_cons.mp hx with rfl | hx
  · exact ⟨n, rfl, h⟩
  · exact hr x hx
theorem w_ixs {z : Str} {i : Int} {c : Nat} (h : z.length ≤ sizeLine) (e : atI z.cps.toList i = some c) (q : Q (.str ⟨#[c]⟩) H) : rIxU K (.str z) (.int i) H Q := .inr (.inr ⟨z, i, c, rfl, rfl, h, e, q⟩)
theorem w_ixDL {ds : List PyData} {i : Int} (h : Dp K H v (.list ds)) (e : atI ds i = some d) (q : ∀ x, Dp K H x d → Q x H) : rIxU K v (.int i) H Q := by
  cases h with
  | lst h r =>
    obtain ⟨x, e1, e2⟩ := dps_at r e
    exact w_ixl h e1 (q x e2)
theorem w_ixDT {ds : List PyData} {i : Int} (h : Dp K H v (.tuple ds)) (e : atI ds i = some d) (q : ∀ x, Dp K H x d → Q x H) : rIxU K v (.int i) H Q := by
  cases h with
  | tup h r =>
    obtain ⟨x, e1, e2⟩ := dps_at r e
    exact w_ixt h e1 (q x e2)
theorem dp_int {i : Int} (h : Dp K H v (.int i)) : v = .int i := by cases h; rfl
theorem dp_str {x : Str} (h : Dp K H v (.str x)) : v = .str x := by cases h; rfl
theorem dp_bl {b : Bool} (h : Dp K H v (.bool b)) : v = .bl b := by cases h; rfl
theorem dp_non (h : Dp K H v .none) : v = .non := by cases h; rfl
theorem w_ixDLi {ds : List PyData} {i n : Int} (h : Dp K H v (.list ds)) (e : atI ds i = some (.int n)) (q : Q (.int n) H) : rIxU K v (.int i) H Q := w_ixDL h e fun x hx => by
  rw [dp_int hx]
  exact q
theorem w_ixDTi {ds : List PyData} {i n : Int} (h : Dp K H v (.tuple ds)) (e : atI ds i = some (.int n)) (q : Q (.int n) H) : rIxU K v (.int i) H Q := w_ixDT h e fun x hx => by
  rw [dp_int hx]
  exact q
theorem atI_of {α : Type} {xs : List α} {i : Int} (h0 : 0 ≤ i) (h1 : i < xs.length) : ∃ x, atI xs i = some x ∧ x ∈ xs := by
  have hn : i.toNat < xs.length := by omega
  refine ⟨xs[i.toNat], ?_, List.getElem_mem hn⟩
  unfold atI ixN
  rw [if_pos h0, if_pos (by omega)]
  simp [List.getElem?_eq_getElem hn]
end
def rSetU : TSet := fun o i v H Q => rSetL o i v H Q ∨ rSetD o i v H Q
theorem u_set {X : Cx} (hu : X.A.units + 64 < cLine) : PSet X rSetU := by
  intro pins s σ H o i v ov iv u Q I r1 r2 r3 q
  rcases q with q | q
  · exact set_list pins s σ H o i v ov iv u Q I r1 r2 r3 q
  · exact set_dict (Nat.lt_of_le_of_lt (Nat.add_le_add_left (by decide) _) hu) pins s σ H o i v ov iv u Q I r1 r2 r3 q
theorem w_gsub {to ti : TE} {t : TSet} {v : V} {σ : L2.St} {H : Hp} {k : L2.St → Hp → Prop} (h : to σ H fun o H1 => ti σ H1 fun i H2 => t o i v H2 fun H3 => k σ H3) : gSub to ti t v σ H k := h
theorem w_gnil {σ : L2.St} {H : Hp} {k : L2.St → Hp → Prop} (h : k σ H) : gNil [] σ H k := ⟨rfl, h⟩
theorem w_gcons {t : TG} {u : TGs} {v : V} {r : List V} {σ : L2.St} {H : Hp} {k : L2.St → Hp → Prop} (h : t v σ H fun σ' H' => u r σ' H' k) : gCons t u (v :: r) σ H k := ⟨v, r, rfl, h⟩
theorem w_gtup {K : PySem.W.Frag} {n : Nat} {t : TGs} {a : Addr} {xs : List V} {σ : L2.St} {H : Hp} {k : L2.St → Hp → Prop} (h : SqT K H a xs) (hl : xs.length = n) (q : t xs σ H k) : gTup K n t (.ref a) σ H k := ⟨a, xs, rfl, h, hl, q⟩
theorem w_setl {a : Addr} {xs : List V} {i : Int} {j : Nat} {v : V} {H : Hp} {k : Hp → Prop} (h : H a = some (.lst xs)) (e : ixN xs.length i = some j) (q : k (upd H a (.lst (xs.set j v)))) : rSetU (.ref a) (.int i) v H k := .inl ⟨a, xs, i, j, rfl, rfl, h, e, q⟩
/-! ### comprehensions -/
section
variable {K : PySem.W.Frag} {σ : L2.St} {H : Hp} {Q : VK} {te : TE} {tt : TT} {g : TG} {wi : TI} {vs : List Nat} {n : Nat}
def LcOk (J : It) (g : TG) (tt : TT) (te : TE) (vs : List Nat) (σ : L2.St) (Q : VK) (H1 : Hp) : Prop := ∀ D, H1 D = none → ∃ W : Nat → Nat → Hp → Prop, (∃ m, W 0 m (upd H1 D (.lst []))) ∧ ∀ i m H, W i m H →
  (J.stop i H ∧ Q (.ref D) H) ∨ (J.go i H ∧ ∃ Nx : Hp → Prop, (∀ H', Nx H' → ∃ m', m' < m ∧ W (i + 1) m' H') ∧ ∀ x H', J.yld i H x H' → g x (wipe σ vs) H' fun σ2 H2 => wipe σ2 vs = wipe σ vs ∧ tt σ2 H2 fun b H3 =>
    if b = true then te σ2 H3 fun y H4 => ∃ acc, H4 D = some (.lst acc) ∧ acc.length < sizeLine ∧ Nx (upd H4 D (.lst (acc ++ [y]))) else Nx H3)
theorem w_lc (h : wi σ H fun J H1 => LcOk J g tt te vs σ Q H1) : tLc wi g tt te vs σ H Q := h
theorem w_wp {σ2 : L2.St} {R : Prop} (e : wipe σ2 vs = wipe σ vs) (h : R) : wipe σ2 vs = wipe σ vs ∧ R := ⟨e, h⟩
theorem w_yes {R : Bool → Hp → Prop} (h : R true H) : tYes σ H R := h
/-- a word about a comprehension's list and the heap is not hurt by a list's change -/
def Stb (I : Nat → List V → Hp → Prop) : Prop := ∀ i acc H' D xs ys, H' D = some (.lst xs) → I i acc H' → I i acc (upd H' D (.lst ys))
theorem lc_gen {J : It} (I : Nat → List V → Hp → Prop) (hst : Stb I) (hn : n ≤ 1000000) (hI : ∀ i acc H', I i acc H' → acc.length ≤ i) (h0 : ∀ H', Same H H' → I 0 [] H')
    (hgo : ∀ i acc H', i < n → Same H H' → I i acc H' → J.go i H') (hstop : ∀ acc H', Same H H' → I n acc H' → J.stop n H')
    (hs : ∀ i acc x H' H'', i < n → Same H H' → I i acc H' → J.yld i H' x H'' → ∀ (k : VK) (k' : Hp → Prop), (∀ y H4, Same H' H4 → I (i + 1) (acc ++ [y]) H4 → k y H4) → (∀ H3, Same H' H3 → I (i + 1) acc H3 → k' H3) →
      g x (wipe σ vs) H'' fun σ2 H2 => wipe σ2 vs = wipe σ vs ∧ tt σ2 H2 fun b H3 => if b = true then te σ2 H3 k else k' H3)
    (hd : ∀ D acc H', H D = none → Same H H' → H' D = some (.lst acc) → I n acc H' → Q (.ref D) H') : LcOk J g tt te vs σ Q H := fun D hD => by
  refine ⟨fun i m H' => m = n - i ∧ i ≤ n ∧ ∃ acc, Same H H' ∧ H' D = some (.lst acc) ∧ I i acc H', ⟨n, by omega, by omega, [], same_new hD, upd_same, h0 _ (same_new hD)⟩, fun i m H1 ⟨em, hi, acc, s1, hD1, w1⟩ => ?_⟩
  by_cases hlt : i < n
  · refine .inr ⟨hgo i acc H1 hlt s1 w1, fun H' => i + 1 ≤ n ∧ ∃ acc, Same H H' ∧ H' D = some (.lst acc) ∧ I (i + 1) acc H', fun H' ⟨a, b⟩ => ⟨n - (i + 1), by omega, rfl, a, b⟩, fun x H' y => ?_⟩
    refine hs i acc x H1 H' hlt s1 w1 y _ _ (fun y H4 s4 w4 => ⟨acc, s4 _ _ hD1, ?_, hlt, _, same_mut (s1.trans s4) hD, upd_same, hst _ _ _ _ _ _ (s4 _ _ hD1) w4⟩) fun H3 s3 w3 => ⟨hlt, acc, s1.trans s3, s3 _ _ hD1, w3⟩
    have l1 := hI i acc H1 w1
    exact Nat.lt_of_le_of_lt (m := 1000000) (by omega) (by decide)
  · have e : i = n := by omega
    subst e
    exact .inl ⟨hstop acc H1 s1 w1, hd D acc H1 hD s1 hD1 w1⟩
theorem lcR (I : Nat → List V → Hp → Prop) (hst : Stb I) (hn : n ≤ 1000000) (hI : ∀ i acc H', I i acc H' → acc.length ≤ i) (h0 : ∀ H', Same H H' → I 0 [] H')
    (hs : ∀ (i : Nat) acc H', i < n → Same H H' → I i acc H' → ∀ (k : VK) (k' : Hp → Prop), (∀ y H4, Same H' H4 → I (i + 1) (acc ++ [y]) H4 → k y H4) → (∀ H3, Same H' H3 → I (i + 1) acc H3 → k' H3) →
      g (.int (i : Int)) (wipe σ vs) H' fun σ2 H2 => wipe σ2 vs = wipe σ vs ∧ tt σ2 H2 fun b H3 => if b = true then te σ2 H3 k else k' H3)
    (hd : ∀ D acc H', H D = none → Same H H' → H' D = some (.lst acc) → I n acc H' → Q (.ref D) H') : LcOk (Itr 0 n) g tt te vs σ Q H :=
  lc_gen I hst hn hI h0 (fun _ _ _ h _ _ => h) (fun _ _ _ _ => Nat.le_refl _) (fun i acc x H' H'' hi s1 w1 y => by
    obtain ⟨e1, e2⟩ := y
    rw [Int.zero_add] at e2
    subst e1
    subst e2
    exact hs i acc _ hi s1 w1) hd
theorem lcL {a : Addr} {xs : List V} (hx : SqL K H a xs) (I : Nat → List V → Hp → Prop) (hst : Stb I) (hn : xs.length ≤ 1000000) (hI : ∀ i acc H', I i acc H' → acc.length ≤ i) (h0 : ∀ H', Same H H' → I 0 [] H')
    (hs : ∀ i x acc H', xs[i]? = some x → Same H H' → I i acc H' → ∀ (k : VK) (k' : Hp → Prop), (∀ y H4, Same H' H4 → I (i + 1) (acc ++ [y]) H4 → k y H4) → (∀ H3, Same H' H3 → I (i + 1) acc H3 → k' H3) →
      g x (wipe σ vs) H' fun σ2 H2 => wipe σ2 vs = wipe σ vs ∧ tt σ2 H2 fun b H3 => if b = true then te σ2 H3 k else k' H3)
    (hd : ∀ D acc H', H D = none → Same H H' → H' D = some (.lst acc) → I xs.length acc H' → Q (.ref D) H') : LcOk (Itl K a) g tt te vs σ Q H :=
  lc_gen I hst hn hI h0 (fun i acc H' hi s1 _ => ⟨xs, xs[i], s1.seq hx, List.getElem?_eq_getElem hi⟩) (fun _ _ s1 _ => ⟨xs, s1.seq hx, Nat.le_refl _⟩) (fun i acc x H' H'' hi s1 w1 y => by
    obtain ⟨e1, e2⟩ := y
    subst e1
    exact hs i x acc _ (e2 xs (s1.seq hx)) s1 w1) hd
theorem lcT {a : Addr} {xs : List V} (hx : SqT K H a xs) (I : Nat → List V → Hp → Prop) (hst : Stb I) (hn : xs.length ≤ 1000000) (hI : ∀ i acc H', I i acc H' → acc.length ≤ i) (h0 : ∀ H', Same H H' → I 0 [] H')
    (hs : ∀ i x acc H', xs[i]? = some x → Same H H' → I i acc H' → ∀ (k : VK) (k' : Hp → Prop), (∀ y H4, Same H' H4 → I (i + 1) (acc ++ [y]) H4 → k y H4) → (∀ H3, Same H' H3 → I (i + 1) acc H3 → k' H3) →
      g x (wipe σ vs) H' fun σ2 H2 => wipe σ2 vs = wipe σ vs ∧ tt σ2 H2 fun b H3 => if b = true then te σ2 H3 k else k' H3)
    (hd : ∀ D acc H', H D = none → Same H H' → H' D = some (.lst acc) → I xs.length acc H' → Q (.ref D) H') : LcOk (Itt K a) g tt te vs σ Q H :=
  lc_gen I hst hn hI h0 (fun i acc H' hi s1 _ => ⟨xs, xs[i], same_t s1 hx, List.getElem?_eq_getElem hi⟩) (fun _ _ s1 _ => ⟨xs, same_t s1 hx, Nat.le_refl _⟩) (fun i acc x H' H'' hi s1 w1 y => by
    obtain ⟨e1, e2⟩ := y
    subst e1
    exact hs i x acc _ (e2 xs (same_t s1 hx)) s1 w1) hd
/-- words that do not speak of the heap -/
theorem stb_pure {P : Nat → List V → Prop} : Stb fun i acc _ => P i acc := fun _ _ _ _ _ _ _ h => h
abbrev rTupleOf (K : PySem.W.Frag) : List V → Hp → VK → Prop := fun xs H Q => ∃ p ys, xs = [.ref p] ∧ ((SqL K H p ys ∧ ∀ l, H l = none → Q (.ref l) (upd H l (.tup ys))) ∨ (SqT K H p ys ∧ Q (.ref p) H))
abbrev rListOf (K : PySem.W.Frag) : List V → Hp → VK → Prop := fun xs H Q => ∃ p ys, xs = [.ref p] ∧ (SqL K H p ys ∨ SqT K H p ys) ∧ ∀ l, H l = none → Q (.ref l) (upd H l (.lst ys))
theorem w_tupleL {a : Addr} {xs : List V} (h : SqL K H a xs) (q : ∀ p H', H p = none → Same H H' → H' p = some (.tup xs) → Q (.ref p) H') : rTupleOf K [.ref a] H Q := ⟨a, xs, rfl, .inl ⟨h, fun p hp => q p _ hp (same_new hp) upd_same⟩⟩
theorem w_listL {a : Addr} {xs : List V} (h : SqL K H a xs) (q : ∀ p H', H p = none → Same H H' → H' p = some (.lst xs) → Q (.ref p) H') : rListOf K [.ref a] H Q := ⟨a, xs, rfl, .inl h, fun p hp => q p _ hp (same_new hp) upd_same⟩
theorem w_listT {a : Addr} {xs : List V} (h : SqT K H a xs) (q : ∀ p H', H p = none → Same H H' → H' p = some (.lst xs) → Q (.ref p) H') : rListOf K [.ref a] H Q := ⟨a, xs, rfl, .inr h, fun p hp => q p _ hp (same_new hp) upd_same⟩
theorem w_all {a : Addr} {bs : List Bool} (h : SqL K H a (bs.map V.bl)) (q : Q (.bl (bs.all id)) H) : rAll K [.ref a] H Q := ⟨a, bs, rfl, h, q⟩
theorem w_any {a : Addr} {bs : List Bool} (h : SqL K H a (bs.map V.bl)) (q : Q (.bl (bs.any id)) H) : rAny K [.ref a] H Q := ⟨a, bs, rfl, h, q⟩
/-- ints of a list of values -/
theorem ints_of {P : Int → Prop} : ∀ {xs : List V}, (∀ x ∈ xs, isI P x) → ∃ ns : List Int, xs = ns.map V.int ∧ ∀ n ∈ ns, P n
  | [], _ => ⟨[], rfl, fun _ h => nomatch h⟩
  | x :: r, h => by
    obtain ⟨ns, e, hn⟩ := ints_of (xs := r) fun y hy => h y (List.mem_cons_of_mem _ hy)
    obtain ⟨n, rfl, h1⟩ := h x List.mem_cons_self
    refine ⟨n :: ns, by rw [e]; rfl, fun m hm => ?_⟩
    rcases List.mem_cons.mp hm with rfl | hm
    · exact h1
    · exact hn m hm
theorem isI_app {P : Int → Prop} {xs : List V} {n : Int} (h : ∀ x ∈ xs, isI P x) (hn : P n) : ∀ x ∈ xs ++ [V.int n], isI P x := fun x hx => by
  rcases List.mem_append.mp hx with hx | hx
  · exact h x hx
  · rw [List.mem_singleton.mp hx]
    exact ⟨n, rfl, hn⟩
end
/-! ### the pot -/
def PotU : HO → Prop := fun u => ∃ g s : Int, u = .lst [.int g, .int s] ∧ 0 ≤ g ∧ 0 ≤ s ∧ s < 2305843009213693951
theorem pot_flat : ∀ u, PotU u → flatO u := fun u ⟨_, _, e, _⟩ => by
  rw [e]
  trivial
def PotAt (W : Wd) (H : Hp) (v : V) : Prop := ∃ p, v = .ref p ∧ H p = some (vw W PotU p)
theorem pot_mono {W : Wd} {H H' : Hp} {v : V} (e : Same H H') (h : PotAt W H v) : PotAt W H' v := by
  obtain ⟨p, rfl, h⟩ := h
  exact ⟨p, rfl, e _ _ h⟩
/-! ### const operations -/
def rCon (a b c : Int) : R2 := fun x y H Q => x = .int a ∧ y = .int b ∧ Q (.int c) H
theorem u_powc {X : Cx} {a b c : Int} (hc : CPow a b) (h : a ^ b.toNat = c) : OpR X (binaryOp .Pow) (rCon a b c) := by
  intro pins s σ H x y v u Q I rx ry q
  obtain ⟨rfl, rfl, q⟩ := q
  exact op_pow pins s σ H _ _ v u Q I rx ry ⟨a, b, rfl, rfl, hc, by show Q (V.int (a ^ b.toNat)) H; rw [h]; exact q⟩
theorem u_shlc {X : Cx} {a b c : Int} (hc : CPow a b) (h : a * 2 ^ b.toNat = c) : OpR X (binaryOp .LShift) (rCon a b c) := by
  intro pins s σ H x y v u Q I rx ry q
  obtain ⟨rfl, rfl, q⟩ := q
  exact op_shl pins s σ H _ _ v u Q I rx ry ⟨a, b, rfl, rfl, hc, by show Q (V.int (a * 2 ^ b.toNat)) H; rw [h]; exact q⟩
theorem w_con {H : Hp} {Q : VK} {a b c : Int} (h : Q (.int c) H) : rCon a b c (.int a) (.int b) H Q := ⟨rfl, rfl, h⟩
/-- int('1' + '0' * 300) -/
def farN : Int := 10 ^ 300
theorem far_rep : ∀ (n : Nat) (acc : Array Nat), ((List.replicate n (#[48] : Array Nat)).foldl (· ++ ·) acc).toList = acc.toList ++ List.replicate n 48
  | 0, acc => by simp
  | n + 1, acc => by
    rw [List.replicate_succ, List.foldl_cons, far_rep n, Array.toList_append, List.replicate_succ]
    simp
theorem far_a : (("1" : Str) ++ Txt.mul ("0" : Str) 300).cps.toList = 49 :: List.replicate 300 48 := by
  have e : Txt.mul ("0" : Str) 300 = ⟨(List.replicate 300 (#[48] : Array Nat)).foldl (· ++ ·) #[]⟩ := by
    unfold Txt.mul
    rw [if_neg (by decide), if_neg (by decide +kernel)]
    rfl
  rw [e]
  show (("1" : Str).cps ++ _).toList = _
  rw [Array.toList_append, far_rep]
  rfl
theorem far_val : ∀ (n v : Nat), (List.replicate n 48).foldl (fun acc c => acc * 10 + (c - 48)) v = v * 10 ^ n
  | 0, v => by simp
  | n + 1, v => by
    rw [List.replicate_succ, List.foldl_cons, far_val n, Nat.pow_succ, Nat.mul_comm (10 ^ n) 10, ← Nat.mul_assoc]
    rfl
theorem far_len : (("1" : Str) ++ Txt.mul ("0" : Str) 300).length = 301 := by
  have h : (("1" : Str) ++ Txt.mul ("0" : Str) 300).cps.toList.length = 301 := by
    rw [far_a, List.length_cons, List.length_replicate]
  rw [Array.length_toList] at h
  exact h
theorem far_txt : PySem.intText? (("1" : Str) ++ Txt.mul ("0" : Str) 300) = some farN := by
  have hd : NumText.AllDigits (("1" : Str) ++ Txt.mul ("0" : Str) 300).cps.toList := by
    rw [far_a]
    intro c hc
    rcases List.mem_cons.mp hc with rfl | hc
    · exact ⟨by decide, by decide⟩
    · have e := List.eq_of_mem_replicate hc
      subst e
      exact ⟨by decide, by decide⟩
  rw [PySem.intText_digits hd (by rw [far_a]; simp) (by rw [far_len]; decide), far_a]
  have e : NumText.digitsVal (49 :: List.replicate 300 48) = 1 * 10 ^ 300 := by
    unfold NumText.digitsVal
    rw [List.foldl_cons]
    exact far_val 300 1
  rw [e]
  decide +kernel
theorem far_pos : 0 < farN := by decide +kernel
theorem far_mul : MulOk ("0" : Str) 300 := ⟨by decide +kernel, by decide +kernel, by decide +kernel⟩
theorem far_len2 : (("1" : Str) ++ Txt.mul ("0" : Str) 300).length ≤ 640 := by
  rw [far_len]
  decide
theorem far_sz : ("1" : Str).length + (Txt.mul ("0" : Str) 300).length ≤ sizeLine := by decide +kernel
theorem pe_far {X : Cx} {p p1 p2 p3 p4 pos : Pos} {k1 k2 k3 : Nat} (hg : Gl X "int") (hm : X.mg "int" = none) (hs : starEach [.BinOp (.Constant (.str "1") k1 p1) .Add (.BinOp (.Constant (.str "0") k2 p2) .Mult (.Constant (.int 300) k3 p3) p4) pos] X.env = [(false, eval (.BinOp (.Constant (.str "1") k1 p1) .Add (.BinOp (.Constant (.str "0") k2 p2) .Mult (.Constant (.int 300) k3 p3) p4) pos) X.env)] := by rfl)
    {ps : Pos} : PE X (.Call (.Name "int" p) [.BinOp (.Constant (.str "1") k1 p1) .Add (.BinOp (.Constant (.str "0") k2 p2) .Mult (.Constant (.int 300) k3 p3) p4) pos] [] ps) (tC (.int farN)) := by
  have h : PE X (.Call (.Name "int" p) [.BinOp (.Constant (.str "1") k1 p1) .Add (.BinOp (.Constant (.str "0") k2 p2) .Mult (.Constant (.int 300) k3 p3) p4) pos] [] ps) (tCB _ _) := pe_callTy call_int_str hg hm (by decide +kernel) (pa_cons (pe_op op_add_str pe_str (pe_op op_mulS pe_str pe_int)) pa_nil)
  refine ⟨fun pins s σ H Q I q => h.run pins s σ H Q I ?_⟩
  exact ⟨_, _, rfl, rfl, far_mul, _, _, rfl, rfl, far_sz, _, _, rfl, far_txt, far_len2, q⟩
end Sh
/-! enumerate over a tuple; over a list or a tuple -/
namespace ShE
open PySem Sem
open AutoSeq1 (wpAny_loadPart')
theorem enumT_new {v : Value} {ob : Obj} {Hb : Heap → Prop} (B : Begins v ob Hb) : Meets (Builtin.«enumerate.__new__» ⟨[.type "enumerate", v], []⟩) (fun _ R s => Hb s.heap ∧
    R (.ok (.ret (.ref (s.heap.push ob).objs.size))) { s with heap := (s.heap.push ob).push ⟨.type "enumerate", none, .fields #[.none, .bool false, .ref s.heap.objs.size, rawInt 0, .none, .none], #[]⟩ }) :=
  .of_wp fun prog w A R s z => by
    obtain ⟨hp, g, dr, tk, os⟩ := s
    have sub := sub_enumerate
    have it : ∀ {A2 : Around} {E2 : Value → Shared → Prop} {Q2 : Value → Shared → Prop}, Q2 (.ref hp.objs.size) ⟨hp.push ob, g, dr, tk, os⟩ → wpAny (model prog w) A2 (pyIter v) Q2 E2 ⟨hp, g, dr, tk, os⟩ := fun q => B.iter _ _ _ _ _ _ z.1 q
    wp_walk using it
    refine wpAny_stack_any fun _ => wpAny_pure ?_
    split
    · next c _ _ _ _ _ =>
      cases (c == Value.type "enumerate") <;> (wp_walk using it; exact ⟨_, rfl, z.2⟩)
    · wp_walk using it; exact ⟨_, rfl, z.2⟩
theorem enumT_call {prog : Program} {w : World} {A : Around} {E : Value → Shared → Prop} {s : Shared} {v : Value} {ob : Obj} {Hb : Heap → Prop} {Q : Value → Shared → Prop} (B : Begins v ob Hb) (hb : Hb s.heap)
    (q : ∀ h2, IsEnum h2 (s.heap.objs.size + 1) s.heap.objs.size 0 .none → h2.get? s.heap.objs.size = some ob → (∀ b o, s.heap.get? b = some o → h2.get? b = some o) → Q (.ref (s.heap.objs.size + 1)) { s with heap := h2 }) :
    wpAny (model prog w) A (call (.type "enumerate") [v]) Q E s := by
  have z : (s.heap.push ob).objs.size = s.heap.objs.size + 1 := Heap.size_push ..
  have old : ∀ (o2 : Obj) b o, s.heap.get? b = some o → ((s.heap.push ob).push o2).get? b = some o := fun _ _ _ e => Heap.get?_push_of_some _ (Heap.get?_push_of_some _ e)
  have new : IsEnum ((s.heap.push ob).push ⟨.type "enumerate", none, .fields #[.none, .bool false, .ref s.heap.objs.size, rawInt 0, .none, .none], #[]⟩) (s.heap.objs.size + 1) s.heap.objs.size 0 .none := by
    rw [← z]
    exact Heap.get?_push_size _ rfl
  refine callType_new F.called_enumerate (by decide) (F.typeCall_enumerate_1 _) (F.newCall_enumerate_1 _) (fun o => F.args_object_init_2 o _) F.entry_enumerate_new (enumT_new B) ⟨hb, ?_⟩
  show _ ∧ _
  rw [z]
  exact ⟨⟨_, new, rfl⟩, q _ new (Heap.get?_push_of_some _ (Heap.get?_push_size _ B.free)) (old _)⟩
end ShE
namespace Sh
open PySem PySem.Spec PyProof.Rows L2
/-- the tuple at a, its items with their places -/
def IteT (K : PySem.W.Frag) (a : Addr) : It where
  go i H := ∃ xs x, SqT K H a xs ∧ xs[i]? = some x
  yld i H v H' := ∃ T x, v = .ref T ∧ H T = none ∧ H' = upd H T (.tup [.int (i : Nat), x]) ∧ ∀ xs, SqT K H a xs → xs[i]? = some x
  stop i H := ∃ xs, SqT K H a xs ∧ xs.length ≤ i
theorem turn_enumT {P : Program} {w : World} {K : PySem.W.Frag} {es : List Expr} {kk : Nat} {tp : Pos} (a e it : Addr) :
    Turn P w K (.Tuple es kk tp) (IteT K a) [e, it] e (fun i h => (∃ old, IsEnum h e it (i : Int) old) ∧ h.IsTupleIter it a i ∧ e ≠ it) where
  mem := List.mem_cons_self
  obj i h st b hb := by
    obtain ⟨⟨old, he⟩, ⟨o, ho, _, hd⟩, _⟩ := st
    rcases List.mem_cons.mp hb with rfl | hb
    · exact ⟨_, he, fun v q => nomatch q⟩
    · rw [List.mem_singleton.mp hb]
      exact ⟨o, ho, fun v q => by rw [hd] at q; cases q⟩
  keep i h h' st k := by
    obtain ⟨⟨old, he⟩, hi, hne⟩ := st
    exact ⟨⟨old, k e List.mem_cons_self _ he⟩, hi.at fun o q => k it (List.mem_cons_of_mem _ List.mem_cons_self) o q, hne⟩
  item X hP hw hK hc i pins s σ H E I hf st hg := by
    subst hP hw hK
    obtain ⟨⟨old, he⟩, hit, hne⟩ := st
    obtain ⟨xs, x, hq, hx⟩ := hg
    obtain ⟨its, rv, p, _⟩ := I.tuple hq
    obtain ⟨u, hu, ru⟩ := rv.get hx
    have pt : s.heap.IsTuple a its.toArray := p
    have ane : a ≠ it := fun z => by
      obtain ⟨o1, h1, c1, _⟩ := p
      obtain ⟨o2, h2, c2, _⟩ := hit
      rw [z, h2] at h1
      cases h1
      rw [c2] at c1
      injection c1 with c1
      exact absurd c1 (by decide)
    have ene : e ≠ a := fun z => by
      obtain ⟨o1, h1, c1, _⟩ := p
      rw [← z, he] at h1
      cases h1
      injection c1 with c1
      exact absurd c1 (by decide)
    have hil : it < s.heap.objs.size := by obtain ⟨_, q, _⟩ := hit; exact Heap.lt_size q
    have hel : e < s.heap.objs.size := Heap.lt_size he
    have lt : i < its.toArray.size := by
      have l1 := (List.getElem?_eq_some_iff.mp hu).1
      simpa using l1
    refine wpAny_pyNext_enum_itemD (Draws.tuple (show X.A.in1.handled = none from I.ok.hd hc) it a ane its.toArray) he ⟨hit, pt⟩ lt hne (fun z => ?_) fun x1 h1 tk px ho st1 hT hsz hk => ?_
    · rcases List.mem_cons.mp z with z | z
      · exact hne z
      · exact ene (List.mem_singleton.mp z)
    have ex : x1 = u := by
      have px2 : its.toArray[i]? = some x1 := px
      rw [List.getElem?_toArray, hu] at px2
      exact (Option.some.inj px2).symm
    subst ex
    refine ⟨_, rfl, wpAny_letOwnedTupleGo_enum (s := { s with heap := h1, toks := tk + 1 }) ho fun h2 he2 sb => ?_⟩
    have hT2 : h2.get? s.heap.objs.size = some { cls := .type "tuple", data := .seq #[.int i tk, x1] } := (sb.2 _ (Nat.ne_of_gt hel)).trans hT
    have new : ObjOk X.prog X.w (upd H s.heap.objs.size (.tup [.int (i : Nat), x])) h2 s.heap.objs.size (.tup [.int (i : Nat), x]) :=
      ⟨(by decide : 2 ≤ sizeLine), _, .cons ⟨tk, rfl⟩ (.cons ru .nil), ⟨_, hT2, rfl, _, rfl⟩⟩
    have ne2 : ∀ b, b ∉ [e, it] → b ≠ e ∧ b ≠ it := fun b z => ⟨fun q => z (by rw [q]; exact List.mem_cons_self), fun q => z (by rw [q]; exact List.mem_cons_of_mem _ List.mem_cons_self)⟩
    have J : Inv X pins σ (upd H s.heap.objs.size (.tup [.int (i : Nat), x])) { s with heap := h2, toks := tk + 1 } :=
      I.turnedNew (ch := [e, it]) (fun b ob z q => (sb.2 b (ne2 b z).1).trans (hk b ob (ne2 b z).1 (ne2 b z).2 q)) hf (Nat.le_refl _) new
    refine ⟨.ref s.heap.objs.size, _, J, rfl, ⟨s.heap.objs.size, x, rfl, I.hok.fresh (Nat.le_refl _), rfl, fun ys hy => by rw [I.tuple_inj hy hq]; exact hx⟩, ⟨⟨x1, ?_⟩, st1.1.at fun o q => (sb.2 it (Ne.symm hne)).trans q, hne⟩, fun b hb => ?_⟩
    · have e1 : ((i + 1 : Nat) : Int) = (i : Int) + 1 := Int.natCast_succ i
      rw [e1]
      exact he2
    · have lb : b < s.heap.objs.size := by
        rcases List.mem_cons.mp hb with rfl | hb
        · exact hel
        · rw [List.mem_singleton.mp hb]
          exact hil
      rw [upd_ne (Nat.ne_of_lt lb)]
      exact (hf b hb).1
  done X hP hw hK hc i pins s σ H E I hf st hg := by
    subst hP hw hK
    obtain ⟨⟨old, he⟩, hit, hne⟩ := st
    obtain ⟨xs, hq, hx⟩ := hg
    obtain ⟨its, rv, p, _⟩ := I.tuple hq
    have pt : s.heap.IsTuple a its.toArray := p
    have ane : a ≠ it := fun z => by
      obtain ⟨o1, h1, c1, _⟩ := p
      obtain ⟨o2, h2, c2, _⟩ := hit
      rw [z, h2] at h1
      cases h1
      rw [c2] at c1
      injection c1 with c1
      exact absurd c1 (by decide)
    obtain ⟨f0, f1, f2, f3, f4, f5⟩ := hf it (List.mem_cons_of_mem _ List.mem_cons_self)
    have hl := rv.length
    have hT : s.TypeIs (.ref e) "enumerate" := ⟨_, he, rfl⟩
    unfold pyNext
    refine wpAny_bind (wpAny_attempt (wpAny_callSpecial?_slot (name := Str.ofString "__next__") hT F.slot_enumerate_next
      (wpAny_call_entry F.slot_enumerate_next hT F.entry_enumerate_next ?_ (F.args_enumerate_next_1 _))))
    show wpAny _ _ (field (.ref e) 2 >>= _) _ _ _
    refine wpAny_bind (wpAny_field he rfl (x := .ref it) rfl ?_)
    refine wpAny_bind (wpAny_nextOf_tuple_end (I.ok.hd hc) hit pt (by simp; omega) fun h1 er k1 z1 => ?_)
    obtain ⟨oe, z2, z3⟩ := z1
    refine wpAny_bind (wpAny_isInstance (T := "StopIteration") (b := true) ⟨oe, z2, z3⟩ isSubtype_stop (wpAny_pure ?_))
    exact ⟨rfl, I.turned (t' := s.toks) (fun b o hb q => k1 b o hb q) f0 f1 f3 f4 f5⟩
  self A i s Q E st q := by
    obtain ⟨⟨_, he⟩, _⟩ := st
    exact wpAny_pyIter_enum he q
/-- enumerate of a list or a tuple -/
def GoEnum (K : PySem.W.Frag) (R : It → Hp → Prop) (vs : List V) (H : Hp) : Prop := ∃ a, vs = [.ref a] ∧ ((∃ xs, SqL K H a xs) ∧ R (Ite K a) H ∨ (∃ xs, SqT K H a xs) ∧ R (IteT K a) H)
def iEnumU (K : PySem.W.Frag) (ta : TA) : TI := fun σ H R => ta σ H fun vs H1 => GoEnum K R vs H1
theorem pi_enumU {X : Cx} {e : Expr} {ta : TA} {p pos tpos : Pos} {elts : List Expr} {kk : Nat} (hg : Gl X "enumerate") (hm : X.mg "enumerate" = none) (ha : PA X [e] ta) (hs : starEach [e] X.env = [(false, eval e X.env)] := by rfl) :
    PI X (.Tuple elts kk tpos) (.Call (.Name "enumerate" p) [e] [] pos) (iEnumU X.K ta) := ⟨fun pins s σ H R I h =>
  Call_ (ld_blt I hg hm boot_enumerate (PyProof.Rows.callWith_type1 (thn (ha.run pos pins s σ H _ I h) fun us s1 z => by
    obtain ⟨vs, H1, J, rv, a, rfl, z⟩ := z
    cases rv with
    | cons r rr =>
      cases rr
      obtain rfl := r
      have fp : ∀ b ∈ [s1.heap.objs.size + 1, s1.heap.objs.size], FpOk X pins H1 b := fun b hb => by
        have hle : s1.heap.objs.size ≤ b := by
          rcases List.mem_cons.mp hb with rfl | hb
          · exact Nat.le_succ _
          · rw [List.mem_singleton.mp hb]
            exact Nat.le_refl _
        exact J.fpOk hle (J.hok.fresh hle)
      rcases z with ⟨⟨xs, hq⟩, q⟩ | ⟨⟨xs, hq⟩, q⟩
      · obtain ⟨its, _, pl, _⟩ := J.list hq
        refine call_enumerate_list pl.isList fun h2 he hit _ hk => wpAny_pyIter_enum he ?_
        exact ⟨_, _, _, _, H1, rfl, J.kept (t' := s1.toks) hk, turn_enum a (s1.heap.objs.size + 1) s1.heap.objs.size, ⟨⟨_, he⟩, hit, Nat.succ_ne_self _⟩, fp, q⟩
      · obtain ⟨its, _, pl, _⟩ := J.tuple hq
        have pt : s1.heap.IsTuple a its.toArray := pl
        refine ShE.enumT_call (begins_tuple a its.toArray) pt fun h2 he hit hk => wpAny_pyIter_enum he ?_
        exact ⟨_, _, _, _, H1, rfl, J.kept (t' := s1.toks) hk, turn_enumT a (s1.heap.objs.size + 1) s1.heap.objs.size, ⟨⟨_, he⟩, ⟨_, hit, rfl, rfl⟩, Nat.succ_ne_self _⟩, fp, q⟩) hs rfl))⟩
section
variable {K : PySem.W.Frag} {σ : L2.St} {H : Hp} {Q : VK} {te : TE} {tt : TT} {tA : TA} {tb : TS} {nx : L2.St → Hp → Prop} {rt : VK} {g : TG} {vs : List Nat}
theorem w_ienum {R : It → Hp → Prop} (h : tA σ H fun vs H1 => GoEnum K R vs H1) : iEnumU K tA σ H R := h
theorem w_goEL {R : It → Hp → Prop} {a : Addr} {xs : List V} (h : SqL K H a xs) (q : R (Ite K a) H) : GoEnum K R [.ref a] H := ⟨a, rfl, .inl ⟨⟨xs, h⟩, q⟩⟩
theorem w_goET {R : It → Hp → Prop} {a : Addr} {xs : List V} (h : SqT K H a xs) (q : R (IteT K a) H) : GoEnum K R [.ref a] H := ⟨a, rfl, .inr ⟨⟨xs, h⟩, q⟩⟩
/-- for place, item in enumerate(..): the target is two names -/
theorem forET {a : Addr} {xs : List V} {i1 i2 : Nat} (hx : SqT K H a xs) (I : Nat → L2.St → Hp → Prop) (h0 : I 0 σ H) (hI : ∀ i σ' H', I i σ' H' → Same H H')
    (hs : ∀ (i : Nat) x σ' H', xs[i]? = some x → I i σ' H' → ∀ H2, Same H' H2 → tb ⟨I (i + 1), rt, nx, I (i + 1)⟩ ((σ'.set i1 (some (.int (i : Int)))).set i2 (some x)) H2) (hd : ∀ σ' H', I xs.length σ' H' → nx σ' H') :
    ForOk (IteT K a) (gTup K 2 (gCons (gName i1) (gCons (gName i2) gNil))) tb nx rt σ H := by
  refine ⟨fun i m σ' H' => m = xs.length - i ∧ i ≤ xs.length ∧ I i σ' H', ⟨_, rfl, Nat.zero_le _, h0⟩, fun i m σ' H1 ⟨em, hi, w1⟩ => ?_⟩
  have s1 := hI _ _ _ w1
  by_cases hlt : i < xs.length
  · refine .inr ⟨⟨xs, xs[i], same_t s1 hx, List.getElem?_eq_getElem hlt⟩, I (i + 1), fun σ2 H2 w2 => ⟨_, by omega, rfl, hlt, w2⟩, fun v H2 y => ?_⟩
    obtain ⟨T, x, rfl, hT, rfl, hy⟩ := y
    have ex := hy xs (same_t s1 hx)
    exact ⟨T, _, rfl, SqT.of upd_same, rfl, _, _, rfl, _, _, rfl, rfl, hs i x σ' H1 ex w1 _ (same_new hT)⟩
  · have e : i = xs.length := by omega
    subst e
    exact .inl ⟨⟨xs, same_t s1 hx, Nat.le_refl _⟩, hd σ' H1 w1⟩
theorem forEL {a : Addr} {xs : List V} {i1 i2 : Nat} (hx : SqL K H a xs) (I : Nat → L2.St → Hp → Prop) (h0 : I 0 σ H) (hI : ∀ i σ' H', I i σ' H' → Same H H')
    (hs : ∀ (i : Nat) x σ' H', xs[i]? = some x → I i σ' H' → ∀ H2, Same H' H2 → tb ⟨I (i + 1), rt, nx, I (i + 1)⟩ ((σ'.set i1 (some (.int (i : Int)))).set i2 (some x)) H2) (hd : ∀ σ' H', I xs.length σ' H' → nx σ' H') :
    ForOk (Ite K a) (gTup K 2 (gCons (gName i1) (gCons (gName i2) gNil))) tb nx rt σ H := by
  refine ⟨fun i m σ' H' => m = xs.length - i ∧ i ≤ xs.length ∧ I i σ' H', ⟨_, rfl, Nat.zero_le _, h0⟩, fun i m σ' H1 ⟨em, hi, w1⟩ => ?_⟩
  have s1 := hI _ _ _ w1
  by_cases hlt : i < xs.length
  · refine .inr ⟨⟨xs, xs[i], s1.seq hx, List.getElem?_eq_getElem hlt⟩, I (i + 1), fun σ2 H2 w2 => ⟨_, by omega, rfl, hlt, w2⟩, fun v H2 y => ?_⟩
    obtain ⟨T, x, rfl, hT, rfl, hy⟩ := y
    have ex := hy xs (s1.seq hx)
    exact ⟨T, _, rfl, SqT.of upd_same, rfl, _, _, rfl, _, _, rfl, rfl, hs i x σ' H1 ex w1 _ (same_new hT)⟩
  · have e : i = xs.length := by omega
    subst e
    exact .inl ⟨⟨xs, s1.seq hx, Nat.le_refl _⟩, hd σ' H1 w1⟩
end
end Sh
/-! data whose tuples have no dict (so that their methods may be called); new tuples are such -/
namespace Sh
open PySem PySem.Spec PyProof.Rows L2
def TupN (H : Hp) (a : Addr) (xs : List V) : Prop := ∃ o : Obj, o.dict = none ∧ H a = some (.frz o (.tup xs))
def SqN (K : PySem.W.Frag) (H : Hp) (a : Addr) (xs : List V) : Prop :=
  TupN H a xs ∨ ∃ (o : Obj) (its : Array Value) (n : Nat), K.lookup a = some o ∧ o.dict = none ∧ o.cls = .type "tuple" ∧ o.data = .seq its n ∧ its.size ≤ sizeLine ∧ Vals xs its.toList
section
variable {K : PySem.W.Frag} {H H' : Hp} {a : Addr} {xs : List V}
theorem SqN.t (h : SqN K H a xs) : SqT K H a xs := by
  rcases h with ⟨o, _, h⟩ | ⟨o, its, n, h1, _, h2, h3, h4, h5⟩
  · exact .inl (.inr ⟨o, h⟩)
  · exact .inr ⟨o, its, n, h1, h2, h3, h4, h5⟩
theorem SqN.of (h : TupN H a xs) : SqN K H a xs := .inl h
theorem TupN.mono (e : Same H H') (h : TupN H a xs) : TupN H' a xs := by
  obtain ⟨o, d, h⟩ := h
  exact ⟨o, d, e _ _ h⟩
theorem same_n (e : Same H H') (h : SqN K H a xs) : SqN K H' a xs := by
  rcases h with h | h
  · exact .inl (h.mono e)
  · exact .inr h
end
/-! ### new ones -/
def NewN (xs : List V) (Q : VK) (H : Hp) : Prop := xs.length ≤ sizeLine ∧ ∀ (p : Addr) (o : Obj), H p = none → o.dict = none → Q (.ref p) (upd H p (.frz o (.tup xs)))
def tTupN (t : TA) : TE := fun σ H Q => t σ H fun xs H1 => NewN xs Q H1
section
variable {X : Cx} {es : List Expr} {t : TA} {pos : Pos}
theorem pe_tupN {x1} (h : PA X es t) : PE X (.Tuple es x1 pos) (tTupN t) := by
  refine ⟨fun pins s σ H Q I hq => ?_⟩
  refine wpAny_Tuple_spliced (thn (h.run pos pins s σ H _ I hq) fun us s1 z0 => ?_)
  obtain ⟨xs, H1, I1, r, z, q⟩ := z0
  refine ⟨by rw [← r.length]; exact z, ?_⟩
  have hf : H1 s1.heap.objs.size = none := I1.hok.fresh (Nat.le_refl _)
  have hg := Heap.get?_push_size s1.heap (o := { cls := .type "tuple", data := .seq us.toArray }) rfl
  exact ⟨.ref s1.heap.objs.size, _, I1.laid (o := .frz { cls := .type "tuple", data := .seq us.toArray } (.tup xs)) (t' := s1.toks) (fun b u e => Heap.get?_push_of_some _ e) (Nat.le_refl _) ⟨hg, z, us, r, ⟨_, hg, rfl, _, rfl⟩⟩, rfl, q _ _ hf rfl⟩
def rTupleOfN (K : PySem.W.Frag) : List V → Hp → VK → Prop := fun xs H Q => ∃ p ys, xs = [.ref p] ∧ ((SqL K H p ys ∧ ∀ (l : Addr) (o : Obj), H l = none → o.dict = none → Q (.ref l) (upd H l (.frz o (.tup ys)))) ∨ (SqT K H p ys ∧ Q (.ref p) H))
theorem call_tuple_ofN : CallR X (.type "tuple") (rTupleOfN X.K) := by
  intro pins s σ H xs us Q I r h
  obtain ⟨p, ys, rfl, h⟩ := h
  obtain ⟨u, rfl, rx⟩ := vals1 r
  cases rx
  rcases h with ⟨hq, q⟩ | ⟨hq, q⟩
  · obtain ⟨its, rv, pl, hz⟩ := I.list hq
    have hlen := rv.length
    refine call_tuple_list pl.isList (fun h' kp => ?_) (by simp only [List.size_toArray] <;> omega)
    have I1 : Inv X pins σ H { s with heap := h' } := I.kept (t' := s.toks) kp
    have hg := Heap.get?_push_size h' (o := { cls := .type "tuple", data := .seq its.toArray }) rfl
    exact ⟨.ref h'.objs.size, _, I1.laid (o := .frz { cls := .type "tuple", data := .seq its.toArray } (.tup ys)) (t' := s.toks) (fun b o e => Heap.get?_push_of_some _ e) (Nat.le_refl _) ⟨hg, hz, its, rv, IsTup.new _ _⟩, rfl, q _ _ (I1.hok.fresh (Nat.le_refl _)) rfl⟩
  · obtain ⟨its, rv, pl, hz⟩ := I.tuple hq
    exact call_tuple_same pl ⟨.ref p, H, I, rfl, q⟩
/-- t + u -/
def rCatN (K : PySem.W.Frag) : R2 := fun x y H Q => ∃ a b xs ys, x = .ref a ∧ y = .ref b ∧ SqT K H a xs ∧ SqT K H b ys ∧ xs.length + ys.length ≤ sizeLine ∧
  (xs = [] → Q (.ref b) H) ∧ (xs ≠ [] → ys = [] → Q (.ref a) H) ∧ (xs ≠ [] → ys ≠ [] → ∀ (p : Addr) (o : Obj), H p = none → o.dict = none → Q (.ref p) (upd H p (.frz o (.tup (xs ++ ys)))))
theorem op_catN : OpR X (binaryOp .Add) (rCatN X.K) := by
  intro pins s σ H x y v u Q I rx ry h
  obtain ⟨a, b, xs, ys, rfl, rfl, ha, hb, hz, q0, q1, q2⟩ := h
  cases rx
  cases ry
  obtain ⟨its, r1, p1, _⟩ := I.tuple ha
  obtain ⟨its2, r2, p2, _⟩ := I.tuple hb
  by_cases hx : xs = []
  · subst hx
    cases r1
    exact cat_tup0 p1 p2 ⟨.ref b, H, I, rfl, q0 rfl⟩
  · refine HT.cat_tup p1 p2 (fun z => hx (r1.nil_iff.mp z)) (fun z => ⟨.ref a, H, I, rfl, q1 hx (r2.nil_iff.mp z)⟩) (fun z => ?_) (by rw [← r1.length, ← r2.length]; exact hz)
    have hg := Heap.get?_push_size s.heap (o := { cls := .type "tuple", data := .seq (its ++ its2).toArray }) rfl
    exact ⟨.ref s.heap.objs.size, _, I.laid (t' := s.toks) (o := .frz { cls := .type "tuple", data := .seq (its ++ its2).toArray } (.tup (xs ++ ys))) (fun b ob q => Heap.get?_push_of_some _ q) (Nat.le_refl _) ⟨hg, by rw [List.length_append]; exact hz, _, r1.append r2, IsTup.new _ _⟩, rfl,
      q2 hx (fun w => z (r2.nil_iff.mpr w)) _ _ (I.hok.fresh (Nat.le_refl _)) rfl⟩
/-- t[lo:hi] -/
def rSlN (K : PySem.W.Frag) : V → Option Int → Option Int → Hp → VK → Prop := fun x lo hi H Q => ∃ a xs, x = .ref a ∧ SqT K H a xs ∧
  (HT.sIx xs.length 0 lo = 0 ∧ HT.sIx xs.length xs.length hi = xs.length → Q (.ref a) H) ∧
  (¬ (HT.sIx xs.length 0 lo = 0 ∧ HT.sIx xs.length xs.length hi = xs.length) → ∀ (p : Addr) (o : Obj), H p = none → o.dict = none → Q (.ref p) (upd H p (.frz o (.tup (cutV xs lo hi)))))
theorem sl_tupN : SlR X (rSlN X.K) := by
  intro pins s σ H x v vl vu lo hi sl Q I rx hs pl pu h
  obtain ⟨a, xs, rfl, hx, q1, q2⟩ := h
  cases rx
  obtain ⟨its, r, ht, hz⟩ := I.tuple hx
  have hlen : its.toArray.size = xs.length := by rw [List.size_toArray]; exact r.length.symm
  refine ⟨"tuple", _, PyProof.Rows.slot_tuple_getitem.lookup, ht.typeIs, ?_⟩
  by_cases hw : HT.sIx xs.length 0 lo = 0 ∧ HT.sIx xs.length xs.length hi = xs.length
  · exact getItem_tuple_whole ht hs pl pu (by rw [hlen]; exact hw) ⟨.ref a, H, I, rfl, q1 hw⟩
  · refine HT.getItem_tuple_cut ht hs pl pu (by rw [hlen]; exact hw) ?_ (by rw [hlen]; exact hz)
    rw [hlen]
    have hg := Heap.get?_push_size s.heap (o := { cls := .type "tuple", data := .seq ((its.drop (HT.sIx xs.length 0 lo)).take (HT.sIx xs.length xs.length hi - HT.sIx xs.length 0 lo)).toArray }) rfl
    exact ⟨.ref s.heap.objs.size, _, I.laid (t' := s.toks) (o := .frz { cls := .type "tuple", data := .seq ((its.drop (HT.sIx xs.length 0 lo)).take (HT.sIx xs.length xs.length hi - HT.sIx xs.length 0 lo)).toArray } (.tup (cutV xs lo hi))) (fun b ob q => Heap.get?_push_of_some _ q) (Nat.le_refl _)
      ⟨hg, Nat.le_trans (cutV_length xs lo hi) hz, _, (r.drop (HT.sIx xs.length 0 lo)).take (HT.sIx xs.length xs.length hi - HT.sIx xs.length 0 lo), IsTup.new _ _⟩, rfl, q2 hw _ _ (I.hok.fresh (Nat.le_refl _)) rfl⟩
/-! ### methods of tuples -/
def TyN (K : PySem.W.Frag) (x : V) (H : Hp) : Prop := ∃ a xs, x = .ref a ∧ SqN K H a xs
theorem tyN_is {pins : List (Addr × Obj)} {σ : L2.St} {H : Hp} {s : Shared} {x : V} {v : Value} (I : Inv X pins σ H s) (r : RelV x v) (ty : TyN X.K x H) : s.TypeIs v "tuple" ∧ ∀ a, v = .ref a → ∃ ob, s.heap.get? a = some ob ∧ ob.dict = none := by
  obtain ⟨a, xs, rfl, h⟩ := ty
  cases r
  obtain ⟨its, rv, pl, _⟩ := I.tuple h.t
  refine ⟨pl.typeIs, fun b e => ?_⟩
  cases e
  rcases h with ⟨o, d, h⟩ | ⟨o, _, _, h, d, _⟩
  · obtain ⟨g, _⟩ := (show ObjOk X.prog X.w H s.heap a (.frz o (.tup xs)) from I.hok a _ h)
    exact ⟨o, g, d⟩
  · exact ⟨o, I.kIn _ _ h, d⟩
def tTM (K : PySem.W.Frag) (r : V → List V → Hp → VK → Prop) (to : TE) (t : TA) : TE := fun σ H Q => to σ H fun x H1 => TyN K x H1 ∧ t σ H1 fun xs H2 => r x xs H2 Q
theorem pe_tm {o e : Expr} {es : List Expr} {to : TE} {t : TA} {name : Str} {apos cpos : Pos} {id : String} {r : V → List V → Hp → VK → Prop} (slot : Slot "tuple" name id) (hty : typeOf (.builtin id) = pure (.type "method_descriptor")) (hm : MtR X id r) (ho : PE X o to) (ha : PA X (e :: es) t)
    (hbase : attributeBase o name X.env (eval o X.env) = eval o X.env := by rfl)
    (hfew : ((backTo cpos (starEach (e :: es) X.env)).all (fun x => !x.1) && (backToKw cpos (keywordEach [] X.env)).all (fun x => x.1.isSome)
      && decide ((e :: es).length + ([] : List Keyword).length + (if ([] : List Keyword).isEmpty then 0 else 1) < 30)) = true := by rfl)
    (hline : (apos.endLine == cpos.line) = true := by rfl) (hs : starEach (e :: es) X.env = (false, eval e X.env) :: starEach es X.env := by rfl) (hplain : (backTo cpos (starEach es X.env)).any (·.1) = false := by rfl) :
    PE X (.Call (.Attribute o name apos) (e :: es) [] cpos) (tTM X.K r to t) := by
  refine ⟨fun pins s σ H Q I h => ?_⟩
  refine wpAny_Call_method_late hbase hfew hline rfl (thn (ho.run pins s σ H _ I h) fun v s1 z => ?_)
  obtain ⟨x, H1, I1, r1, ty, q1⟩ := z
  obtain ⟨h1, h2⟩ := tyN_is I1 r1 ty
  refine ⟨"tuple", id, PySem.F.plainAttrs_tuple, slot, hty, h1, h2, ?_⟩
  have hA := ha.run cpos pins s1 σ H1 _ I1 q1
  rw [hs] at hA ⊢
  refine Calls.callWith_builtin (by show (false || (backTo cpos (starEach es X.env)).any (·.1)) = false; rw [hplain] <;> rfl) (Calls.evalArgs_plain ?_)
  refine thn hA fun us s2 z2 => ?_
  obtain ⟨vs, H2, I2, r2, q2⟩ := z2
  exact hm pins s2 σ H2 x vs v us Q I2 r1 r2 q2
/-- t.index(n) of ints, n among them -/
def rIndexT (K : PySem.W.Frag) : V → List V → Hp → VK → Prop := fun x xs H Q => ∃ (a : Addr) (ns : List Int) (n : Int), x = .ref a ∧ xs = [.int n] ∧ SqT K H a (ns.map V.int) ∧ n ∈ ns ∧ Q (.int (ns.idxOf n : Nat)) H
theorem mt_indexT : MtR X "tuple.index" (rIndexT X.K) := by
  intro pins s σ H x xs v us Q I rx rs h
  obtain ⟨a, ns, n, rfl, rfl, hq, hn, q⟩ := h
  cases rx
  obtain ⟨u, rfl, t, rfl⟩ := vals1 rs
  obtain ⟨its, r, pl, hz⟩ := I.tuple hq
  exact PySem.SeqAt.tuple_index_ints pl (intsAre_of r) hn ⟨.int (ns.idxOf n : Nat), H, I.tok _, ⟨_, rfl⟩, q⟩
end
/-! ### among -/
def rInU (K : PySem.W.Frag) : R2 := fun x y H Q => rIn K false x y H Q ∨ rInS x y H Q
theorem u_in {X : Cx} (_ : X.A.units + 64 < cLine) : OpR X (compareOp .In) (rInU X.K) := opor op_in_seq op_inS
def rNotInU (K : PySem.W.Frag) : R2 := rIn K true
theorem u_notin {X : Cx} (_ : X.A.units + 64 < cLine) : OpR X (compareOp .NotIn) (rNotInU X.K) := op_notIn_seq
theorem inV_ints (n : Int) : ∀ ns : List Int, inV (.int n) (ns.map V.int) = decide (n ∈ ns)
  | [] => rfl
  | m :: r => by
    have z := inV_ints n r
    unfold inV at z ⊢
    rw [List.map_cons, List.any_cons, z]
    show (m == n || decide (n ∈ r)) = decide (n ∈ m :: r)
    by_cases h : m = n
    · subst h
      simp
    · have h2 : ¬ n = m := fun e => h e.symm
      simp [h, h2]
theorem flat_ints (ns : List Int) : (ns.map V.int).all flatV = true := by
  rw [List.all_map]
  exact List.all_eq_true.mpr fun _ _ => rfl
section
variable {K : PySem.W.Frag} {H : Hp} {Q : VK} {σ : L2.St} {a : Addr} {ns : List Int} {n : Int} {xs : List V}
theorem w_inT (h : SqT K H a (ns.map V.int)) (q : Q (.bl (decide (n ∈ ns))) H) : rInU K (.int n) (.ref a) H Q := .inl ⟨a, _, rfl, .inr h, rfl, flat_ints ns, by rw [inV_ints]; exact q⟩
theorem w_inL (h : SqL K H a (ns.map V.int)) (q : Q (.bl (decide (n ∈ ns))) H) : rInU K (.int n) (.ref a) H Q := .inl ⟨a, _, rfl, .inl h, rfl, flat_ints ns, by rw [inV_ints]; exact q⟩
theorem w_ninT (h : SqT K H a (ns.map V.int)) (q : Q (.bl (!decide (n ∈ ns))) H) : rNotInU K (.int n) (.ref a) H Q := ⟨a, _, rfl, .inr h, rfl, flat_ints ns, by rw [inV_ints]; exact q⟩
theorem w_tm {to : TE} {t : TA} {r : V → List V → Hp → VK → Prop} (h : to σ H fun x H1 => TyN K x H1 ∧ t σ H1 fun xs H2 => r x xs H2 Q) : tTM K r to t σ H Q := h
theorem w_tyN {R : Prop} (h : SqN K H a xs) (q : R) : TyN K (.ref a) H ∧ R := ⟨⟨a, xs, rfl, h⟩, q⟩
theorem w_indexT (h : SqT K H a (ns.map V.int)) (hn : n ∈ ns) (q : Q (.int (ns.idxOf n : Nat)) H) : rIndexT K (.ref a) [.int n] H Q := ⟨a, ns, n, rfl, rfl, h, hn, q⟩
theorem w_tupN {tA : TA} (h : tA σ H fun xs H1 => NewN xs Q H1) : tTupN tA σ H Q := h
theorem w_newN (hl : xs.length ≤ sizeLine) (h : ∀ p H', H p = none → Same H H' → TupN H' p xs → Q (.ref p) H') : NewN xs Q H := ⟨hl, fun p o hp hd => h p _ hp (same_new hp) ⟨o, hd, upd_same⟩⟩
theorem w_tupleN (h : SqL K H a xs) (q : ∀ p H', H p = none → Same H H' → TupN H' p xs → Q (.ref p) H') : rTupleOfN K [.ref a] H Q := ⟨a, xs, rfl, .inl ⟨h, fun p o hp hd => q p _ hp (same_new hp) ⟨o, hd, upd_same⟩⟩⟩
theorem w_tupleT (h : SqT K H a xs) (q : Q (.ref a) H) : rTupleOfN K [.ref a] H Q := ⟨a, xs, rfl, .inr ⟨h, q⟩⟩
end
/-! ### sums, cuts -/
def rAddN (K : PySem.W.Frag) : R2 := fun x y H Q => rI0 (fun i j => .int (i + j)) x y H Q ∨ (∃ i j, x = .str i ∧ y = .str j ∧ i.length + j.length ≤ sizeLine ∧ Q (.str (i ++ j)) H) ∨ rCat x y H Q ∨ rCatN K x y H Q
theorem u_addN {X : Cx} : OpR X (binaryOp .Add) (rAddN X.K) := opor op_add (opor op_add_str (opor op_cat op_catN))
def rSlU (K : PySem.W.Frag) : V → Option Int → Option Int → Hp → VK → Prop := fun x lo hi H Q => rSlN K x lo hi H Q ∨ rSlS x lo hi H Q ∨ rSlL K x lo hi H Q
theorem u_sl {X : Cx} : SlR X (rSlU X.K) := .or sl_tupN (.or sl_str sl_list)
/-! ### data -/
mutual
inductive Dq (K : PySem.W.Frag) (H : Hp) : V → PyData → Prop
  | non : Dq K H .non .none
  | bl (b : Bool) : Dq K H (.bl b) (.bool b)
  | int (i : Int) : Dq K H (.int i) (.int i)
  | str (x : Str) : Dq K H (.str x) (.str x)
  | lst {a : Addr} {xs : List V} {ds : List PyData} : SqL K H a xs → DqAll K H xs ds → Dq K H (.ref a) (.list ds)
  | tup {a : Addr} {xs : List V} {ds : List PyData} : SqN K H a xs → DqAll K H xs ds → Dq K H (.ref a) (.tuple ds)
inductive DqAll (K : PySem.W.Frag) (H : Hp) : List V → List PyData → Prop
  | nil : DqAll K H [] []
  | cons {v : V} {vs : List V} {d : PyData} {ds : List PyData} : Dq K H v d → DqAll K H vs ds → DqAll K H (v :: vs) (d :: ds)
end
mutual
theorem dq_dp {K : PySem.W.Frag} {H : Hp} : ∀ {v : V} {d : PyData}, Dq K H v d → Dp K H v d
  | _, _, .non => .non
  | _, _, .bl b => .bl b
  | _, _, .int i => .int i
  | _, _, .str x => .str x
  | _, _, .lst h r => .lst h (dqs_dp r)
  | _, _, .tup h r => .tup h.t (dqs_dp r)
theorem dqs_dp {K : PySem.W.Frag} {H : Hp} : ∀ {vs : List V} {ds : List PyData}, DqAll K H vs ds → DpAll K H vs ds
  | _, _, .nil => .nil
  | _, _, .cons h r => .cons (dq_dp h) (dqs_dp r)
end
mutual
theorem dq_mono {K : PySem.W.Frag} {H H' : Hp} (e : Same H H') : ∀ {v : V} {d : PyData}, Dq K H v d → Dq K H' v d
  | _, _, .non => .non
  | _, _, .bl b => .bl b
  | _, _, .int i => .int i
  | _, _, .str x => .str x
  | _, _, .lst h r => .lst (e.seq h) (dqs_mono e r)
  | _, _, .tup h r => .tup (same_n e h) (dqs_mono e r)
theorem dqs_mono {K : PySem.W.Frag} {H H' : Hp} (e : Same H H') : ∀ {vs : List V} {ds : List PyData}, DqAll K H vs ds → DqAll K H' vs ds
  | _, _, .nil => .nil
  | _, _, .cons h r => .cons (dq_mono e h) (dqs_mono e r)
end
theorem dqs_len {K : PySem.W.Frag} {H : Hp} {vs : List V} {ds : List PyData} (h : DqAll K H vs ds) : vs.length = ds.length := dps_len (dqs_dp h)
theorem dqs_get {K : PySem.W.Frag} {H : Hp} : ∀ {vs : List V} {ds : List PyData} {i : Nat} {d : PyData}, DqAll K H vs ds → ds[i]? = some d → ∃ v, vs[i]? = some v ∧ Dq K H v d
  | _, _, _, _, .nil, e => by simp at e
  | _, _, 0, _, .cons (v := v) h _, e => by
    simp at e
    subst e
    exact ⟨v, rfl, h⟩
  | _, _, i + 1, d, .cons _ r, e => by
    obtain ⟨v, h1, h2⟩ := dqs_get (i := i) (d := d) r (by simpa using e)
    exact ⟨v, by simpa using h1, h2⟩
theorem dqs_get2 {K : PySem.W.Frag} {H : Hp} {vs : List V} {ds : List PyData} {i : Nat} {v : V} (r : DqAll K H vs ds) (e : vs[i]? = some v) : ∃ d, ds[i]? = some d ∧ Dq K H v d := by
  have hl := dqs_len r
  have hi := (List.getElem?_eq_some_iff.mp e).1
  have e2 : ds[i]? = some (ds[i]'(hl ▸ hi)) := List.getElem?_eq_getElem _
  obtain ⟨v2, h1, h2⟩ := dqs_get r e2
  rw [e] at h1
  cases h1
  exact ⟨_, e2, h2⟩
theorem dqs_app {K : PySem.W.Frag} {H : Hp} : ∀ {vs ws : List V} {ds es : List PyData}, DqAll K H vs ds → DqAll K H ws es → DqAll K H (vs ++ ws) (ds ++ es)
  | _, _, _, _, .nil, s => s
  | _, _, _, _, .cons h r, s => .cons h (dqs_app r s)
theorem dqs_ints {K : PySem.W.Frag} {H : Hp} : ∀ ns : List Int, DqAll K H (ns.map V.int) (ns.map PyData.int)
  | [] => .nil
  | n :: r => .cons (.int n) (dqs_ints r)
theorem dqs_at {K : PySem.W.Frag} {H : Hp} {vs : List V} {ds : List PyData} {i : Int} {d : PyData} (r : DqAll K H vs ds) (e : atI ds i = some d) : ∃ v, atI vs i = some v ∧ Dq K H v d := by
  unfold atI at e ⊢
  rw [dqs_len r]
  cases q : ixN ds.length i with
  | none => rw [q] at e; cases e
  | some j =>
    rw [q] at e
    exact dqs_get r e
end Sh
/-! data: tuples of data, cuts, sums; the shapes -/
namespace Sh
open PySem PySem.Spec PyProof.Rows L2
section
variable {K : PySem.W.Frag} {σ : L2.St} {H H' : Hp} {Q : VK} {v u : V} {d : PyData} {te : TE} {tA : TA} {tl th : TO} {a D : Addr} {xs ys : List V}
/-! ### data that a change of a list does not touch -/
mutual
def tupO : PyData → Prop
  | .list _ => False
  | .dict _ => False
  | .tuple ds => tupOs ds
  | _ => True
def tupOs : List PyData → Prop
  | [] => True
  | d :: r => tupO d ∧ tupOs r
end
theorem sqn_lst {o : HO} (h : SqN K H a xs) (e : H D = some (.lst ys)) : SqN K (upd H D o) a xs := by
  rcases h with ⟨b, hd, h⟩ | h
  · refine .inl ⟨b, hd, ?_⟩
    rw [upd_ne fun z => by rw [z, e] at h; cases h]
    exact h
  · exact .inr h
mutual
theorem dq_lst {o : HO} (e : H D = some (.lst ys)) : ∀ {v : V} {d : PyData}, Dq K H v d → tupO d → Dq K (upd H D o) v d
  | _, _, .non, _ => .non
  | _, _, .bl b, _ => .bl b
  | _, _, .int i, _ => .int i
  | _, _, .str x, _ => .str x
  | _, _, .lst _ _, z => (show False from z).elim
  | _, _, .tup h r, z => .tup (sqn_lst h e) (dqs_lst e r z)
theorem dqs_lst {o : HO} (e : H D = some (.lst ys)) : ∀ {vs : List V} {ds : List PyData}, DqAll K H vs ds → tupOs ds → DqAll K (upd H D o) vs ds
  | _, _, .nil, _ => .nil
  | _, _, .cons h r, z => .cons (dq_lst e h z.1) (dqs_lst e r z.2)
end
theorem tupOs_of : ∀ {ds : List PyData}, (∀ d ∈ ds, tupO d) → tupOs ds
  | [], _ => trivial
  | _ :: _, h => ⟨h _ List.mem_cons_self, tupOs_of fun d hd => h d (List.mem_cons_of_mem _ hd)⟩
theorem tupOs_ints (ns : List Int) : tupOs (ns.map PyData.int) := tupOs_of fun d hd => by
  obtain ⟨n, _, rfl⟩ := List.mem_map.mp hd
  trivial
/-! ### ints -/
theorem dq_int {i : Int} (h : Dq K H v (.int i)) : v = .int i := by cases h; rfl
theorem dq_str {x : Str} (h : Dq K H v (.str x)) : v = .str x := by cases h; rfl
theorem dq_bl {b : Bool} (h : Dq K H v (.bool b)) : v = .bl b := by cases h; rfl
theorem dq_non (h : Dq K H v .none) : v = .non := by cases h; rfl
theorem dqs_int_of : ∀ {vs : List V} {ns : List Int}, DqAll K H vs (ns.map PyData.int) → vs = ns.map V.int
  | _, [], h => by cases h; rfl
  | _, n :: r, h => by
    cases h with
    | cons h1 h2 => rw [dq_int h1, dqs_int_of h2]; rfl
theorem dq_ti {ns : List Int} (h : Dq K H v (.tuple (ns.map PyData.int))) : ∃ a, v = .ref a ∧ SqN K H a (ns.map V.int) := by
  cases h with
  | tup h r => exact ⟨_, rfl, by rw [← dqs_int_of r]; exact h⟩
theorem dq_ofN {ns : List Int} (h : TupN H a (ns.map V.int)) : Dq K H (.ref a) (.tuple (ns.map PyData.int)) := .tup (.inl h) (dqs_ints ns)
theorem dq_tt {ds : List PyData} (h : Dq K H v (.tuple ds)) : ∃ a xs, v = .ref a ∧ SqN K H a xs ∧ DqAll K H xs ds := by
  cases h with
  | tup h r => exact ⟨_, _, rfl, h, r⟩
theorem dq_ll {ds : List PyData} (h : Dq K H v (.list ds)) : ∃ a xs, v = .ref a ∧ SqL K H a xs ∧ DqAll K H xs ds := by
  cases h with
  | lst h r => exact ⟨_, _, rfl, h, r⟩
theorem dq_new {ds : List PyData} (h : TupN H a xs) (r : DqAll K H xs ds) : Dq K H (.ref a) (.tuple ds) := .tup (.inl h) r
theorem dq_newl {ds : List PyData} (h : H a = some (.lst xs)) (r : DqAll K H xs ds) : Dq K H (.ref a) (.list ds) := .lst (SqL.of h) r
theorem dqs_one (h : Dq K H v d) : DqAll K H [v] [d] := .cons h .nil
theorem dqs_two {d2 : PyData} (h : Dq K H v d) (h2 : Dq K H u d2) : DqAll K H [v, u] [d, d2] := .cons h (.cons h2 .nil)
theorem dqs_mem {vs : List V} {ds : List PyData} {P : PyData → Prop} (r : DqAll K H vs ds) (h : ∀ d ∈ ds, P d) : ∀ x ∈ vs, ∃ d, Dq K H x d ∧ P d := fun x hx => by
  obtain ⟨i, hi⟩ := List.getElem?_of_mem hx
  obtain ⟨d, h1, h2⟩ := dqs_get2 r hi
  exact ⟨d, h2, h d (List.mem_of_getElem? h1)⟩
/-! ### items, lengths -/
theorem w_ixQL {ds : List PyData} {i : Int} (h : Dq K H v (.list ds)) (e : atI ds i = some d) (q : ∀ x, Dq K H x d → Q x H) : rIxU K v (.int i) H Q := by
  cases h with
  | lst h r =>
    obtain ⟨x, e1, e2⟩ := dqs_at r e
    exact w_ixl h e1 (q x e2)
theorem w_ixQT {ds : List PyData} {i : Int} (h : Dq K H v (.tuple ds)) (e : atI ds i = some d) (q : ∀ x, Dq K H x d → Q x H) : rIxU K v (.int i) H Q := by
  cases h with
  | tup h r =>
    obtain ⟨x, e1, e2⟩ := dqs_at r e
    exact w_ixt h.t e1 (q x e2)
theorem w_ixQTi {ds : List PyData} {i n : Int} (h : Dq K H v (.tuple ds)) (e : atI ds i = some (.int n)) (q : Q (.int n) H) : rIxU K v (.int i) H Q := w_ixQT h e fun x hx => by
  rw [dq_int hx]
  exact q
theorem w_ixQTs {ds : List PyData} {i : Int} {z : Str} (h : Dq K H v (.tuple ds)) (e : atI ds i = some (.str z)) (q : Q (.str z) H) : rIxU K v (.int i) H Q := w_ixQT h e fun x hx => by
  rw [dq_str hx]
  exact q
theorem w_lenQT {ds : List PyData} (h : Dq K H v (.tuple ds)) (q : Q (.int ds.length) H) : rLenU K [v] H Q := by
  cases h with
  | tup h r => exact w_lenT h.t (by rw [dqs_len r]; exact q)
theorem w_lenQL {ds : List PyData} (h : Dq K H v (.list ds)) (q : Q (.int ds.length) H) : rLenU K [v] H Q := by
  cases h with
  | lst h r => exact w_lenL h (by rw [dqs_len r]; exact q)
theorem w_tyQT {ds : List PyData} {R : Prop} (h : Dq K H v (.tuple ds)) (q : R) : TyN K v H ∧ R := by
  cases h with
  | tup h r => exact ⟨⟨_, _, rfl, h⟩, q⟩
/-! ### cuts -/
theorem w_sl (h : te σ H fun x H1 => tl σ H1 fun l H2 => th σ H2 fun u H3 => rSlU K x l u H3 Q) : tSl (rSlU K) te tl th σ H Q := h
theorem w_nopart {k : Option Int → Hp → Prop} (h : k none H) : tNoPart σ H k := h
theorem w_part {k : Option Int → Hp → Prop} (h : te σ H fun x H1 => ∃ i, x = .int i ∧ k (some i) H1) : tPart te σ H k := h
theorem w_ii {k : Int → Prop} {i : Int} (h : k i) : ∃ j, V.int i = .int j ∧ k j := ⟨i, rfl, h⟩
def cutD {α : Type} (xs : List α) (lo hi : Option Int) : List α := (xs.drop (HT.sIx xs.length 0 lo)).take (HT.sIx xs.length xs.length hi - HT.sIx xs.length 0 lo)
theorem dqs_drop : ∀ {vs : List V} {ds : List PyData} (n : Nat), DqAll K H vs ds → DqAll K H (vs.drop n) (ds.drop n)
  | _, _, 0, r => r
  | _, _, _ + 1, .nil => .nil
  | _, _, n + 1, .cons _ r => dqs_drop n r
theorem dqs_take : ∀ {vs : List V} {ds : List PyData} (n : Nat), DqAll K H vs ds → DqAll K H (vs.take n) (ds.take n)
  | _, _, 0, r => .nil
  | _, _, _ + 1, .nil => .nil
  | _, _, n + 1, .cons h r => .cons h (dqs_take n r)
theorem dqs_cut {ds : List PyData} {lo hi : Option Int} (r : DqAll K H xs ds) : DqAll K H (cutV xs lo hi) (cutD ds lo hi) := by
  unfold cutV cutD
  rw [dqs_len r]
  exact dqs_take _ (dqs_drop _ r)
theorem w_slQT {ds : List PyData} {lo hi : Option Int} (h : Dq K H v (.tuple ds)) (q : ∀ x H', Same H H' → Dq K H' x (.tuple (cutD ds lo hi)) → Q x H') : rSlU K v lo hi H Q := by
  obtain ⟨a, xs, rfl, hs, r⟩ := dq_tt h
  refine .inl ⟨a, xs, rfl, hs.t, fun hw => q _ _ (Same.refl _) (.tup hs ?_), fun _ p o hp hd => q _ _ (same_new hp) (.tup (SqN.of ⟨o, hd, upd_same⟩) (dqs_mono (same_new hp) (dqs_cut r)))⟩
  rw [dqs_len r] at hw
  have e : cutD ds lo hi = ds := by
    unfold cutD
    rw [hw.1, hw.2]
    simp
  rw [e]
  exact r
theorem w_slQL {ds : List PyData} {lo hi : Option Int} (h : Dq K H v (.list ds)) (q : ∀ x H', Same H H' → Dq K H' x (.list (cutD ds lo hi)) → Q x H') : rSlU K v lo hi H Q := by
  obtain ⟨a, xs, rfl, hs, r⟩ := dq_ll h
  exact .inr (.inr ⟨a, xs, rfl, hs, fun p hp => q _ _ (same_new hp) (.lst (SqL.of upd_same) (dqs_mono (same_new hp) (dqs_cut r)))⟩)
theorem w_slS {z : Str} {lo hi : Option Int} (h : z.length ≤ sizeLine) (q : Q (.str (cutS z lo hi)) H) : rSlU K (.str z) lo hi H Q := .inr (.inl ⟨z, rfl, h, q⟩)
theorem six_of {n i : Nat} (d : Nat) (h : i ≤ n) : HT.sIx n d (some (i : Int)) = i := by
  unfold HT.sIx
  dsimp only
  rw [if_neg (by omega)]
  omega
theorem cutD_to {α : Type} {xs : List α} {i : Int} (h0 : 0 ≤ i) (h1 : i ≤ xs.length) : cutD xs none (some i) = xs.take i.toNat := by
  obtain ⟨n, rfl⟩ : ∃ n : Nat, i = n := ⟨i.toNat, by omega⟩
  unfold cutD
  rw [six_of _ (by omega)]
  simp [HT.sIx]
theorem cutD_from {α : Type} {xs : List α} {i : Int} (h0 : 0 ≤ i) (h1 : i ≤ xs.length) : cutD xs (some i) none = xs.drop i.toNat := by
  obtain ⟨n, rfl⟩ : ∃ n : Nat, i = n := ⟨i.toNat, by omega⟩
  unfold cutD
  rw [six_of _ (by omega)]
  show (xs.drop n).take (xs.length - n) = _
  rw [List.take_of_length_le (by rw [List.length_drop]; exact Nat.le_refl _), Int.toNat_natCast]
/-! ### sums of tuples -/
theorem w_catQT {ds es : List PyData} (h : Dq K H v (.tuple ds)) (h' : Dq K H u (.tuple es)) (hl : ds.length + es.length ≤ sizeLine) (q : ∀ x H', Same H H' → Dq K H' x (.tuple (ds ++ es)) → Q x H') : rAddN K v u H Q := by
  obtain ⟨a, xs, rfl, hs, r⟩ := dq_tt h
  obtain ⟨b, ys, rfl, hs', r'⟩ := dq_tt h'
  have l1 := dqs_len r
  have l2 := dqs_len r'
  refine .inr (.inr (.inr ⟨a, b, xs, ys, rfl, rfl, hs.t, hs'.t, by omega, fun e => ?_, fun _ e => ?_, fun _ _ p o hp hd => q _ _ (same_new hp) (.tup (SqN.of ⟨o, hd, upd_same⟩) (dqs_mono (same_new hp) (dqs_app r r')))⟩))
  · subst e
    cases r
    exact q _ _ (Same.refl _) h'
  · subst e
    cases r'
    rw [List.append_nil] at q
    exact q _ _ (Same.refl _) h
theorem w_addN {i j : Int} (h : Q (.int (i + j)) H) : rAddN K (.int i) (.int j) H Q := .inl ⟨i, j, rfl, rfl, h⟩
theorem w_addsN {x y : Str} (hl : x.length + y.length ≤ sizeLine) (h : Q (.str (x ++ y)) H) : rAddN K (.str x) (.str y) H Q := .inr (.inl ⟨x, y, rfl, rfl, hl, h⟩)
/-! ### the list that grows -/
theorem w_bm {T : String} {r : V → List V → Hp → VK → Prop} {to : TE} (h : to σ H fun x H1 => tyV K T x H1 ∧ tA σ H1 fun xs H2 => r x xs H2 Q) : tBM K T r to tA σ H Q := h
theorem w_tyL {R : Prop} (h : H a = some (.lst xs)) (q : R) : tyV K "list" (.ref a) H ∧ R := ⟨.inl ⟨rfl, xs, SqL.of h⟩, q⟩
theorem w_append {y : V} (h : H a = some (.lst xs)) (hl : xs.length < 1000000) (q : Q .non (upd H a (.lst (xs ++ [y])))) : rAppend (.ref a) [y] H Q := ⟨a, xs, y, rfl, rfl, h, Nat.lt_trans hl (by decide), q⟩
theorem pot_lst {W : Wd} {o : HO} (h : PotAt W H v) (e : H D = some (.lst ys)) : PotAt W (upd H D o) v := by
  obtain ⟨p, rfl, h⟩ := h
  refine ⟨p, rfl, ?_⟩
  rw [upd_ne fun z => by rw [z, e] at h; cases h]
  exact h
theorem w_irest {R : Prop} {k : Prop} (h : k) (q : R) : k ∧ R := ⟨h, q⟩
end
section
variable {K : PySem.W.Frag} {σ : L2.St} {H : Hp} {tb : TS} {nx : L2.St → Hp → Prop} {rt : VK} {a : Addr} {xs : List V} {i1 i2 : Nat}
theorem forEL2 (I : Nat → L2.St → Hp → Prop) (h0 : I 0 σ H) (hI : ∀ i σ' H', I i σ' H' → SqL K H' a xs)
    (hs : ∀ (i : Nat) x σ' H', xs[i]? = some x → I i σ' H' → ∀ H2, Same H' H2 → tb ⟨I (i + 1), rt, nx, I (i + 1)⟩ ((σ'.set i1 (some (.int (i : Int)))).set i2 (some x)) H2) (hd : ∀ σ' H', I xs.length σ' H' → nx σ' H') :
    ForOk (Ite K a) (gTup K 2 (gCons (gName i1) (gCons (gName i2) gNil))) tb nx rt σ H := by
  refine ⟨fun i m σ' H' => m = xs.length - i ∧ i ≤ xs.length ∧ I i σ' H', ⟨_, rfl, Nat.zero_le _, h0⟩, fun i m σ' H1 ⟨em, hi, w1⟩ => ?_⟩
  have s1 := hI _ _ _ w1
  by_cases hlt : i < xs.length
  · refine .inr ⟨⟨xs, xs[i], s1, List.getElem?_eq_getElem hlt⟩, I (i + 1), fun σ2 H2 w2 => ⟨_, by omega, rfl, hlt, w2⟩, fun v H2 y => ?_⟩
    obtain ⟨T, x, rfl, hT, rfl, hy⟩ := y
    have ex := hy xs s1
    exact ⟨T, _, rfl, SqT.of upd_same, rfl, _, _, rfl, _, _, rfl, rfl, hs i x σ' H1 ex w1 _ (same_new hT)⟩
  · have e : i = xs.length := by omega
    subst e
    exact .inl ⟨⟨xs, s1, Nat.le_refl _⟩, hd σ' H1 w1⟩
theorem none_of {H H' : Hp} {D : Addr} (e : Same H H') (h : H' D = none) : H D = none := by
  cases hc : H D with
  | none => rfl
  | some u => rw [e _ _ hc] at h; cases h
end
section
variable {K : PySem.W.Frag} {H : Hp} {Q : VK} {v : V} {i : Int}
theorem atI_get {α : Type} {l : List α} (h0 : 0 ≤ i) (h1 : i < l.length) : ∃ x, l[i.toNat]? = some x ∧ atI l i = some x := by
  have hn : i.toNat < l.length := by omega
  refine ⟨l[i.toNat], List.getElem?_eq_getElem hn, ?_⟩
  unfold atI ixN
  rw [if_pos h0, if_pos (by omega)]
  simp [List.getElem?_eq_getElem hn]
theorem w_ixM {α : Type} {g : α → PyData} {l : List α} (h : Dq K H v (.tuple (l.map g))) (h0 : 0 ≤ i) (h1 : i < l.length) (q : ∀ f x, l[i.toNat]? = some f → Dq K H x (g f) → Q x H) : rIxU K v (.int i) H Q := by
  obtain ⟨f, e, e2⟩ := atI_get h0 h1
  exact w_ixQT h (d := g f) (by rw [atI_map, e2]; rfl) fun x hx => q f x e hx
theorem atI_mem {α : Type} {l : List α} (h0 : -(l.length : Int) ≤ i) (h1 : i < l.length) : ∃ x, atI l i = some x ∧ x ∈ l := by
  by_cases c : 0 ≤ i
  · exact atI_of c h1
  · have hn : (i + l.length).toNat < l.length := by omega
    refine ⟨l[(i + l.length).toNat], ?_, List.getElem_mem hn⟩
    unfold atI ixN
    rw [if_neg c, if_pos h0]
    simp [List.getElem?_eq_getElem hn]
theorem w_ixMm {α : Type} {g : α → PyData} {l : List α} (h : Dq K H v (.tuple (l.map g))) (h0 : -(l.length : Int) ≤ i) (h1 : i < l.length) (q : ∀ f x, f ∈ l → Dq K H x (g f) → Q x H) : rIxU K v (.int i) H Q := by
  obtain ⟨f, e, hm⟩ := atI_mem h0 h1
  exact w_ixQT h (d := g f) (by rw [atI_map, e]; rfl) fun x hx => q f x hm hx
theorem w_ixMim {l : List Int} (h : Dq K H v (.tuple (l.map PyData.int))) (h0 : -(l.length : Int) ≤ i) (h1 : i < l.length) (q : ∀ n, n ∈ l → Q (.int n) H) : rIxU K v (.int i) H Q :=
  w_ixMm h h0 h1 fun f x hm hx => by
    rw [dq_int hx]
    exact q f hm
theorem w_ixMi {l : List Int} (h : Dq K H v (.tuple (l.map PyData.int))) (h0 : 0 ≤ i) (h1 : i < l.length) (q : ∀ n, l[i.toNat]? = some n → Q (.int n) H) : rIxU K v (.int i) H Q :=
  w_ixM h h0 h1 fun f x e hx => by
    rw [dq_int hx]
    exact q f e
theorem w_lenQTm {α : Type} {g : α → PyData} {l : List α} (h : Dq K H v (.tuple (l.map g))) (q : Q (.int l.length) H) : rLenU K [v] H Q := w_lenQT h (by
  rw [List.length_map]
  exact q)
theorem w_lenQLm {α : Type} {g : α → PyData} {l : List α} (h : Dq K H v (.list (l.map g))) (q : Q (.int l.length) H) : rLenU K [v] H Q := w_lenQL h (by
  rw [List.length_map]
  exact q)
theorem w_it {p A B : Prop} [Decidable p] (h : p) (q : A) : if decide p = true then A else B := by
  rw [decide_eq_true h]
  exact iteT q
theorem w_if {p A B : Prop} [Decidable p] (h : ¬ p) (q : B) : if decide p = true then A else B := by
  rw [decide_eq_false h]
  exact iteF q
theorem w_cut {t : TT} {ts tz : TS} {nx bk ct : L2.St → Hp → Prop} {rt : VK} {σ : L2.St} (P : L2.St → Hp → Prop) (hz : ∀ σ' H', P σ' H' → nx σ' H') (h : ∀ nx' : L2.St → Hp → Prop, (∀ σ' H', P σ' H' → nx' σ' H') → t σ H fun b H1 => if b = true then ts ⟨nx', rt, bk, ct⟩ σ H1 else tz ⟨nx', rt, bk, ct⟩ σ H1) : tIfS t ts tz ⟨nx, rt, bk, ct⟩ σ H := h nx hz
theorem w_neb {b c : Bool} (h : Q (.bl (!decide (b = c))) H) : rNeU K (.bl b) (.bl c) H Q := .inl ⟨rfl, by
  have e : decide (V.bl b = V.bl c) = decide (b = c) := by cases b <;> cases c <;> rfl
  rw [e]
  exact h⟩
theorem w_eqb {b c : Bool} (h : Q (.bl (decide (b = c))) H) : rEqU K (.bl b) (.bl c) H Q := .inl ⟨rfl, by
  have e : decide (V.bl b = V.bl c) = decide (b = c) := by cases b <;> cases c <;> rfl
  rw [e]
  exact h⟩
theorem w_same {A B : Prop} [Decidable A] [Decidable B] {D E : Prop} (h : A ↔ B) (q : E) : if (!decide (decide A = decide B)) = true then D else E := by
  have e : decide A = decide B := by rw [decide_eq_decide]; exact h
  rw [e, decide_eq_true (rfl : decide B = decide B)]
  exact iteF q
theorem w_same2 {A B : Prop} [Decidable A] [Decidable B] {D E : Prop} (h : A ↔ B) (q : E) : if decide (decide A = decide B) = true then E else D := by
  have e : decide A = decide B := by rw [decide_eq_decide]; exact h
  rw [e, decide_eq_true (rfl : decide B = decide B)]
  exact iteT q
end
/-! ### the shapes -/
inductive Kd where
  | still
  | drawn
  | step (n : Int)
  | turn (ns : List Int)
  | wth (p b : Int)
def kdD : Kd → PyData
  | .still => .tuple [.str "still"]
  | .drawn => .tuple [.str "drawn"]
  | .step n => .tuple [.str "step", .int n]
  | .turn ns => .tuple [.str "turn", .tuple (ns.map .int)]
  | .wth p b => .tuple [.str "with", .int p, .int b]
structure Fd where
  nm : Str
  br : Int
  kd : Kd
def fdD (f : Fd) : PyData := .tuple [.str f.nm, .int f.br, kdD f.kd]
structure Shp where
  fs : List Fd
  m : Int
def shD (s : Shp) : PyData := .tuple [.tuple (s.fs.map fdD), .int s.m]
def OkKd (place : Nat) (b : Int) : Kd → Prop
  | .still => True
  | .drawn => True
  | .step n => 0 ≤ n ∧ n < p2 b
  | .turn ns => 2 ≤ ns.length ∧ ns.length ≤ 12 ∧ (∀ n ∈ ns, 0 ≤ n ∧ n < p2 b) ∧ ns.Nodup
  | .wth p z => 0 ≤ p ∧ p < place ∧ -99 ≤ z ∧ z ≤ 99
def OkNm (z : Str) : Prop := 1 ≤ z.length ∧ z.length ≤ 8 ∧ ∀ c ∈ z.cps.toList, 97 ≤ c ∧ c ≤ 122
structure OkFd (place : Nat) (f : Fd) : Prop where
  nm : OkNm f.nm
  b0 : 1 ≤ f.br
  b1 : f.br ≤ 40
  kd : OkKd place f.br f.kd
structure OkShp (s : Shp) : Prop where
  l0 : 1 ≤ s.fs.length
  l1 : s.fs.length ≤ 12
  fd : ∀ i f, s.fs[i]? = some f → OkFd i f
  nd : (s.fs.map Fd.nm).Nodup
  m0 : 1 ≤ s.m
  m1 : s.m ≤ 1000000
theorem tupO_kd (k : Kd) : tupO (kdD k) := by
  cases k with
  | turn ns => exact ⟨trivial, tupOs_ints ns, trivial⟩
  | _ => simp [kdD, tupO, tupOs]
theorem tupO_fd (f : Fd) : tupO (fdD f) := ⟨trivial, trivial, tupO_kd _, trivial⟩
theorem tupO_fds (fs : List Fd) : tupOs (fs.map fdD) := tupOs_of fun d hd => by
  obtain ⟨n, _, rfl⟩ := List.mem_map.mp hd
  exact tupO_fd n
/-- heads of a shape -/
def OkHead : List Fd → List Int → Prop
  | [], [] => True
  | f :: fs, n :: ns => (0 ≤ n ∧ n < p2 f.br) ∧ OkHead fs ns
  | _, _ => False
theorem okHead_len : ∀ {fs : List Fd} {ns : List Int}, OkHead fs ns → ns.length = fs.length
  | [], [], _ => rfl
  | _ :: _, _ :: _, h => congrArg (· + 1) (okHead_len h.2)
  | [], _ :: _, h => h.elim
  | _ :: _, [], h => h.elim
theorem okHead_get : ∀ {fs : List Fd} {ns : List Int} {i : Nat} {f : Fd} {n : Int}, OkHead fs ns → fs[i]? = some f → ns[i]? = some n → 0 ≤ n ∧ n < p2 f.br
  | f :: _, n :: _, 0, _, _, h, e1, e2 => by
    simp at e1 e2
    subst e1 e2
    exact h.1
  | _ :: _, _ :: _, i + 1, _, _, h, e1, e2 => okHead_get (i := i) h.2 (by simpa using e1) (by simpa using e2)
  | [], [], _, _, _, _, e1, _ => by simp at e1
  | [], _ :: _, _, _, _, h, _, _ => h.elim
  | _ :: _, [], _, _, _, h, _, _ => h.elim
theorem okHead_snoc : ∀ {fs : List Fd} {ns : List Int} {f : Fd} {n : Int}, OkHead fs ns → 0 ≤ n → n < p2 f.br → OkHead (fs ++ [f]) (ns ++ [n])
  | [], [], _, _, _, h0, h1 => ⟨⟨h0, h1⟩, trivial⟩
  | _ :: _, _ :: _, _, _, h, h0, h1 => ⟨h.1, okHead_snoc h.2 h0 h1⟩
  | [], _ :: _, _, _, h, _, _ => h.elim
  | _ :: _, [], _, _, h, _, _ => h.elim
/-- r is the value so many places on in its row, going round -/
def GoneR (ns : List Int) (v m r : Int) : Prop := (v ∉ ns → r = v) ∧ (v ∈ ns → ns[((((ns.idxOf v : Nat) : Int) + m) % (ns.length : Int)).toNat]? = some r)
theorem GoneR.one {ns : List Int} {v m r r' : Int} (h : GoneR ns v m r) (h' : GoneR ns v m r') : r = r' := by
  by_cases c : v ∈ ns
  · exact Option.some.inj ((h.2 c).symm.trans (h'.2 c))
  · rw [h.1 c, h'.1 c]
/-- r is what the field's kind lets look for, ahead of the rest -/
def ExpK (fo ah : List Int) (more v : Int) : Kd → Int → Prop
  | .still, r => r = v
  | .drawn, r => r = v
  | .step n, r => r = v + more * n
  | .turn ns, r => GoneR ns v more r
  | .wth p b, r => ∃ x y, ah[p.toNat]? = some x ∧ fo[p.toNat]? = some y ∧ r = v + b * (x - y)
theorem ExpK.one {fo ah : List Int} {more v : Int} {k : Kd} {r r' : Int} (h : ExpK fo ah more v k r) (h' : ExpK fo ah more v k r') : r = r' := by
  cases k with
  | turn ns => exact GoneR.one h h'
  | wth p b =>
    obtain ⟨x, y, e1, e2, rfl⟩ := h
    obtain ⟨x', y', e3, e4, rfl⟩ := h'
    obtain rfl := Option.some.inj (e1.symm.trans e3)
    obtain rfl := Option.some.inj (e2.symm.trans e4)
    rfl
  | _ => exact Eq.trans h (Eq.symm h')
end Sh
/-! set(xs) of a list of ints -/
namespace ShS
open PySem Sem PySem.Spec PyProof.Rows L2
/-- a set as it begins -/
abbrev ob0 (w : World) : Obj := { cls := .type "set", dict := none, data := .set #[] 0 (.fresh 0 0 (!w.params.followText "set-order")) }
/-- a list's iterator as it begins -/
abbrev it0 (l : Addr) : Obj := { cls := .type "list_iterator", data := .fields #[.ref l, .int 0 0] }
section
variable {P : Program} {w : World} {A : Around} {E : Value → Shared → Prop} {s : Shared}
set_option maxRecDepth 100000 in
set_option maxHeartbeats 3200000 in
theorem setL_call {l : Addr} {xs : Array Value} (ns : List Int) {Q : Value → Shared → Prop} (hc : A.handled = none) (pl : s.heap.IsList l xs) (hx : IntsAre xs.toList ns) (few : ns.length + 1 < scanBound)
    (q : ∀ (h2 : Heap) (t2 c : Nat), SetR w h2 s.heap.objs.size (fun j => decide (j ∈ ns)) c → c ≤ ns.length → (∀ b o, s.heap.get? b = some o → h2.get? b = some o) → Q (.ref s.heap.objs.size) { s with heap := h2, toks := t2 }) :
    wpAny (model P w) A (call (.type "set") [.ref l]) Q E s := by
  have exz : xs.size = ns.length := (Array.length_toList (xs := xs)).symm.trans (IntsAre.length hx)
  obtain ⟨mc, ml, hmro⟩ := F.called_set.mro
  have f1 := F.called_set.made
  have f2 := F.called_set.sub
  have f3 := F.called_set.notType
  have f4 := F.called_set.canCreate
  have f5 := F.typeCall_set_1 (.ref l)
  refine wpAny_call (codeAny_of_tree ?_)
  show wpAny _ _ (callAny (.type "set") _) _ _ _
  refine wpAny_pure ⟨Code.quiet_builtin _ (by decide +kernel), codeAny_builtin F.entry_type_call ?_⟩
  rw [Around.under_plain (weight_type_call_type "set" [.ref l] []) rfl]
  repeat (any_goals (first | assumption | wp_step))
  refine codeAny_mono (code_set_led1 (.ref l) (E := E) (Q₁ := fun o2 s2 => o2 = .ref s.heap.objs.size ∧ s2 = { s with heap := s.heap.push (ob0 w) }) ⟨rfl, rfl⟩) fun r s1 hr => ?_
  cases r with
  | error e => exact hr
  | ok fl =>
    cases fl with
    | ret o2 =>
      obtain ⟨rfl, rfl⟩ := hr
      have g0 : (s.heap.push (ob0 w)).get? s.heap.objs.size = some (ob0 w) := Heap.get?_push_size _ rfl
      have g1 : Shared.TypeIs { s with heap := s.heap.push (ob0 w) } (.ref s.heap.objs.size) "set" := ⟨_, g0, rfl⟩
      have g2 := F.called_set.init.lookup
      have g3 := F.called_set.init.bind (.ref s.heap.objs.size)
      repeat (any_goals (first | assumption | wp_step))
      refine codeAny_mono (codeAny_call_builtin (R := wants (fun r s2 => r = .none ∧ ∃ h2 t2 c, s2 = { s with heap := h2, toks := t2 } ∧ SetR w h2 s.heap.objs.size (fun j => decide (j ∈ ns)) c ∧ c ≤ ns.length ∧ (∀ b o, s.heap.get? b = some o → h2.get? b = some o)) E) F.called_set.init.plain F.entry_set_init (check_set_init_1 g1 ?_)) fun r2 s2 hr2 => ?_
      · obtain ⟨⟨lc, ld, la, ls⟩, hl, kc, nl, kd⟩ := pl
        simp only at kc kd
        subst kc
        subst kd
        have hl2 : (s.heap.push (ob0 w)).get? l = some { cls := .type "list", dict := ld, data := .seq xs nl, slots := ls } := Heap.get?_push_of_some _ hl
        have k1 := F.sub_list_set
        have k2 := F.sub_list_frozenset
        have k3 : (Value.type "list" == Value.type "dict") = false := by decide
        have pl2 : (s.heap.push (ob0 w)).IsList l xs := ⟨_, hl2, rfl, nl, rfl⟩
        unfold Builtin.«set.__init__» noKeywords Builtin.Frozenset.updateFrom
        generalize hit : pyIter = itr
        wp_walk
        subst hit
        refine wpAny_pyIter_list pl2 ?_
        refine wpAny_bind (wpAny_runValue ?_)
        have lt := Heap.lt_size hl
        have sz : (s.heap.push (ob0 w)).objs.size = s.heap.objs.size + 1 := Heap.size_push ..
        have c3 : A.in1.in1.in1.handled = none := by simp [hc]
        have ne1 : l ≠ (s.heap.push (ob0 w)).objs.size := by
          rw [sz]
          exact Nat.ne_of_lt (Nat.lt_succ_of_lt lt)
        have ne2 : s.heap.objs.size ∉ [(s.heap.push (ob0 w)).objs.size, l] := fun z => by
          rw [sz] at z
          rcases List.mem_cons.mp z with z | z
          · exact Nat.ne_of_lt (Nat.lt_succ_self _) z
          · exact Nat.ne_of_gt lt (List.mem_singleton.mp z)
        have each : ∀ (i : Nat) (v : Value), xs[i]? = some v → ∃ k t, ns[i]? = some k ∧ v = .int k t := fun i v hv => by
          have hi : i < ns.length := exz ▸ (Array.getElem?_eq_some_iff.mp hv).1
          obtain ⟨t, e⟩ := IntsAre.int_at hx i v ((Array.getElem?_toList (xs := xs)).trans hv)
          exact ⟨ns[i], t, List.getElem?_eq_getElem hi, by rw [e, List.getD_eq_getElem?_getD, List.getElem?_eq_getElem hi]; rfl⟩
        refine set_update_ints ((Walks.list c3 _ l ne1 xs).toS) s.heap.objs.size ne2 ns exz few each (xs.size - 0) 0 _ (by omega) (Nat.zero_le _) ⟨⟨_, Heap.get?_push_size _ rfl, rfl, rfl⟩, (pl2.push _)⟩ ?z1 ?z2
        case z1 =>
          have g4 : ((s.heap.push (ob0 w)).push (it0 l)).get? s.heap.objs.size = some (ob0 w) := Heap.get?_push_of_some _ g0
          exact ⟨0, Nat.le_refl 0, setR_new_at g4⟩
        case z2 =>
          intro s3 c3 mv le3 R3
          obtain ⟨h3, gn, dr, tk, os⟩ := s3
          have e1 : gn = s.gens := mv.gens
          have e2 : dr = s.drawn := mv.drawn
          have e3 : os = s.os := mv.os
          subst e1 e2 e3
          show wpAny _ _ _ _ _ _
          refine wpAny_pure ?_
          show wpAny _ _ (ret Value.none) _ _ _
          refine wpAny_pure ⟨rfl, h3, tk, c3, rfl, R3, exz ▸ le3, fun b o e => ?_⟩
          have lb := Heap.lt_size e
          refine mv.heap b o (fun z => ?_) (Heap.get?_push_of_some _ (Heap.get?_push_of_some _ e))
          rcases List.mem_cons.mp z with z | z
          · exact Nat.ne_of_lt lb z
          · have z2 := List.mem_singleton.mp z
            rw [sz] at z2
            exact Nat.ne_of_lt (Nat.lt_succ_of_lt lb) z2
      · cases r2 with
        | error e => exact hr2
        | ok f =>
          cases f with
          | ret r =>
            obtain ⟨rfl, h2, t2, c, rfl, R2, le2, keep2⟩ := hr2
            repeat (any_goals (first | assumption | wp_step))
            exact q _ _ _ R2 le2 keep2
          | _ => exact hr2.elim
    | _ => exact hr.elim
end
end ShS
namespace Sh
open PySem PySem.Spec PyProof.Rows L2
/-- set(xs) -/
def rSetL (K : PySem.W.Frag) (w : World) : List V → Hp → VK → Prop := fun vs H Q => ∃ (l : Addr) (ns : List Int), vs = [.ref l] ∧ SqL K H l (ns.map V.int) ∧ ns.length ≤ 60 ∧ ∀ (p : Addr) (c : Nat), H p = none → c ≤ ns.length → Q (.ref p) (upd H p (SetO w p (fun j => decide (j ∈ ns)) c))
theorem call_setL {X : Cx} (hc : X.calm = true) : CallR X (.type "set") (rSetL X.K X.w) := by
  intro pins s σ H vs us Q I r h
  obtain ⟨l, ns, rfl, hq, few, q⟩ := h
  rw [Vals.ref1 r]
  obtain ⟨its, rv, pl, hz⟩ := I.list hq
  refine ShS.setL_call ns (I.ok.hd hc) pl.isList (by simpa using rv.ints) (by unfold scanBound; omega) fun h2 t2 c R le keep => ?_
  have hn : H s.heap.objs.size = none := I.hok.fresh (Nat.le_refl _)
  exact ⟨.ref s.heap.objs.size, _, I.laid (o := SetO X.w s.heap.objs.size (fun j => decide (j ∈ ns)) c) keep (Nat.le_refl _) (setO_new R), rfl, q _ c hn le⟩
end Sh
/-! zip of two, sorted, min -/
namespace Sh
open PySem PySem.Spec PyProof.Rows L2
open RZ
section
variable {K : PySem.W.Frag} {σ : L2.St} {H : Hp} {Q : VK} {te : TE} {tt : TT} {tA : TA} {tb : TS} {nx : L2.St → Hp → Prop} {rt : VK} {a b : Addr} {xs ys : List V} {i1 i2 : Nat} {vs : List Nat}
def GoZip (K : PySem.W.Frag) (R : It → Hp → Prop) (vs : List V) (H1 : Hp) : Prop := ∃ a b xs ys, vs = [.ref a, .ref b] ∧ ((SqL K H1 a xs ∧ SqL K H1 b ys ∧ R (Itz K a b) H1) ∨ (SqT K H1 a xs ∧ SqT K H1 b ys ∧ R (ItzT K a b) H1))
theorem w_izip {R : It → Hp → Prop} (h : tA σ H fun vs H1 => GoZip K R vs H1) : iZipA K tA σ H R := h
theorem w_goZL {R : It → Hp → Prop} (h : SqL K H a xs) (h2 : SqL K H b ys) (q : R (Itz K a b) H) : GoZip K R [.ref a, .ref b] H := ⟨a, b, xs, ys, rfl, .inl ⟨h, h2, q⟩⟩
theorem w_goZT {R : It → Hp → Prop} (h : SqT K H a xs) (h2 : SqT K H b ys) (q : R (ItzT K a b) H) : GoZip K R [.ref a, .ref b] H := ⟨a, b, xs, ys, rfl, .inr ⟨h, h2, q⟩⟩
/-- for x, y in zip(xs, ys), lists of any lengths -/
theorem forZL (I : Nat → L2.St → Hp → Prop) (h0 : I 0 σ H) (hI : ∀ i σ' H', I i σ' H' → SqL K H' a xs ∧ SqL K H' b ys)
    (hs : ∀ (i : Nat) x y σ' H', xs[i]? = some x → ys[i]? = some y → I i σ' H' → ∀ H2, Same H' H2 → tb ⟨I (i + 1), rt, nx, I (i + 1)⟩ ((σ'.set i1 (some x)).set i2 (some y)) H2) (hd : ∀ σ' H', I (min xs.length ys.length) σ' H' → nx σ' H') :
    ForOk (Itz K a b) (gTup K 2 (gCons (gName i1) (gCons (gName i2) gNil))) tb nx rt σ H := by
  refine ⟨fun i m σ' H' => m = min xs.length ys.length - i ∧ i ≤ min xs.length ys.length ∧ I i σ' H', ⟨_, rfl, Nat.zero_le _, h0⟩, fun i m σ' H1 ⟨em, hi, w1⟩ => ?_⟩
  obtain ⟨s1, s2⟩ := hI _ _ _ w1
  by_cases hlt : i < min xs.length ys.length
  · have l1 : i < xs.length := by omega
    have l2 : i < ys.length := by omega
    refine .inr ⟨⟨xs, ys, xs[i], ys[i], s1, s2, List.getElem?_eq_getElem l1, List.getElem?_eq_getElem l2⟩, I (i + 1), fun σ2 H2 w2 => ⟨_, by omega, rfl, hlt, w2⟩, fun v H2 z => ?_⟩
    obtain ⟨T, x, y, rfl, hT, rfl, hx, hy⟩ := z
    exact ⟨T, _, rfl, SqT.of upd_same, rfl, _, _, rfl, _, _, rfl, rfl, hs i x y σ' H1 (hx xs s1) (hy ys s2) w1 _ (same_new hT)⟩
  · have e : i = min xs.length ys.length := by omega
    refine .inl ⟨⟨xs, ys, s1, s2, by omega⟩, hd σ' H1 ?_⟩
    rw [← e]
    exact w1
/-- [.. for x, y in zip(t, u)], tuples of any lengths -/
theorem lcZT (hx : SqT K H a xs) (hy : SqT K H b ys) (I : Nat → List V → Hp → Prop) (hst : Stb I) (hn : xs.length ≤ 1000000) (hI : ∀ i acc H', I i acc H' → acc.length ≤ i) (h0 : ∀ H', Same H H' → I 0 [] H')
    (hs : ∀ i x y acc H', xs[i]? = some x → ys[i]? = some y → Same H H' → I i acc H' → ∀ H2, Same H' H2 → ∀ (k : VK) (k' : Hp → Prop), (∀ z H4, Same H2 H4 → I (i + 1) (acc ++ [z]) H4 → k z H4) → (∀ H3, Same H2 H3 → I (i + 1) acc H3 → k' H3) →
      wipe (((wipe σ vs).set i1 (some x)).set i2 (some y)) vs = wipe σ vs ∧ tt (((wipe σ vs).set i1 (some x)).set i2 (some y)) H2 fun b H3 => if b = true then te (((wipe σ vs).set i1 (some x)).set i2 (some y)) H3 k else k' H3)
    (hd : ∀ D acc H', H D = none → Same H H' → H' D = some (.lst acc) → I (min xs.length ys.length) acc H' → Q (.ref D) H') :
    LcOk (ItzT K a b) (gTup K 2 (gCons (gName i1) (gCons (gName i2) gNil))) tt te vs σ Q H :=
  lc_gen (n := min xs.length ys.length) I hst (by omega) hI h0
    (fun i acc H' hi s1 _ => ⟨xs, ys, xs[i]'(by omega), ys[i]'(by omega), same_t s1 hx, same_t s1 hy, List.getElem?_eq_getElem (by omega), List.getElem?_eq_getElem (by omega)⟩)
    (fun _ _ s1 _ => ⟨xs, ys, same_t s1 hx, same_t s1 hy, by omega⟩)
    (fun i acc v H' H'' hi s1 w1 z => by
      obtain ⟨T, x, y, rfl, hT, rfl, ex, ey⟩ := z
      intro k k' hk hk'
      refine ⟨T, _, rfl, SqT.of upd_same, rfl, _, _, rfl, _, _, rfl, rfl, ?_⟩
      exact hs i x y acc H' (ex xs (same_t s1 hx)) (ey ys (same_t s1 hy)) s1 w1 _ (same_new hT) k k' (fun z H4 e => hk z H4 ((same_new hT).trans e)) fun H3 e => hk' H3 ((same_new hT).trans e))
    hd
theorem w_catL (h : H a = some (.lst xs)) (h2 : H b = some (.lst ys)) (hl : xs.length + ys.length ≤ 1000000) (q : ∀ p H', H p = none → Same H H' → H' p = some (.lst (xs ++ ys)) → Q (.ref p) H') : rAddN K (.ref a) (.ref b) H Q :=
  .inr (.inr (.inl ⟨a, b, xs, ys, rfl, rfl, h, h2, Nat.le_trans hl (by decide), fun p hp => q p _ hp (same_new hp) upd_same⟩))
theorem w_min {ns : List Int} (h : SqL K H a (ns.map V.int)) (h0 : 0 < ns.length) (q : ∀ m, m ∈ ns → (∀ y, y ∈ ns → m ≤ y) → Q (.int m) H) : rMin K [.ref a] H Q := ⟨a, ns, rfl, h, h0, q⟩
def RgNew (Q : VK) (x : V) (H1 : Hp) : Prop := ∃ n : Int, x = .int n ∧ (RgOk 0 n ∧ ∀ q, H1 q = none → Q (.ref q) (upd H1 q (.lst (rgV 0 n))))
theorem w_lstRg {te : TE} (h : te σ H fun x H1 => RgNew Q x H1) : tLstRg (tRg1 te) σ H Q := h
theorem w_rgN {n : Int} (h0 : 0 ≤ n) (h1 : n ≤ 1000000) (q : ∀ p H', H p = none → Same H H' → H' p = some (.lst (((List.range n.toNat).map fun i : Nat => (i : Int)).map V.int)) → Q (.ref p) H') : RgNew Q (.int n) H :=
  ⟨n, rfl, RgOk.of_le (by omega) (by omega) (by omega) (by omega), fun p hp => q p _ hp (same_new hp) (by
    rw [upd_same, List.map_map]
    unfold rgV
    rw [Int.sub_zero]
    have e : (fun i : Nat => V.int (0 + (i : Int))) = V.int ∘ fun i : Nat => (i : Int) := by
      funext i
      show V.int (0 + (i : Int)) = V.int (i : Int)
      rw [Int.zero_add]
    rw [e])⟩
theorem w_neD {v u : V} {d e : PyData} (h : Dq K H v d) (h' : Dq K H u e) (s1 : SeqAt.shaped d = true) (s2 : SeqAt.shaped e = true) (q : Q (.bl (!PyData.eqv d e)) H) : rNeU K v u H Q := .inr ⟨d, e, dq_dp h, dq_dp h', s1, s2, q⟩
theorem w_eqD {v u : V} {d e : PyData} (h : Dq K H v d) (h' : Dq K H u e) (s1 : SeqAt.shaped d = true) (s2 : SeqAt.shaped e = true) (q : Q (.bl (PyData.eqv d e)) H) : rEqU K v u H Q := .inr ⟨d, e, dq_dp h, dq_dp h', s1, s2, q⟩
theorem eqv_nil (ns : List Int) : PyData.eqv (.list (ns.map .int)) (.list []) = decide (ns = []) := by
  cases ns with
  | nil => rfl
  | cons n r => rfl
theorem w_neNil {p : Addr} {ns : List Int} (h : SqL K H a (ns.map V.int)) (h' : SqL K H p []) (q : Q (.bl (!decide (ns = []))) H) : rNeU K (.ref a) (.ref p) H Q :=
  w_neD (.lst h (dqs_ints ns)) (.lst h' .nil) (PySem.W.shaped_ints ns) (PySem.W.shaped_ints []) (by rw [eqv_nil]; exact q)
end
theorem atI_zero {α : Type} {x : α} {r : List α} : atI (x :: r) 0 = some x := by
  unfold atI ixN
  rw [if_pos (by decide), if_pos (by rw [List.length_cons]; omega)]
  rfl
theorem atI_one {α : Type} {x y : α} {r : List α} : atI (x :: y :: r) 1 = some y := by
  unfold atI ixN
  rw [if_pos (by decide), if_pos (by rw [List.length_cons, List.length_cons]; omega)]
  rfl
theorem ints_at {ns : List Int} {i : Nat} {x : V} (h : (ns.map V.int)[i]? = some x) : ∃ n, ns[i]? = some n ∧ x = .int n := by
  rw [List.getElem?_map] at h
  cases e : ns[i]? with
  | none => rw [e] at h; cases h
  | some n => rw [e] at h; exact ⟨n, rfl, (Option.some.inj h).symm⟩
theorem map_at {α : Type} {g : α → PyData} {l : List α} {i : Nat} {d : PyData} (h : (l.map g)[i]? = some d) : ∃ n, l[i]? = some n ∧ d = g n := by
  rw [List.getElem?_map] at h
  cases e : l[i]? with
  | none => rw [e] at h; cases h
  | some n => rw [e] at h; exact ⟨n, rfl, (Option.some.inj h).symm⟩
/-! ### the window's least width (k07) -/
def InWin (w : Int) (os : List Int) (wd bl : Int) : Prop := bl < p2 wd ∧ ∀ o ∈ os, (o + bl) % p2 w < p2 wd
structure Tight (w : Int) (os : List Int) (wd bl : Int) : Prop where
  w0 : 0 ≤ wd
  b0 : 0 ≤ bl
  win : InWin w os wd bl
  least : ∀ wd' bl', 0 ≤ wd' → 0 ≤ bl' → InWin w os wd' bl' → wd ≤ wd' ∧ (wd' = wd → bl ≤ bl')
theorem Tight.one {w : Int} {os : List Int} {wd bl wd' bl' : Int} (h : Tight w os wd bl) (h' : Tight w os wd' bl') : wd = wd' ∧ bl = bl' := by
  have a := h.least wd' bl' h'.w0 h'.b0 h'.win
  have b := h'.least wd bl h.w0 h.b0 h.win
  have e : wd = wd' := by omega
  have c := a.2 e.symm
  have d := b.2 e
  exact ⟨e, by omega⟩
theorem least_of {α : Type} (f : α → Int) : ∀ (a : α) (l : List α), ∃ m ∈ a :: l, ∀ x ∈ a :: l, f m ≤ f x
  | a, [] => ⟨a, List.mem_cons_self, fun x hx => by rw [List.mem_singleton.mp hx]; exact Int.le_refl _⟩
  | a, b :: r => by
    obtain ⟨m, hm, h⟩ := least_of f b r
    by_cases c : f a ≤ f m
    · refine ⟨a, List.mem_cons_self, fun x hx => ?_⟩
      rcases List.mem_cons.mp hx with rfl | hx
      · exact Int.le_refl _
      · exact Int.le_trans c (h x hx)
    · refine ⟨m, List.mem_cons_of_mem _ hm, fun x hx => ?_⟩
      rcases List.mem_cons.mp hx with rfl | hx
      · omega
      · exact h x hx
/-- below some place where an offset or nought begins, it is no worse -/
theorem win_cand {w : Int} {os : List Int} {wd bl : Int} (hw : wd ≤ w) (b0 : 0 ≤ bl) (h : InWin w os wd bl) : ∃ c, 0 ≤ c ∧ c ≤ bl ∧ InWin w os wd c ∧ (c = 0 ∨ ∃ o ∈ os, c = (0 - o) % p2 w) := by
  have pw := p2_pos w
  have le := p2_le hw
  have nn : ∀ x, 0 ≤ x % p2 w := fun x => Int.emod_nonneg _ (Int.ne_of_gt pw)
  obtain ⟨m, hm, hl⟩ := least_of (fun o => (o + bl) % p2 w) 0 os
  have hb : (0 + bl) % p2 w = bl := by rw [Int.zero_add]; exact Int.emod_eq_of_lt b0 (by have := h.1; omega)
  have h0 : (m + bl) % p2 w ≤ bl := by
    have z : (m + bl) % p2 w ≤ (0 + bl) % p2 w := hl 0 List.mem_cons_self
    omega
  have d0 := nn (m + bl)
  have e1 := Int.mul_ediv_add_emod (m + bl) (p2 w)
  refine ⟨bl - (m + bl) % p2 w, by omega, by omega, ⟨by have := h.1; omega, fun o ho => ?_⟩, ?_⟩
  · have e2 := Int.mul_ediv_add_emod (o + bl) (p2 w)
    have z : (m + bl) % p2 w ≤ (o + bl) % p2 w := hl o (List.mem_cons_of_mem _ ho)
    have z2 := h.2 o ho
    have lt := Int.emod_lt_of_pos (o + bl) pw
    have e3 : o + (bl - (m + bl) % p2 w) = ((o + bl) % p2 w - (m + bl) % p2 w) + p2 w * ((o + bl) / p2 w) := by omega
    rw [e3, Int.add_mul_emod_self_left, Int.emod_eq_of_lt (by omega) (by omega)]
    omega
  · rcases List.mem_cons.mp hm with rfl | hm
    · left
      omega
    · right
      refine ⟨m, hm, ?_⟩
      have e3 : 0 - m = (bl - (m + bl) % p2 w) + p2 w * (-((m + bl) / p2 w)) := by
        rw [Int.mul_neg]
        omega
      have lt := h.1
      rw [e3, Int.add_mul_emod_self_left]
      exact (Int.emod_eq_of_lt (by omega) (by omega)).symm
theorem tight_of {w : Int} {os : List Int} {wd bl : Int} (w0 : 0 ≤ wd) (hw : wd ≤ w) (b0 : 0 ≤ bl) (win : InWin w os wd bl)
    (least : ∀ wd' c, 0 ≤ wd' → wd' ≤ w → 0 ≤ c → InWin w os wd' c → (c = 0 ∨ ∃ o ∈ os, c = (0 - o) % p2 w) → wd ≤ wd' ∧ (wd' = wd → bl ≤ c)) : Tight w os wd bl := by
  refine ⟨w0, b0, win, fun wd' bl' h0 h1 hi => ?_⟩
  by_cases c : wd' ≤ w
  · obtain ⟨x, x0, x1, x2, x3⟩ := win_cand c h1 hi
    have z := least wd' x h0 c x0 x2 x3
    exact ⟨z.1, fun e => Int.le_trans (z.2 e) x1⟩
  · exact ⟨by omega, fun e => by omega⟩
end Sh
/-! sets of a list of ints, sorted -/
namespace Sh
open PySem PySem.Spec PyProof.Rows L2
section
variable {K : PySem.W.Frag} {σ : L2.St} {H : Hp} {Q : VK} {te : TE} {tt : TT} {tA : TA} {tb : TS} {nx : L2.St → Hp → Prop} {rt : VK} {a b : Addr} {xs ys : List V} {i1 i2 : Nat} {vs : List Nat}
theorem w_setL {w : World} {ns : List Int} (h : SqL K H a (ns.map V.int)) (hl : ns.length ≤ 60) (q : ∀ p c H', H p = none → Same H H' → c ≤ ns.length → H' p = some (SetO w p (fun j => decide (j ∈ ns)) c) → Q (.ref p) H') : rSetL K w [.ref a] H Q :=
  ⟨a, ns, rfl, h, hl, fun p c hp hc => q p c _ hp (same_new hp) hc upd_same⟩
theorem w_sortedSet {w : World} {S : Int → Bool} {n : Nat} (h : H a = some (SetO w a S n)) (hn : n < 64) (q : ∀ (ns : List Int) p H', ns.Pairwise (· < ·) → (∀ k, k ∈ ns ↔ S k = true) → ns.length = n → H p = none → Same H H' → H' p = some (.lst (ns.map V.int)) → Q (.ref p) H') : rSortedSet w [.ref a] H Q :=
  ⟨a, S, n, rfl, h, hn, fun ns p h1 h2 h3 hp => q ns p _ h1 h2 h3 hp (same_new hp) upd_same⟩
end
end Sh
/-! texts: walked, made lists and tuples of, joined from behind -/
namespace Sh
open PySem PySem.Spec PyProof.Rows L2
/-- a text's signs, each a text -/
def chs (z : Str) : List V := z.cps.toList.map fun c => V.str ⟨#[c]⟩
theorem chs_len (z : Str) : (chs z).length = z.length := by
  unfold chs
  rw [List.length_map, Array.length_toList]
  rfl
theorem chs_vals {z : Str} {acc : Array Value} (h : ItemsOf (SignAt z) acc z.cps.size) : Vals (chs z) acc.toList := by
  refine vals_of_at ?_ fun j x u h1 h2 => ?_
  · unfold chs
    rw [List.length_map, Array.length_toList, Array.length_toList, h.1]
  · rw [Array.getElem?_toList] at h2
    obtain ⟨c, t, e1, rfl⟩ := h.2 j u h2
    unfold chs at h1
    rw [List.getElem?_map, Array.getElem?_toList, e1] at h1
    cases h1
    exact ⟨t, rfl⟩
def callor {X : Cx} {f : Value} {r r' : List V → Hp → VK → Prop} (h : CallR X f r) (h' : CallR X f r') : CallR X f (fun vs H Q => r vs H Q ∨ r' vs H Q) := by
  intro pins s σ H vs us Q I rv q
  rcases q with q | q
  · exact h pins s σ H vs us Q I rv q
  · exact h' pins s σ H vs us Q I rv q
section
variable {X : Cx}
def rListStr : List V → Hp → VK → Prop := fun vs H Q => ∃ z, vs = [.str z] ∧ z.length ≤ sizeLine ∧ ∀ p, H p = none → Q (.ref p) (upd H p (.lst (chs z)))
theorem call_listStr (hc : X.calm = true) : CallR X (.type "list") rListStr := by
  intro pins s σ H vs us Q I r h
  obtain ⟨z, rfl, hz, q⟩ := h
  obtain ⟨u, rfl, ru⟩ := vals1 r
  obtain ⟨t, rfl⟩ := ru
  refine call_list_str (I.ok.hd hc) z t (fun h' tk acc c k e hi => ?_) hz
  refine ⟨.ref s.heap.objs.size, upd H s.heap.objs.size (.lst (chs z)), I.laid (t' := tk) k (Nat.le_refl _) ⟨?_, acc.toList, c, chs_vals hi, ?_⟩, rfl, q _ (I.hok.fresh (Nat.le_refl _))⟩
  · rw [chs_len]
    exact hz
  · rw [Array.toArray_toList]
    exact e
def rTupStr : List V → Hp → VK → Prop := fun vs H Q => ∃ z, vs = [.str z] ∧ z.length ≤ sizeLine ∧ ∀ (p : Addr) (o : Obj), H p = none → o.dict = none → Q (.ref p) (upd H p (.frz o (.tup (chs z))))
theorem call_tupStr (hc : X.calm = true) : CallR X (.type "tuple") rTupStr := by
  intro pins s σ H vs us Q I r h
  obtain ⟨z, rfl, hz, q⟩ := h
  obtain ⟨u, rfl, ru⟩ := vals1 r
  obtain ⟨t, rfl⟩ := ru
  refine call_tuple_str (I.ok.hd hc) z t (fun h' tk acc k hi => ?_) hz
  have I1 : Inv X pins σ H { s with heap := h', toks := tk } := I.kept k
  have hg := Heap.get?_push_size h' (o := { cls := .type "tuple", data := .seq acc }) rfl
  refine ⟨.ref h'.objs.size, upd H h'.objs.size (.frz { cls := .type "tuple", data := .seq acc } (.tup (chs z))), I1.laid (t' := tk) (fun b o e => Heap.get?_push_of_some _ e) (Nat.le_refl _) ⟨hg, ?_, acc.toList, chs_vals hi, ⟨_, hg, rfl, ?_⟩⟩, rfl, q _ _ (I1.hok.fresh (Nat.le_refl _)) rfl⟩
  · rw [chs_len]
    exact hz
  · exact ⟨0, by rw [Array.toArray_toList]⟩
def rListU (K : PySem.W.Frag) : List V → Hp → VK → Prop := fun vs H Q => rListOf K vs H Q ∨ rListStr vs H Q
theorem u_list (hc : X.calm = true) : CallR X (.type "list") (rListU X.K) := callor call_list_of (call_listStr hc)
def rTupleU (K : PySem.W.Frag) : List V → Hp → VK → Prop := fun vs H Q => rTupleOfN K vs H Q ∨ rTupStr vs H Q
theorem u_tuple (hc : X.calm = true) : CallR X (.type "tuple") (rTupleU X.K) := callor call_tuple_ofN (call_tupStr hc)
/-- s.index(t), found -/
def rIndexS : V → List V → Hp → VK → Prop := fun x xs H Q => ∃ (a b : Str) (k : Nat), x = .str a ∧ xs = [.str b] ∧ (∃ r, Builtin.Str.occurrences a b 0 a.length 1 = k :: r) ∧ Q (.int (k : Nat)) H
theorem mt_indexS : MtR X "str.index" rIndexS := by
  intro pins s σ H x xs v us Q I rx rs h
  obtain ⟨a, b, k, rfl, rfl, ⟨r, e⟩, q⟩ := h
  obtain ⟨t, rfl⟩ := rx
  obtain ⟨u, rfl, u2, rfl⟩ := vals1 rs
  exact PySem.SC.index e ⟨.int (k : Nat), H, I.tok _, ⟨_, rfl⟩, q⟩
/-! ### sep.join(reversed(xs)) -/
theorem join_rev {prog : Program} {w : World} {A : Around} {E : Value → Shared → Prop} {s : Shared} {x : Str} {t : Tok} {Q : Value → Shared → Prop} {it l : Addr} {items : Array Value} (hh : A.handled = none)
    (hit : s.heap.IsRevIter it l ((items.size : Int) - 1)) (hl : s.heap.IsList l items) (hne : l ≠ it) (hn : items.size ≤ sizeLine)
    (hq : ∀ (h' : Heap) (acc : Array Value), (∀ b o, b ≠ it → s.heap.get? b = some o → h'.get? b = some o) → ItemsOf (fun i v => items[items.size - 1 - i]? = some v) acc items.size → ∃ k : List (Str × Tok), acc.toList = strValues k ∧ JoinOk x (k.map (·.1)) = true ∧ ∀ t' tk, Q (.str (Txt.join x (k.map (·.1))) t') { s with heap := h', toks := tk }) :
    wpAny (model prog w) A (call (.builtin "str.join") [.str x t, .ref it]) Q E s := by
  refine wpAny_call (codeAny_call_builtin F.slot_str_join.plain F.entry_str_join (F.slot_str_join.check _ _ _ _ _ _ _ _ (typeIs_str _ _ _) (F.args_str_join_2 _ _) ?_))
  rw [join_tree_other]
  refine wpAny_bind (wpAny_typeOf hit.typeIs ?_)
  show wpAny _ A.in1 ((pyIter (.ref it)).tryCatch _ >>= fun it => collect it >>= fun items => joinTail x items) _ _ s
  refine wpAny_bind (wpAny_tryCatch (wpAny_pyIter_revIter hit ?_))
  refine wpAny_bind (RT.collect_rev (A := A.in1) hh hit hl hne hn fun h' tk acc hk hacc => ?_)
  obtain ⟨k, ek, hok, hpost⟩ := hq h' acc hk hacc
  rw [ek]
  unfold JoinOk at hok
  rw [Bool.not_eq_true'] at hok
  have g : Gives (joinTail x (strValues k)) (joinMade x k) := by
    have g0 := gives_joinTail x k hok
    cases k with
    | nil => exact g0
    | cons p r => cases r with
      | nil => exact g0
      | cons q r' => exact g0
  exact g prog w A (wants Q E) _ (post_join k ⟨joinFit_length hok, fun t' tk' => hpost t' tk'⟩)
def tJoinRev (K : PySem.W.Frag) (to te : TE) : TE := fun σ H Q => to σ H fun x H1 => (∃ a, x = .str a) ∧ te σ H1 fun y H2 => ∃ (a : Str) (p : Addr) (ys : List Str), x = .str a ∧ y = .ref p ∧ SqL K H2 p (ys.map V.str) ∧ (ys.map (·.length)).sum + ys.length * a.length ≤ 16777216 ∧ Q (.str (Txt.join a ys.reverse)) H2
theorem pe_joinRev {o e : Expr} {to te : TE} {p2 pos2 apos pos : Pos} (hc : X.calm = true) (hg2 : Gl X "reversed") (hm2 : X.mg "reversed" = none) (ho : PE X o to) (he : PE X e te)
    (hs : starEach [e] X.env = (false, eval e X.env) :: starEach [] X.env := by rfl)
    (hs2 : starEach [.Call (.Name "reversed" p2) [e] [] pos2] X.env = [(false, eval (.Call (.Name "reversed" p2) [e] [] pos2) X.env)] := by rfl)
    (hbase : attributeBase o "join" X.env (eval o X.env) = eval o X.env := by rfl) (hline : (apos.endLine == pos.line) = true := by rfl) :
    PE X (.Call (.Attribute o "join" apos) [.Call (.Name "reversed" p2) [e] [] pos2] [] pos) (tJoinRev X.K to te) := by
  refine ⟨fun pins s σ H Q I h => ?_⟩
  refine PySem.Call_method1 hbase hs2 hline (thn (ho.run pins s σ H _ I h) fun v s1 z => ?_)
  obtain ⟨x, H1, I1, r1, ⟨a, rfl⟩, q1⟩ := z
  obtain ⟨t, rfl⟩ := _root_.id r1
  refine ⟨"str", _, F.plainAttrs_str, F.slot_str_join, F.type_str_join, typeIs_str _ _ _, (fun _ e => nomatch e), Calls.callWith_builtin rfl (Calls.evalArgs_plain (Calls.spliced_cons ?_))⟩
  refine Call_ (ld_blt I1 hg2 hm2 PyProof.Rows.boot_reversed (PyProof.Rows.callWith_type1 (args_cons (thn (he.run pins s1 σ H1 _ I1 q1) fun u s2 z => args_nil ?_) hs) hs rfl))
  obtain ⟨y, H2, I2, r2, a', p, ys, ea, rfl, hq, hz, q⟩ := z
  cases ea
  obtain rfl : u = Value.ref p := r2
  obtain ⟨its, rv, p', hz2⟩ := I2.list hq
  refine call_reversed_list p'.isList (Calls.spliced_nil ?_)
  have k0 : ∀ b o, s2.heap.get? b = some o → (s2.heap.push (revObj p ((its.toArray.size : Int) - 1))).get? b = some o := fun b o e => Heap.get?_push_of_some _ e
  have I3 : Inv X pins σ H2 { s2 with heap := s2.heap.push (revObj p ((its.toArray.size : Int) - 1)) } := I2.kept (t' := s2.toks) k0
  obtain ⟨f0, f1, f2, f3, f4, f5⟩ := I2.fpOk (H' := H2) (b := s2.heap.objs.size) (Nat.le_refl _) (I2.hok.fresh (Nat.le_refl _))
  have hl := p'.isList
  obtain ⟨ol, hol, _⟩ := _root_.id hl
  have hne : p ≠ s2.heap.objs.size := Nat.ne_of_lt (Heap.lt_size hol)
  have hn : its.toArray.size ≤ sizeLine := by rw [List.size_toArray, ← rv.length]; exact hz2
  refine join_rev (s := { s2 with heap := s2.heap.push (revObj p ((its.toArray.size : Int) - 1)) }) (I2.ok.hd hc) ⟨_, Heap.get?_push_size _ rfl, rfl, rfl⟩ (hl.push _) hne hn fun h' acc hk hi => ?_
  have r4 := RT.vals_rev rv hi
  rw [← List.map_reverse] at r4
  obtain ⟨k, hv, ht⟩ := strsAre_values (strs_of_vals r4)
  refine ⟨k, hv, ?_, fun t' tk => ?_⟩
  · rw [ht]
    refine joinOk_of ?_
    rw [List.map_reverse, List.sum_reverse, List.length_reverse]
    exact hz
  · rw [ht]
    exact ⟨.str _, H2, I3.turned (t' := tk) (fun b o hb e => hk b o hb e) f0 f1 f3 f4 f5, ⟨t', rfl⟩, q⟩
end
section
variable {K : PySem.W.Frag} {σ : L2.St} {H : Hp} {Q : VK} {to te : TE} {z a b : Str} {ys : List Str} {p : Addr} {tA : TA}
theorem w_joinRev (h : to σ H fun x H1 => (∃ a, x = .str a) ∧ te σ H1 fun y H2 => ∃ (a : Str) (p : Addr) (ys : List Str), x = .str a ∧ y = .ref p ∧ SqL K H2 p (ys.map V.str) ∧ (ys.map (·.length)).sum + ys.length * a.length ≤ 16777216 ∧ Q (.str (Txt.join a ys.reverse)) H2) : tJoinRev K to te σ H Q := h
theorem w_isS {R : Prop} (q : R) : (∃ c, V.str a = .str c) ∧ R := ⟨⟨a, rfl⟩, q⟩
theorem w_joinR (h : SqL K H p (ys.map V.str)) (hz : (ys.map (·.length)).sum + ys.length * a.length ≤ 16777216) (q : Q (.str (Txt.join a ys.reverse)) H) :
    ∃ (a' : Str) (p' : Addr) (ys : List Str), V.str a = .str a' ∧ V.ref p = .ref p' ∧ SqL K H p' (ys.map V.str) ∧ (ys.map (·.length)).sum + ys.length * a'.length ≤ 16777216 ∧ Q (.str (Txt.join a' ys.reverse)) H := ⟨a, p, ys, rfl, rfl, h, hz, q⟩
theorem w_listStr (h : z.length ≤ sizeLine) (q : ∀ p H', H p = none → Same H H' → H' p = some (.lst (chs z)) → Q (.ref p) H') : rListU K [.str z] H Q := .inr ⟨z, rfl, h, fun p hp => q p _ hp (same_new hp) upd_same⟩
theorem w_listUL {xs : List V} (h : SqL K H p xs) (q : ∀ p H', H p = none → Same H H' → H' p = some (.lst xs) → Q (.ref p) H') : rListU K [.ref p] H Q := .inl (w_listL h q)
theorem w_listUT {xs : List V} (h : SqT K H p xs) (q : ∀ p H', H p = none → Same H H' → H' p = some (.lst xs) → Q (.ref p) H') : rListU K [.ref p] H Q := .inl (w_listT h q)
theorem w_tupStr (h : z.length ≤ sizeLine) (q : ∀ p H', H p = none → Same H H' → TupN H' p (chs z) → Q (.ref p) H') : rTupleU K [.str z] H Q := .inr ⟨z, rfl, h, fun p o hp hd => q p _ hp (same_new hp) ⟨o, hd, upd_same⟩⟩
theorem w_tupleUN {xs : List V} (h : SqL K H p xs) (q : ∀ p H', H p = none → Same H H' → TupN H' p xs → Q (.ref p) H') : rTupleU K [.ref p] H Q := .inl (w_tupleN h q)
theorem w_tupleUT {xs : List V} (h : SqT K H p xs) (q : Q (.ref p) H) : rTupleU K [.ref p] H Q := .inl (w_tupleT h q)
theorem w_indexS {k : Nat} (h : ∃ r, Builtin.Str.occurrences a b 0 a.length 1 = k :: r) (q : Q (.int (k : Nat)) H) : rIndexS (.str a) [.str b] H Q := ⟨a, b, k, rfl, rfl, h, q⟩
abbrev rJoinU (K : PySem.W.Frag) : V → List V → Hp → VK → Prop := fun x xs H Q => ∃ a p, ∃ ys : List Str, x = .str a ∧ xs = [.ref p] ∧ (SqL K H p (ys.map V.str) ∨ SqT K H p (ys.map V.str)) ∧ (ys.map (·.length)).sum + ys.length * a.length ≤ 16777216 ∧ Q (.str (Txt.join a ys)) H
theorem w_m1 {r : V → List V → Hp → VK → Prop} (h : to σ H fun x H1 => (∃ a, x = .str a) ∧ te σ H1 fun y H2 => r x [y] H2 Q) : tM1 r to te σ H Q := h
theorem w_joinL (h : SqL K H p (ys.map V.str)) (hz : (ys.map (·.length)).sum + ys.length * a.length ≤ 16777216) (q : Q (.str (Txt.join a ys)) H) : rJoinU K (.str a) [.ref p] H Q := ⟨a, p, ys, rfl, rfl, .inl h, hz, q⟩
theorem w_joinT (h : SqT K H p (ys.map V.str)) (hz : (ys.map (·.length)).sum + ys.length * a.length ≤ 16777216) (q : Q (.str (Txt.join a ys)) H) : rJoinU K (.str a) [.ref p] H Q := ⟨a, p, ys, rfl, rfl, .inr h, hz, q⟩
theorem w_muls {n : Int} (hm : MulOk a n) (q : Q (.str (Txt.mul a n)) H) : rMulU K (.str a) (.int n) H Q := .inr (.inr (.inl ⟨a, n, rfl, rfl, hm, q⟩))
theorem w_inS {c : Nat} (q : Q (.bl (decide (c ∈ z.cps.toList))) H) : rInU K (.str ⟨#[c]⟩) (.str z) H Q := .inr ⟨c, z, rfl, rfl, q⟩
end
section
variable {K : PySem.W.Frag} {σ : L2.St} {H : Hp} {Q : VK} {te : TE} {tt : TT} {g : TG} {vs : List Nat} {tb : TS} {nx : L2.St → Hp → Prop} {rt : VK} {z : Str}
/-- [.. for c in z], z a text -/
theorem lcS (I : Nat → List V → Hp → Prop) (hst : Stb I) (hn : z.length ≤ 1000000) (hI : ∀ i acc H', I i acc H' → acc.length ≤ i) (h0 : ∀ H', Same H H' → I 0 [] H')
    (hs : ∀ i c acc H', z.cps.toList[i]? = some c → Same H H' → I i acc H' → ∀ (k : VK) (k' : Hp → Prop), (∀ y H4, Same H' H4 → I (i + 1) (acc ++ [y]) H4 → k y H4) → (∀ H3, Same H' H3 → I (i + 1) acc H3 → k' H3) →
      g (.str ⟨#[c]⟩) (wipe σ vs) H' fun σ2 H2 => wipe σ2 vs = wipe σ vs ∧ tt σ2 H2 fun b H3 => if b = true then te σ2 H3 k else k' H3)
    (hd : ∀ D acc H', H D = none → Same H H' → H' D = some (.lst acc) → I z.length acc H' → Q (.ref D) H') : LcOk (Its z) g tt te vs σ Q H :=
  lc_gen (n := z.length) I hst hn hI h0 (fun i acc H' hi _ _ => hi) (fun _ _ _ _ => Nat.le_refl _) (fun i acc x H' H'' hi s1 w1 y => by
    obtain ⟨e1, c, e2, e3⟩ := y
    subst e1
    subst e3
    exact hs i c acc _ (by rw [Array.getElem?_toList]; exact e2) s1 w1) hd
/-- for c in z, z a text -/
theorem forS (I : Nat → L2.St → Hp → Prop) (h0 : I 0 σ H)
    (hs : ∀ (i : Nat) c σ' H', z.cps.toList[i]? = some c → I i σ' H' → g (.str ⟨#[c]⟩) σ' H' fun σ2 H2 => tb ⟨I (i + 1), rt, nx, I (i + 1)⟩ σ2 H2) (hd : ∀ σ' H', I z.length σ' H' → nx σ' H') : ForOk (Its z) g tb nx rt σ H := by
  refine ⟨fun i m σ' H' => m = z.length - i ∧ i ≤ z.length ∧ I i σ' H', ⟨_, rfl, Nat.zero_le _, h0⟩, fun i m σ' H1 ⟨em, hi, w1⟩ => ?_⟩
  by_cases hlt : i < z.length
  · refine .inr ⟨hlt, I (i + 1), fun σ2 H2 w2 => ⟨_, by omega, rfl, hlt, w2⟩, fun v H2 y => ?_⟩
    obtain ⟨e1, c, e2, e3⟩ := y
    subst e1
    subst e3
    exact hs i c σ' _ (by rw [Array.getElem?_toList]; exact e2) w1
  · have e : i = z.length := by omega
    subst e
    exact .inl ⟨Nat.le_refl _, hd σ' H1 w1⟩
end
/-! ### a text's signs -/
abbrev cz (z : Str) : List Nat := z.cps.toList
theorem cz_len (z : Str) : (cz z).length = z.length := Array.length_toList
theorem cz_app (a b : Str) : cz (a ++ b) = cz a ++ cz b := by
  show (a.cps ++ b.cps).toList = _
  rw [Array.toList_append]
theorem cz_inj {a b : Str} (h : cz a = cz b) : a = b := by
  obtain ⟨x⟩ := a
  obtain ⟨y⟩ := b
  have e : x = y := Array.toList_inj.mp h
  rw [e]
theorem cz_fold (g : Array Nat) : ∀ (ys : List Str) (acc : Array Nat), (ys.foldl (fun acc p => acc ++ g ++ p.cps) acc).toList = acc.toList ++ (ys.map fun p => g.toList ++ cz p).flatten
  | [], acc => by simp
  | y :: r, acc => by
    rw [List.foldl_cons, cz_fold g r, Array.toList_append, Array.toList_append, List.map_cons, List.flatten_cons, List.append_assoc, List.append_assoc, List.append_assoc]
theorem cz_join (ys : List Str) : cz (Txt.join "" ys) = (ys.map cz).flatten := by
  cases ys with
  | nil => rfl
  | cons y r =>
    show ((r.foldl (fun acc p => acc ++ ("" : Str).cps ++ p.cps) y.cps)).toList = _
    rw [cz_fold]
    rw [List.map_cons, List.flatten_cons]
    rfl
theorem cz_mulfold (x : Array Nat) : ∀ (n : Nat) (acc : Array Nat), ((List.replicate n x).foldl (· ++ ·) acc).toList = acc.toList ++ (List.replicate n x.toList).flatten
  | 0, acc => by simp
  | n + 1, acc => by
    rw [List.replicate_succ, List.foldl_cons, cz_mulfold x n, Array.toList_append, List.replicate_succ, List.flatten_cons, List.append_assoc]
theorem cz_mul {a : Str} {n : Int} : cz (Txt.mul a n) = (List.replicate n.toNat (cz a)).flatten := by
  unfold Txt.mul
  by_cases h : n < 1
  · rw [if_pos h, show n.toNat = 0 by omega]
    rfl
  · rw [if_neg h]
    by_cases h2 : (n == 1 || a.length == 0) = true
    · rw [if_pos h2]
      rcases Bool.or_eq_true_iff.mp h2 with e | e
      · have e2 : n = 1 := eq_of_beq e
        subst e2
        show cz a = (cz a) ++ []
        rw [List.append_nil]
      · have e2 : (cz a).length = 0 := by rw [cz_len]; exact eq_of_beq e
        rw [List.eq_nil_of_length_eq_zero e2]
        simp
    · rw [if_neg h2]
      show ((List.replicate n.toNat a.cps).foldl (· ++ ·) #[]).toList = _
      rw [cz_mulfold]
      simp
theorem cz_cut (z : Str) (lo hi : Option Int) : cz (cutS z lo hi) = cutD (cz z) lo hi := by
  unfold cutS cutD
  show (List.toArray _).toList = _
  rw [List.toList_toArray, cz_len]
theorem mul_ok {a : Str} {n : Int} (h0 : 0 ≤ n) (h1 : n ≤ 1000000) (h2 : a.length ≤ 8) : MulOk a n := by
  refine ⟨by simp only [Bool.or_eq_false_iff, decide_eq_false_iff_not]; omega, fun h _ => ?_, fun _ _ => ?_⟩
  · have h3 : ((a.length : Nat) : Int) * n ≤ 8 * n := Int.mul_le_mul_of_nonneg_right (by omega) h0
    have e : ((2 : Int) ^ 63 - 1) = 9223372036854775807 := by decide
    rw [e]
    have h4 : ((a.length : Nat) : Int) ≤ 9223372036854775807 / n := Int.le_ediv_of_mul_le (by omega) (by omega)
    omega
  · unfold Builtin.Str.tooLong
    have h3 : a.length * n.toNat ≤ 8 * n.toNat := Nat.mul_le_mul_right _ h2
    rw [decide_eq_false_iff_not, sizeLine_eq]
    omega
/-! ### dicts -/
section
variable {σ : L2.St} {H : Hp} {Q : VK}
theorem w_dnewK (q : ∀ p H', H p = none → Same H H' → H' p = some (.dK []) → Q (.ref p) H') : tDNewK σ H Q := fun p hp => q p _ hp (same_new hp) upd_same
theorem w_disp1 {k : Str} {x : V} (q : ∀ p H' kvs, H p = none → Same H H' → H' p = some (.dK kvs) → Q (.ref p) H') : tDisp [(tC (.str k), tC x)] σ H Q := fun p hp =>
  ⟨upd_same, [(.inr k, x)], rfl, (by decide : 1 ≤ 15), q p _ _ hp (same_mut (same_new hp) hp) upd_same⟩
end
/-! ### numbers and their bits -/
section
variable {H : Hp} {Q : VK}
abbrev rDivmod : List V → Hp → VK → Prop := fun xs H Q => ∃ i j, xs = [V.int i, V.int j] ∧ CDivP i j ∧ ∀ p, H p = none → Q (.ref p) (upd H p (.tup [.int (i / j), .int (i % j)]))
theorem w_divmod2 {i : Int} (q : ∀ p H', H p = none → Same H H' → H' p = some (.tup [.int (i / 2), .int (i % 2)]) → Q (.ref p) H') : rDivmod [.int i, .int 2] H Q :=
  ⟨i, 2, rfl, ⟨by decide, PyProof.noPylong_small (by decide)⟩, fun p hp => q p _ hp (same_new hp) upd_same⟩
end
/-- the place's sign -/
def sgn (n : Int) (i : Nat) : Nat := 48 + (n / 2 ^ i % 2).toNat
/-- the bits, the least place first -/
def lowB (n : Int) (w : Nat) : List Nat := (List.range w).map (sgn n)
def bitsT (n : Int) (w : Nat) : Str := ⟨(lowB n w).reverse.toArray⟩
theorem cz_bitsT (n : Int) (w : Nat) : cz (bitsT n w) = (lowB n w).reverse := List.toList_toArray
theorem lowB_len (n : Int) (w : Nat) : (lowB n w).length = w := by
  unfold lowB
  rw [List.length_map, List.length_range]
theorem len_bitsT (n : Int) (w : Nat) : (bitsT n w).length = w := by rw [← cz_len, cz_bitsT, List.length_reverse, lowB_len]
theorem lowB_snoc (n : Int) (w : Nat) : lowB n (w + 1) = lowB n w ++ [sgn n w] := by
  unfold lowB
  rw [List.range_succ, List.map_append]
  rfl
theorem lowB_cons (n : Int) (w : Nat) : lowB n (w + 1) = (48 + (n % 2).toNat) :: lowB (n / 2) w := by
  unfold lowB
  rw [List.range_succ_eq_map, List.map_cons, List.map_map]
  congr 1
  · show sgn n 0 = _
    unfold sgn
    rw [Int.pow_zero, Int.ediv_one]
  · refine List.map_congr_left fun i _ => ?_
    show sgn n (i + 1) = sgn (n / 2) i
    unfold sgn
    have e : n / 2 ^ (i + 1) = n / 2 / 2 ^ i := by
      rw [Int.ediv_ediv_of_nonneg (by decide), Int.pow_succ, Int.mul_comm]
    rw [e]
theorem sgn_01 (n : Int) (i : Nat) : sgn n i = 48 ∨ sgn n i = 49 := by
  unfold sgn
  omega
theorem lowB_01 (n : Int) (w : Nat) : ∀ c ∈ lowB n w, c = 48 ∨ c = 49 := fun c hc => by
  obtain ⟨i, _, rfl⟩ := List.mem_map.mp hc
  exact sgn_01 n i
/-- the number of a row of bits, the least place first -/
def valL : List Nat → Int
  | [] => 0
  | c :: r => ((c : Int) - 48) + 2 * valL r
def numT (z : Str) : Int := valL (cz z).reverse
theorem valL_low : ∀ (w : Nat) (n : Int), 0 ≤ n → n < 2 ^ w → valL (lowB n w) = n
  | 0, n, h0, h1 => by
    have h1' : n < 1 := h1
    have e : n = 0 := by omega
    subst e
    rfl
  | w + 1, n, h0, h1 => by
    rw [Int.pow_succ] at h1
    rw [lowB_cons]
    show (((48 + (n % 2).toNat : Nat) : Int) - 48) + 2 * valL (lowB (n / 2) w) = n
    rw [valL_low w (n / 2) (by omega) (by omega)]
    omega
theorem low_valL : ∀ l : List Nat, (∀ c ∈ l, c = 48 ∨ c = 49) → lowB (valL l) l.length = l
  | [], _ => rfl
  | c :: r, h => by
    rw [List.length_cons, lowB_cons]
    have hc := h c List.mem_cons_self
    have e1 : valL (c :: r) = ((c : Int) - 48) + 2 * valL r := rfl
    have e2 : valL (c :: r) / 2 = valL r := by
      rw [e1]
      omega
    have e3 : 48 + (valL (c :: r) % 2).toNat = c := by
      rw [e1]
      omega
    rw [e2, e3, low_valL r fun x hx => h x (List.mem_cons_of_mem _ hx)]
theorem valL_snoc (c : Nat) : ∀ l : List Nat, valL (l ++ [c]) = valL l + 2 ^ l.length * ((c : Int) - 48)
  | [] => by
    show ((c : Int) - 48) + 2 * 0 = 0 + 1 * ((c : Int) - 48)
    omega
  | x :: r => by
    rw [List.cons_append, List.length_cons]
    show ((x : Int) - 48) + 2 * valL (r ++ [c]) = ((x : Int) - 48) + 2 * valL r + 2 ^ (r.length + 1) * ((c : Int) - 48)
    rw [valL_snoc c r, Int.pow_succ, Int.mul_add, Int.mul_comm (2 ^ r.length) 2, Int.mul_assoc]
    omega
theorem valL_bound : ∀ l : List Nat, (∀ c ∈ l, c = 48 ∨ c = 49) → 0 ≤ valL l ∧ valL l < 2 ^ l.length
  | [], _ => ⟨Int.le_refl _, by decide⟩
  | c :: r, h => by
    have hc := h c List.mem_cons_self
    have ih := valL_bound r fun x hx => h x (List.mem_cons_of_mem _ hx)
    have e1 : valL (c :: r) = ((c : Int) - 48) + 2 * valL r := rfl
    rw [List.length_cons, Int.pow_succ, e1]
    omega
theorem numT_bits {n : Int} {w : Nat} (h0 : 0 ≤ n) (h1 : n < 2 ^ w) : numT (bitsT n w) = n := by
  unfold numT
  rw [cz_bitsT, List.reverse_reverse]
  exact valL_low w n h0 h1
theorem bits_numT {z : Str} (h : ∀ c ∈ cz z, c = 48 ∨ c = 49) : bitsT (numT z) z.length = z := by
  refine cz_inj ?_
  rw [cz_bitsT]
  have e := low_valL (cz z).reverse fun c hc => h c (List.mem_reverse.mp hc)
  rw [List.length_reverse, cz_len] at e
  unfold numT
  rw [e, List.reverse_reverse]
theorem bits_01 {n : Int} {w : Nat} : ∀ c ∈ cz (bitsT n w), c = 48 ∨ c = 49 := fun c hc => by
  rw [cz_bitsT] at hc
  exact lowB_01 n w c (List.mem_reverse.mp hc)
theorem join_ones (l : List Nat) : Txt.join "" ((l.map fun c => (⟨#[c]⟩ : Str)).reverse) = ⟨l.reverse.toArray⟩ := by
  refine cz_inj ?_
  rw [cz_join, ← List.map_reverse, List.map_map]
  show ((l.reverse.map fun c => [c])).flatten = l.reverse.toArray.toList
  rw [List.toList_toArray]
  induction l.reverse with
  | nil => rfl
  | cons c r ih => rw [List.map_cons, List.flatten_cons, ih]; rfl
end Sh
/-! heaps alike but for the views -/
namespace Sh
open PySem PySem.Spec PyProof.Rows L2
def noE : HO → Bool
  | .ext _ => false
  | _ => true
/-- all but the views is kept -/
structure Sx (H H' : Hp) : Prop where
  keep : ∀ a u, H a = some u → noE u = true → H' a = some u
  there : ∀ a u, H a = some u → ∃ w, H' a = some w
/-- no code object, no table stands there (asked where lambdas are made) -/
def NoC (_ : Hp) (_ : Addr) : Prop := True
theorem noC {H : Hp} {p : Addr} {u : HO} (_ : H p = some u) (_ : noE u = true) : NoC H p := trivial
/-- the tables stay good -/
def TbOk (_ _ : Hp) : Prop := True
section
variable {H H' H2 H0 : Hp} {p : Addr} {o : HO}
theorem sx_mk (k : ∀ a u, H a = some u → noE u = true → H' a = some u) (t : ∀ a u, H a = some u → ∃ w, H' a = some w) (_ : TbOk H H') : Sx H H' := ⟨k, t⟩
theorem Sx.tbok (_ : Sx H H') : TbOk H H' := trivial
theorem Same.sx (e : Same H H') : Sx H H' := ⟨fun a u h _ => e a u h, fun a u h => ⟨u, e a u h⟩⟩
theorem Sx.refl (H : Hp) : Sx H H := Same.sx (Same.refl H)
theorem Sx.trans (e : Sx H H') (e' : Sx H' H2) : Sx H H2 := ⟨fun a u h hn => e'.keep a u (e.keep a u h hn) hn, fun a u h => by
  obtain ⟨w, hw⟩ := e.there a u h
  exact e'.there a w hw⟩
theorem sx_mut (e : Sx H H') (h : H p = none) (_ : NoC H' p := by exact trivial) : Sx H (upd H' p o) := ⟨fun a u ha hn => by
  rw [upd_ne (ne_of_none ha h)]
  exact e.keep a u ha hn, fun a u ha => by
  rw [upd_ne (ne_of_none ha h)]
  exact e.there a u ha⟩
/-- all but the objects of A is kept; they are new -/
theorem sx_step {A : Addr → Prop} (e0 : Sx H0 H) (n : ∀ x, A x → H0 x = none) (_ : ∀ x, A x → NoC H x) (e : ∀ x u, H x = some u → ¬ A x → H' x = some u) : Sx H0 H' := by
  have ne : ∀ x u, H0 x = some u → ¬ A x := fun x u h z => by
    rw [n x z] at h
    cases h
  refine ⟨fun x u h hn => e x u (e0.keep x u h hn) (ne x u h), fun x u h => ?_⟩
  obtain ⟨w, hw⟩ := e0.there x u h
  exact ⟨w, e x w hw (ne x u h)⟩
/-- all but two views is kept -/
theorem sx_views {W : Wd} {U U2 : HO → Prop} {o : Addr} (hp : H p = some (vw W U p)) (ho : H o = some (vw W U2 o)) (k : ∀ b u, b ≠ p → b ≠ o → H b = some u → H' b = some u) (tp : ∃ w, H' p = some w) (to_ : ∃ w, H' o = some w) : Sx H H' := by
  refine ⟨fun b u e hne => k b u (fun z => ?_) (fun z => ?_) e, fun b u e => ?_⟩
  · rw [z, hp] at e
    cases e
    cases hne
  · rw [z, ho] at e
    cases e
    cases hne
  · by_cases b1 : b = p
    · rw [b1]
      exact tp
    · by_cases b2 : b = o
      · rw [b2]
        exact to_
      · exact ⟨u, k b u b1 b2 e⟩
end
end Sh
/-! the pots that are dicts: views that count; heaps alike but for the views -/
namespace Sh
open PySem PySem.Spec PyProof.Rows L2
section
variable {K : PySem.W.Frag} {H H' H2 : Hp} {a p D : Addr} {xs : List V} {o : HO}
theorem none_sx (e : Sx H H') (h : H' D = none) : H D = none := by
  cases hc : H D with
  | none => rfl
  | some u =>
    obtain ⟨w, hw⟩ := e.there _ _ hc
    rw [hw] at h
    cases h
theorem sx_l (e : Sx H H') (h : SqL K H a xs) : SqL K H' a xs := by
  rcases h with (h | ⟨o, h⟩) | h
  · exact .inl (.inl (e.keep _ _ h rfl))
  · exact .inl (.inr ⟨o, e.keep _ _ h rfl⟩)
  · exact .inr h
theorem sx_t (e : Sx H H') (h : SqT K H a xs) : SqT K H' a xs := by
  rcases h with (h | ⟨o, h⟩) | h
  · exact .inl (.inl (e.keep _ _ h rfl))
  · exact .inl (.inr ⟨o, e.keep _ _ h rfl⟩)
  · exact .inr h
theorem sx_tup (e : Sx H H') (h : TupN H a xs) : TupN H' a xs := by
  obtain ⟨o, d, h⟩ := h
  exact ⟨o, d, e.keep _ _ h rfl⟩
theorem sx_n (e : Sx H H') (h : SqN K H a xs) : SqN K H' a xs := by
  rcases h with h | h
  · exact .inl (sx_tup e h)
  · exact .inr h
end
mutual
theorem dqx {K : PySem.W.Frag} {H H' : Hp} (e : Sx H H') : ∀ {v : V} {d : PyData}, Dq K H v d → Dq K H' v d
  | _, _, .non => .non
  | _, _, .bl b => .bl b
  | _, _, .int i => .int i
  | _, _, .str x => .str x
  | _, _, .lst h r => .lst (sx_l e h) (dqsx e r)
  | _, _, .tup h r => .tup (sx_n e h) (dqsx e r)
theorem dqsx {K : PySem.W.Frag} {H H' : Hp} (e : Sx H H') : ∀ {vs : List V} {ds : List PyData}, DqAll K H vs ds → DqAll K H' vs ds
  | _, _, .nil => .nil
  | _, _, .cons h r => .cons (dqx e h) (dqsx e r)
end
/-! ### views, two at once -/
/-- p's object u is shown as one of U' -/
theorem fn_view2 {W : Wd} {mg : Str → Option Value} {base : Heap} {k : Nat} {f : Addr} {fd : FuncData} {ps : List Str} {sp sp' : Sp} (F : FnOk W.P W.w W.K mg base CX0 k f fd ps sp)
    (hl : ∀ vs H Q E, sp' vs H Q E → vs.length = ps.length)
    (h : ∀ vs H Q E, sp' vs H Q E → ∃ (p o : Addr) (U U2 U' U2' : HO → Prop), p ≠ o ∧ (∀ u, U' u → flatO u) ∧ (∀ u, U2' u → flatO u) ∧ H p = some (vw W U p) ∧ H o = some (vw W U2 o) ∧
      ∀ u u2, U u → U2 u2 → sp vs (upd (upd H p u) o u2) (fun v H' => ∃ u' u2', U' u' ∧ U2' u2' ∧ H' p = some u' ∧ H' o = some u2' ∧ Q v (upd (upd H' p (vw W U' p)) o (vw W U2' o))) E) :
    FnOk W.P W.w W.K mg base CX0 k f fd ps sp' := by
  refine ⟨hl, fun A outer s H args us vs Q E hr e0 hb hv hs => ?_⟩
  obtain ⟨p, o, U, U2, U', U2', hpo, f1, f2, hp, ho, k⟩ := h _ _ _ _ hs
  obtain ⟨u, hu, hf, hok⟩ := hok_open e0.hok hp
  have ho1 : upd H p u o = some (vw W U2 o) := by
    rw [upd_ne (Ne.symm hpo)]
    exact ho
  obtain ⟨u2, hu2, hf2, hok2⟩ := hok_open hok ho1
  have np : ∀ b, H b = none → upd (upd H p u) o u2 b = none := fun b e => by
    have nb : b ≠ p := fun z => by
      rw [z, hp] at e
      cases e
    have nb2 : b ≠ o := fun z => by
      rw [z, ho] at e
      cases e
    rw [upd_ne nb2, upd_ne nb]
    exact e
  have e1 : Env0 W.P W.w W.K mg base A outer s (upd (upd H p u) o u2) := ⟨e0.frames, e0.mod, fun b ob q => ⟨(e0.bs b ob q).1, np b (e0.bs b ob q).2⟩, e0.bsz, e0.funs, fun b q => np b (e0.frf b q), hok2, e0.bare⟩
  refine codeAny_mono (F.run A outer s (upd (upd H p u) o u2) args us vs _ E hr e1 hb hv (k u u2 hu hu2)) fun r s' q => ?_
  cases r with
  | error e => exact q
  | ok fl =>
    cases fl with
    | ret v =>
      obtain ⟨v1, H', q1, q2, q3, q4, q5, u', u2', hu', hu2', hp', ho', q6⟩ := q
      have ho'2 : upd H' p (vw W U' p) o = some u2' := by
        rw [upd_ne (Ne.symm hpo)]
        exact ho'
      refine ⟨v1, _, q1, q2, ?_, hok_seal (hok_seal q4 hp' hu' (f1 _ hu')) ho'2 hu2' (f2 _ hu2'), q5, q6⟩
      have q7 := un_seal (W := W) (U := U2') (un_seal (W := W) (U := U') q3 hp' (f1 _ hu')) ho'2 (f2 _ hu2')
      exact un_open (un_open q7 ho1) hp
    | next => exact q
    | brk => exact q
    | cont => exact q
theorem fn_seal2 {W : Wd} {mg : Str → Option Value} {base : Heap} {k : Nat} {f : Addr} {fd : FuncData} {ps : List Str} {sp sp' : Sp} (F : FnOk W.P W.w W.K mg base CX0 k f fd ps sp)
    (hl : ∀ vs H Q E, sp' vs H Q E → vs.length = ps.length)
    (h : ∀ vs H Q E, sp' vs H Q E → sp vs H (fun v H' => ∃ (p o : Addr) (U' U2' : HO → Prop) (u' u2' : HO), p ≠ o ∧ (∀ u, U' u → flatO u) ∧ (∀ u, U2' u → flatO u) ∧ U' u' ∧ U2' u2' ∧ H' p = some u' ∧ H' o = some u2' ∧ Q v (upd (upd H' p (vw W U' p)) o (vw W U2' o))) E) :
    FnOk W.P W.w W.K mg base CX0 k f fd ps sp' := by
  refine ⟨hl, fun A outer s H args us vs Q E hr e0 hb hv hs => ?_⟩
  refine codeAny_mono (F.run A outer s H args us vs _ E hr e0 hb hv (h _ _ _ _ hs)) fun r s' q => ?_
  cases r with
  | error e => exact q
  | ok fl =>
    cases fl with
    | ret v =>
      obtain ⟨v1, H', q1, q2, q3, q4, q5, p, o, U', U2', u', u2', hpo, f1, f2, hu', hu2', hp', ho', q6⟩ := q
      have ho'2 : upd H' p (vw W U' p) o = some u2' := by
        rw [upd_ne (Ne.symm hpo)]
        exact ho'
      exact ⟨v1, _, q1, q2, un_seal (W := W) (U := U2') (un_seal (W := W) (U := U') q3 hp' (f1 _ hu')) ho'2 (f2 _ hu2'), hok_seal (hok_seal q4 hp' hu' (f1 _ hu')) ho'2 hu2' (f2 _ hu2'), q5, q6⟩
    | next => exact q
    | brk => exact q
    | cont => exact q
/-! ### the pot -/
/-- the dict: with or without the entry left -/
def boxKV (b : Bool) (o : Addr) (l s t : Int) : List (Key × V) :=
  match b with
  | false => [(.inr "own", .ref o), (.inr "seed", .int s), (.inr "turn", .int t)]
  | true => [(.inr "own", .ref o), (.inr "left", .int l), (.inr "seed", .int s), (.inr "turn", .int t)]
def BoxU (b : Bool) (o : Addr) (n : Int) : HO → Prop := fun u => ∃ l s t : Int, u = .dK (boxKV b o l s t) ∧ 0 ≤ l ∧ 0 ≤ s ∧ s < 2305843009213693952 ∧ 0 ≤ t ∧ t ≤ n
def OwnU : HO → Prop := fun u => ∃ ns : List Int, u = .lst (ns.map V.int) ∧ ∀ x ∈ ns, 0 ≤ x
theorem box_flat {b : Bool} {o : Addr} {n : Int} : ∀ u, BoxU b o n u → flatO u := fun u ⟨_, _, _, e, _⟩ => by
  rw [e]
  trivial
theorem own_flat : ∀ u, OwnU u → flatO u := fun u ⟨_, e, _⟩ => by
  rw [e]
  trivial
/-- the pot, of which at most n turns were drawn -/
def BoxAt (W : Wd) (b : Bool) (n : Int) (H : Hp) (v : V) : Prop := ∃ (p o : Addr) (k : Int), v = .ref p ∧ p ≠ o ∧ k ≤ n ∧ H p = some (vw W (BoxU b o k) p) ∧ H o = some (vw W OwnU o)
section
variable {W : Wd} {b : Bool} {n m : Int} {H H' : Hp} {v : V} {D : Addr} {ys : List V} {ob : HO}
theorem box_mono (e : Same H H') (h : BoxAt W b n H v) : BoxAt W b n H' v := by
  obtain ⟨p, o, k, rfl, hpo, hk, hp, ho⟩ := h
  exact ⟨p, o, k, rfl, hpo, hk, e _ _ hp, e _ _ ho⟩
theorem box_le (h : n ≤ m) (q : BoxAt W b n H v) : BoxAt W b m H v := by
  obtain ⟨p, o, k, rfl, hpo, hk, hp, ho⟩ := q
  exact ⟨p, o, k, rfl, hpo, Int.le_trans hk h, hp, ho⟩
theorem box_lst (h : BoxAt W b n H v) (e : H D = some (.lst ys)) : BoxAt W b n (upd H D ob) v := by
  obtain ⟨p, o, k, rfl, hpo, hk, hp, ho⟩ := h
  refine ⟨p, o, k, rfl, hpo, hk, ?_, ?_⟩
  · rw [upd_ne fun z => by rw [z, e] at hp; cases hp]
    exact hp
  · rw [upd_ne fun z => by rw [z, e] at ho; cases ho]
    exact ho
end
/-! ### dicts, read and written -/
theorem pe_dgetU {X : Cx} {o i : Expr} {td ty : TE} {pos : Pos} (hu : X.A.units + 64 < cLine) (ho : PE X o td) (hi : PE X i ty) (hs : NoSl i) : PE X (.Subscript o i pos) (tDGet td ty) := pe_dget (Nat.lt_of_le_of_lt (Nat.add_le_add_left (by decide) _) hu) ho hi hs
section
variable {K : PySem.W.Frag} {σ : L2.St} {H : Hp} {Q : VK} {a : Addr} {kvs : List (Key × V)} {z : Str} {x v : V} {td ty : TE} {xs : List V}
def DG (Q : VK) (x y : V) (H : Hp) : Prop := ∃ a v, x = .ref a ∧ DGet H a y (some v) ∧ Q v H
theorem w_dget (h : td σ H fun x H1 => ty σ H1 fun y H2 => DG Q x y H2) : tDGet td ty σ H Q := h
theorem w_dgs (h : H a = some (.dK kvs)) (e : valV kvs (.inr z) = some v) (q : Q v H) : DG Q (.ref a) (.str z) H := ⟨a, v, rfl, by rw [← e]; exact DGet.k (k := .inr z) h, q⟩
theorem w_dputs {k : Hp → Prop} (h : H a = some (.dK kvs)) (hl : kvs.length < 1000) (q : k (upd H a (.dK (putK kvs (.inr z) v)))) : rSetU (.ref a) (.str z) v H k :=
  .inr ⟨a, _, rfl, DPut.k (k := .inr z) h (Nat.lt_trans hl (by decide)), q⟩
theorem w_pop0 {y : V} (h : H a = some (.lst (y :: xs))) (q : Q y (upd H a (.lst xs))) : rPopAt (.ref a) [.int 0] H Q := ⟨a, _, 0, 0, y, rfl, rfl, h, by decide, by decide, by
  unfold seqIndex?
  rw [List.length_cons]
  simp, rfl, q⟩
end
section
variable {K : PySem.W.Frag} {H : Hp} {Q : VK} {a : Addr} {ns : List Int} {lo hi : Option Int}
theorem w_slLi (h : SqL K H a (ns.map V.int)) (q : ∀ p H', H p = none → Same H H' → H' p = some (.lst ((cutD ns lo hi).map V.int)) → Q (.ref p) H') : rSlU K (.ref a) lo hi H Q :=
  .inr (.inr ⟨a, _, rfl, h, fun p hp => q p _ hp (same_new hp) (by
    have e : cutV (ns.map V.int) lo hi = (cutD ns lo hi).map V.int := by
      unfold cutV cutD
      rw [List.length_map, List.map_take, List.map_drop]
    rw [upd_same, e])⟩)
theorem cutD_len {α : Type} {xs : List α} {lo hi : Option Int} : (cutD xs lo hi).length ≤ xs.length := by
  unfold cutD
  rw [List.length_take, List.length_drop]
  omega
end
section
variable {σ : L2.St} {H : Hp} {Q : VK}
def DB (Q : VK) (p : Addr) (ps : List (V × V)) (H3 : Hp) : Prop := H3 p = some (.dK []) ∧ ∃ kvs : List (Key × V), ps = kvs.map (fun kv => (kV kv.1, kv.2)) ∧ kvs.length ≤ 15 ∧ Q (.ref p) (upd H3 p (.dK (mergeK [] kvs)))
theorem w_disp {trs : List (TE × TE)} (h : ∀ p, H p = none → tPairs trs σ (upd H p (.dK [])) fun ps H2 => DB Q p ps H2) : tDisp trs σ H Q := h
theorem w_pairs {tk tv : TE} {r : List (TE × TE)} {F : List (V × V) → Hp → Prop} (h : tk σ H fun x H1 => tv σ H1 fun y H2 => tPairs r σ H2 fun ps H3 => F ((x, y) :: ps) H3) : tPairs ((tk, tv) :: r) σ H F := h
theorem w_pnil {F : List (V × V) → Hp → Prop} (h : F [] H) : tPairs [] σ H F := h
theorem w_DB3 {p : Addr} {x1 x2 x3 : V} (h : H p = some (.dK [])) (q : Q (.ref p) (upd H p (.dK [(.inr "own", x1), (.inr "seed", x2), (.inr "turn", x3)]))) : DB Q p [(.str "own", x1), (.str "seed", x2), (.str "turn", x3)] H :=
  ⟨h, [(.inr "own", x1), (.inr "seed", x2), (.inr "turn", x3)], rfl, (by decide : 3 ≤ 15), q⟩
theorem w_DB4 {p : Addr} {x1 x2 x3 x4 : V} (h : H p = some (.dK [])) (q : Q (.ref p) (upd H p (.dK [(.inr "own", x1), (.inr "left", x2), (.inr "seed", x3), (.inr "turn", x4)]))) : DB Q p [(.str "own", x1), (.str "left", x2), (.str "seed", x3), (.str "turn", x4)] H :=
  ⟨h, [(.inr "own", x1), (.inr "left", x2), (.inr "seed", x3), (.inr "turn", x4)], rfl, (by decide : 4 ≤ 15), q⟩
end
/-! ### is -/
def rIsU : R2 := fun x y H Q => rIsN x y H Q ∨ rIsB x y H Q
theorem u_is {X : Cx} : OpR X (compareOp .Is) rIsU := opor op_isN1 op_isBl
def rIsNotU : R2 := fun x y H Q => rNotN x y H Q ∨ rNotB x y H Q
theorem u_isnot {X : Cx} : OpR X (compareOp .IsNot) rIsNotU := opor op_notN1 op_notBl
section
variable {H : Hp} {Q : VK} {x : V} {a b : Bool}
theorem w_isN (q : Q (.bl (decide (x = .non))) H) : rIsU x .non H Q := .inl ⟨rfl, q⟩
theorem w_isB (q : Q (.bl (decide (a = b))) H) : rIsU (.bl a) (.bl b) H Q := .inr ⟨a, b, rfl, rfl, q⟩
theorem w_notN (q : Q (.bl (!decide (x = .non))) H) : rIsNotU x .non H Q := .inl ⟨rfl, q⟩
theorem w_notB (q : Q (.bl (!decide (a = b))) H) : rIsNotU (.bl a) (.bl b) H Q := .inr ⟨a, b, rfl, rfl, q⟩
end
/-- simple data of so many floors -/
def PlD : Nat → PyData → Prop
  | _, .none => True
  | _, .int _ => True
  | _, .str _ => True
  | n + 1, .tuple ds => ds.length ≤ 1000 ∧ ∀ d ∈ ds, PlD n d
  | _, _ => False
/-! ### constants -/
theorem u_mulc {X : Cx} {a b c : Int} (hc : CMulW a b) (h : a * b = c) : OpR X (binaryOp .Mult) (rCon a b c) := by
  intro pins s σ H x y v u Q I rx ry q
  obtain ⟨rfl, rfl, q⟩ := q
  exact op_mulW pins s σ H _ _ v u Q I rx ry ⟨a, b, rfl, rfl, hc, by show Q (V.int (a * b)) H; rw [h]; exact q⟩
/-! ### loops and comprehensions that draw -/
section
variable {K : PySem.W.Frag} {σ : L2.St} {H : Hp} {Q : VK} {te : TE} {tt : TT} {g : TG} {vs : List Nat} {n : Nat}
theorem lc_genX {J : It} (I : Nat → List V → Hp → Prop) (hst : Stb I) (hn : n ≤ 1000000) (hI : ∀ i acc H', I i acc H' → acc.length ≤ i) (h0 : ∀ H', Same H H' → I 0 [] H')
    (hgo : ∀ i acc H', i < n → Sx H H' → I i acc H' → J.go i H') (hstop : ∀ acc H', Sx H H' → I n acc H' → J.stop n H')
    (hs : ∀ i acc x H' H'', i < n → Sx H H' → I i acc H' → J.yld i H' x H'' → ∀ (k : VK) (k' : Hp → Prop), (∀ y H4, Sx H' H4 → I (i + 1) (acc ++ [y]) H4 → k y H4) → (∀ H3, Sx H' H3 → I (i + 1) acc H3 → k' H3) →
      g x (wipe σ vs) H'' fun σ2 H2 => wipe σ2 vs = wipe σ vs ∧ tt σ2 H2 fun b H3 => if b = true then te σ2 H3 k else k' H3)
    (hd : ∀ D acc H', H D = none → Sx H H' → H' D = some (.lst acc) → I n acc H' → Q (.ref D) H') : LcOk J g tt te vs σ Q H := fun D hD => by
  refine ⟨fun i m H' => m = n - i ∧ i ≤ n ∧ ∃ acc, Sx H H' ∧ H' D = some (.lst acc) ∧ I i acc H', ⟨n, by omega, by omega, [], Same.sx (same_new hD), upd_same, h0 _ (same_new hD)⟩, fun i m H1 ⟨em, hi, acc, s1, hD1, w1⟩ => ?_⟩
  by_cases hlt : i < n
  · refine .inr ⟨hgo i acc H1 hlt s1 w1, fun H' => i + 1 ≤ n ∧ ∃ acc, Sx H H' ∧ H' D = some (.lst acc) ∧ I (i + 1) acc H', fun H' ⟨a, b⟩ => ⟨n - (i + 1), by omega, rfl, a, b⟩, fun x H' y => ?_⟩
    refine hs i acc x H1 H' hlt s1 w1 y _ _ (fun y H4 s4 w4 => ⟨acc, s4.keep _ _ hD1 rfl, ?_, hlt, _, sx_mut (s1.trans s4) hD (noC (s4.keep _ _ hD1 rfl) rfl), upd_same, hst _ _ _ _ _ _ (s4.keep _ _ hD1 rfl) w4⟩) fun H3 s3 w3 => ⟨hlt, acc, s1.trans s3, s3.keep _ _ hD1 rfl, w3⟩
    have l1 := hI i acc H1 w1
    exact Nat.lt_of_le_of_lt (m := 1000000) (by omega) (by decide)
  · have e : i = n := by omega
    subst e
    exact .inl ⟨hstop acc H1 s1 w1, hd D acc H1 hD s1 hD1 w1⟩
theorem lcRX (I : Nat → List V → Hp → Prop) (hst : Stb I) (hn : n ≤ 1000000) (hI : ∀ i acc H', I i acc H' → acc.length ≤ i) (h0 : ∀ H', Same H H' → I 0 [] H')
    (hs : ∀ (i : Nat) acc H', i < n → Sx H H' → I i acc H' → ∀ (k : VK) (k' : Hp → Prop), (∀ y H4, Sx H' H4 → I (i + 1) (acc ++ [y]) H4 → k y H4) → (∀ H3, Sx H' H3 → I (i + 1) acc H3 → k' H3) →
      g (.int (i : Int)) (wipe σ vs) H' fun σ2 H2 => wipe σ2 vs = wipe σ vs ∧ tt σ2 H2 fun b H3 => if b = true then te σ2 H3 k else k' H3)
    (hd : ∀ D acc H', H D = none → Sx H H' → H' D = some (.lst acc) → I n acc H' → Q (.ref D) H') : LcOk (Itr 0 n) g tt te vs σ Q H :=
  lc_genX I hst hn hI h0 (fun _ _ _ h _ _ => h) (fun _ _ _ _ => Nat.le_refl _) (fun i acc x H' H'' hi s1 w1 y => by
    obtain ⟨e1, e2⟩ := y
    rw [Int.zero_add] at e2
    subst e1
    subst e2
    exact hs i acc _ hi s1 w1) hd
theorem lcLX {a : Addr} {xs : List V} (hx : SqL K H a xs) (I : Nat → List V → Hp → Prop) (hst : Stb I) (hn : xs.length ≤ 1000000) (hI : ∀ i acc H', I i acc H' → acc.length ≤ i) (h0 : ∀ H', Same H H' → I 0 [] H')
    (hs : ∀ i x acc H', xs[i]? = some x → Sx H H' → I i acc H' → ∀ (k : VK) (k' : Hp → Prop), (∀ y H4, Sx H' H4 → I (i + 1) (acc ++ [y]) H4 → k y H4) → (∀ H3, Sx H' H3 → I (i + 1) acc H3 → k' H3) →
      g x (wipe σ vs) H' fun σ2 H2 => wipe σ2 vs = wipe σ vs ∧ tt σ2 H2 fun b H3 => if b = true then te σ2 H3 k else k' H3)
    (hd : ∀ D acc H', H D = none → Sx H H' → H' D = some (.lst acc) → I xs.length acc H' → Q (.ref D) H') : LcOk (Itl K a) g tt te vs σ Q H :=
  lc_genX I hst hn hI h0 (fun i acc H' hi s1 _ => ⟨xs, xs[i], sx_l s1 hx, List.getElem?_eq_getElem hi⟩) (fun _ _ s1 _ => ⟨xs, sx_l s1 hx, Nat.le_refl _⟩) (fun i acc x H' H'' hi s1 w1 y => by
    obtain ⟨e1, e2⟩ := y
    subst e1
    exact hs i x acc _ (e2 xs (sx_l s1 hx)) s1 w1) hd
theorem lcTX {a : Addr} {xs : List V} (hx : SqT K H a xs) (I : Nat → List V → Hp → Prop) (hst : Stb I) (hn : xs.length ≤ 1000000) (hI : ∀ i acc H', I i acc H' → acc.length ≤ i) (h0 : ∀ H', Same H H' → I 0 [] H')
    (hs : ∀ i x acc H', xs[i]? = some x → Sx H H' → I i acc H' → ∀ (k : VK) (k' : Hp → Prop), (∀ y H4, Sx H' H4 → I (i + 1) (acc ++ [y]) H4 → k y H4) → (∀ H3, Sx H' H3 → I (i + 1) acc H3 → k' H3) →
      g x (wipe σ vs) H' fun σ2 H2 => wipe σ2 vs = wipe σ vs ∧ tt σ2 H2 fun b H3 => if b = true then te σ2 H3 k else k' H3)
    (hd : ∀ D acc H', H D = none → Sx H H' → H' D = some (.lst acc) → I xs.length acc H' → Q (.ref D) H') : LcOk (Itt K a) g tt te vs σ Q H :=
  lc_genX I hst hn hI h0 (fun i acc H' hi s1 _ => ⟨xs, xs[i], sx_t s1 hx, List.getElem?_eq_getElem hi⟩) (fun _ _ s1 _ => ⟨xs, sx_t s1 hx, Nat.le_refl _⟩) (fun i acc x H' H'' hi s1 w1 y => by
    obtain ⟨e1, e2⟩ := y
    subst e1
    exact hs i x acc _ (e2 xs (sx_t s1 hx)) s1 w1) hd
end
section
variable {K : PySem.W.Frag} {σ : L2.St} {H : Hp} {tb : TS} {nx : L2.St → Hp → Prop} {rt : VK} {a : Addr} {xs : List V} {i1 i2 : Nat}
/-- for place, item in enumerate(a tuple) -/
theorem forET2 (I : Nat → L2.St → Hp → Prop) (h0 : I 0 σ H) (hI : ∀ i σ' H', I i σ' H' → SqT K H' a xs)
    (hs : ∀ (i : Nat) x σ' H', xs[i]? = some x → I i σ' H' → ∀ H2, Same H' H2 → tb ⟨I (i + 1), rt, nx, I (i + 1)⟩ ((σ'.set i1 (some (.int (i : Int)))).set i2 (some x)) H2) (hd : ∀ σ' H', I xs.length σ' H' → nx σ' H') :
    ForOk (IteT K a) (gTup K 2 (gCons (gName i1) (gCons (gName i2) gNil))) tb nx rt σ H := by
  refine ⟨fun i m σ' H' => m = xs.length - i ∧ i ≤ xs.length ∧ I i σ' H', ⟨_, rfl, Nat.zero_le _, h0⟩, fun i m σ' H1 ⟨em, hi, w1⟩ => ?_⟩
  have s1 := hI _ _ _ w1
  by_cases hlt : i < xs.length
  · refine .inr ⟨⟨xs, xs[i], s1, List.getElem?_eq_getElem hlt⟩, I (i + 1), fun σ2 H2 w2 => ⟨_, by omega, rfl, hlt, w2⟩, fun v H2 y => ?_⟩
    obtain ⟨T, x, rfl, hT, rfl, hy⟩ := y
    have ex := hy xs s1
    exact ⟨T, _, rfl, SqT.of upd_same, rfl, _, _, rfl, _, _, rfl, rfl, hs i x σ' H1 ex w1 _ (same_new hT)⟩
  · have e : i = xs.length := by omega
    subst e
    exact .inl ⟨⟨xs, s1, Nat.le_refl _⟩, hd σ' H1 w1⟩
end
end Sh
/-! forms; what is of what kind -/
namespace Sh
open PySem PySem.Spec PyProof.Rows L2
theorem dvd_oddF {c : Int} (hc : c % 2 = 1) : ∀ (n : Nat) (x : Int), (2 : Int) ^ n ∣ c * x → (2 : Int) ^ n ∣ x
  | 0, x, _ => by simp
  | n + 1, x, h => by
    obtain ⟨k, hk⟩ := h
    have e0 : (2 : Int) ^ (n + 1) = 2 * 2 ^ n := by rw [Int.pow_succ, Int.mul_comm]
    rw [e0, Int.mul_assoc] at hk
    have hx : x % 2 = 0 := by
      have z : (c * x) % 2 = 0 := by rw [hk]; exact Int.mul_emod_right 2 _
      rw [Int.mul_emod, hc] at z
      omega
    obtain ⟨y, rfl⟩ : ∃ y, x = 2 * y := ⟨x / 2, by omega⟩
    have h2 : (2 : Int) ^ n ∣ c * y := ⟨k, by
      have z : c * (2 * y) = 2 * (c * y) := by rw [← Int.mul_assoc, Int.mul_comm c 2, Int.mul_assoc]
      omega⟩
    obtain ⟨w, hw⟩ := dvd_oddF hc n y h2
    exact ⟨w, by rw [hw, e0, Int.mul_assoc]⟩
theorem turn_neF {b f c i j : Int} (hc : c % 2 = 1) (h0 : 0 ≤ i) (h1 : i < j) (h2 : j < p2 b) (e : (f + c * i) % p2 b = (f + c * j) % p2 b) : False := by
  have hd : p2 b ∣ c * (j - i) := by
    have z : (f + c * j) - (f + c * i) = c * (j - i) := by
      rw [Int.mul_sub]
      omega
    rw [← z]
    exact Int.dvd_of_emod_eq_zero (Int.emod_eq_emod_iff_emod_sub_eq_zero.mp e.symm)
  have h3 := dvd_oddF hc b.toNat _ hd
  have h4 := Int.le_of_dvd (by omega) h3
  have h5 : p2 b = 2 ^ b.toNat := rfl
  omega
inductive Wy where
  | keep
  | whole
  | low (w l : Int)
def wyD : Wy → PyData
  | .keep => .tuple [.str "keep"]
  | .whole => .tuple [.str "whole"]
  | .low w l => .tuple [.str "low", .int w, .int l]
structure Fm where
  r : Int
  c : Int
  ws : List Wy
def fmD (f : Fm) : PyData := .tuple [.int f.r, .int f.c, .tuple (f.ws.map wyD)]
def OkWy (b : Int) : Wy → Prop
  | .keep => True
  | .whole => True
  | .low w l => 1 ≤ w ∧ w ≤ b ∧ 0 ≤ l ∧ l < p2 w
structure OkFm (s : Shp) (f : Fm) : Prop where
  r0 : 1 ≤ f.r
  r1 : f.r ≤ 40
  c0 : 1 ≤ f.c
  c1 : f.c ≤ 40
  len : f.ws.length = s.fs.length
  ok : ∀ (i : Nat) w fd, f.ws[i]? = some w → s.fs[i]? = some fd → OkWy fd.br w
theorem tupO_wy (w : Wy) : tupO (wyD w) := by
  cases w <;> simp [wyD, tupO, tupOs]
theorem tupO_wys (ws : List Wy) : tupOs (ws.map wyD) := tupOs_of fun d hd => by
  obtain ⟨n, _, rfl⟩ := List.mem_map.mp hd
  exact tupO_wy n
theorem tupO_fm (f : Fm) : tupO (fmD f) := ⟨trivial, trivial, tupO_wys _, trivial⟩
/-- a whole number from lo to hi -/
def betwD (lo hi : Int) : PyData → Bool
  | .int i => decide (lo ≤ i) && decide (i ≤ hi)
  | _ => false
def lowD (b : Int) (s : Str) (d1 d2 : PyData) : Bool := decide (s = "low") && (betwD 1 b d1 && match d1 with
  | .int w => betwD 0 (p2 w - 1) d2
  | _ => false)
def wayD (b : Int) : PyData → Bool
  | .tuple [.str s, d1, d2] => lowD b s d1 d2
  | .tuple [.str s] => decide (s = "keep") || decide (s = "whole")
  | _ => false
def formD (s : Shp) : PyData → Bool
  | .tuple [d0, d1, .tuple ws] => betwD 1 40 d0 && (betwD 1 40 d1 && (decide (ws.length = s.fs.length) && (s.fs.zip ws).all fun fw => wayD fw.1.br fw.2))
  | _ => false
theorem betw_ok {lo hi i : Int} (h0 : lo ≤ i) (h1 : i ≤ hi) : betwD lo hi (.int i) = true := by
  show (decide (lo ≤ i) && decide (i ≤ hi)) = true
  rw [decide_eq_true h0, decide_eq_true h1]
  rfl
theorem way_ok {b : Int} {w : Wy} (h : OkWy b w) : wayD b (wyD w) = true := by
  cases w with
  | keep => rfl
  | whole => rfl
  | low w l =>
    obtain ⟨h0, h1, h2, h3⟩ := h
    show (decide (("low" : Str) = "low") && (betwD 1 b (.int w) && betwD 0 (p2 w - 1) (.int l))) = true
    rw [betw_ok h0 h1, betw_ok h2 (by omega), decide_eq_true rfl]
    rfl
theorem form_ok {s : Shp} {f : Fm} (h : OkFm s f) : formD s (fmD f) = true := by
  show (betwD 1 40 (.int f.r) && (betwD 1 40 (.int f.c) && (decide ((f.ws.map wyD).length = s.fs.length) && (s.fs.zip (f.ws.map wyD)).all fun fw => wayD fw.1.br fw.2))) = true
  rw [betw_ok h.r0 h.r1, betw_ok h.c0 h.c1, decide_eq_true (by rw [List.length_map]; exact h.len)]
  simp only [Bool.true_and]
  rw [List.all_eq_true]
  intro fw hfw
  obtain ⟨i, hi⟩ := List.getElem?_of_mem hfw
  obtain ⟨e1, e2⟩ := List.getElem?_zip_eq_some.mp hi
  rw [List.getElem?_map] at e2
  cases ew : f.ws[i]? with
  | none => rw [ew] at e2; cases e2
  | some w =>
    rw [ew] at e2
    rw [← Option.some.inj e2]
    exact way_ok (h.ok i w fw.1 ew e1)
section
variable {K : PySem.W.Frag} {H : Hp} {Q : VK} {a : Addr} {z : Str} {zs : List Str}
theorem inV_strs (z : Str) : ∀ zs : List Str, inV (.str z) (zs.map V.str) = zs.any fun y => decide (y = z)
  | [] => rfl
  | m :: r => by
    have e := inV_strs z r
    unfold inV at e ⊢
    rw [List.map_cons, List.any_cons, e, List.any_cons]
    have e2 : (m == z) = decide (m = z) := by
      by_cases h : m = z
      · subst h
        simp
      · simp [h]
    show (m == z || _) = _
    rw [e2]
theorem w_inTs (h : SqT K H a (zs.map V.str)) (q : Q (.bl (zs.any fun y => decide (y = z))) H) : rInU K (.str z) (.ref a) H Q :=
  .inl ⟨a, _, rfl, .inr h, rfl, (by
    rw [List.all_map]
    exact List.all_eq_true.mpr fun _ _ => rfl), by
    rw [inV_strs]
    exact q⟩
end
end Sh
/-! t * n of a tuple: the new one has no dict -/
namespace ShT
open PySem PySem.Spec PyProof.Rows L2
theorem tuple_mul1 (l : Addr) (items : Array Value) (n : Nat) (dd : Option Addr) (sl : Array (Option Value)) (u : Tok) :
    Meets (Builtin.«tuple.__mul__» ⟨[.ref l, .int 1 u], []⟩) (fun _ R s => s.heap.get? l = some { cls := .type "tuple", dict := dd, data := .seq items n, slots := sl } ∧ R (.ok (.ret (Value.ref l))) s) :=
  .of_wp fun prog w A R s h => by
    obtain ⟨hp, g, d, tk, os⟩ := s
    obtain ⟨hl, h⟩ := h
    have f1 := AutoSeq1.idx_int
    have c0 : (decide ((1 : Int) < -(2 ^ 63)) || decide ((1 : Int) ≥ 2 ^ 63)) = false := by decide
    have c1 : (items.isEmpty || (1 : Int) == 1) = true := by rw [show ((1 : Int) == 1) = true from rfl, Bool.or_true]
    wp_walk using PySem.AutoSeq1.wpAny_loadPart' hl
    repeat (first
      | (refine wpAny_ite_false (decide_eq_false (by rw [c0]; exact Bool.false_ne_true)) ?_; wp_walk using PySem.AutoSeq1.wpAny_loadPart' hl)
      | (refine wpAny_ite_true (decide_eq_true c1) ?_; wp_walk using PySem.AutoSeq1.wpAny_loadPart' hl))
    exact ⟨_, rfl, h⟩
end ShT
namespace Sh
open PySem PySem.Spec PyProof.Rows L2
def rRepN (K : PySem.W.Frag) : R2 := fun x y H Q => ∃ l k xs, x = .ref l ∧ y = .int k ∧ SqT K H l xs ∧ xs ≠ [] ∧ 1 ≤ k ∧ k ≤ 1000 ∧ xs.length ≤ 1000 ∧ (k = 1 → Q (.ref l) H) ∧ (2 ≤ k → ∀ (p : Addr) (o : Obj), H p = none → o.dict = none → Q (.ref p) (upd H p (.frz o (.tup (List.replicate k.toNat xs).flatten))))
theorem op_repN {X : Cx} : OpR X (binaryOp .Mult) (rRepN X.K) := by
  intro pins s σ H x y v u Q I rx ry h
  obtain ⟨l, k, xs, rfl, rfl, hT, hne, h1, h2, hz, q1, q2⟩ := h
  cases rx
  obtain ⟨t, rfl⟩ := ry
  obtain ⟨its, r, ⟨⟨cls, dd, data, sl⟩, ho, hc, n, hd⟩, hs⟩ := I.tuple hT
  simp only at hc hd
  subst hc hd
  have hle : its.length = xs.length := r.length.symm
  have hn : its ≠ [] := fun e => hne (by
    rw [e] at hle
    exact List.eq_nil_of_length_eq_zero hle.symm)
  by_cases hk : k = 1
  · subst hk
    exact wpAny_binaryOp_repeat_ref (T := "tuple") (U := "int") (by decide) ⟨_, ho, rfl⟩ (fun s' => typeIs_int s' 1 t) noFill_tuple_mul F.fills_int_mul F.slot_int_rmul repeat_tuple F.slot_int_index.lookup
      (call_meets F.slot_int_rmul (typeIs_int s 1 t) F.entry_int_rmul (F.args_int_rmul_2 _ _) (int_rmul_tuple 1 t l its.toArray n dd sl)
        ⟨ho, rfl, ⟨_, ho, rfl⟩, call_meets F.slot_tuple_mul ⟨_, ho, rfl⟩ F.entry_tuple_mul (F.args_tuple_mul_2 _ _) (ShT.tuple_mul1 l its.toArray n dd sl t) ⟨ho, ⟨.ref l, H, I, rfl, q1 rfl⟩⟩⟩)
  have hi : its.toArray.isEmpty = false := by
    cases its with
    | nil => exact absurd rfl hn
    | cons a b => rfl
  have hsz0 : its.toArray.size = xs.length := by rw [List.size_toArray, hle]
  have hm : ((its.toArray.size : Nat) : Int) * k ≤ 1000000 := by
    rw [hsz0]
    have a1 : ((xs.length : Nat) : Int) * k ≤ 1000 * k := Int.mul_le_mul_of_nonneg_right (by omega) (by omega)
    omega
  have flen : (List.replicate k.toNat its).flatten.length ≤ sizeLine := by
    rw [PyProof.Rows.lm_len_rep_flat, hle, sizeLine_eq]
    have a1 : k.toNat * xs.length ≤ 1000 * 1000 := Nat.mul_le_mul (by omega) hz
    omega
  have c0 : (decide (k < -(2 ^ 63)) || decide (k ≥ 2 ^ 63)) = false := by
    rw [decide_eq_false (by omega), decide_eq_false (by omega)] <;> rfl
  have c1 : (its.toArray.isEmpty || k == 1) = false := by
    rw [hi, Bool.false_or]
    exact beq_eq_false_iff_ne.mpr (by omega)
  have c2 : (decide (k ≤ 0) || its.toArray.isEmpty) = false := by
    rw [hi, Bool.or_false]
    exact decide_eq_false (by omega)
  have c4 : Builtin.Tuple.tupleTooMany (((its.toArray.size : Nat) : Int) * k) = false := by
    unfold Builtin.Tuple.tupleTooMany
    rw [sizeLine_eq]
    exact decide_eq_false (by omega)
  refine wpAny_binaryOp_repeat_ref (T := "tuple") (U := "int") (by decide) ⟨_, ho, rfl⟩ (fun s' => typeIs_int s' k t) noFill_tuple_mul F.fills_int_mul F.slot_int_rmul repeat_tuple F.slot_int_index.lookup
    (call_meets F.slot_int_rmul (typeIs_int s k t) F.entry_int_rmul (F.args_int_rmul_2 _ _) (int_rmul_tuple k t l its.toArray n dd sl)
      ⟨ho, rfl, ⟨_, ho, rfl⟩, call_meets F.slot_tuple_mul ⟨_, ho, rfl⟩ F.entry_tuple_mul (F.args_tuple_mul_2 _ _) (tuple_mulW l its.toArray n dd sl k t c0 c1 c2 (by omega) c4 (by rw [size_rep, List.size_toArray]; exact flen)) ⟨ho, ?_⟩⟩)
  rw [size_rep]
  have hg := Heap.get?_push_size s.heap (o := { cls := .type "tuple", data := .seq (List.replicate k.toNat its).flatten.toArray }) rfl
  refine ⟨.ref s.heap.objs.size, _, I.laid (t' := s.toks) (o := .frz { cls := .type "tuple", data := .seq (List.replicate k.toNat its).flatten.toArray } (.tup (List.replicate k.toNat xs).flatten)) (fun b ob q => Heap.get?_push_of_some _ q) (Nat.le_refl _) ?_, rfl, q2 (by omega) _ _ (I.hok.fresh (Nat.le_refl _)) rfl⟩
  exact ⟨hg, by rw [PyProof.Rows.lm_len_rep_flat, sizeLine_eq]; have a1 : k.toNat * xs.length ≤ 1000 * 1000 := Nat.mul_le_mul (by omega) hz; omega, _, r.rep k.toNat, IsTup.new _ _⟩
def rMulN (K : PySem.W.Frag) : R2 := fun x y H Q => rI CMul (fun i j => .int (i * j)) x y H Q ∨ rI CMulW (fun i j => .int (i * j)) x y H Q ∨ rMulS x y H Q ∨ rRep x y H Q ∨ rRepN K x y H Q
theorem u_mulN {X : Cx} : OpR X (binaryOp .Mult) (rMulN X.K) := opor op_mul (opor op_mulW (opor op_mulS (opor op_rep op_repN)))
section
variable {K : PySem.W.Frag} {H : Hp} {Q : VK} {i j n : Int} {a : Str} {v : V} {d : PyData}
theorem w_mulN (hc : CMul i j) (h : Q (.int (i * j)) H) : rMulN K (.int i) (.int j) H Q := .inl ⟨i, j, rfl, rfl, hc, h⟩
theorem w_mulNw (hc : CMulW i j) (h : Q (.int (i * j)) H) : rMulN K (.int i) (.int j) H Q := .inr (.inl ⟨i, j, rfl, rfl, hc, h⟩)
theorem w_mulNs (hm : MulOk a n) (q : Q (.str (Txt.mul a n)) H) : rMulN K (.str a) (.int n) H Q := .inr (.inr (.inl ⟨a, n, rfl, rfl, hm, q⟩))
theorem dqs_rep : ∀ (m : Nat) {x : V}, Dq K H x d → DqAll K H (List.replicate m [x]).flatten (List.replicate m d)
  | 0, _, _ => .nil
  | m + 1, _, h => .cons h (dqs_rep m h)
/-- (x,) * n -/
theorem w_mulN1 (h : Dq K H v (.tuple [d])) (h0 : 1 ≤ n) (h1 : n ≤ 1000) (q : ∀ x H', Same H H' → Dq K H' x (.tuple (List.replicate n.toNat d)) → Q x H') : rMulN K v (.int n) H Q := by
  obtain ⟨a, xs, rfl, hs, r⟩ := dq_tt h
  cases r with
  | cons hx r =>
    cases r
    refine .inr (.inr (.inr (.inr ⟨a, n, _, rfl, rfl, hs.t, (fun z => nomatch z), h0, h1, (show (1 : Nat) ≤ 1000 by decide), fun e => ?_, fun _ p o hp hd => ?_⟩)))
    · subst e
      exact q _ _ (Same.refl _) (.tup hs (dqs_one hx))
    · exact q _ _ (same_new hp) (.tup (.inl ⟨o, hd, upd_same⟩) (dqs_mono (same_new hp) (dqs_rep _ hx)))
end
end Sh
/-! zip of three tuples -/
namespace Sh
open PySem PySem.Spec PyProof.Rows L2
def ItzT3 (K : PySem.W.Frag) (a b c : Addr) : It :=
  ⟨fun i H => ∃ (xs ys zs : List V) (x y z : V), SqT K H a xs ∧ SqT K H b ys ∧ SqT K H c zs ∧ xs[i]? = some x ∧ ys[i]? = some y ∧ zs[i]? = some z,
    fun i H v H' => ∃ T x y z, v = .ref T ∧ H T = none ∧ H' = upd H T (.tup [x, y, z]) ∧ (∀ xs, SqT K H a xs → xs[i]? = some x) ∧ (∀ ys, SqT K H b ys → ys[i]? = some y) ∧ ∀ zs, SqT K H c zs → zs[i]? = some z,
    fun i H => ∃ xs ys zs : List V, SqT K H a xs ∧ SqT K H b ys ∧ SqT K H c zs ∧ i ≤ xs.length ∧ i ≤ ys.length ∧ i ≤ zs.length ∧ (i = xs.length ∨ i = ys.length ∨ i = zs.length)⟩
theorem iter_ne {h : Heap} {it t : Addr} {i : Nat} {t0 : Addr} {items : Array Value} (x : h.IsTupleIter it t0 i) (p : h.IsTuple t items) : t ≠ it := fun z => by
  obtain ⟨o1, h1, c1, _⟩ := p
  obtain ⟨o2, h2, c2, _⟩ := x
  rw [z, h2] at h1
  cases h1
  rw [c2] at c1
  injection c1 with c1
  exact absurd c1 (by decide)
theorem turn_zipT3 {P : Program} {w : World} {K : PySem.W.Frag} {elts : List Expr} {kk : Nat} {tpos : Pos} {a b c z TI TO i1 i2 i3 : Addr} (S : ZipSep3 z TI TO i1 i2 i3 [i1, a] [i2, b] [i3, c]) :
    Turn P w K (.Tuple elts kk tpos) (ItzT3 K a b c) [z, TI, TO, i1, i2, i3] z (fun i h => IsZip h z TI TO .none ∧ IsTupOf3 h TI (.ref i1) (.ref i2) (.ref i3) ∧ (∃ x y u, IsTupOf3 h TO x y u) ∧ h.IsTupleIter i1 a i ∧ h.IsTupleIter i2 b i ∧ h.IsTupleIter i3 c i) where
  mem := by simp
  obj := fun i h st q hq => by
    obtain ⟨hz, hTI, ⟨x, y, u, hTO⟩, ⟨o1, e1, _, d1⟩, ⟨o2, e2, _, d2⟩, ⟨o3, e3, _, d3⟩⟩ := st
    have e' : q = z ∨ q = TI ∨ q = TO ∨ q = i1 ∨ q = i2 ∨ q = i3 := by simpa using hq
    rcases e' with r | r | r | r | r | r
    · rw [r]; exact ⟨_, hz, fun v q => nomatch q⟩
    · rw [r]; exact ⟨_, hTI, fun v q => nomatch q⟩
    · rw [r]; exact ⟨_, hTO, fun v q => nomatch q⟩
    · rw [r]; exact ⟨o1, e1, fun v q => by rw [d1] at q; cases q⟩
    · rw [r]; exact ⟨o2, e2, fun v q => by rw [d2] at q; cases q⟩
    · rw [r]; exact ⟨o3, e3, fun v q => by rw [d3] at q; cases q⟩
  keep := fun i h h' st k => by
    obtain ⟨hz, hTI, ⟨x, y, u, hTO⟩, h1, h2, h3⟩ := st
    exact ⟨k z (by simp) _ hz, k TI (by simp) _ hTI, ⟨x, y, u, k TO (by simp) _ hTO⟩, h1.at fun o q => k i1 (by simp) o q, h2.at fun o q => k i2 (by simp) o q, h3.at fun o q => k i3 (by simp) o q⟩
  item := by
    intro X hP hw hK hc i pins s σ H E I hf st hg
    subst hP hw hK
    obtain ⟨hz, hTI, ⟨x0, y0, u0, hTO⟩, h1, h2, h3⟩ := st
    obtain ⟨xs, ys, zs, x, y, u, hqx, hqy, hqz, hx, hy, hu⟩ := hg
    obtain ⟨its, rv, p, _⟩ := I.tuple hqx
    obtain ⟨its2, rv2, p2, _⟩ := I.tuple hqy
    obtain ⟨its3, rv3, p3, _⟩ := I.tuple hqz
    have pt : s.heap.IsTuple a its.toArray := p
    have pt2 : s.heap.IsTuple b its2.toArray := p2
    have pt3 : s.heap.IsTuple c its3.toArray := p3
    obtain ⟨w1, hw1, r1⟩ := rv.get hx
    obtain ⟨w2, hw2, r2⟩ := rv2.get hy
    obtain ⟨w3, hw3, r3⟩ := rv3.get hu
    have hzl : z < s.heap.objs.size := Heap.lt_size hz
    have lt1 : i < its.toArray.size := by have l := (List.getElem?_eq_some_iff.mp hw1).1; simpa using l
    have lt2 : i < its2.toArray.size := by have l := (List.getElem?_eq_some_iff.mp hw2).1; simpa using l
    have lt3 : i < its3.toArray.size := by have l := (List.getElem?_eq_some_iff.mp hw3).1; simpa using l
    have hh : X.A.in1.handled = none := I.ok.hd hc
    refine wpAny_pyNext_zipD3_item S (Draws.tuple hh i1 a (iter_ne h1 pt) its.toArray) (Draws.tuple hh i2 b (iter_ne h2 pt2) its2.toArray) (Draws.tuple hh i3 c (iter_ne h3 pt3) its3.toArray) hz hTI hTO ⟨h1, pt⟩ ⟨h2, pt2⟩ ⟨h3, pt3⟩ lt1 lt2 lt3 fun x1 x2 x3 h' tk q1 q2 q3 z' TO' s1 s2 s3 hT hsz hk => ?_
    have e1 : x1 = w1 := by
      have px : its.toArray[i]? = some x1 := q1
      rw [List.getElem?_toArray, hw1] at px
      exact (Option.some.inj px).symm
    have e2 : x2 = w2 := by
      have px : its2.toArray[i]? = some x2 := q2
      rw [List.getElem?_toArray, hw2] at px
      exact (Option.some.inj px).symm
    have e3 : x3 = w3 := by
      have px : its3.toArray[i]? = some x3 := q3
      rw [List.getElem?_toArray, hw3] at px
      exact (Option.some.inj px).symm
    subst e1 e2 e3
    refine ⟨_, rfl, wpAny_letOwnedTupleGo_zip (s := { s with heap := h', toks := tk }) z' fun h'' z'' sb => ?_⟩
    have hT2 : h''.get? s.heap.objs.size = some { cls := .type "tuple", data := .seq #[x1, x2, x3] } := (sb.2 _ (Nat.ne_of_gt hzl)).trans hT
    have new : ObjOk X.prog X.w (upd H s.heap.objs.size (.tup [x, y, u])) h'' s.heap.objs.size (.tup [x, y, u]) :=
      ⟨by show 3 ≤ sizeLine; decide, [x1, x2, x3], .cons r1 (.cons r2 (.cons r3 .nil)), ⟨_, hT2, rfl, _, rfl⟩⟩
    have I1 : Inv X pins σ (upd H s.heap.objs.size (.tup [x, y, u])) { s with heap := h'', toks := tk } :=
      I.turnedNew (t' := tk) (ch := [z, TI, TO, i1, i2, i3]) (fun q o hb e => (sb.2 q (fun q' => hb (by simp [q']))).trans (hk q o (fun q' => hb (by simp [q'])) (fun q' => hb (by simp [q'])) (fun q' => hb (by simp [q'])) (fun q' => hb (by simp [q'])) (fun q' => hb (by simp [q'])) e)) hf (Nat.le_refl _) new
    have ni1 : i1 ≠ z := fun e => S.zf1 (by rw [← e]; exact S.mem1)
    have ni2 : i2 ≠ z := fun e => S.zf2 (by rw [← e]; exact S.mem2)
    have ni3 : i3 ≠ z := fun e => S.zf3 (by rw [← e]; exact S.mem3)
    refine ⟨.ref s.heap.objs.size, _, I1, rfl, ⟨_, x, y, u, rfl, I.hok.fresh (Nat.le_refl _), rfl, fun l hl => by rw [I.tuple_inj hl hqx]; exact hx, fun l hl => by rw [I.tuple_inj hl hqy]; exact hy, fun l hl => by rw [I.tuple_inj hl hqz]; exact hu⟩, ⟨z'', ?_, ⟨x1, x2, x3, ?_⟩, ?_, ?_, ?_⟩, fun q hcm => ?_⟩
    · exact (sb.2 _ S.TIz).trans (hk _ _ S.TIz S.TITO S.TIi1 S.TIi2 S.TIi3 hTI)
    · exact (sb.2 _ S.TOz).trans TO'
    · exact s1.1.at fun o q => (sb.2 _ ni1).trans q
    · exact s2.1.at fun o q => (sb.2 _ ni2).trans q
    · exact s3.1.at fun o q => (sb.2 _ ni3).trans q
    · have hlt : q < s.heap.objs.size := by
        have e' : q = z ∨ q = TI ∨ q = TO ∨ q = i1 ∨ q = i2 ∨ q = i3 := by simpa using hcm
        rcases e' with r | r | r | r | r | r
        · rw [r]; exact hzl
        · rw [r]; exact Heap.lt_size hTI
        · rw [r]; exact Heap.lt_size hTO
        · rw [r]; obtain ⟨_, e1, _⟩ := h1; exact Heap.lt_size e1
        · rw [r]; obtain ⟨_, e2, _⟩ := h2; exact Heap.lt_size e2
        · rw [r]; obtain ⟨_, e3, _⟩ := h3; exact Heap.lt_size e3
      rw [upd_ne (Nat.ne_of_lt hlt)]
      exact (hf q hcm).1
  done := by
    intro X hP hw hK hc i pins s σ H E I hf st hg
    subst hP hw hK
    obtain ⟨hz, hTI, ⟨x0, y0, u0, hTO⟩, h1, h2, h3⟩ := st
    obtain ⟨xs, ys, zs, hqx, hqy, hqz, g1, g2, g3, hend⟩ := hg
    obtain ⟨its, rv, p, _⟩ := I.tuple hqx
    obtain ⟨its2, rv2, p2, _⟩ := I.tuple hqy
    obtain ⟨its3, rv3, p3, _⟩ := I.tuple hqz
    have pt : s.heap.IsTuple a its.toArray := p
    have pt2 : s.heap.IsTuple b its2.toArray := p2
    have pt3 : s.heap.IsTuple c its3.toArray := p3
    have l1 := rv.length
    have l2 := rv2.length
    have l3 := rv3.length
    have hh : X.A.in1.handled = none := I.ok.hd hc
    refine wpAny_pyNext_zipD3_end S (Draws.tuple hh i1 a (iter_ne h1 pt) its.toArray) (Draws.tuple hh i2 b (iter_ne h2 pt2) its2.toArray) (Draws.tuple hh i3 c (iter_ne h3 pt3) its3.toArray) hz hTI hTO ⟨h1, pt⟩ ⟨h2, pt2⟩ ⟨h3, pt3⟩ (by simp; omega) (by simp; omega) (by simp; omega) (by simp; omega) fun h' tk hk => ⟨rfl, I.turnedL (t' := tk) (ch := [z, TI, TO, i1, i2, i3]) (fun q o hb e =>
      hk q o (fun q' => hb (by simp [q'])) (fun q' => hb (by simp [q'])) (fun q' => hb (by simp [q'])) (fun q' => hb (by simp [q'])) (fun q' => hb (by simp [q'])) e) hf⟩
  self := fun A i s Q E st h => wpAny_pyIter_zip st.1 h
def iZip3 (K : PySem.W.Frag) (ta : TA) : TI := fun σ H R => ta σ H fun vs H1 => ∃ a b c xs ys zs, vs = [.ref a, .ref b, .ref c] ∧ SqT K H1 a xs ∧ SqT K H1 b ys ∧ SqT K H1 c zs ∧ R (ItzT3 K a b c) H1
theorem pi_zip3 {X : Cx} {e e2 e3 : Expr} {ta : TA} {p pos tpos : Pos} {elts : List Expr} {kk : Nat} (hg : Gl X "zip") (hm : X.mg "zip" = none) (ha : PA X [e, e2, e3] ta)
    (hs : starEach [e, e2, e3] X.env = (false, eval e X.env) :: starEach [e2, e3] X.env := by rfl) (hpl : (backTo pos (starEach [e2, e3] X.env)).any (·.1) = false := by rfl) :
    PI X (.Tuple elts kk tpos) (.Call (.Name "zip" p) [e, e2, e3] [] pos) (iZip3 X.K ta) := by
  refine ⟨fun pins s σ H R I h => ?_⟩
  refine Call_ (ld_blt I hg hm PyProof.Rows.boot_zip (PyProof.Rows.callWith_type1 (thn (ha.run pos pins s σ H _ I h) fun us s1 z => ?_) hs hpl))
  obtain ⟨vs, H1, I1, r1, a, b, c, xs, ys, zs, ex, hqx, hqy, hqz, q⟩ := z
  subst ex
  cases r1 with
  | cons r rr =>
    cases rr with
    | cons r' rr =>
      cases rr with
      | cons r'' rr =>
        cases rr
        cases r
        cases r'
        cases r''
        obtain ⟨its, rv, p1, _⟩ := I1.tuple hqx
        obtain ⟨its2, rv2, p2, _⟩ := I1.tuple hqy
        obtain ⟨its3, rv3, p3, _⟩ := I1.tuple hqz
        have pt1 : s1.heap.IsTuple a its.toArray := p1
        have pt2 : s1.heap.IsTuple b its2.toArray := p2
        have pt3 : s1.heap.IsTuple c its3.toArray := p3
        obtain ⟨o1, ho1, _⟩ := _root_.id pt1
        obtain ⟨o2, ho2, _⟩ := _root_.id pt2
        obtain ⟨o3, ho3, _⟩ := _root_.id pt3
        refine zip_begins3 (begins_tuple a its.toArray) (begins_tuple b its2.toArray) (begins_tuple c its3.toArray) pt1 pt2 pt3 fun h' hz hTI hTO h1 h2 h3 hsz hk => wpAny_pyIter_zip hz ?_
        have I2 : Inv X pins σ H1 { s1 with heap := h' } := I1.kept (t' := s1.toks) hk
        have sep := zip_sep3 (N := s1.heap.objs.size) (fp1 := [a]) (fp2 := [b]) (fp3 := [c]) (fun q hq => by rw [List.mem_singleton.mp hq]; exact Heap.lt_size ho1) (fun q hq => by rw [List.mem_singleton.mp hq]; exact Heap.lt_size ho2) (fun q hq => by rw [List.mem_singleton.mp hq]; exact Heap.lt_size ho3)
        have fresh6 : ∀ q, q ∈ [s1.heap.objs.size + 5, s1.heap.objs.size + 3, s1.heap.objs.size + 4, s1.heap.objs.size, s1.heap.objs.size + 1, s1.heap.objs.size + 2] → FpOk X pins H1 q := fun q hcm => by
          have e' : q = s1.heap.objs.size + 5 ∨ q = s1.heap.objs.size + 3 ∨ q = s1.heap.objs.size + 4 ∨ q = s1.heap.objs.size ∨ q = s1.heap.objs.size + 1 ∨ q = s1.heap.objs.size + 2 := by simpa using hcm
          have hle : s1.heap.objs.size ≤ q := by
            rcases e' with z | z | z | z | z | z
            · rw [z]; exact Nat.le_add_right _ _
            · rw [z]; exact Nat.le_add_right _ _
            · rw [z]; exact Nat.le_add_right _ _
            · rw [z]; exact Nat.le_refl _
            · rw [z]; exact Nat.le_add_right _ _
            · rw [z]; exact Nat.le_add_right _ _
          exact I1.fpOk hle (I1.hok.fresh hle)
        exact ⟨s1.heap.objs.size + 5, [s1.heap.objs.size + 5, s1.heap.objs.size + 3, s1.heap.objs.size + 4, s1.heap.objs.size, s1.heap.objs.size + 1, s1.heap.objs.size + 2], _, _, H1, rfl, I2, turn_zipT3 sep, ⟨hz, hTI, ⟨_, _, _, hTO⟩, ⟨_, h1, rfl, rfl⟩, ⟨_, h2, rfl, rfl⟩, ⟨_, h3, rfl, rfl⟩⟩, fresh6, q⟩
section
variable {K : PySem.W.Frag} {σ : L2.St} {H : Hp} {Q : VK} {te : TE} {tt : TT} {tA : TA} {tb : TS} {nx : L2.St → Hp → Prop} {rt : VK} {a b c : Addr} {xs ys zs : List V} {i1 i2 i3 : Nat} {vs : List Nat}
def GoZip3 (K : PySem.W.Frag) (R : It → Hp → Prop) (vs : List V) (H1 : Hp) : Prop := ∃ a b c xs ys zs, vs = [.ref a, .ref b, .ref c] ∧ SqT K H1 a xs ∧ SqT K H1 b ys ∧ SqT K H1 c zs ∧ R (ItzT3 K a b c) H1
theorem w_izip3 {R : It → Hp → Prop} (h : tA σ H fun vs H1 => GoZip3 K R vs H1) : iZip3 K tA σ H R := h
theorem w_goZ3 {R : It → Hp → Prop} (h : SqT K H a xs) (h2 : SqT K H b ys) (h3 : SqT K H c zs) (q : R (ItzT3 K a b c) H) : GoZip3 K R [.ref a, .ref b, .ref c] H := ⟨a, b, c, xs, ys, zs, rfl, h, h2, h3, q⟩
/-- for x, y, z in zip(xs, ys, zs), tuples of one length -/
theorem forZ3 (l2 : ys.length = xs.length) (l3 : zs.length = xs.length) (I : Nat → L2.St → Hp → Prop) (h0 : I 0 σ H) (hI : ∀ i σ' H', I i σ' H' → SqT K H' a xs ∧ SqT K H' b ys ∧ SqT K H' c zs)
    (hs : ∀ (i : Nat) x y z σ' H', xs[i]? = some x → ys[i]? = some y → zs[i]? = some z → I i σ' H' → ∀ H2, Same H' H2 → tb ⟨I (i + 1), rt, nx, I (i + 1)⟩ (((σ'.set i1 (some x)).set i2 (some y)).set i3 (some z)) H2) (hd : ∀ σ' H', I xs.length σ' H' → nx σ' H') :
    ForOk (ItzT3 K a b c) (gTup K 3 (gCons (gName i1) (gCons (gName i2) (gCons (gName i3) gNil)))) tb nx rt σ H := by
  refine ⟨fun i m σ' H' => m = xs.length - i ∧ i ≤ xs.length ∧ I i σ' H', ⟨_, rfl, Nat.zero_le _, h0⟩, fun i m σ' H1 ⟨em, hi, w1⟩ => ?_⟩
  obtain ⟨s1, s2, s3⟩ := hI _ _ _ w1
  by_cases hlt : i < xs.length
  · refine .inr ⟨⟨xs, ys, zs, xs[i], ys[i]'(by omega), zs[i]'(by omega), s1, s2, s3, List.getElem?_eq_getElem hlt, List.getElem?_eq_getElem _, List.getElem?_eq_getElem _⟩, I (i + 1), fun σ2 H2 w2 => ⟨_, by omega, rfl, hlt, w2⟩, fun v H2 q => ?_⟩
    obtain ⟨T, x, y, z, rfl, hT, rfl, hx, hy, hz⟩ := q
    exact ⟨T, _, rfl, SqT.of upd_same, rfl, _, _, rfl, _, _, rfl, _, _, rfl, rfl, hs i x y z σ' H1 (hx xs s1) (hy ys s2) (hz zs s3) w1 _ (same_new hT)⟩
  · have e : i = xs.length := by omega
    refine .inl ⟨⟨xs, ys, zs, s1, s2, s3, by omega, by omega, by omega, .inl e⟩, hd σ' H1 ?_⟩
    rw [← e]
    exact w1
end
end Sh
/-! pieces; texts that grow -/
namespace Sh
open PySem PySem.Spec PyProof.Rows L2
def ipAddN (K : PySem.W.Frag) : TIp := fun x y H Q => ipI (fun i j => i + j) x y H Q ∨ rAddS x y H Q
theorem ip_addN {X : Cx} : PIp X .Add (ipAddN X.K) := by
  intro pins s σ H x y v u Q I rx ry h
  rcases h with h | h
  · exact ip_add pins s σ H x y v u Q I rx ry h
  · obtain ⟨i, j, rfl, rfl, hz, q⟩ := h
    obtain ⟨t, rfl⟩ := rx
    obtain ⟨t2, rfl⟩ := ry
    exact PyProof.Rows.iadd_str (fun t' tk => ⟨.str (i ++ j), H, I.tok _, ⟨_, rfl⟩, q⟩) hz
abbrev rStrU : List V → Hp → VK → Prop := fun xs H Q => ∃ i : Int, xs = [.int i] ∧ i.natAbs.log2 < 1920 ∧ Q (.str (toString i)) H
theorem u_str {X : Cx} : CallR X (.type "str") rStrU := call_str_int
section
variable {K : PySem.W.Frag} {H : Hp} {Q : VK} {i j : Int} {a b : Str} {p p2 : Addr} {xs ys : List V} {ns : List Int}
theorem w_ipaddN (h : Q (.int (i + j)) H) : ipAddN K (.int i) (.int j) H Q := .inl ⟨i, j, rfl, rfl, h⟩
theorem w_ipaddS (hz : a.length + b.length ≤ sizeLine) (h : Q (.str (a ++ b)) H) : ipAddN K (.str a) (.str b) H Q := .inr ⟨a, b, rfl, rfl, hz, h⟩
theorem w_strI (hz : i.natAbs.log2 < 1920) (h : Q (.str (toString i)) H) : rStrU [.int i] H Q := ⟨i, rfl, hz, h⟩
theorem w_sum (h : SqL K H p (ns.map V.int)) (q : Q (.int ns.sum) H) : rSum K [.ref p] H Q := ⟨p, ns, rfl, h, q⟩
theorem w_extend (h : H p = some (.lst xs)) (h2 : H p2 = some (.lst ys)) (hl : xs.length + ys.length ≤ 1000000) (q : Q .non (upd H p (.lst (xs ++ ys)))) : rExtend (.ref p) [.ref p2] H Q := ⟨p, p2, xs, ys, rfl, rfl, h, h2, Nat.le_trans hl (by decide), q⟩
end
/-- how wide a field's piece is -/
def wW (f : Fd) : Wy → Nat
  | .keep => 0
  | .whole => f.br.toNat
  | .low w _ => w.toNat
abbrev Tri := Fd × Wy × Int
def pieceT (t : Tri) : Str := bitsT (t.2.2 % p2 (wW t.1 t.2.1 : Nat)) (wW t.1 t.2.1)
def triL (fs : List Fd) (ws : List Wy) (vs : List Int) : List Tri := fs.zip (ws.zip vs)
def piecesT (ts : List Tri) : Str := ⟨(ts.map fun t => cz (pieceT t)).flatten.toArray⟩
theorem cz_pieces (ts : List Tri) : cz (piecesT ts) = (ts.map fun t => cz (pieceT t)).flatten := List.toList_toArray
theorem pieces_nil : piecesT [] = "" := rfl
theorem pieces_snoc (ts : List Tri) (t : Tri) : piecesT (ts ++ [t]) = piecesT ts ++ pieceT t := by
  refine cz_inj ?_
  rw [cz_pieces, cz_app, cz_pieces, List.map_append, List.flatten_append]
  simp
def triW (ts : List Tri) : Nat := (ts.map fun t => wW t.1 t.2.1).sum
theorem pieces_len : ∀ ts : List Tri, (piecesT ts).length = triW ts
  | [] => rfl
  | t :: r => by
    have ih := pieces_len r
    rw [← cz_len, cz_pieces] at ih ⊢
    rw [List.map_cons, List.flatten_cons, List.length_append, ih, cz_len]
    show (pieceT t).length + triW r = wW t.1 t.2.1 + triW r
    unfold pieceT
    rw [len_bitsT]
theorem tri_get {fs : List Fd} {ws : List Wy} {vs : List Int} {i : Nat} {f : Fd} {w : Wy} {v : Int} (h1 : fs[i]? = some f) (h2 : ws[i]? = some w) (h3 : vs[i]? = some v) : (triL fs ws vs)[i]? = some (f, w, v) :=
  List.getElem?_zip_eq_some.mpr ⟨h1, List.getElem?_zip_eq_some.mpr ⟨h2, h3⟩⟩
theorem tri_len {fs : List Fd} {ws : List Wy} {vs : List Int} (h1 : ws.length = fs.length) (h2 : vs.length = fs.length) : (triL fs ws vs).length = fs.length := by
  unfold triL
  rw [List.length_zip, List.length_zip]
  omega
theorem wW_le {f : Fd} {w : Wy} (h : OkWy f.br w) (b0 : 0 ≤ f.br) : (wW f w : Int) ≤ f.br := by
  cases w with
  | keep => exact b0
  | whole =>
    show ((f.br.toNat : Nat) : Int) ≤ f.br
    omega
  | low w l =>
    have := h.1
    have := h.2.1
    show ((w.toNat : Nat) : Int) ≤ f.br
    omega
theorem triW_snoc (ts : List Tri) (t : Tri) : triW (ts ++ [t]) = triW ts + wW t.1 t.2.1 := by
  unfold triW
  rw [List.map_append, List.sum_append]
  simp
theorem triW_le : ∀ ts : List Tri, (∀ t ∈ ts, wW t.1 t.2.1 ≤ 40) → triW ts ≤ 40 * ts.length
  | [], _ => Nat.le_refl _
  | t :: r, h => by
    have ih := triW_le r fun x hx => h x (List.mem_cons_of_mem _ hx)
    have h1 := h t List.mem_cons_self
    show wW t.1 t.2.1 + triW r ≤ _
    rw [List.length_cons]
    omega
end Sh
/-! any data, dicts too: its lists and dicts lie where P allows -/
namespace Sh
open PySem PySem.Spec PyProof.Rows L2
theorem cutD_mem {α : Type} {xs : List α} {lo hi : Option Int} {x : α} (h : x ∈ cutD xs lo hi) : x ∈ xs := List.mem_of_mem_drop (List.mem_of_mem_take h)
theorem cutD_map {α β : Type} (g : α → β) (xs : List α) (lo hi : Option Int) : cutD (xs.map g) lo hi = (cutD xs lo hi).map g := by
  unfold cutD
  rw [List.length_map, List.map_take, List.map_drop]
theorem w_slM {K : PySem.W.Frag} {H : Hp} {v : V} {Q : VK} {α : Type} {g : α → PyData} {l : List α} {lo hi : Option Int} (h : Dq K H v (.tuple (l.map g))) (q : ∀ x H', Same H H' → Dq K H' x (.tuple ((cutD l lo hi).map g)) → Q x H') : rSlU K v lo hi H Q :=
  w_slQT h fun x H' e hx => q x H' e (by rw [← cutD_map]; exact hx)
section
variable {K : PySem.W.Frag} {H H' : Hp} {v : V} {Q : VK}
theorem dq_t2 {d e : PyData} (h : Dq K H v (.tuple [d, e])) : ∃ a x y, v = .ref a ∧ SqN K H a [x, y] ∧ Dq K H x d ∧ Dq K H y e := by
  obtain ⟨a, xs, rfl, hx, r⟩ := dq_tt h
  cases r with
  | cons h1 r =>
    cases r with
    | cons h2 r =>
      cases r
      exact ⟨_, _, _, rfl, hx, h1, h2⟩
theorem dq_t3 {d e f : PyData} (h : Dq K H v (.tuple [d, e, f])) : ∃ a x y z, v = .ref a ∧ SqN K H a [x, y, z] ∧ Dq K H x d ∧ Dq K H y e ∧ Dq K H z f := by
  obtain ⟨a, xs, rfl, hx, r⟩ := dq_tt h
  cases r with
  | cons h1 r =>
    cases r with
    | cons h2 r =>
      cases r with
      | cons h3 r =>
        cases r
        exact ⟨_, _, _, _, rfl, hx, h1, h2, h3⟩
end
mutual
inductive Dz (K : PySem.W.Frag) (P : Addr → Prop) (H : Hp) : V → PyData → Prop
  | non : Dz K P H .non .none
  | bl (b : Bool) : Dz K P H (.bl b) (.bool b)
  | int (i : Int) : Dz K P H (.int i) (.int i)
  | str (x : Str) : Dz K P H (.str x) (.str x)
  | lst {a : Addr} {xs : List V} {ds : List PyData} : P a → SqL K H a xs → DzAll K P H xs ds → Dz K P H (.ref a) (.list ds)
  | tup {a : Addr} {xs : List V} {ds : List PyData} : SqT K H a xs → DzAll K P H xs ds → Dz K P H (.ref a) (.tuple ds)
  | dic {a : Addr} {kvs : List (Key × V)} : P a → H a = some (.dK kvs) → Dz K P H (.ref a) (.dict [])
inductive DzAll (K : PySem.W.Frag) (P : Addr → Prop) (H : Hp) : List V → List PyData → Prop
  | nil : DzAll K P H [] []
  | cons {v : V} {vs : List V} {d : PyData} {ds : List PyData} : Dz K P H v d → DzAll K P H vs ds → DzAll K P H (v :: vs) (d :: ds)
end
def Ever : Addr → Prop := fun _ => True
section
variable {K : PySem.W.Frag} {H H' : Hp} {P P' : Addr → Prop}
mutual
theorem dz_dp : ∀ {v : V} {d : PyData}, Dp K H v d → Dz K Ever H v d
  | _, _, .non => .non
  | _, _, .bl b => .bl b
  | _, _, .int i => .int i
  | _, _, .str x => .str x
  | _, _, .lst h r => .lst trivial h (dzs_dp r)
  | _, _, .tup h r => .tup h (dzs_dp r)
theorem dzs_dp : ∀ {vs : List V} {ds : List PyData}, DpAll K H vs ds → DzAll K Ever H vs ds
  | _, _, .nil => .nil
  | _, _, .cons h r => .cons (dz_dp h) (dzs_dp r)
end
theorem dz_dq {v : V} {d : PyData} (h : Dq K H v d) : Dz K Ever H v d := dz_dp (dq_dp h)
theorem dzs_dq {vs : List V} {ds : List PyData} (h : DqAll K H vs ds) : DzAll K Ever H vs ds := dzs_dp (dqs_dp h)
mutual
theorem dz_to : ∀ {v : V} {d : PyData}, Dq K H v d → tupO d → Dz K P H v d
  | _, _, .non, _ => .non
  | _, _, .bl b, _ => .bl b
  | _, _, .int i, _ => .int i
  | _, _, .str x, _ => .str x
  | _, _, .lst _ _, z => (show False from z).elim
  | _, _, .tup h r, z => .tup h.t (dzs_to r z)
theorem dzs_to : ∀ {vs : List V} {ds : List PyData}, DqAll K H vs ds → tupOs ds → DzAll K P H vs ds
  | _, _, .nil, _ => .nil
  | _, _, .cons h r, z => .cons (dz_to h z.1) (dzs_to r z.2)
end
mutual
theorem dz_wk (w : ∀ a, P a → P' a) : ∀ {v : V} {d : PyData}, Dz K P H v d → Dz K P' H v d
  | _, _, .non => .non
  | _, _, .bl b => .bl b
  | _, _, .int i => .int i
  | _, _, .str x => .str x
  | _, _, .lst p h r => .lst (w _ p) h (dzs_wk w r)
  | _, _, .tup h r => .tup h (dzs_wk w r)
  | _, _, .dic p h => .dic (w _ p) h
theorem dzs_wk (w : ∀ a, P a → P' a) : ∀ {vs : List V} {ds : List PyData}, DzAll K P H vs ds → DzAll K P' H vs ds
  | _, _, .nil => .nil
  | _, _, .cons h r => .cons (dz_wk w h) (dzs_wk w r)
end
theorem dz_ev {v : V} {d : PyData} (h : Dz K P H v d) : Dz K Ever H v d := dz_wk (fun _ _ => trivial) h
theorem dzs_ev {vs : List V} {ds : List PyData} (h : DzAll K P H vs ds) : DzAll K Ever H vs ds := dzs_wk (fun _ _ => trivial) h
mutual
theorem dzx (e : Sx H H') : ∀ {v : V} {d : PyData}, Dz K P H v d → Dz K P H' v d
  | _, _, .non => .non
  | _, _, .bl b => .bl b
  | _, _, .int i => .int i
  | _, _, .str x => .str x
  | _, _, .lst p h r => .lst p (sx_l e h) (dzsx e r)
  | _, _, .tup h r => .tup (sx_t e h) (dzsx e r)
  | _, _, .dic p h => .dic p (e.keep _ _ h rfl)
theorem dzsx (e : Sx H H') : ∀ {vs : List V} {ds : List PyData}, DzAll K P H vs ds → DzAll K P H' vs ds
  | _, _, .nil => .nil
  | _, _, .cons h r => .cons (dzx e h) (dzsx e r)
end
theorem dz_mono (e : Same H H') {v : V} {d : PyData} (h : Dz K P H v d) : Dz K P H' v d := dzx (Same.sx e) h
theorem dzs_mono (e : Same H H') {vs : List V} {ds : List PyData} (h : DzAll K P H vs ds) : DzAll K P H' vs ds := dzsx (Same.sx e) h
theorem sqt_mut {D a : Addr} {ys xs : List V} {o : HO} (h : SqT K H a xs) (hD : H D = some (.lst ys)) : SqT K (upd H D o) a xs := by
  rcases h with (h | ⟨b, h⟩) | h
  · refine .inl (.inl ?_)
    rw [upd_ne fun z => by rw [z, hD] at h; cases h]
    exact h
  · refine .inl (.inr ⟨b, ?_⟩)
    rw [upd_ne fun z => by rw [z, hD] at h; cases h]
    exact h
  · exact .inr h
theorem sql_mut {D a : Addr} {xs : List V} {o : HO} (h : SqL K H a xs) (n : a ≠ D) : SqL K (upd H D o) a xs := by
  rcases h with (h | ⟨b, h⟩) | h
  · refine .inl (.inl ?_)
    rw [upd_ne n]
    exact h
  · refine .inl (.inr ⟨b, ?_⟩)
    rw [upd_ne n]
    exact h
  · exact .inr h
mutual
theorem dz_mut {D : Addr} {ys : List V} {o : HO} (hD : H D = some (.lst ys)) (n : ∀ a, P a → a ≠ D) : ∀ {v : V} {d : PyData}, Dz K P H v d → Dz K P (upd H D o) v d
  | _, _, .non => .non
  | _, _, .bl b => .bl b
  | _, _, .int i => .int i
  | _, _, .str x => .str x
  | _, _, .lst p h r => .lst p (sql_mut h (n _ p)) (dzs_mut hD n r)
  | _, _, .tup h r => .tup (sqt_mut h hD) (dzs_mut hD n r)
  | _, _, .dic p h => .dic p (by rw [upd_ne (n _ p)]; exact h)
theorem dzs_mut {D : Addr} {ys : List V} {o : HO} (hD : H D = some (.lst ys)) (n : ∀ a, P a → a ≠ D) : ∀ {vs : List V} {ds : List PyData}, DzAll K P H vs ds → DzAll K P (upd H D o) vs ds
  | _, _, .nil => .nil
  | _, _, .cons h r => .cons (dz_mut hD n h) (dzs_mut hD n r)
end
theorem dzs_len : ∀ {vs : List V} {ds : List PyData}, DzAll K P H vs ds → vs.length = ds.length
  | _, _, .nil => rfl
  | _, _, .cons _ r => by rw [List.length_cons, List.length_cons, dzs_len r]
theorem dzs_get : ∀ {vs : List V} {ds : List PyData} {i : Nat} {d : PyData}, DzAll K P H vs ds → ds[i]? = some d → ∃ v, vs[i]? = some v ∧ Dz K P H v d
  | _, _, _, _, .nil, e => by simp at e
  | _, _, 0, _, .cons (v := v) h _, e => by
    simp at e
    subst e
    exact ⟨v, rfl, h⟩
  | _, _, i + 1, d, .cons _ r, e => by
    obtain ⟨v, h1, h2⟩ := dzs_get (i := i) (d := d) r (by simpa using e)
    exact ⟨v, by simpa using h1, h2⟩
theorem dzs_get2 {vs : List V} {ds : List PyData} {i : Nat} {v : V} (r : DzAll K P H vs ds) (e : vs[i]? = some v) : ∃ d, ds[i]? = some d ∧ Dz K P H v d := by
  have hl := dzs_len r
  have hi := (List.getElem?_eq_some_iff.mp e).1
  have e2 : ds[i]? = some (ds[i]'(hl ▸ hi)) := List.getElem?_eq_getElem _
  obtain ⟨v2, h1, h2⟩ := dzs_get r e2
  rw [e] at h1
  cases h1
  exact ⟨_, e2, h2⟩
theorem dzs_app : ∀ {vs ws : List V} {ds es : List PyData}, DzAll K P H vs ds → DzAll K P H ws es → DzAll K P H (vs ++ ws) (ds ++ es)
  | _, _, _, _, .nil, s => s
  | _, _, _, _, .cons h r, s => .cons h (dzs_app r s)
theorem dzs_at {vs : List V} {ds : List PyData} {i : Int} {d : PyData} (r : DzAll K P H vs ds) (e : atI ds i = some d) : ∃ v, atI vs i = some v ∧ Dz K P H v d := by
  unfold atI at e ⊢
  rw [dzs_len r]
  cases q : ixN ds.length i with
  | none => rw [q] at e; cases e
  | some j =>
    rw [q] at e
    exact dzs_get r e
variable {v u : V} {d : PyData} {Q : VK}
theorem dzs_one (h : Dz K P H v d) : DzAll K P H [v] [d] := .cons h .nil
theorem dzs_two {d2 : PyData} (h : Dz K P H v d) (h2 : Dz K P H u d2) : DzAll K P H [v, u] [d, d2] := .cons h (.cons h2 .nil)
theorem dz_int {i : Int} (h : Dz K P H v (.int i)) : v = .int i := by cases h; rfl
theorem dz_str {x : Str} (h : Dz K P H v (.str x)) : v = .str x := by cases h; rfl
theorem dz_bl {b : Bool} (h : Dz K P H v (.bool b)) : v = .bl b := by cases h; rfl
theorem dz_non (h : Dz K P H v .none) : v = .non := by cases h; rfl
theorem dz_tt {ds : List PyData} (h : Dz K P H v (.tuple ds)) : ∃ a xs, v = .ref a ∧ SqT K H a xs ∧ DzAll K P H xs ds := by
  cases h with
  | tup h r => exact ⟨_, _, rfl, h, r⟩
theorem dz_ll {ds : List PyData} (h : Dz K P H v (.list ds)) : ∃ a xs, v = .ref a ∧ P a ∧ SqL K H a xs ∧ DzAll K P H xs ds := by
  cases h with
  | lst p h r => exact ⟨_, _, rfl, p, h, r⟩
theorem dz_new {a : Addr} {xs : List V} {ds : List PyData} (h : TupN H a xs) (r : DzAll K P H xs ds) : Dz K P H (.ref a) (.tuple ds) := .tup (SqN.t (.inl h)) r
theorem dz_newl {a : Addr} {xs : List V} {ds : List PyData} (p : P a) (h : H a = some (.lst xs)) (r : DzAll K P H xs ds) : Dz K P H (.ref a) (.list ds) := .lst p (SqL.of h) r
theorem dz_tupx {H1 : Hp} {a : Addr} {xs : List V} {ds : List PyData} (e : Sx H1 H) (h : TupN H1 a xs) (r : DzAll K P H xs ds) : Dz K P H (.ref a) (.tuple ds) := dz_new (sx_tup e h) r
theorem dz_lstx {H1 : Hp} {a : Addr} {xs : List V} {ds : List PyData} (p : P a) (e : Sx H1 H) (h : H1 a = some (.lst xs)) (r : DzAll K P H xs ds) : Dz K P H (.ref a) (.list ds) := dz_newl p (e.keep _ _ h rfl) r
theorem dz_dicx {H1 : Hp} {a : Addr} {kvs : List (Key × V)} (p : P a) (e : Sx H1 H) (h : H1 a = some (.dK kvs)) : Dz K P H (.ref a) (.dict []) := .dic p (e.keep _ _ h rfl)
theorem ty_z (h : Dz K P H v d) : TyX K H v (.type (tyD d)) := by
  cases h with
  | non => exact .base .non
  | bl b => exact .base (.bl b)
  | int i => exact .base (.int i)
  | str x => exact .base (.str x)
  | lst _ h r =>
    rcases h with (h | ⟨o, h⟩) | ⟨o, its, n, h, c, _⟩
    · exact .base (.lst h)
    · exact .base (.frz h)
    · exact .kList h c
  | tup h r =>
    rcases h with (h | ⟨o, h⟩) | ⟨o, its, n, h, c, _⟩
    · exact .base (.tup h)
    · exact .fTuple h
    · exact .kTuple h c
  | dic _ h => exact .base (.dK h)
theorem w_isiz {b : String} {r : Bool} (h : Dz K P H v d) (hk : kitB (tyD d) b = some r) (q : Q (.bl r) H) : rIsi K [v, .ty b] H Q := ⟨v, .ty b, _, _, r, rfl, .ty b, ty_z h, kit_ty hk, q⟩
theorem w_isintz (h : Dz K P H v d) (q : Q (.bl (isIntB d)) H) : rIsi K [v, .ty "int"] H Q := w_isiz h (by cases d <;> (simp only [tyD, isIntB]; decide +kernel)) q
theorem w_isboolz (h : Dz K P H v d) (q : Q (.bl (isBoolD d)) H) : rIsi K [v, .ty "bool"] H Q := w_isiz h (by cases d <;> (simp only [tyD, isBoolD]; decide +kernel)) q
theorem w_isstrz (h : Dz K P H v d) (q : Q (.bl (isStrD d)) H) : rIsi K [v, .ty "str"] H Q := w_isiz h (by cases d <;> (simp only [tyD, isStrD]; decide +kernel)) q
theorem w_istupz (h : Dz K P H v d) (q : Q (.bl (isTupD d)) H) : rIsi K [v, .ty "tuple"] H Q := w_isiz h (by cases d <;> (simp only [tyD, isTupD]; decide +kernel)) q
theorem w_islistz (h : Dz K P H v d) (q : Q (.bl (isListD d)) H) : rIsi K [v, .ty "list"] H Q := w_isiz h (by cases d <;> (simp only [tyD, isListD]; decide +kernel)) q
theorem w_lenZT {ds : List PyData} (h : Dz K P H v (.tuple ds)) (q : Q (.int ds.length) H) : rLenU K [v] H Q := by
  obtain ⟨a, xs, rfl, h, r⟩ := dz_tt h
  exact w_lenT h (by rw [dzs_len r]; exact q)
theorem w_ixZT {ds : List PyData} {i : Int} (h : Dz K P H v (.tuple ds)) (e : atI ds i = some d) (q : ∀ x, Dz K P H x d → Q x H) : rIxU K v (.int i) H Q := by
  obtain ⟨a, xs, rfl, h, r⟩ := dz_tt h
  obtain ⟨x, e1, e2⟩ := dzs_at r e
  exact w_ixt h e1 (q x e2)
theorem w_catZT {ds es : List PyData} (h : Dz K P H v (.tuple ds)) (h' : Dz K P H u (.tuple es)) (hl : ds.length + es.length ≤ sizeLine) (q : ∀ x H', Same H H' → Dz K P H' x (.tuple (ds ++ es)) → Q x H') : rAddN K v u H Q := by
  obtain ⟨a, xs, rfl, hs, r⟩ := dz_tt h
  obtain ⟨b, ys, rfl, hs', r'⟩ := dz_tt h'
  have l1 := dzs_len r
  have l2 := dzs_len r'
  refine .inr (.inr (.inr ⟨a, b, xs, ys, rfl, rfl, hs, hs', by omega, fun e => ?_, fun _ e => ?_, fun _ _ p o hp hd => q _ _ (same_new hp) (dz_new ⟨o, hd, upd_same⟩ (dzs_mono (same_new hp) (dzs_app r r')))⟩))
  · subst e
    cases r
    exact q _ _ (Same.refl _) h'
  · subst e
    cases r'
    rw [List.append_nil] at q
    exact q _ _ (Same.refl _) h
theorem w_ixZTs {ds : List PyData} {i : Int} {z : Str} (h : Dz K P H v (.tuple ds)) (e : atI ds i = some (.str z)) (q : Q (.str z) H) : rIxU K v (.int i) H Q := w_ixZT h e fun x hx => by
  rw [dz_str hx]
  exact q
theorem w_ixZTi {ds : List PyData} {i n : Int} (h : Dz K P H v (.tuple ds)) (e : atI ds i = some (.int n)) (q : Q (.int n) H) : rIxU K v (.int i) H Q := w_ixZT h e fun x hx => by
  rw [dz_int hx]
  exact q
end
/-! lists of any data -/
def Bag (K : PySem.W.Frag) (P : Addr → Prop) (B : PyData → Prop) (H : Hp) (a : Addr) (n : Nat) : Prop := ∃ xs ds, H a = some (.lst xs) ∧ DzAll K P H xs ds ∧ (∀ d ∈ ds, B d) ∧ xs.length ≤ n
section
variable {K : PySem.W.Frag} {P P' : Addr → Prop} {B : PyData → Prop} {H H' : Hp} {a b p : Addr} {n : Nat} {xs ys : List V} {es : List PyData} {Q : VK} {x : V} {d : PyData} {o : HO} {W : Wd} {bb : Bool} {H1 : Hp} {F : Addr → Prop}
theorem all_nil : ∀ d ∈ ([] : List PyData), B d := fun _ h => nomatch h
theorem all_cons {r : List PyData} (h : B d) (hr : ∀ d ∈ r, B d) : ∀ e ∈ d :: r, B e := fun e he => by
  rcases List.mem_cons.mp he with rfl | he
  · exact h
  · exact hr e he
theorem all_app {r s : List PyData} (h : ∀ d ∈ r, B d) (hr : ∀ d ∈ s, B d) : ∀ e ∈ r ++ s, B e := fun e he => by
  rcases List.mem_append.mp he with he | he
  · exact h e he
  · exact hr e he
theorem bag_sx (e : Sx H H') (h : Bag K P B H a n) : Bag K P B H' a n := by
  obtain ⟨xs, ds, h1, h2, h3⟩ := h
  exact ⟨xs, ds, e.keep _ _ h1 rfl, dzsx e h2, h3⟩
theorem bag_wk (w : ∀ a, P a → P' a) (h : Bag K P B H a n) : Bag K P' B H a n := by
  obtain ⟨xs, ds, h1, h2, h3⟩ := h
  exact ⟨xs, ds, h1, dzs_wk w h2, h3⟩
theorem bag_le {m : Nat} (l : n ≤ m) (h : Bag K P B H a n) : Bag K P B H a m := by
  obtain ⟨xs, ds, h1, h2, h3, h4⟩ := h
  exact ⟨xs, ds, h1, h2, h3, Nat.le_trans h4 l⟩
theorem bag_lit (h : H a = some (.lst xs)) (r : DzAll K P H xs es) (hb : ∀ d ∈ es, B d) (l : xs.length ≤ n) : Bag K P B H a n := ⟨xs, es, h, r, hb, l⟩
theorem bag_cat {m : Nat} (e1 : Sx H1 H) (h : Bag K P B H1 a n) (h2 : H b = some (.lst ys)) (r : DzAll K P H ys es) (hb : ∀ d ∈ es, B d) (l : n + ys.length ≤ m) (lm : m ≤ 1000000) (q : ∀ p H', H p = none → Same H H' → Bag K P B H' p m → Q (.ref p) H') : rAddN K (.ref a) (.ref b) H Q := by
  obtain ⟨xs, ds, h1, h3, h4, h5⟩ := bag_sx e1 h
  refine w_catL h1 h2 (by omega) fun p H' np e hp => q p H' np e ⟨xs ++ ys, ds ++ es, hp, dzs_app (dzs_mono e h3) (dzs_mono e r), all_app h4 hb, by rw [List.length_append]; omega⟩
theorem bag_app (h : Bag K P B H a n) (w : ∀ p, P p → p ≠ a) (hx : Dz K P H x d) (hb : B d) (l : n < 1000000) (q : ∀ ys zs, H a = some (.lst ys) → Bag K P B (upd H a (.lst zs)) a (n + 1) → Q .non (upd H a (.lst zs))) : rAppend (.ref a) [x] H Q := by
  obtain ⟨xs, ds, h1, h3, h4, h5⟩ := h
  refine w_append h1 (by omega) ?_
  refine q xs _ h1 ⟨xs ++ [x], ds ++ [d], upd_same, dzs_app (dzs_mut h1 w h3) (dzs_one (dz_mut h1 w hx)), all_app h4 (all_cons hb all_nil), by rw [List.length_append]; exact Nat.succ_le_succ h5⟩
theorem bag_ne (h : Bag K P B H1 a n) (e : Sx H1 H) (np : H p = none) : p ≠ a := by
  obtain ⟨xs, ds, h1, _⟩ := h
  intro z
  subst z
  obtain ⟨w, hw⟩ := e.there _ _ h1
  rw [hw] at np
  cases np
theorem pres_of {H1 : Hp} (e : Sx H1 H) (h : H1 p = some o) : H p ≠ none := fun z => by
  obtain ⟨w, hw⟩ := e.there _ _ h
  rw [hw] at z
  cases z
theorem ne_fresh {H1 : Hp} (np : H p = none) (e : Sx H1 H) (h : H1 a = some o) : p ≠ a := fun z => by
  subst z
  exact pres_of e h np
theorem bag_ty {R : Prop} (h : Bag K P B H a n) (q : R) : tyV K "list" (.ref a) H ∧ R := by
  obtain ⟨xs, ds, h1, _⟩ := h
  exact w_tyL h1 q
/-- lies in the heap, and F -/
def PF (F : Addr → Prop) (H : Hp) : Addr → Prop := fun p => F p ∧ H p ≠ none
theorem pf_sx (e : Sx H H') : ∀ p, PF F H p → PF F H' p := fun p ⟨h1, h2⟩ => ⟨h1, by
  cases c : H p with
  | none => exact (h2 c).elim
  | some u => exact pres_of e c⟩
theorem bag_litx (h : H1 a = some (.lst xs)) (e : Sx H1 H) (r : DzAll K P H xs es) (hb : ∀ d ∈ es, B d) (l : xs.length ≤ n) : Bag K P B H a n := ⟨xs, es, e.keep _ _ h rfl, r, hb, l⟩
theorem bag_catF {m : Nat} (e : Sx H1 H) (h : Bag K (PF F H1) B H1 a n) (h2 : H b = some (.lst ys)) (r : DzAll K (PF F H) H ys es) (hb : ∀ d ∈ es, B d) (l : n + ys.length ≤ m) (lm : m ≤ 1000000) (q : ∀ p H', H p = none → Same H H' → Bag K (PF F H') B H' p m → Bag K (fun x => F x ∧ x ≠ p) B H' p m → Q (.ref p) H') : rAddN K (.ref a) (.ref b) H Q :=
  bag_cat (Sx.refl _) (bag_wk (pf_sx e) (bag_sx e h)) h2 r hb l lm fun p H' np e2 hb2 => q p H' np e2 (bag_wk (pf_sx (Same.sx e2)) hb2) (bag_wk (fun x ⟨h1, h2⟩ => ⟨h1, fun z => by
    subst z
    exact h2 np⟩) hb2)
end
theorem log2_sm {n : Nat} (h : n < 18446744073709551616) : n.log2 < 1920 := by
  by_cases z : n = 0
  · subst z
    decide
  · rw [Nat.log2_lt z]
    exact Nat.lt_of_lt_of_le h (show 2 ^ 64 ≤ 2 ^ 1920 from Nat.pow_le_pow_right (by decide) (by decide))
theorem take_iff {α : Type} {xs ys : List α} {i : Nat} {x y : α} (hx : xs[i]? = some x) (hy : ys[i]? = some y) : xs.take (i + 1) = ys.take (i + 1) ↔ xs.take i = ys.take i ∧ x = y := by
  have l1 := (List.getElem?_eq_some_iff.mp hx).1
  have l2 := (List.getElem?_eq_some_iff.mp hy).1
  rw [List.take_add_one, List.take_add_one, hx, hy]
  constructor
  · intro e
    have z := List.append_inj e (by rw [List.length_take, List.length_take]; omega)
    exact ⟨z.1, by simpa using z.2⟩
  · rintro ⟨e, rfl⟩
    rw [e]
/-! shapes of data, for == -/
theorem canAll : ∀ ds : List PyData, (∀ d ∈ ds, PyData.canLay0 d = true) → PyData.canLayAll0 ds = true
  | [], _ => by simp [PyData.canLayAll0]
  | d :: r, h => by
    rw [PyData.canLayAll0, h d List.mem_cons_self, canAll r fun x hx => h x (List.mem_cons_of_mem _ hx)]
    rfl
theorem depAll {k : Nat} : ∀ ds : List PyData, (∀ d ∈ ds, PyData.depth d ≤ k) → PyData.depthAll ds ≤ k
  | [], _ => by simp [PyData.depthAll]
  | d :: r, h => by
    have a := h d List.mem_cons_self
    have b := depAll r fun x hx => h x (List.mem_cons_of_mem _ hx)
    rw [PyData.depthAll]
    omega
theorem shaped_list {ds : List PyData} {k : Nat} (hk : k ≤ 60) (h : ∀ d ∈ ds, PyData.canLay0 d = true ∧ PyData.depth d ≤ k) : SeqAt.shaped (.list ds) = true := by
  have a := canAll ds fun d hd => (h d hd).1
  have b := depAll ds fun d hd => (h d hd).2
  show (PyData.canLay0 (.list ds) && decide (PyData.depth (.list ds) ≤ 64)) = true
  rw [Bool.and_eq_true]
  exact ⟨by simp only [PyData.canLay0]; exact a, decide_eq_true (by simp only [PyData.depth]; omega)⟩
theorem eqv_lnil (ds : List PyData) : PyData.eqv (.list ds) (.list []) = decide (ds = []) := by
  cases ds with
  | nil => rfl
  | cons n r => rfl
end Sh
/-! what bits tell -/
namespace Sh
open PySem PySem.Spec PyProof.Rows L2
def arnF (w base below n wd : Int) : Int := (base - below + (n - (base - below)) % p2 wd) % p2 w
/-- what a place's bits tell -/
def VO (fo ah : List Int) (m v : Int) (fd : Fd) (n : Int) : Wy → Int → Prop
  | .whole, x => x = n
  | .keep, x => ∃ r, ExpK fo ah m v fd.kd r ∧ x = r % p2 fd.br
  | .low wd bl, x => ∃ r, ExpK fo ah m v fd.kd r ∧ x = arnF fd.br (r % p2 fd.br) bl n wd
theorem VO.one {fo ah : List Int} {m v : Int} {fd : Fd} {n : Int} {w : Wy} {x y : Int} (h : VO fo ah m v fd n w x) (h' : VO fo ah m v fd n w y) : x = y := by
  cases w with
  | whole => exact Eq.trans h (Eq.symm h')
  | keep =>
    obtain ⟨r, h1, rfl⟩ := h
    obtain ⟨r', h2, rfl⟩ := h'
    rw [ExpK.one h1 h2]
  | low wd bl =>
    obtain ⟨r, h1, rfl⟩ := h
    obtain ⟨r', h2, rfl⟩ := h'
    rw [ExpK.one h1 h2]
/-- where a place's piece begins -/
def atW (fs : List Fd) (ws : List Wy) (j : Nat) : Nat := (((fs.zip ws).take j).map fun fw => wW fw.1 fw.2).sum
theorem atW_succ {fs : List Fd} {ws : List Wy} {j : Nat} {f : Fd} {w : Wy} (h1 : fs[j]? = some f) (h2 : ws[j]? = some w) : atW fs ws (j + 1) = atW fs ws j + wW f w := by
  have e : (fs.zip ws)[j]? = some (f, w) := List.getElem?_zip_eq_some.mpr ⟨h1, h2⟩
  unfold atW
  rw [List.take_add_one, e, List.map_append, List.sum_append]
  simp
theorem atW_mono (fs : List Fd) (ws : List Wy) {i j : Nat} (h : i ≤ j) : atW fs ws i ≤ atW fs ws j := by
  unfold atW
  have e : (fs.zip ws).take j = (fs.zip ws).take i ++ ((fs.zip ws).take j).drop i := by
    have z := (List.take_append_drop i ((fs.zip ws).take j)).symm
    rw [List.take_take, Nat.min_eq_left h] at z
    exact z
  rw [e, List.map_append, List.sum_append]
  exact Nat.le_add_right _ _
def sliceN (z : Str) (a l : Nat) : List Nat := ((cz z).drop a).take l
def numS (z : Str) (a l : Nat) : Int := valL (sliceN z a l).reverse
theorem cutD_mid {α : Type} {xs : List α} {a b : Int} (h0 : 0 ≤ a) (h1 : a ≤ b) (h2 : b ≤ xs.length) : cutD xs (some a) (some b) = (xs.drop a.toNat).take (b.toNat - a.toNat) := by
  obtain ⟨n, rfl⟩ : ∃ n : Nat, a = n := ⟨a.toNat, by omega⟩
  obtain ⟨k, rfl⟩ : ∃ k : Nat, b = k := ⟨b.toNat, by omega⟩
  unfold cutD
  rw [six_of _ (by omega), six_of _ (by omega), Int.toNat_natCast, Int.toNat_natCast]
theorem num_slice {y z : Str} {a l : Nat} (h : cz y = sliceN z a l) : numT y = numS z a l := by
  unfold numT numS
  rw [h]
theorem slice_len {z : Str} {a l : Nat} (h : a + l ≤ z.length) : (sliceN z a l).length = l := by
  unfold sliceN
  rw [List.length_take, List.length_drop, cz_len]
  omega
theorem slice_01 {z : Str} {a l : Nat} (h : ∀ c ∈ cz z, c = 48 ∨ c = 49) : ∀ c ∈ sliceN z a l, c = 48 ∨ c = 49 := fun c hc => h c (List.mem_of_mem_drop (List.mem_of_mem_take hc))
theorem numS_bd {z : Str} {a l : Nat} (h : ∀ c ∈ cz z, c = 48 ∨ c = 49) (hl : a + l ≤ z.length) : 0 ≤ numS z a l ∧ numS z a l < 2 ^ l := by
  have e := valL_bound (sliceN z a l).reverse fun c hc => slice_01 h c (List.mem_reverse.mp hc)
  rw [List.length_reverse, slice_len hl] at e
  exact e
/-- the head that bits tell, as far as place i -/
def OpN (s : Shp) (f : Fm) (fo : List Int) (m : Int) (z : Str) (i : Nat) (hd : List Int) : Prop :=
  hd.length = i ∧ ∀ (j : Nat) fd w v, j < i → s.fs[j]? = some fd → f.ws[j]? = some w → fo[j]? = some v → ∃ x, hd[j]? = some x ∧ VO fo (hd.take j) m v fd (numS z (atW s.fs f.ws j) (wW fd w)) w x
section
variable {s : Shp} {f : Fm} {fo : List Int} {m : Int} {z : Str} {i : Nat} {hd hd' : List Int}
theorem OpN.nil : OpN s f fo m z 0 [] := ⟨rfl, fun j _ _ _ h => by omega⟩
theorem OpN.snoc {fd : Fd} {w : Wy} {v x : Int} (h : OpN s f fo m z i hd) (h1 : s.fs[i]? = some fd) (h2 : f.ws[i]? = some w) (h3 : fo[i]? = some v) (hx : VO fo hd m v fd (numS z (atW s.fs f.ws i) (wW fd w)) w x) : OpN s f fo m z (i + 1) (hd ++ [x]) := by
  obtain ⟨hl, h⟩ := h
  refine ⟨by rw [List.length_append, hl]; rfl, fun j fd' w' v' hj e1 e2 e3 => ?_⟩
  by_cases c : j < i
  · obtain ⟨y, hy, hv⟩ := h j fd' w' v' c e1 e2 e3
    refine ⟨y, by rw [List.getElem?_append_left (by omega)]; exact hy, ?_⟩
    rw [List.take_append_of_le_length (by omega)]
    exact hv
  · have e : j = i := by omega
    subst e
    obtain rfl := Option.some.inj (h1.symm.trans e1)
    obtain rfl := Option.some.inj (h2.symm.trans e2)
    obtain rfl := Option.some.inj (h3.symm.trans e3)
    refine ⟨x, ?_, ?_⟩
    · rw [List.getElem?_append_right (by omega), hl, Nat.sub_self]
      rfl
    · rw [List.take_append_of_le_length (by omega), List.take_of_length_le (by omega)]
      exact hx
theorem OpN.one (lw : f.ws.length = s.fs.length) (lf : fo.length = s.fs.length) (hi : i ≤ s.fs.length) (h : OpN s f fo m z i hd) (h' : OpN s f fo m z i hd') : hd = hd' := by
  have key : ∀ j, j ≤ i → hd.take j = hd'.take j := fun j => by
    induction j with
    | zero => exact fun _ => rfl
    | succ j ih =>
      intro hj
      have e := ih (by omega)
      obtain ⟨fd, h1⟩ : ∃ fd, s.fs[j]? = some fd := ⟨_, List.getElem?_eq_getElem (by omega)⟩
      obtain ⟨w, h2⟩ : ∃ w, f.ws[j]? = some w := ⟨_, List.getElem?_eq_getElem (by omega)⟩
      obtain ⟨v, h3⟩ : ∃ v, fo[j]? = some v := ⟨_, List.getElem?_eq_getElem (by omega)⟩
      obtain ⟨x, hx, hv⟩ := h.2 j fd w v (by omega) h1 h2 h3
      obtain ⟨x', hx', hv'⟩ := h'.2 j fd w v (by omega) h1 h2 h3
      rw [e] at hv
      obtain rfl := VO.one hv hv'
      rw [List.take_add_one, List.take_add_one, e, hx, hx']
  have z1 := key i (Nat.le_refl _)
  rw [List.take_of_length_le (by rw [h.1]; exact Nat.le_refl _), List.take_of_length_le (by rw [h'.1]; exact Nat.le_refl _)] at z1
  exact z1
end
theorem atW_all {fs : List Fd} {ws : List Wy} {vs : List Int} (h1 : ws.length = fs.length) (h2 : vs.length = fs.length) : atW fs ws fs.length = triW (triL fs ws vs) := by
  unfold atW triW triL
  rw [List.take_of_length_le (by rw [List.length_zip]; omega)]
  congr 1
  induction fs generalizing ws vs with
  | nil => rfl
  | cons f fs ih =>
    cases ws with
    | nil => simp at h1
    | cons w ws =>
      cases vs with
      | nil => simp at h2
      | cons v vs =>
        show wW f w :: _ = wW f w :: _
        congr 1
        exact ih (by simpa using h1) (by simpa using h2)
theorem atW_le {s : Shp} {f : Fm} (ok : OkShp s) (okf : OkFm s f) : atW s.fs f.ws s.fs.length ≤ 480 := by
  have lw := okf.len
  have l1 := ok.l1
  have e : atW s.fs f.ws s.fs.length = triW (triL s.fs f.ws (List.replicate s.fs.length 0)) := atW_all lw List.length_replicate
  have z := triW_le (triL s.fs f.ws (List.replicate s.fs.length 0)) fun t ht => by
    obtain ⟨i, hi⟩ := List.getElem?_of_mem ht
    obtain ⟨e1, e2⟩ := List.getElem?_zip_eq_some.mp hi
    obtain ⟨e3, _⟩ := List.getElem?_zip_eq_some.mp e2
    have o := ok.fd i _ e1
    have z := wW_le (okf.ok i _ _ e3 e1) (by have := o.b0; omega)
    have := o.b1
    omega
  rw [tri_len lw List.length_replicate] at z
  omega
theorem pieces_01 (ts : List Tri) : ∀ c ∈ cz (piecesT ts), c = 48 ∨ c = 49 := fun c hc => by
  rw [cz_pieces] at hc
  obtain ⟨l, hl, hcl⟩ := List.mem_flatten.mp hc
  obtain ⟨t, _, rfl⟩ := List.mem_map.mp hl
  exact bits_01 c hcl
section
variable {K : PySem.W.Frag} {σ : L2.St} {H : Hp} {Q : VK} {te : TE} {tt : TT} {g : TG} {vs : List Nat} {z : Str}
/-- [.. for c in z], z a text, with draws -/
theorem lcSX (I : Nat → List V → Hp → Prop) (hst : Stb I) (hn : z.length ≤ 1000000) (hI : ∀ i acc H', I i acc H' → acc.length ≤ i) (h0 : ∀ H', Same H H' → I 0 [] H')
    (hs : ∀ i c acc H', z.cps.toList[i]? = some c → Sx H H' → I i acc H' → ∀ (k : VK) (k' : Hp → Prop), (∀ y H4, Sx H' H4 → I (i + 1) (acc ++ [y]) H4 → k y H4) → (∀ H3, Sx H' H3 → I (i + 1) acc H3 → k' H3) →
      g (.str ⟨#[c]⟩) (wipe σ vs) H' fun σ2 H2 => wipe σ2 vs = wipe σ vs ∧ tt σ2 H2 fun b H3 => if b = true then te σ2 H3 k else k' H3)
    (hd : ∀ D acc H', H D = none → Sx H H' → H' D = some (.lst acc) → I z.length acc H' → Q (.ref D) H') : LcOk (Its z) g tt te vs σ Q H :=
  lc_genX (n := z.length) I hst hn hI h0 (fun i acc H' hi _ _ => hi) (fun _ _ _ _ => Nat.le_refl _) (fun i acc x H' H'' hi s1 w1 y => by
    obtain ⟨e1, c, e2, e3⟩ := y
    subst e1
    subst e3
    exact hs i c acc _ (by rw [Array.getElem?_toList]; exact e2) s1 w1) hd
end
/-! single signs -/
def is01 (z : Str) : Prop := ∀ c ∈ cz z, c = 48 ∨ c = 49
def isBS (x : V) : Prop := ∃ y : Str, x = .str y ∧ y.length = 1 ∧ is01 y
theorem strs_of : ∀ {xs : List V}, (∀ x ∈ xs, isBS x) → ∃ ys : List Str, xs = ys.map V.str ∧ ∀ y ∈ ys, y.length = 1 ∧ is01 y
  | [], _ => ⟨[], rfl, fun _ h => nomatch h⟩
  | x :: r, h => by
    obtain ⟨ys, e, hn⟩ := strs_of (xs := r) fun y hy => h y (List.mem_cons_of_mem _ hy)
    obtain ⟨y, rfl, h1⟩ := h x List.mem_cons_self
    refine ⟨y :: ys, by rw [e]; rfl, fun m hm => ?_⟩
    rcases List.mem_cons.mp hm with rfl | hm
    · exact h1
    · exact hn m hm
theorem sum_ones : ∀ {ys : List Str}, (∀ y ∈ ys, y.length = 1 ∧ is01 y) → (ys.map (·.length)).sum = ys.length
  | [], _ => rfl
  | y :: r, h => by
    rw [List.map_cons, List.sum_cons, List.length_cons, (h y List.mem_cons_self).1, sum_ones fun z hz => h z (List.mem_cons_of_mem _ hz)]
    omega
theorem len_joinB {ys : List Str} (h : ∀ y ∈ ys, y.length = 1 ∧ is01 y) : (Txt.join "" ys).length = ys.length := by
  rw [← cz_len, cz_join, List.length_flatten, List.map_map]
  have e : (List.length ∘ cz) = fun y : Str => y.length := by
    funext y
    exact cz_len y
  rw [e]
  exact sum_ones h
theorem is01_join {ys : List Str} (h : ∀ y ∈ ys, y.length = 1 ∧ is01 y) : is01 (Txt.join "" ys) := fun c hc => by
  rw [cz_join] at hc
  obtain ⟨x, hx, hcx⟩ := List.mem_flatten.mp hc
  obtain ⟨y, hy, rfl⟩ := List.mem_map.mp hx
  exact (h y hy).2 c hcx
theorem mul_one {c : Nat} {n : Int} : cz (Txt.mul ⟨#[c]⟩ n) = List.replicate n.toNat c := by
  rw [cz_mul]
  show (List.replicate n.toNat [c]).flatten = _
  induction n.toNat with
  | zero => rfl
  | succ n ih => rw [List.replicate_succ, List.flatten_cons, ih, List.replicate_succ]; rfl
theorem w_ix01 {K : PySem.W.Frag} {H : Hp} {Q : VK} {i : Int} (h0 : 0 ≤ i) (h1 : i < 2) (q : ∀ c, c = 48 ∨ c = 49 → Q (.str ⟨#[c]⟩) H) : rIxU K (.str (Str.ofString "01")) (.int i) H Q := by
  have e : i = 0 ∨ i = 1 := by omega
  rcases e with rfl | rfl
  · exact w_ixs (by decide) (c := 48) rfl (q 48 (.inl rfl))
  · exact w_ixs (by decide) (c := 49) rfl (q 49 (.inr rfl))
theorem mul1_len {c n : Nat} : (Txt.mul ⟨#[c]⟩ (n : Int)).length = n := by
  rw [← cz_len, mul_one, List.length_replicate, Int.toNat_natCast]
theorem mul1_01 {c : Nat} {n : Int} (h : c = 48 ∨ c = 49) : is01 (Txt.mul ⟨#[c]⟩ n) := fun d hd => by
  rw [mul_one] at hd
  rw [List.eq_of_mem_replicate hd]
  exact h
theorem isBS_one {c : Nat} (h : c = 48 ∨ c = 49) : isBS (.str ⟨#[c]⟩) := ⟨_, rfl, rfl, fun d hd => by
  rw [List.mem_singleton.mp hd]
  exact h⟩
end Sh
/-! former heads; which heads are sure -/
namespace Sh
open PySem PySem.Spec PyProof.Rows L2
theorem shaped_tints (ns : List Int) : SeqAt.shaped (.tuple (ns.map PyData.int)) = true := PySem.W.shaped_ints ns
theorem eqvAll_ints : ∀ a b : List Int, PyData.eqvAll (a.map .int) (b.map .int) = decide (a = b)
  | [], [] => by simp [PyData.eqvAll]
  | [], _ :: _ => by simp [PyData.eqvAll]
  | _ :: _, [] => by simp [PyData.eqvAll]
  | x :: xs, y :: ys => by
    show PyData.eqvAll (.int x :: xs.map .int) (.int y :: ys.map .int) = _
    rw [PyData.eqvAll, eqvAll_ints xs ys, show PyData.eqv (.int x) (.int y) = decide (x = y) by by_cases h : x = y <;> simp [PyData.eqv, h]]
    by_cases h : x = y <;> by_cases g : xs = ys <;> simp [h, g]
def headD (h : List Int) : PyData := .tuple (h.map .int)
/-- == of two heads -/
theorem w_eqH {K : PySem.W.Frag} {H : Hp} {Q : VK} {v u : V} {a b : List Int} (h : Dq K H v (headD a)) (h' : Dq K H u (headD b)) (q : Q (.bl (decide (a = b))) H) : rEqU K v u H Q :=
  w_eqD h h' (shaped_tints a) (shaped_tints b) (by
    have e : PyData.eqv (headD a) (headD b) = decide (a = b) := by
      show PyData.eqv (.tuple (a.map .int)) (.tuple (b.map .int)) = _
      rw [PyData.eqv]
      exact eqvAll_ints a b
    rw [e]
    exact q)
/-- a former head with how many letters ahead it is -/
abbrev Fo := Int × List Int
def foD (p : Fo) : PyData := .tuple [.int p.1, headD p.2]
def fosD (ps : List Fo) : PyData := .tuple (ps.map foD)
def OkFo (s : Shp) (p : Fo) : Prop := p.2.length = s.fs.length ∧ 1 ≤ p.1 ∧ p.1 ≤ 1000
/-- a head's own bits are opened to it by a former one -/
def SuP (s : Shp) (f : Fm) (hd : List Int) (p : Fo) : Prop := OpN s f p.2 p.1 (piecesT (triL s.fs f.ws hd)) s.fs.length hd
def SuA (s : Shp) (f : Fm) (hd : List Int) (ps : List Fo) : Prop := ∀ p ∈ ps, SuP s f hd p
theorem suA_nil {s : Shp} {f : Fm} {hd : List Int} : SuA s f hd [] := fun _ h => nomatch h
theorem suA_snoc {s : Shp} {f : Fm} {hd o : List Int} {ps : List Fo} {p : Fo} {i : Nat} {bs : List Bool} (ok : f.ws.length = s.fs.length) (lp : p.2.length = s.fs.length) (h : bs.all id = true ↔ SuA s f hd (ps.take i)) (hp : ps[i]? = some p) (op : OpN s f p.2 p.1 (piecesT (triL s.fs f.ws hd)) s.fs.length o) : (bs ++ [decide (o = hd)]).all id = true ↔ SuA s f hd (ps.take (i + 1)) := by
  have e : decide (o = hd) = true ↔ SuP s f hd p := ⟨fun e => by
    have z := of_decide_eq_true e
    subst z
    exact op, fun e => decide_eq_true (op.one ok lp (Nat.le_refl _) e)⟩
  rw [List.all_append, Bool.and_eq_true, h, List.take_add_one, hp]
  show _ ∧ (([decide (o = hd)].all id) = true) ↔ _
  rw [show [decide (o = hd)].all id = decide (o = hd) from by simp, e]
  constructor
  · rintro ⟨a, b⟩ q hq
    rcases List.mem_append.mp hq with hq | hq
    · exact a q hq
    · rw [List.mem_singleton.mp hq]
      exact b
  · intro a
    exact ⟨fun q hq => a q (List.mem_append.mpr (.inl hq)), a p (List.mem_append.mpr (.inr (List.mem_singleton.mpr rfl)))⟩
section
variable {K : PySem.W.Frag} {H H' : Hp} {v : V} {Q : VK} {a : Addr} {i : Int}
theorem w_ixLm {α : Type} {g : α → PyData} {l : List α} (h : Dq K H v (.list (l.map g))) (h0 : -(l.length : Int) ≤ i) (h1 : i < l.length) (q : ∀ f x, f ∈ l → Dq K H x (g f) → Q x H) : rIxU K v (.int i) H Q := by
  obtain ⟨f, e, hm⟩ := atI_mem h0 h1
  exact w_ixQL h (d := g f) (by rw [atI_map, e]; rfl) fun x hx => q f x hm hx
theorem w_ixLM {α : Type} {g : α → PyData} {l : List α} (h : Dq K H v (.list (l.map g))) (h0 : 0 ≤ i) (h1 : i < l.length) (q : ∀ f x, l[i.toNat]? = some f → Dq K H x (g f) → Q x H) : rIxU K v (.int i) H Q := by
  obtain ⟨f, e, e2⟩ := atI_get h0 h1
  exact w_ixQL h (d := g f) (by rw [atI_map, e2]; rfl) fun x hx => q f x e hx
theorem w_ixQTx {ds : List PyData} {i : Int} {d : PyData} (h : Dq K H v (.tuple ds)) (e : Sx H H') (ea : atI ds i = some d) (q : ∀ x, Dq K H x d → Q x H') : rIxU K v (.int i) H' Q := by
  cases h with
  | tup h r =>
    obtain ⟨x, e1, e2⟩ := dqs_at r ea
    exact w_ixt (sx_t e h.t) e1 (q x e2)
theorem w_max {ns : List Int} (h : SqL K H a (ns.map V.int)) (h0 : 0 < ns.length) (q : ∀ m, m ∈ ns → (∀ y, y ∈ ns → y ≤ m) → Q (.int m) H) : rMax K [.ref a] H Q := ⟨a, ns, rfl, h, h0, q⟩
end
theorem tupO_head (h : List Int) : tupO (headD h) := tupOs_ints h
theorem tupO_fo (p : Fo) : tupO (foD p) := ⟨trivial, tupO_head _, trivial⟩
theorem tupOs_heads (hs : List (List Int)) : tupOs (hs.map headD) := tupOs_of fun d hd => by
  obtain ⟨h, _, rfl⟩ := List.mem_map.mp hd
  exact tupOs_ints h
def HeadsOk (s : Shp) (hs : List (List Int)) : Prop := ∀ h ∈ hs, OkHead s.fs h
section
variable {K : PySem.W.Frag} {σ : L2.St} {H : Hp} {Q : VK} {te : TE} {tt : TT} {g : TG} {vs : List Nat} {c : Int} {n : Nat}
/-- [.. for k in range(c, c + n)] -/
theorem lcR2 (I : Nat → List V → Hp → Prop) (hst : Stb I) (hn : n ≤ 1000000) (hI : ∀ i acc H', I i acc H' → acc.length ≤ i) (h0 : ∀ H', Same H H' → I 0 [] H')
    (hs : ∀ (i : Nat) acc H', i < n → Same H H' → I i acc H' → ∀ (k : VK) (k' : Hp → Prop), (∀ y H4, Same H' H4 → I (i + 1) (acc ++ [y]) H4 → k y H4) → (∀ H3, Same H' H3 → I (i + 1) acc H3 → k' H3) →
      g (.int (c + (i : Int))) (wipe σ vs) H' fun σ2 H2 => wipe σ2 vs = wipe σ vs ∧ tt σ2 H2 fun b H3 => if b = true then te σ2 H3 k else k' H3)
    (hd : ∀ D acc H', H D = none → Same H H' → H' D = some (.lst acc) → I n acc H' → Q (.ref D) H') : LcOk (Itr c n) g tt te vs σ Q H :=
  lc_gen I hst hn hI h0 (fun _ _ _ h _ _ => h) (fun _ _ _ _ => Nat.le_refl _) (fun i acc x H' H'' hi s1 w1 y => by
    obtain ⟨e1, e2⟩ := y
    subst e1
    subst e2
    exact hs i acc _ hi s1 w1) hd
end
section
variable {X : Cx}
theorem w_bits {to : TE} {σ : L2.St} {H : Hp} {Q : VK} (h : to σ H fun x H1 => ∃ i, x = .int i ∧ Q (.int (Builtin.Int.intBits i : Nat)) H1) : tBits to σ H Q := h
theorem bits_two {n : Int} (h : 2 ≤ n) : 2 ≤ Builtin.Int.intBits n := by
  unfold Builtin.Int.intBits
  rw [if_neg (by simpa using (show n ≠ 0 by omega))]
  have e : 1 ≤ n.natAbs.log2 := by
    rw [Nat.le_log2 (by omega)]
    omega
  omega
end
/-! a cut within an expression -/
section
variable {σ : L2.St} {H : Hp}
theorem w_cutA {t : TA} {k : List V → Hp → Prop} (C : List V → Hp → Prop) (key : ∀ xs H', C xs H' → k xs H') (h : ∀ k' : List V → Hp → Prop, (∀ xs H', C xs H' → k' xs H') → t σ H k') : t σ H k := h k key
theorem w_cutE {t : TE} {k : VK} (C : V → Hp → Prop) (key : ∀ x H', C x H' → k x H') (h : ∀ k' : VK, (∀ x H', C x H' → k' x H') → t σ H k') : t σ H k := h k key
end
end Sh
/-! doubts: the first former by which another head is opened -/
namespace Sh
open PySem PySem.Spec PyProof.Rows L2
/-- the first place at which two heads are unlike -/
def FstU (a b : List Int) : Option Nat → Prop
  | none => a = b
  | some k => a.take k = b.take k ∧ ∃ x y, a[k]? = some x ∧ b[k]? = some y ∧ x ≠ y
theorem FstU.one {a b : List Int} {r r' : Option Nat} (h : FstU a b r) (h' : FstU a b r') : r = r' := by
  have lt : ∀ i j, i < j → FstU a b (some i) → FstU a b (some j) → False := fun i j hij ⟨_, x, y, hx, hy, n⟩ ⟨e, _⟩ => by
    have z : (a.take j)[i]? = (b.take j)[i]? := by rw [e]
    rw [List.getElem?_take_of_lt hij, List.getElem?_take_of_lt hij, hx, hy] at z
    exact n (Option.some.inj z)
  cases r with
  | none => cases r' with
    | none => rfl
    | some k =>
      obtain ⟨_, x, y, hx, hy, n⟩ := h'
      have e : a = b := h
      rw [e, hy] at hx
      exact (n (Option.some.inj hx).symm).elim
  | some k => cases r' with
    | none =>
      obtain ⟨_, x, y, hx, hy, n⟩ := h
      have e : a = b := h'
      rw [e, hy] at hx
      exact (n (Option.some.inj hx).symm).elim
    | some k' =>
      have : k = k' := by
        by_cases c : k < k'
        · exact (lt _ _ c h h').elim
        · by_cases c2 : k' < k
          · exact (lt _ _ c2 h' h).elim
          · omega
      rw [this]
theorem take_snocI {a : List Int} {i : Nat} {x : Int} (h : a[i]? = some x) : a.take (i + 1) = a.take i ++ [x] := by
  rw [List.take_add_one, h]
  rfl
def pairD (d : Option (Int × Int × Int)) : PyData := match d with
  | none => .none
  | some (k, p, v) => .tuple [.int k, .int p, .int v]
/-- what a doubt tells -/
def DouR (s : Shp) (f : Fm) (hd : List Int) (ps : List Fo) : Option (Int × Int × Int) → Prop
  | none => SuA s f hd ps
  | some (k, pl, v) => ∃ (i j : Nat) (p : Fo) (o : List Int), k = i ∧ pl = j ∧ ps[i]? = some p ∧ SuA s f hd (ps.take i) ∧ OpN s f p.2 p.1 (piecesT (triL s.fs f.ws hd)) s.fs.length o ∧ FstU o hd (some j) ∧ o[j]? = some v
theorem DouR.not {s : Shp} {f : Fm} {hd : List Int} {ps : List Fo} {p : Fo} {o : List Int} {j : Nat} (okf : f.ws.length = s.fs.length) (lp : p.2.length = s.fs.length) (op : OpN s f p.2 p.1 (piecesT (triL s.fs f.ws hd)) s.fs.length o) (u : FstU o hd (some j)) : ¬ SuP s f hd p := fun h => by
  obtain rfl := OpN.one okf lp (Nat.le_refl _) op h
  obtain ⟨_, x, y, hx, hy, n⟩ := u
  rw [hx] at hy
  exact n (Option.some.inj hy)
theorem suA_lt {s : Shp} {f : Fm} {hd : List Int} {ps : List Fo} {p : Fo} {i j : Nat} (h : SuA s f hd (ps.take j)) (hp : ps[i]? = some p) (hij : i < j) : SuP s f hd p := h p (by
  have e : (ps.take j)[i]? = some p := by rw [List.getElem?_take_of_lt hij, hp]
  exact List.mem_of_getElem? e)
theorem DouR.one {s : Shp} {f : Fm} {hd : List Int} {ps : List Fo} {r r' : Option (Int × Int × Int)} (okf : f.ws.length = s.fs.length) (lp : ∀ p ∈ ps, OkFo s p) (h : DouR s f hd ps r) (h' : DouR s f hd ps r') : r = r' := by
  have key : ∀ {k pl v}, SuA s f hd ps → DouR s f hd ps (some (k, pl, v)) → False := fun su ⟨i, j, p, o, _, _, hp, _, op, u, _⟩ =>
    DouR.not (ps := ps) okf (lp p (List.mem_of_getElem? hp)).1 op u (su p (List.mem_of_getElem? hp))
  cases r with
  | none => cases r' with
    | none => rfl
    | some x => exact (key h h').elim
  | some x => cases r' with
    | none => exact (key h' h).elim
    | some y =>
      obtain ⟨k, pl, v⟩ := x
      obtain ⟨k', pl', v'⟩ := y
      obtain ⟨i, j, p, o, rfl, rfl, hp, su, op, u, hv⟩ := h
      obtain ⟨i', j', p', o', rfl, rfl, hp', su', op', u', hv'⟩ := h'
      have ei : i = i' := by
        by_cases c : i < i'
        · exact (DouR.not (ps := ps) okf (lp p (List.mem_of_getElem? hp)).1 op u (suA_lt su' hp c)).elim
        · by_cases c2 : i' < i
          · exact (DouR.not (ps := ps) okf (lp p' (List.mem_of_getElem? hp')).1 op' u' (suA_lt su hp' c2)).elim
          · omega
      subst ei
      obtain rfl := Option.some.inj (hp.symm.trans hp')
      obtain rfl := OpN.one okf (lp p (List.mem_of_getElem? hp)).1 (Nat.le_refl _) op op'
      obtain rfl := Option.some.inj (FstU.one u u')
      obtain rfl := Option.some.inj (hv.symm.trans hv')
      rfl
theorem suA_step {s : Shp} {f : Fm} {hd o : List Int} {ps : List Fo} {p : Fo} {i : Nat} (h : SuA s f hd (ps.take i)) (hp : ps[i]? = some p) (op : OpN s f p.2 p.1 (piecesT (triL s.fs f.ws hd)) s.fs.length o) (e : o = hd) : SuA s f hd (ps.take (i + 1)) := by
  subst e
  rw [List.take_add_one, hp]
  intro q hq
  rcases List.mem_append.mp hq with hq | hq
  · exact h q hq
  · have z : q ∈ [p] := hq
    rw [List.mem_singleton.mp z]
    exact op
theorem plD_pair (d : Option (Int × Int × Int)) : PlD 6 (pairD d) := by
  cases d with
  | none => trivial
  | some x => exact ⟨by show 3 ≤ 1000; omega, fun d hd => by
      simp only [List.mem_cons, List.not_mem_nil, or_false] at hd
      rcases hd with rfl | rfl | rfl <;> trivial⟩
/-- the places at which heads are unlike, as far as place i -/
def PlI (o hd : List Int) (i : Nat) (ns : List Int) : Prop := (ns = [] ∧ o.take i = hd.take i) ∨ ∃ (k : Nat) (r : List Int), ns = (k : Int) :: r ∧ FstU o hd (some k)
theorem PlI.zero {o hd : List Int} : PlI o hd 0 [] := .inl ⟨rfl, by rw [List.take_zero, List.take_zero]⟩
theorem PlI.same {o hd ns : List Int} {i : Nat} {x : Int} (h : PlI o hd i ns) (h1 : o[i]? = some x) (h2 : hd[i]? = some x) : PlI o hd (i + 1) ns := by
  rcases h with ⟨e, t⟩ | h
  · exact .inl ⟨e, by rw [take_snocI h1, take_snocI h2, t]⟩
  · exact .inr h
theorem PlI.unlike {o hd ns : List Int} {i : Nat} {x y : Int} (h : PlI o hd i ns) (h1 : o[i]? = some x) (h2 : hd[i]? = some y) (n : x ≠ y) : PlI o hd (i + 1) (ns ++ [(i : Int)]) := by
  rcases h with ⟨rfl, t⟩ | ⟨k, r, rfl, u⟩
  · exact .inr ⟨i, [], rfl, t, x, y, h1, h2, n⟩
  · exact .inr ⟨k, r ++ [(i : Int)], rfl, u⟩
section
variable {K : PySem.W.Frag} {σ : L2.St} {H : Hp} {tb : TS} {nx : L2.St → Hp → Prop} {rt : VK} {a : Addr} {xs : List V} {i1 i2 : Nat} {g2 : TG} {te : TE} {tt : TT} {vs : List Nat} {Q : VK}
/-- for place, (..) in enumerate(a tuple) -/
theorem forETg (I : Nat → L2.St → Hp → Prop) (h0 : I 0 σ H) (hI : ∀ i σ' H', I i σ' H' → SqT K H' a xs)
    (hs : ∀ (i : Nat) x σ' H', xs[i]? = some x → I i σ' H' → ∀ H2, Same H' H2 → g2 x (σ'.set i1 (some (.int (i : Int)))) H2 fun σ2 H3 => gNil [] σ2 H3 fun σ3 H4 => tb ⟨I (i + 1), rt, nx, I (i + 1)⟩ σ3 H4) (hd : ∀ σ' H', I xs.length σ' H' → nx σ' H') :
    ForOk (IteT K a) (gTup K 2 (gCons (gName i1) (gCons g2 gNil))) tb nx rt σ H := by
  refine ⟨fun i m σ' H' => m = xs.length - i ∧ i ≤ xs.length ∧ I i σ' H', ⟨_, rfl, Nat.zero_le _, h0⟩, fun i m σ' H1 ⟨em, hi, w1⟩ => ?_⟩
  have s1 := hI _ _ _ w1
  by_cases hlt : i < xs.length
  · refine .inr ⟨⟨xs, xs[i], s1, List.getElem?_eq_getElem hlt⟩, I (i + 1), fun σ2 H2 w2 => ⟨_, by omega, rfl, hlt, w2⟩, fun v H2 y => ?_⟩
    obtain ⟨T, x, rfl, hT, rfl, hy⟩ := y
    have ex := hy xs s1
    exact ⟨T, _, rfl, SqT.of upd_same, rfl, _, _, rfl, _, _, rfl, hs i x σ' H1 ex w1 _ (same_new hT)⟩
  · have e : i = xs.length := by omega
    subst e
    exact .inl ⟨⟨xs, s1, Nat.le_refl _⟩, hd σ' H1 w1⟩
/-- [.. for place, item in enumerate(t) if ..] -/
theorem lcET (hx : SqT K H a xs) (I : Nat → List V → Hp → Prop) (hst : Stb I) (hn : xs.length ≤ 1000000) (hI : ∀ i acc H', I i acc H' → acc.length ≤ i) (h0 : ∀ H', Same H H' → I 0 [] H')
    (hs : ∀ (i : Nat) x acc H', xs[i]? = some x → Same H H' → I i acc H' → ∀ H2, Same H' H2 → ∀ (k : VK) (k' : Hp → Prop), (∀ z H4, Same H2 H4 → I (i + 1) (acc ++ [z]) H4 → k z H4) → (∀ H3, Same H2 H3 → I (i + 1) acc H3 → k' H3) →
      wipe (((wipe σ vs).set i1 (some (.int (i : Int)))).set i2 (some x)) vs = wipe σ vs ∧ tt (((wipe σ vs).set i1 (some (.int (i : Int)))).set i2 (some x)) H2 fun b H3 => if b = true then te (((wipe σ vs).set i1 (some (.int (i : Int)))).set i2 (some x)) H3 k else k' H3)
    (hd : ∀ D acc H', H D = none → Same H H' → H' D = some (.lst acc) → I xs.length acc H' → Q (.ref D) H') :
    LcOk (IteT K a) (gTup K 2 (gCons (gName i1) (gCons (gName i2) gNil))) tt te vs σ Q H :=
  lc_gen (n := xs.length) I hst hn hI h0
    (fun i acc H' hi s1 _ => ⟨xs, xs[i], same_t s1 hx, List.getElem?_eq_getElem hi⟩)
    (fun _ _ s1 _ => ⟨xs, same_t s1 hx, Nat.le_refl _⟩)
    (fun i acc v H' H'' hi s1 w1 z => by
      obtain ⟨T, x, rfl, hT, rfl, ex⟩ := z
      intro k k' hk hk'
      refine ⟨T, _, rfl, SqT.of upd_same, rfl, _, _, rfl, _, _, rfl, rfl, ?_⟩
      exact hs i x acc H' (ex xs (same_t s1 hx)) s1 w1 _ (same_new hT) k k' (fun z H4 e => hk z H4 ((same_new hT).trans e)) fun H3 e => hk' H3 ((same_new hT).trans e))
    hd
end
/-! what shows a doubt -/
def trD (t : Int × Int × Int) : PyData := .tuple [.int t.1, .int t.2.1, .int t.2.2]
theorem trD_inj {t u : Int × Int × Int} (h : trD t = trD u) : t = u := by
  obtain ⟨a, b, c⟩ := t
  obtain ⟨a', b', c'⟩ := u
  injection h with h
  injection h with h1 h
  injection h with h2 h
  injection h with h3 h
  injection h1 with h1
  injection h2 with h2
  injection h3 with h3
  have e1 : a = a' := h1
  have e2 : b = b' := h2
  have e3 : c = c' := h3
  rw [e1, e2, e3]
theorem tupO_tr (t : Int × Int × Int) : tupO (trD t) := ⟨trivial, trivial, trivial, trivial⟩
theorem plD_tr (t : Int × Int × Int) : PlD 6 (trD t) := plD_pair (some t)
def Shw (s : Shp) (f : Fm) (hd : List Int) (ps : List Fo) (t : Int × Int × Int) : Prop := ∃ (i j : Nat) (p : Fo) (o : List Int), t.1 = i ∧ t.2.1 = j ∧ ps[i]? = some p ∧ OpN s f p.2 p.1 (piecesT (triL s.fs f.ws hd)) s.fs.length o ∧ FstU o hd (some j) ∧ o[j]? = some t.2.2
theorem shw_iff {s : Shp} {f : Fm} {hd o : List Int} {ps : List Fo} {p : Fo} {i : Nat} {r : Option Nat} (okf : f.ws.length = s.fs.length) (lp : p.2.length = s.fs.length) (hp : ps[i]? = some p) (op : OpN s f p.2 p.1 (piecesT (triL s.fs f.ws hd)) s.fs.length o) (u : FstU o hd r) {pl v : Int} : Shw s f hd ps ((i : Int), pl, v) ↔ ∃ j, r = some j ∧ pl = (j : Nat) ∧ o[j]? = some v := by
  constructor
  · rintro ⟨i', j, p', o', e1, e2, hp', op', u', hv⟩
    have e1 : (i : Int) = i' := e1
    obtain rfl : i = i' := by omega
    obtain rfl := Option.some.inj (hp.symm.trans hp')
    obtain rfl := OpN.one okf lp (Nat.le_refl _) op op'
    exact ⟨j, FstU.one u u', e2, hv⟩
  · rintro ⟨j, rfl, e, hv⟩
    exact ⟨i, j, p, o, rfl, e, hp, op, u, hv⟩
theorem shw_lt {s : Shp} {f : Fm} {hd : List Int} {ps : List Fo} {t : Int × Int × Int} (h : Shw s f hd ps t) : 0 ≤ t.1 ∧ t.1 < ps.length := by
  obtain ⟨i, j, p, o, e, _, hp, _⟩ := h
  have := (List.getElem?_eq_some_iff.mp hp).1
  omega
theorem shw_not {s : Shp} {f : Fm} {hd : List Int} {ps : List Fo} (okf : f.ws.length = s.fs.length) (lp : ∀ p ∈ ps, OkFo s p) (h : DouR s f hd ps none) (t : Int × Int × Int) : ¬ Shw s f hd ps t := fun ⟨i, j, p, o, _, _, hp, op, u, _⟩ =>
  DouR.not (ps := ps) okf (lp p (List.mem_of_getElem? hp)).1 op u (h p (List.mem_of_getElem? hp))
theorem shw_dou {s : Shp} {f : Fm} {hd : List Int} {ps : List Fo} {t : Int × Int × Int} (h : DouR s f hd ps (some t)) : Shw s f hd ps t := by
  obtain ⟨i, j, p, o, e1, e2, hp, _, op, u, hv⟩ := h
  exact ⟨i, j, p, o, e1, e2, hp, op, u, hv⟩
/-- those that are shown by formers ahead of place i -/
def AllS (s : Shp) (f : Fm) (hd : List Int) (ps : List Fo) (i : Nat) (ts : List (Int × Int × Int)) : Prop := ∀ t, t ∈ ts ↔ Shw s f hd ps t ∧ t.1 < i
theorem allS_zero {s : Shp} {f : Fm} {hd : List Int} {ps : List Fo} : AllS s f hd ps 0 [] := fun t => ⟨(fun h => nomatch h), fun h => by
  have := shw_lt h.1
  have := h.2
  omega⟩
theorem allS_step {s : Shp} {f : Fm} {hd o : List Int} {ps : List Fo} {p : Fo} {i : Nat} {r : Option Nat} {ts ts' : List (Int × Int × Int)} (okf : f.ws.length = s.fs.length) (lp : p.2.length = s.fs.length) (hp : ps[i]? = some p) (op : OpN s f p.2 p.1 (piecesT (triL s.fs f.ws hd)) s.fs.length o) (u : FstU o hd r) (h : AllS s f hd ps i ts)
    (hr : match r with | none => ts' = ts | some j => ∃ v, o[j]? = some v ∧ ts' = ts ++ [((i : Int), (j : Int), v)]) : AllS s f hd ps (i + 1) ts' := by
  intro t
  have lt : (Shw s f hd ps t ∧ t.1 < ((i + 1 : Nat) : Int)) ↔ (Shw s f hd ps t ∧ t.1 < i) ∨ (Shw s f hd ps t ∧ t.1 = i) := by
    constructor
    · rintro ⟨a, b⟩
      rcases (show t.1 < i ∨ t.1 = i by omega) with c | c
      · exact .inl ⟨a, c⟩
      · exact .inr ⟨a, c⟩
    · rintro (⟨a, b⟩ | ⟨a, b⟩)
      · exact ⟨a, by omega⟩
      · exact ⟨a, by omega⟩
  rw [lt, ← h t]
  obtain ⟨k, pl, v⟩ := t
  cases r with
  | none =>
    have e : ts' = ts := hr
    rw [e]
    constructor
    · exact .inl
    · rintro (a | ⟨a, b⟩)
      · exact a
      · have b : k = i := b
        subst b
        obtain ⟨j, z, _⟩ := (shw_iff okf lp hp op u).mp a
        cases z
  | some j =>
    obtain ⟨w, hw, rfl⟩ := hr
    rw [List.mem_append, List.mem_singleton]
    constructor
    · rintro (a | a)
      · exact .inl a
      · injection a with a1 a2
        injection a2 with a2 a3
        subst a1 a2 a3
        exact .inr ⟨(shw_iff okf lp hp op u).mpr ⟨j, rfl, rfl, hw⟩, rfl⟩
    · rintro (a | ⟨a, b⟩)
      · exact .inl a
      · have b : k = i := b
        subst b
        obtain ⟨j', z, z2, z3⟩ := (shw_iff okf lp hp op u).mp a
        obtain rfl := Option.some.inj z
        obtain rfl := Option.some.inj (hw.symm.trans z3)
        exact .inr (by rw [z2])
theorem allS_all {s : Shp} {f : Fm} {hd : List Int} {ps : List Fo} {ts : List (Int × Int × Int)} (h : AllS s f hd ps ps.length ts) (t : Int × Int × Int) : t ∈ ts ↔ Shw s f hd ps t := by
  rw [h t]
  exact ⟨fun h => h.1, fun h => ⟨h, (shw_lt h).2⟩⟩
theorem isIntD_ex {d : PyData} (h : isIntD d = true) : ∃ i, d = .int i := by
  cases d <;> first | exact ⟨_, rfl⟩ | cases h
theorem FstU.of_PlI {o hd ns : List Int} (l1 : o.length ≤ n) (l2 : hd.length ≤ n) (h : PlI o hd n ns) : (ns = [] ∧ FstU o hd none) ∨ ∃ (k : Nat) (r : List Int), ns = (k : Int) :: r ∧ FstU o hd (some k) := by
  rcases h with ⟨e, t⟩ | h
  · refine .inl ⟨e, ?_⟩
    rw [List.take_of_length_le l1, List.take_of_length_le l2] at t
    exact t
  · exact .inr h
theorem opN_bd {s : Shp} {f : Fm} {fo : List Int} {m : Int} {z : Str} {o : List Int} {j : Nat} {v : Int} (ok : OkShp s) (okf : OkFm s f) (lf : fo.length = s.fs.length) (h01 : ∀ c ∈ cz z, c = 48 ∨ c = 49) (hz : z.length = atW s.fs f.ws s.fs.length) (op : OpN s f fo m z s.fs.length o) (hv : o[j]? = some v) : 0 ≤ v ∧ v < 1099511627776 := by
  have hj := (List.getElem?_eq_some_iff.mp hv).1
  rw [op.1] at hj
  have lw := okf.len
  obtain ⟨fd, h1⟩ : ∃ fd, s.fs[j]? = some fd := ⟨_, List.getElem?_eq_getElem hj⟩
  obtain ⟨w, h2⟩ : ∃ w, f.ws[j]? = some w := ⟨_, List.getElem?_eq_getElem (by omega)⟩
  obtain ⟨y, h3⟩ : ∃ y, fo[j]? = some y := ⟨_, List.getElem?_eq_getElem (by omega)⟩
  obtain ⟨x, hx, hvo⟩ := op.2 j fd w y hj h1 h2 h3
  obtain rfl := Option.some.inj (hx.symm.trans hv)
  have okd := ok.fd j fd h1
  have b0 := okd.b0
  have pb := p2_pos fd.br
  have pl : p2 fd.br ≤ p2 40 := p2_le okd.b1
  have e40 : p2 40 = 1099511627776 := rfl
  cases w with
  | whole =>
    have e : x = numS z (atW s.fs f.ws j) (wW fd .whole) := hvo
    have z1 := atW_succ h1 h2
    have z2 := atW_mono s.fs f.ws (show j + 1 ≤ s.fs.length from hj)
    have z3 := numS_bd (a := atW s.fs f.ws j) (l := wW fd .whole) h01 (by omega)
    have e2 : (2 : Int) ^ (wW fd .whole) = p2 fd.br := rfl
    rw [e2] at z3
    omega
  | keep =>
    obtain ⟨r, _, rfl⟩ := hvo
    have a := Int.emod_nonneg r (Int.ne_of_gt pb)
    have b := Int.emod_lt_of_pos r pb
    omega
  | low wd bl =>
    obtain ⟨r, _, rfl⟩ := hvo
    have a := Int.emod_nonneg ((r % p2 fd.br) - bl + (numS z (atW s.fs f.ws j) (wW fd (.low wd bl)) - ((r % p2 fd.br) - bl)) % p2 wd) (Int.ne_of_gt pb)
    have b := Int.emod_lt_of_pos ((r % p2 fd.br) - bl + (numS z (atW s.fs f.ws j) (wW fd (.low wd bl)) - ((r % p2 fd.br) - bl)) % p2 wd) pb
    unfold arnF
    omega
theorem shw_bd {s : Shp} {f : Fm} {hd : List Int} {ps : List Fo} {t : Int × Int × Int} (ok : OkShp s) (okf : OkFm s f) (lh : hd.length = s.fs.length) (okp : ∀ p ∈ ps, OkFo s p) (h : Shw s f hd ps t) : 0 ≤ t.1 ∧ t.1 < ps.length ∧ 0 ≤ t.2.2 ∧ t.2.2 < 1099511627776 := by
  have z := shw_lt h
  obtain ⟨i, j, p, o, _, _, hp, op, u, hv⟩ := h
  have b := opN_bd ok okf (okp p (List.mem_of_getElem? hp)).1 (pieces_01 _) (by rw [pieces_len, atW_all okf.len lh]) op hv
  exact ⟨z.1, z.2, b.1, b.2⟩
theorem shaped_trs (ts : List (Int × Int × Int)) : SeqAt.shaped (.list (ts.map trD)) = true := shaped_list (k := 10) (by decide) fun d hd => by
  obtain ⟨t, _, rfl⟩ := List.mem_map.mp hd
  exact ⟨by simp [trD, PyData.canLay0, PyData.canLayAll0], by simp [trD, PyData.depth, PyData.depthAll]⟩
end Sh
/-! heads within the windows of a form, and beside them -/
namespace Sh
open PySem PySem.Spec PyProof.Rows L2
/-! the number of a piece -/
theorem drop_fl {α : Type} (g : α → List Nat) : ∀ (ts : List α) (j : Nat), ((ts.map g).flatten).drop (((ts.take j).map fun t => (g t).length).sum) = ((ts.drop j).map g).flatten
  | ts, 0 => by simp
  | [], j + 1 => by simp
  | t :: r, j + 1 => by
    rw [List.take_succ_cons, List.map_cons, List.map_cons, List.sum_cons, List.flatten_cons, List.drop_succ_cons, ← drop_fl g r j, ← List.drop_drop, List.drop_append]
    simp
theorem tri_zip : ∀ {fs : List Fd} {ws : List Wy} {vs : List Int}, ws.length = fs.length → vs.length = fs.length → (triL fs ws vs).map (fun t => (t.1, t.2.1)) = fs.zip ws
  | [], _, _, _, _ => rfl
  | _ :: _, [], _, h, _ => by simp at h
  | _ :: _, _ :: _, [], _, h => by simp at h
  | f :: fs, w :: ws, v :: vs, h1, h2 => by
    have ih := tri_zip (fs := fs) (ws := ws) (vs := vs) (by simpa using h1) (by simpa using h2)
    unfold triL at ih ⊢
    rw [List.zip_cons_cons, List.zip_cons_cons, List.map_cons, ih, List.zip_cons_cons]
theorem atW_tri {fs : List Fd} {ws : List Wy} {vs : List Int} (h1 : ws.length = fs.length) (h2 : vs.length = fs.length) (j : Nat) : atW fs ws j = (((triL fs ws vs).take j).map fun t => (cz (pieceT t)).length).sum := by
  unfold atW
  rw [← tri_zip h1 h2, ← List.map_take, List.map_map]
  congr 1
  refine List.map_congr_left fun t _ => ?_
  show wW t.1 t.2.1 = _
  rw [cz_len]
  unfold pieceT
  rw [len_bitsT]
theorem numS_piece {fs : List Fd} {ws : List Wy} {vs : List Int} {j : Nat} {f : Fd} {w : Wy} {v : Int} (l1 : ws.length = fs.length) (l2 : vs.length = fs.length) (h1 : fs[j]? = some f) (h2 : ws[j]? = some w) (h3 : vs[j]? = some v) : numS (piecesT (triL fs ws vs)) (atW fs ws j) (wW f w) = v % p2 (wW f w : Nat) := by
  have ht := tri_get h1 h2 h3
  unfold numS sliceN
  rw [cz_pieces, atW_tri l1 l2 j, drop_fl]
  have ed : (triL fs ws vs).drop j = (f, w, v) :: (triL fs ws vs).drop (j + 1) := by
    have hj := (List.getElem?_eq_some_iff.mp ht).1
    rw [List.drop_eq_getElem_cons hj, (List.getElem?_eq_some_iff.mp ht).2]
  rw [ed, List.map_cons, List.flatten_cons]
  have lp : (cz (pieceT (f, w, v))).length = wW f w := by
    rw [cz_len]
    unfold pieceT
    rw [len_bitsT]
  rw [List.take_append_of_le_length (by omega), List.take_of_length_le (by omega)]
  have pp := p2_pos (wW f w : Nat)
  have e2 : p2 ((wW f w : Nat) : Int) = 2 ^ wW f w := by
    unfold p2
    rw [Int.toNat_natCast]
  have a := Int.emod_nonneg v (Int.ne_of_gt pp)
  have b := Int.emod_lt_of_pos v pp
  exact numT_bits a (by rw [← e2]; exact b)
/-! windows -/
def belW : Wy → Int
  | .low _ l => l
  | _ => 0
def WinV (fo ah : List Int) (m v : Int) (fd : Fd) : Wy → Int → Prop
  | .whole, x => 0 ≤ x ∧ x < p2 fd.br
  | .keep, x => ∃ r, ExpK fo ah m v fd.kd r ∧ x = r % p2 fd.br
  | .low wd bl, x => ∃ r c, ExpK fo ah m v fd.kd r ∧ 0 ≤ c ∧ c < p2 wd ∧ x = (r % p2 fd.br - bl + c) % p2 fd.br
theorem p2_dvdI {a b : Int} (h : a ≤ b) : p2 a ∣ p2 b := by
  unfold p2
  refine ⟨2 ^ (b.toNat - a.toNat), ?_⟩
  rw [← Int.pow_add]
  congr 1
  omega
theorem back_mod {B P y t : Int} (hd : P ∣ B) : ((y + t) % B % P - y) % P = t % P := by
  rw [Int.emod_emod_of_dvd _ hd, Int.sub_emod, Int.emod_emod_of_dvd _ (Int.dvd_refl P), ← Int.sub_emod]
  congr 1
  omega
theorem vo_win {fo ah : List Int} {m v x : Int} {fd : Fd} {w : Wy} (b0 : 0 ≤ fd.br) (ok : OkWy fd.br w) (h : WinV fo ah m v fd w x) : VO fo ah m v fd (x % p2 (wW fd w : Nat)) w x := by
  cases w with
  | whole =>
    show x = x % p2 ((fd.br.toNat : Nat) : Int)
    rw [show ((fd.br.toNat : Nat) : Int) = fd.br by omega]
    exact (Int.emod_eq_of_lt h.1 h.2).symm
  | keep => exact h
  | low wd bl =>
    obtain ⟨r, c, hr, c0, c1, hx⟩ := h
    refine ⟨r, hr, ?_⟩
    have w0 := ok.1
    show x = arnF fd.br (r % p2 fd.br) bl (x % p2 ((wd.toNat : Nat) : Int)) wd
    rw [show ((wd.toNat : Nat) : Int) = wd by omega]
    unfold arnF
    rw [hx, back_mod (p2_dvdI ok.2.1), Int.emod_eq_of_lt c0 c1]
/-- the values lie in the windows, as far as place i -/
def WinN (s : Shp) (f : Fm) (fo : List Int) (m : Int) (i : Nat) (hd : List Int) : Prop :=
  hd.length = i ∧ ∀ (j : Nat) fd w v, j < i → s.fs[j]? = some fd → f.ws[j]? = some w → fo[j]? = some v → ∃ x, hd[j]? = some x ∧ WinV fo (hd.take j) m v fd w x
theorem WinN.nil {s : Shp} {f : Fm} {fo : List Int} {m : Int} : WinN s f fo m 0 [] := ⟨rfl, fun j _ _ _ h => by omega⟩
theorem WinN.snoc {s : Shp} {f : Fm} {fo hd : List Int} {m : Int} {i : Nat} {fd : Fd} {w : Wy} {v x : Int} (h : WinN s f fo m i hd) (h1 : s.fs[i]? = some fd) (h2 : f.ws[i]? = some w) (h3 : fo[i]? = some v) (hx : WinV fo hd m v fd w x) : WinN s f fo m (i + 1) (hd ++ [x]) := by
  obtain ⟨hl, h⟩ := h
  refine ⟨by rw [List.length_append, hl]; rfl, fun j fd' w' v' hj e1 e2 e3 => ?_⟩
  by_cases c : j < i
  · obtain ⟨y, hy, hv⟩ := h j fd' w' v' c e1 e2 e3
    refine ⟨y, by rw [List.getElem?_append_left (by omega)]; exact hy, ?_⟩
    rw [List.take_append_of_le_length (by omega)]
    exact hv
  · have e : j = i := by omega
    subst e
    obtain rfl := Option.some.inj (h1.symm.trans e1)
    obtain rfl := Option.some.inj (h2.symm.trans e2)
    obtain rfl := Option.some.inj (h3.symm.trans e3)
    refine ⟨x, ?_, ?_⟩
    · rw [List.getElem?_append_right (by omega), hl, Nat.sub_self]
      rfl
    · rw [List.take_append_of_le_length (by omega), List.take_of_length_le (by omega)]
      exact hx
theorem WinN.cut {s : Shp} {f : Fm} {fo hd : List Int} {m : Int} {i p : Nat} (h : WinN s f fo m i hd) (hp : p ≤ i) : WinN s f fo m p (hd.take p) := by
  refine ⟨by rw [List.length_take, h.1]; omega, fun j fd w v hj e1 e2 e3 => ?_⟩
  obtain ⟨x, hx, hv⟩ := h.2 j fd w v (by omega) e1 e2 e3
  refine ⟨x, by rw [List.getElem?_take_of_lt hj]; exact hx, ?_⟩
  rw [List.take_take, Nat.min_eq_left (by omega)]
  exact hv
theorem OpN.cut {s : Shp} {f : Fm} {fo hd : List Int} {m : Int} {z : Str} {i p : Nat} (h : OpN s f fo m z i hd) (hp : p ≤ i) : OpN s f fo m z p (hd.take p) := by
  refine ⟨by rw [List.length_take, h.1]; omega, fun j fd w v hj e1 e2 e3 => ?_⟩
  obtain ⟨x, hx, hv⟩ := h.2 j fd w v (by omega) e1 e2 e3
  refine ⟨x, by rw [List.getElem?_take_of_lt hj]; exact hx, ?_⟩
  rw [List.take_take, Nat.min_eq_left (by omega)]
  exact hv
theorem op_win {s : Shp} {f : Fm} {fo hd vs : List Int} {m : Int} {i : Nat} (ok : OkShp s) (okf : OkFm s f) (h : WinN s f fo m i hd) (lv : vs.length = s.fs.length) (ht : vs.take i = hd) : OpN s f fo m (piecesT (triL s.fs f.ws vs)) i hd := by
  refine ⟨h.1, fun j fd w v hj e1 e2 e3 => ?_⟩
  obtain ⟨x, hx, hv⟩ := h.2 j fd w v hj e1 e2 e3
  have hvx : vs[j]? = some x := by
    rw [← ht, List.getElem?_take_of_lt hj] at hx
    exact hx
  refine ⟨x, hx, ?_⟩
  rw [numS_piece okf.len lv e1 e2 hvx]
  exact vo_win (by have := (ok.fd j fd e1).b0; omega) (okf.ok j w fd e2 e1) hv
/-! one value beside its window -/
def Bes (s : Shp) (f : Fm) (fo : List Int) (m : Int) (hd : List Int) (p : Nat) (val : Int) : Prop :=
  ∃ fd w v r far, s.fs[p]? = some fd ∧ f.ws[p]? = some w ∧ fo[p]? = some v ∧ ((wW fd w : Nat) : Int) < fd.br ∧ ExpK fo (hd.take p) m v fd.kd r ∧ p2 (wW fd w : Nat) ≤ far ∧ far < p2 fd.br ∧ val = (r % p2 fd.br - belW w + far) % p2 fd.br
/-- the values that are told -/
theorem vo_bes {fo ah : List Int} {m v r far x : Int} {fd : Fd} {w : Wy} (ok : OkWy fd.br w) (hw : ((wW fd w : Nat) : Int) < fd.br) (hr : ExpK fo ah m v fd.kd r) (h : VO fo ah m v fd ((r % p2 fd.br - belW w + far) % p2 fd.br % p2 (wW fd w : Nat)) w x) : x = (r % p2 fd.br - belW w + far % p2 (wW fd w : Nat)) % p2 fd.br := by
  cases w with
  | whole =>
    have : ((fd.br.toNat : Nat) : Int) < fd.br := hw
    omega
  | keep =>
    obtain ⟨r', hr', e⟩ := h
    obtain rfl := ExpK.one hr hr'
    have pb := p2_pos fd.br
    have e1 : p2 ((wW fd .keep : Nat) : Int) = 1 := rfl
    rw [e1, Int.emod_one]
    show x = (r % p2 fd.br - 0 + 0) % p2 fd.br
    rw [Int.sub_zero, Int.add_zero, Int.emod_emod_of_dvd _ (Int.dvd_refl _)]
    exact e
  | low wd bl =>
    obtain ⟨r', hr', e⟩ := h
    obtain rfl := ExpK.one hr hr'
    have w0 := ok.1
    have e1 : ((wW fd (.low wd bl) : Nat) : Int) = wd := by
      show ((wd.toNat : Nat) : Int) = wd
      omega
    rw [e1] at e ⊢
    unfold arnF at e
    have e2 := back_mod (B := p2 fd.br) (P := p2 wd) (y := r % p2 fd.br - bl) (t := far) (p2_dvdI ok.2.1)
    have e3 : belW (.low wd bl) = bl := rfl
    rw [e3] at e ⊢
    rw [e2] at e
    exact e
section
variable {B P y far : Int}
theorem bes_ne (hP : 0 < P) (h0 : P ≤ far) (h1 : far < B) : (y + far % P) % B ≠ (y + far) % B := fun e => by
  have a := Int.emod_nonneg far (Int.ne_of_gt hP)
  have b := Int.emod_lt_of_pos far hP
  have d : B ∣ (y + far) - (y + far % P) := Int.dvd_of_emod_eq_zero (Int.emod_eq_emod_iff_emod_sub_eq_zero.mp e.symm)
  have le := Int.le_of_dvd (by omega) d
  omega
theorem bes_in (hP : 0 < P) (h0 : P ≤ far) (h1 : far < B) : ((y + far % P) % B - y) % B < P := by
  have a := Int.emod_nonneg far (Int.ne_of_gt hP)
  have b := Int.emod_lt_of_pos far hP
  have e : ((y + far % P) % B - y) % B = far % P % B := by
    rw [Int.sub_emod, Int.emod_emod_of_dvd _ (Int.dvd_refl B), ← Int.sub_emod]
    congr 1
    omega
  rw [e, Int.emod_eq_of_lt a (by omega)]
  exact b
theorem bes_rest (hd : P ∣ B) : ((y + far % P) % B - (y + far) % B) % P = 0 := by
  rw [Int.sub_emod, Int.emod_emod_of_dvd _ hd, Int.emod_emod_of_dvd _ hd, ← Int.sub_emod]
  have e : y + far % P - (y + far) = 0 - P * (far / P) := by
    have := Int.mul_ediv_add_emod far P
    omega
  rw [e, Int.zero_sub, ← Int.mul_neg, Int.mul_emod_right]
end
theorem w_neH {K : PySem.W.Frag} {H : Hp} {Q : VK} {v u : V} {a b : List Int} (h : Dq K H v (headD a)) (h' : Dq K H u (headD b)) (q : Q (.bl (!decide (a = b))) H) : rNeU K v u H Q :=
  w_neD h h' (shaped_tints a) (shaped_tints b) (by
    have e : PyData.eqv (headD a) (headD b) = decide (a = b) := by
      show PyData.eqv (.tuple (a.map .int)) (.tuple (b.map .int)) = _
      rw [PyData.eqv]
      exact eqvAll_ints a b
    rw [e]
    exact q)
end Sh
/-! pacts and letters -/
namespace Sh
open PySem PySem.Spec PyProof.Rows L2
/-- the least width of so many unlike numbers -/
def IsW (m : Int) (n : Nat) : Prop := m ≤ 2 ^ n ∧ ∀ u : Nat, u < n → (2 : Int) ^ u < m
theorem isW_one {m : Int} {a b : Nat} (h : IsW m a) (h' : IsW m b) : a = b := by
  rcases Nat.lt_trichotomy a b with q | q | q
  · have := h'.2 a q
    have := h.1
    omega
  · exact q
  · have := h.2 b q
    have := h'.1
    omega
theorem pow_lt_of {a b : Nat} (h : (2 : Int) ^ a < 2 ^ b) : a < b := by
  have h2 : (2 : Nat) ^ a < 2 ^ b := by
    have e1 : ((2 ^ a : Nat) : Int) = (2 : Int) ^ a := by simp
    have e2 : ((2 ^ b : Nat) : Int) = (2 : Int) ^ b := by simp
    omega
  exact (Nat.pow_lt_pow_iff_right (by decide)).mp h2
/-- each value, two more than its place times -/
def ckF : Nat → List Int → Int
  | _, [] => 0
  | i, v :: r => ((i : Int) + 2) * v + ckF (i + 1) r
theorem ckF_snoc : ∀ (l : List Int) (j : Nat) (v : Int), ckF j (l ++ [v]) = ckF j l + ((j : Int) + l.length + 2) * v
  | [], j, v => by
    show ((j : Int) + 2) * v + 0 = 0 + ((j : Int) + ((0 : Nat) : Int) + 2) * v
    rw [Int.add_zero, Int.zero_add, Int.natCast_zero, Int.add_zero]
  | w :: r, j, v => by
    show ((j : Int) + 2) * w + ckF (j + 1) (r ++ [v]) = ((j : Int) + 2) * w + ckF (j + 1) r + ((j : Int) + ((r.length + 1 : Nat) : Int) + 2) * v
    have e : ((j + 1 : Nat) : Int) + (r.length : Int) + 2 = (j : Int) + ((r.length + 1 : Nat) : Int) + 2 := by omega
    rw [ckF_snoc r (j + 1) v, e, ← Int.add_assoc]
theorem ckF_set : ∀ (l : List Int) (j i : Nat) (v w : Int), l[i]? = some v → ckF j (l.set i w) = ckF j l + ((j : Int) + i + 2) * (w - v)
  | [], _, _, _, _, h => by simp at h
  | x :: r, j, 0, v, w, h => by
    simp at h
    subst h
    show ((j : Int) + 2) * w + ckF (j + 1) r = ((j : Int) + 2) * x + ckF (j + 1) r + ((j : Int) + ((0 : Nat) : Int) + 2) * (w - x)
    rw [Int.mul_sub]
    have e : (j : Int) + ((0 : Nat) : Int) + 2 = (j : Int) + 2 := by omega
    rw [e]
    omega
  | x :: r, j, i + 1, v, w, h => by
    show ((j : Int) + 2) * x + ckF (j + 1) (r.set i w) = ((j : Int) + 2) * x + ckF (j + 1) r + ((j : Int) + ((i + 1 : Nat) : Int) + 2) * (w - v)
    have e : ((j + 1 : Nat) : Int) + (i : Int) + 2 = (j : Int) + ((i + 1 : Nat) : Int) + 2 := by omega
    rw [ckF_set r (j + 1) i v w (by simpa using h), e, ← Int.add_assoc]
theorem take_snoc {α : Type} {l : List α} {i : Nat} {x : α} (h : l[i]? = some x) : l.take (i + 1) = l.take i ++ [x] := by
  rw [List.take_add_one, h]
  rfl
theorem isW_to {m : Int} : ∀ k : Nat, m ≤ 2 ^ k → ∃ n, n ≤ k ∧ IsW m n
  | 0, h => ⟨0, Nat.le_refl _, h, fun u hu => by omega⟩
  | k + 1, h => by
    by_cases c : m ≤ 2 ^ k
    · obtain ⟨n, hn, hw⟩ := isW_to k c
      exact ⟨n, by omega, hw⟩
    · refine ⟨k + 1, Nat.le_refl _, h, fun u hu => ?_⟩
      have e : (2 : Int) ^ u ≤ 2 ^ k := by
        have z := ipow_le (a := 2) (by decide) (show u ≤ k by omega)
        exact z
      omega
theorem isW_le {m : Int} {n k : Nat} (h : IsW m n) (hk : m ≤ 2 ^ k) : n ≤ k := by
  obtain ⟨n', hn, hw⟩ := isW_to k hk
  rw [isW_one h hw]
  exact hn
theorem sgn_mod {n : Int} {w i : Nat} (h : i < w) : sgn (n % 2 ^ w) i = sgn n i := by
  unfold sgn
  have e : n % 2 ^ w / 2 ^ i % 2 = n / 2 ^ i % 2 := by
    have p : (0 : Int) < 2 ^ i := Int.pow_pos (by decide)
    have ew : (2 : Int) ^ w = 2 ^ i * (2 * 2 ^ (w - i - 1)) := by
      rw [← Int.mul_assoc, show (2 : Int) ^ i * 2 = 2 ^ (i + 1) from (Int.pow_succ 2 i).symm, ← Int.pow_add]
      congr 1
      omega
    have d := Int.mul_ediv_add_emod n (2 ^ w)
    have en : n = n % 2 ^ w + 2 ^ i * (2 * 2 ^ (w - i - 1) * (n / 2 ^ w)) := by
      rw [← Int.mul_assoc, ← ew]
      omega
    have e2 : n / 2 ^ i = n % 2 ^ w / 2 ^ i + 2 * (2 ^ (w - i - 1) * (n / 2 ^ w)) := by
      conv => lhs; rw [en]
      rw [Int.add_mul_ediv_left _ _ (Int.ne_of_gt p), Int.mul_assoc]
    rw [e2]
    omega
  rw [e]
theorem bitsT_mod (n : Int) (w : Nat) : bitsT (n % 2 ^ w) w = bitsT n w := by
  refine cz_inj ?_
  rw [cz_bitsT, cz_bitsT]
  congr 1
  unfold lowB
  exact List.map_congr_left fun i hi => sgn_mod (List.mem_range.mp hi)
theorem bitsT_p2 (n w : Int) : bitsT (n % p2 w) w.toNat = bitsT n w.toNat := bitsT_mod n w.toNat
structure Pt where
  s : Shp
  n : Int
  fs : List Fm
  sk : Int
  gp : Int
  lt : Int
  an : Int
  sw : Nat
  cw : Nat
def ptD (p : Pt) : PyData := .tuple [shD p.s, .int p.n, .tuple (p.fs.map fmD), .tuple [.int p.sk, .int p.gp, .int p.lt, .int p.an]]
structure OkPt (p : Pt) : Prop where
  ok : OkShp p.s
  n0 : 1 ≤ p.n
  n1 : p.n ≤ 40
  fl : p.fs.length ≤ 12
  fk : ∀ f ∈ p.fs, OkFm p.s f
  sw : IsW (1 + (p.fs.length : Int)) p.sw
  cw : IsW p.s.m p.cw
  sk0 : 0 ≤ p.sk
  sk1 : p.sk ≤ 39
  gp0 : p.sk ≤ p.gp
  gp1 : p.gp ≤ 400
  lt0 : 0 ≤ p.lt
  lt1 : p.lt ≤ 20
  an0 : 0 ≤ p.an
  an1 : p.an ≤ 400
theorem OkPt.sw4 {p : Pt} (h : OkPt p) : p.sw ≤ 4 := isW_le h.sw (by have := h.fl; show _ ≤ (16 : Int); omega)
theorem OkPt.cw20 {p : Pt} (h : OkPt p) : p.cw ≤ 20 := isW_le h.cw (by have := h.ok.m1; show _ ≤ (1048576 : Int); omega)
/-- whole, or by the form at a place -/
def AtOk (p : Pt) : Option Nat → Prop
  | none => True
  | some i => i < p.fs.length
def atV : Option Nat → V
  | none => .non
  | some i => .int (i : Int)
def wsP (p : Pt) : Option Nat → List Wy
  | none => p.s.fs.map fun _ => .whole
  | some i => match p.fs[i]? with
    | some f => f.ws
    | none => []
def cntP (p : Pt) : Option Nat → Int
  | none => p.n
  | some i => match p.fs[i]? with
    | some f => f.c
    | none => 0
def sortP : Option Nat → Int
  | none => 0
  | some i => 1 + (i : Int)
theorem at_form {p : Pt} {i : Nat} (ok : OkPt p) (h : i < p.fs.length) : ∃ f, p.fs[i]? = some f ∧ OkFm p.s f ∧ wsP p (some i) = f.ws ∧ cntP p (some i) = f.c := by
  have e : p.fs[i]? = some (p.fs[i]) := List.getElem?_eq_getElem h
  refine ⟨p.fs[i], e, ok.fk _ (List.getElem_mem h), ?_, ?_⟩
  · show (match p.fs[i]? with | some f => f.ws | none => []) = _
    rw [e]
  · show (match p.fs[i]? with | some f => f.c | none => 0) = _
    rw [e]
theorem cntP_bd {p : Pt} {t : Option Nat} (ok : OkPt p) (h : AtOk p t) : 1 ≤ cntP p t ∧ cntP p t ≤ 40 := by
  cases t with
  | none => exact ⟨ok.n0, ok.n1⟩
  | some i =>
    obtain ⟨f, _, okf, _, e⟩ := at_form ok h
    rw [e]
    exact ⟨okf.c0, okf.c1⟩
theorem wsP_len {p : Pt} {t : Option Nat} (ok : OkPt p) (h : AtOk p t) : (wsP p t).length = p.s.fs.length := by
  cases t with
  | none => exact List.length_map _
  | some i =>
    obtain ⟨f, _, okf, e, _⟩ := at_form ok h
    rw [e]
    exact okf.len
theorem wsP_ok {p : Pt} {t : Option Nat} (ok : OkPt p) (h : AtOk p t) {j : Nat} {w : Wy} {fd : Fd} (h1 : (wsP p t)[j]? = some w) (h2 : p.s.fs[j]? = some fd) : OkWy fd.br w := by
  cases t with
  | none =>
    have z : (p.s.fs.map fun _ => Wy.whole)[j]? = some w := h1
    rw [List.getElem?_map, h2] at z
    rw [← Option.some.inj z]
    trivial
  | some i =>
    obtain ⟨f, _, okf, e, _⟩ := at_form ok h
    rw [e] at h1
    exact okf.ok j w fd h1 h2
def szP (p : Pt) (t : Option Nat) : Nat := atW p.s.fs (wsP p t) p.s.fs.length
def pcsP (p : Pt) (t : Option Nat) (hd : List Int) : Str := piecesT (triL p.s.fs (wsP p t) hd)
theorem szP_le {p : Pt} {t : Option Nat} (ok : OkPt p) (h : AtOk p t) : szP p t ≤ 480 :=
  atW_le (f := ⟨1, 1, wsP p t⟩) ok.ok ⟨Int.le_refl 1, (show (1 : Int) ≤ 40 by decide), Int.le_refl 1, (show (1 : Int) ≤ 40 by decide), wsP_len ok h, fun _ _ _ h1 h2 => wsP_ok ok h h1 h2⟩
theorem pcsP_len {p : Pt} {t : Option Nat} {hd : List Int} (ok : OkPt p) (h : AtOk p t) (lh : hd.length = p.s.fs.length) : (pcsP p t hd).length = szP p t := by
  unfold pcsP szP
  rw [pieces_len, atW_all (wsP_len ok h) lh]
def aheadT (p : Pt) (t : Option Nat) (num : Int) : Str := bitsT (sortP t) p.sw ++ bitsT num (cntP p t).toNat
def letT (p : Pt) (t : Option Nat) (num : Int) (hd : List Int) : Str := aheadT p t num ++ pcsP p t hd ++ bitsT ((num + ckF 0 hd) % p.s.m) p.cw
def sizeP (p : Pt) (t : Option Nat) : Int := (p.sw : Int) + cntP p t + (szP p t : Nat) + (p.cw : Int)
theorem len_app (a b : Str) : (a ++ b).length = a.length + b.length := by
  rw [← cz_len, cz_app, List.length_append, cz_len, cz_len]
theorem ahead_len {p : Pt} {t : Option Nat} {num : Int} : (aheadT p t num).length = p.sw + (cntP p t).toNat := by
  unfold aheadT
  rw [len_app, len_bitsT, len_bitsT]
theorem letT_len {p : Pt} {t : Option Nat} {num : Int} {hd : List Int} (ok : OkPt p) (h : AtOk p t) (lh : hd.length = p.s.fs.length) : ((letT p t num hd).length : Int) = sizeP p t := by
  have z := cntP_bd ok h
  unfold letT sizeP
  rw [len_app, len_app, ahead_len, pcsP_len ok h lh, len_bitsT]
  omega
theorem sum_zip {fs : List Fd} {ws : List Wy} : ((fs.zip ws).map fun fw => ((wW fw.1 fw.2 : Nat) : Int)).sum = ((((fs.zip ws).map fun fw => wW fw.1 fw.2).sum : Nat) : Int) := by
  induction fs.zip ws with
  | nil => rfl
  | cons x r ih => rw [List.map_cons, List.map_cons, List.sum_cons, List.sum_cons, ih]; omega
theorem sz_form {p : Pt} {t : Option Nat} (ok : OkPt p) (h : AtOk p t) : ((p.s.fs.zip (wsP p t)).map fun fw => ((wW fw.1 fw.2 : Nat) : Int)).sum = ((szP p t : Nat) : Int) := by
  rw [sum_zip]
  unfold szP atW
  rw [List.take_of_length_le (by rw [List.length_zip, wsP_len ok h]; omega)]
theorem sum_whole : ∀ fs : List Fd, (∀ f ∈ fs, 0 ≤ f.br) → (fs.map fun f => f.br).sum = ((fs.zip (fs.map fun _ => Wy.whole)).map fun fw => ((wW fw.1 fw.2 : Nat) : Int)).sum
  | [], _ => rfl
  | f :: r, h => by
    have ih := sum_whole r fun g hg => h g (List.mem_cons_of_mem _ hg)
    have h0 := h f List.mem_cons_self
    rw [List.map_cons, List.map_cons, List.zip_cons_cons, List.map_cons, List.sum_cons, List.sum_cons, ih]
    show f.br + _ = ((f.br.toNat : Nat) : Int) + _
    rw [show ((f.br.toNat : Nat) : Int) = f.br by omega]
theorem OkPt.heads {p : Pt} {t : Option Nat} (ok : OkPt p) (h : AtOk p t) : OkFm p.s ⟨1, 1, wsP p t⟩ := ⟨Int.le_refl 1, (show (1 : Int) ≤ 40 by decide), Int.le_refl 1, (show (1 : Int) ≤ 40 by decide), wsP_len ok h, fun _ _ _ h1 h2 => wsP_ok ok h h1 h2⟩
section
variable {K : PySem.W.Frag} {H : Hp} {Q : VK} {v : V} {p : Pt}
theorem w_ptS (h : Dq K H v (ptD p)) (q : ∀ x, Dq K H x (shD p.s) → Q x H) : rIxU K v (.int 0) H Q := w_ixQT h (d := shD p.s) rfl q
theorem w_ptN (h : Dq K H v (ptD p)) (q : Q (.int p.n) H) : rIxU K v (.int 1) H Q := w_ixQTi h (n := p.n) rfl q
theorem w_ptF (h : Dq K H v (ptD p)) (q : ∀ x, Dq K H x (.tuple (p.fs.map fmD)) → Q x H) : rIxU K v (.int 2) H Q := w_ixQT h (d := .tuple (p.fs.map fmD)) rfl q
theorem w_shF {s : Shp} (h : Dq K H v (shD s)) (q : ∀ x, Dq K H x (.tuple (s.fs.map fdD)) → Q x H) : rIxU K v (.int 0) H Q := w_ixQT h (d := .tuple (s.fs.map fdD)) rfl q
theorem w_shM {s : Shp} (h : Dq K H v (shD s)) (q : Q (.int s.m) H) : rIxU K v (.int 1) H Q := w_ixQTi h (n := s.m) rfl q
theorem w_adT {a b : Str} (h : a.length + b.length ≤ 100000) (q : Q (.str (a ++ b)) H) : rAddN K (.str a) (.str b) H Q := w_addsN (Nat.le_trans h (by decide)) q
end
theorem join_pieces (ts : List Tri) : Txt.join "" (ts.map pieceT) = piecesT ts := by
  refine cz_inj ?_
  rw [cz_join, cz_pieces, List.map_map]
  rfl
theorem sum_pieces (ts : List Tri) : ((ts.map pieceT).map (·.length)).sum = triW ts := by
  unfold triW
  rw [List.map_map]
  congr 1
  refine List.map_congr_left fun t _ => ?_
  show (pieceT t).length = _
  unfold pieceT
  rw [len_bitsT]
theorem w_par3 {i j l : Nat} {tA : TA} {σ : L2.St} {H : Hp} {nx bk ct : L2.St → Hp → Prop} {rt : VK} (h : tA σ H fun vs H1 => ∃ u v w, vs = [u, v, w] ∧ nx (((σ.set i (some u)).set j (some v)).set l (some w)) H1) : tPar3 i j l tA ⟨nx, rt, bk, ct⟩ σ H := h
theorem w_three {x y z : V} {k : V → V → V → Prop} (h : k x y z) : ∃ u v w, [x, y, z] = [u, v, w] ∧ k u v w := ⟨x, y, z, rfl, h⟩
theorem ahead_mod {p : Pt} {t : Option Nat} {x : Int} : aheadT p t (x % p2 (cntP p t)) = aheadT p t x := by
  unfold aheadT
  rw [bitsT_p2]
theorem letT_le {p : Pt} {t : Option Nat} {num : Int} {hd : List Int} (ok : OkPt p) (h : AtOk p t) (lh : hd.length = p.s.fs.length) : (letT p t num hd).length ≤ 1000 := by
  have ll := letT_len (num := num) ok h lh
  have z := szP_le ok h
  have z2 := ok.sw4
  have z3 := ok.cw20
  have z4 := cntP_bd ok h
  unfold sizeP at ll
  omega
/-- a statement that is never reached -/
def tNever : TS := fun _ _ _ => False
theorem ps_never {X : Cx} {st : Stmt} : PS X st tNever := ⟨fun _ _ _ _ _ _ h => h.elim⟩
/-! a letter's parts -/
def genT (p : Pt) (t : Option Nat) (num : Int) (hd : List Int) (ck : Int) : Str := aheadT p t num ++ pcsP p t hd ++ bitsT ck p.cw
def atD : Option Nat → PyData
  | none => .none
  | some i => .int (i : Int)
theorem atV_dq {K : PySem.W.Frag} {H : Hp} (t : Option Nat) : Dq K H (atV t) (atD t) := by
  cases t with
  | none => exact .non
  | some i => exact .int _
section
variable {p : Pt} {t : Option Nat} {num ck : Int} {hd : List Int}
theorem genT_len (ok : OkPt p) (h : AtOk p t) (lh : hd.length = p.s.fs.length) : ((genT p t num hd ck).length : Int) = sizeP p t := by
  have z := cntP_bd ok h
  unfold genT sizeP
  rw [len_app, len_app, ahead_len, pcsP_len ok h lh, len_bitsT]
  omega
theorem genT_le (ok : OkPt p) (h : AtOk p t) (lh : hd.length = p.s.fs.length) : (genT p t num hd ck).length ≤ 1000 := by
  have ll := genT_len (num := num) (ck := ck) ok h lh
  have z := szP_le ok h
  have z2 := ok.sw4
  have z3 := ok.cw20
  have z4 := cntP_bd ok h
  unfold sizeP at ll
  omega
theorem gen_cz : cz (genT p t num hd ck) = cz (bitsT (sortP t) p.sw) ++ (cz (bitsT num (cntP p t).toNat) ++ (cz (pcsP p t hd) ++ cz (bitsT ck p.cw))) := by
  unfold genT aheadT
  rw [cz_app, cz_app, cz_app, List.append_assoc, List.append_assoc]
theorem gen_01 : ∀ c ∈ cz (genT p t num hd ck), c = 48 ∨ c = 49 := fun c hc => by
  rw [gen_cz] at hc
  rcases List.mem_append.mp hc with h | h
  · exact bits_01 c h
  · rcases List.mem_append.mp h with h | h
    · exact bits_01 c h
    · rcases List.mem_append.mp h with h | h
      · exact pieces_01 _ c h
      · exact bits_01 c h
theorem cut_01 {z : Str} {lo hi : Option Int} (h : ∀ c ∈ cz z, c = 48 ∨ c = 49) : ∀ c ∈ cz (cutS z lo hi), c = 48 ∨ c = 49 := fun c hc => by
  rw [cz_cut] at hc
  exact h c (cutD_mem hc)
theorem cut_len {z : Str} {lo hi : Option Int} : (cutS z lo hi).length ≤ z.length := by
  rw [← cz_len, ← cz_len, cz_cut]
  exact cutD_len
theorem num_cz {y z : Str} (h : cz y = cz z) : numT y = numT z := by
  unfold numT
  rw [h]
theorem czb (n : Int) (w : Nat) : (cz (bitsT n w)).length = w := by rw [cz_len, len_bitsT]
theorem gen_sort (ok : OkPt p) (h : AtOk p t) : numT (cutS (genT p t num hd ck) none (some (p.sw : Int))) = sortP t := by
  have e : cz (cutS (genT p t num hd ck) none (some (p.sw : Int))) = cz (bitsT (sortP t) p.sw) := by
    rw [cz_cut, gen_cz, cutD_to (by omega) (by rw [List.length_append, czb]; omega), Int.toNat_natCast, List.take_append_of_le_length (by rw [czb]; exact Nat.le_refl _), List.take_of_length_le (by rw [czb]; exact Nat.le_refl _)]
  rw [num_cz e]
  have z := ok.sw.1
  refine numT_bits ?_ ?_
  · cases t with
    | none => exact Int.le_refl 0
    | some i => show (0 : Int) ≤ 1 + (i : Int); omega
  · cases t with
    | none => show (0 : Int) < _; omega
    | some i =>
      have hi : i < p.fs.length := h
      show (1 : Int) + (i : Int) < _
      omega
theorem gen_num (ok : OkPt p) (h : AtOk p t) : numT (cutS (genT p t num hd ck) (some (p.sw : Int)) (some ((p.sw : Int) + cntP p t))) = num % p2 (cntP p t) := by
  have z4 := cntP_bd ok h
  have e : cz (cutS (genT p t num hd ck) (some (p.sw : Int)) (some ((p.sw : Int) + cntP p t))) = cz (bitsT num (cntP p t).toNat) := by
    rw [cz_cut, gen_cz, cutD_mid (by omega) (by omega) (by rw [List.length_append, List.length_append, czb, czb]; omega), Int.toNat_natCast, List.drop_append_of_le_length (by rw [czb]; exact Nat.le_refl _), List.drop_of_length_le (by rw [czb]; exact Nat.le_refl _), List.nil_append, show ((p.sw : Int) + cntP p t).toNat - p.sw = (cntP p t).toNat by omega, List.take_append_of_le_length (by rw [czb]; exact Nat.le_refl _), List.take_of_length_le (by rw [czb]; exact Nat.le_refl _)]
  rw [num_cz e, ← bitsT_p2]
  have pp := p2_pos (cntP p t)
  exact numT_bits (Int.emod_nonneg _ (Int.ne_of_gt pp)) (Int.emod_lt_of_pos _ pp)
theorem gen_pcs (ok : OkPt p) (h : AtOk p t) (lh : hd.length = p.s.fs.length) : cutS (genT p t num hd ck) (some ((p.sw : Int) + cntP p t)) (some ((p.sw : Int) + cntP p t + (szP p t : Nat))) = pcsP p t hd := by
  have z4 := cntP_bd ok h
  have lp : (cz (pcsP p t hd)).length = szP p t := by rw [cz_len, pcsP_len ok h lh]
  refine cz_inj ?_
  rw [cz_cut, gen_cz, cutD_mid (by omega) (by omega) (by rw [List.length_append, List.length_append, List.length_append, czb, czb, lp]; omega), show ((p.sw : Int) + cntP p t + (szP p t : Nat)).toNat - ((p.sw : Int) + cntP p t).toNat = szP p t by omega, show ((p.sw : Int) + cntP p t).toNat = p.sw + (cntP p t).toNat by omega, ← List.append_assoc, List.drop_left' (by rw [List.length_append, czb, czb]), List.take_left' lp]
theorem gen_chk (ok : OkPt p) (h : AtOk p t) (lh : hd.length = p.s.fs.length) (c0 : 0 ≤ ck) (c1 : ck < p.s.m) : numT (cutS (genT p t num hd ck) (some ((p.sw : Int) + cntP p t + (szP p t : Nat))) none) = ck := by
  have z4 := cntP_bd ok h
  have lp : (cz (pcsP p t hd)).length = szP p t := by rw [cz_len, pcsP_len ok h lh]
  have e : cz (cutS (genT p t num hd ck) (some ((p.sw : Int) + cntP p t + (szP p t : Nat))) none) = cz (bitsT ck p.cw) := by
    rw [cz_cut, gen_cz, cutD_from (by omega) (by rw [List.length_append, List.length_append, List.length_append, czb, czb, lp]; omega), show ((p.sw : Int) + cntP p t + (szP p t : Nat)).toNat = p.sw + ((cntP p t).toNat + szP p t) by omega, ← List.append_assoc (cz (bitsT num (cntP p t).toNat)), ← List.append_assoc, List.drop_left' (by rw [List.length_append, List.length_append, czb, czb, lp])]
  rw [num_cz e]
  have z := ok.cw.1
  exact numT_bits c0 (by omega)
theorem gen_cut (ok : OkPt p) (h : AtOk p t) (lh : hd.length = p.s.fs.length) : cutS (genT p t num hd ck) none (some (((genT p t num hd ck).length : Int) - (p.cw : Int))) = aheadT p t num ++ pcsP p t hd := by
  have z4 := cntP_bd ok h
  have ll := genT_len (num := num) (ck := ck) ok h lh
  have la : (aheadT p t num ++ pcsP p t hd).length = p.sw + (cntP p t).toNat + szP p t := by rw [len_app, ahead_len, pcsP_len ok h lh]
  have lc : (cz (aheadT p t num ++ pcsP p t hd)).length = p.sw + (cntP p t).toNat + szP p t := by rw [cz_len, la]
  unfold sizeP at ll
  refine cz_inj ?_
  rw [cz_cut, ll, show cz (genT p t num hd ck) = cz (aheadT p t num ++ pcsP p t hd) ++ cz (bitsT ck p.cw) from cz_app _ _, cutD_to (by omega) (by rw [List.length_append, lc, czb]; omega), show ((p.sw : Int) + cntP p t + (szP p t : Nat) + (p.cw : Int) - (p.cw : Int)).toNat = p.sw + (cntP p t).toNat + szP p t by omega, List.take_append_of_le_length (by rw [lc]; exact Nat.le_refl _), List.take_of_length_le (by rw [lc]; exact Nat.le_refl _)]
end
end Sh
/-! set(xs) of a list of texts: how many unlike ones -/
namespace ShT
open PySem Sem PySem.Spec PyProof.Rows L2
def SetN (p : Program) (w : World) (h : Heap) (a : Addr) (xs : List Str) (i : Nat) : Prop := ∃ c, c ≤ i ∧ (c = i ↔ (xs.take i).Nodup) ∧ h.SetOf (PySem.strKind p w) a (fun k => (xs.take i).any (· == k)) c
theorem any_mem {xs : List Str} {x : Str} : xs.any (· == x) = true ↔ x ∈ xs := by
  rw [List.any_eq_true]
  constructor
  · rintro ⟨y, hy, e⟩
    rw [← beq_iff_eq.mp e]
    exact hy
  · intro h
    exact ⟨x, h, beq_self_eq_true x⟩
section
variable {prog : Program} {w : World} {A : Around} {R : Result → Shared → Prop} {I : Addr} {fp wr : List Addr} {G : Array GenState → Array GenState → Prop} {n : Nat} {P : Nat → Value → Prop} {St : Nat → Shared → Prop}
theorem setN_move {h h' : Heap} {a : Addr} {xs : List Str} {i : Nat} (e : ∀ o, h.get? a = some o → h'.get? a = some o) (q : SetN prog w h a xs i) : SetN prog w h' a xs i := by
  obtain ⟨c, h1, h2, o, es, ep, tb, ho, rest⟩ := q
  exact ⟨c, h1, h2, o, es, ep, tb, e _ ho, rest⟩
theorem loopN (W : WalksS prog w A.in1 I fp wr G n P St) (S : Addr) (hSf : S ∉ fp) (xs : List Str) (hsz : xs.length = n) (hn1 : n + 1 < scanBound)
    (hval : ∀ i v, P i v → ∃ t, v = .str (xs.getD i Str.empty) t) :
    ∀ (k i : Nat) (s : Shared), n - i = k → i ≤ n → St i s → SetN prog w s.heap S xs i →
      (∀ s', Moved (S :: wr) G s s' → SetN prog w s'.heap S xs n → R (.ok (.ret .none)) s') →
      codeAny (model prog w) A (.builtin "set.update.loop" ⟨[.ref S, .ref I], []⟩) R s := by
  have hSw : S ∉ wr := fun h => hSf (W.sub _ h)
  have hsub : ∀ b ∈ wr, b ∈ S :: wr := fun b hb => List.mem_cons_of_mem _ hb
  intro k
  induction k with
  | zero =>
    intro i s hk hi hst hS hR
    have hin : i = n := by omega
    subst hin
    refine codeAny_builtin PyProof.Rows.F.entry_set_update_loop ?_
    rw [Around.under_plainId PyProof.Rows.F.plain_set_update_loop _]
    show wpAny _ A.in1 (pyNext (.ref I) >>= _) _ _ s
    refine wpAny_bind (W.done s _ _ hst fun s' hm => ?_)
    show wpAny _ A.in1 (ret Value.none) _ _ s'
    exact wpAny_pure (hR s' (hm.mono hsub) (setN_move (fun o ho => hm.heap S _ hSw ho) hS))
  | succ k ih =>
    intro i s hk hi hst hS hR
    have hlt : i < n := by omega
    refine codeAny_builtin PyProof.Rows.F.entry_set_update_loop ?_
    rw [Around.under_plainId PyProof.Rows.F.plain_set_update_loop _]
    show wpAny _ A.in1 (pyNext (.ref I) >>= _) _ _ s
    refine wpAny_bind (W.item i s _ _ hlt hst fun v s' hP hst' hm => ?_)
    obtain ⟨t, rfl⟩ := hval i v hP
    obtain ⟨c, c0, c1, hS'⟩ := setN_move (fun o ho => hm.heap S _ hSw ho) hS
    show wpAny _ A.in1 (holding [Value.str (xs.getD i Str.empty) t] (setAdd S (.str (xs.getD i Str.empty) t)) >>= _) _ _ s'
    refine wpAny_bind (wpAny_holding ?_)
    unfold setAdd
    refine wpAny_holding ?_
    refine wpAny_bind ((PySem.strKind prog w).pyHash (k := xs.getD i Str.empty) (strKind_is _ _ _ _) ?_)
    refine wpAny_setAddHashed_of (knd := PySem.strKind prog w) (s := { s' with toks := s'.toks + 1 }) (strKind_is _ _ _ _) rfl hS' (by omega) fun h' hsb hS2 => ?_
    have hlx : i < xs.length := by omega
    have ex : xs.getD i Str.empty = xs[i] := by rw [List.getD_eq_getElem?_getD, List.getElem?_eq_getElem hlx]; rfl
    have et : xs.take (i + 1) = xs.take i ++ [xs.getD i Str.empty] := by
      rw [List.take_add_one, List.getElem?_eq_getElem hlx, ex]
      rfl
    have hSi : SetN prog w h' S xs (i + 1) := by
      refine ⟨_, ?_, ?_, SetOf_congr hS2 (fun k' => ?_) rfl⟩
      · split <;> omega
      · rw [et, List.nodup_append]
        by_cases hm : (xs.take i).any (· == xs.getD i Str.empty) = true
        · rw [if_pos hm]
          constructor
          · intro e
            omega
          · rintro ⟨_, _, h3⟩
            exact (h3 _ (any_mem.mp hm) _ (List.mem_singleton.mpr rfl) rfl).elim
        · rw [if_neg hm]
          constructor
          · intro e
            exact ⟨c1.mp (by omega), by simp, fun y hy z hz e2 => hm (any_mem.mpr (by rw [List.mem_singleton.mp hz] at e2; rw [← e2]; exact hy))⟩
          · rintro ⟨h1, _⟩
            have := c1.mpr h1
            omega
      · rw [et, List.any_append]
        generalize xs.getD i Str.empty = y
        by_cases e : k' = y
        · subst e
          simp
        · have hb : (y == k') = false := by simpa [beq_iff_eq] using (fun h' : y = k' => e h'.symm)
          simp [hb, e]
    refine wpAny_pure ⟨plainId_quiet PyProof.Rows.F.plain_set_update_loop _, ih (i + 1) _ (by omega) hlt (W.frame _ s' _ _ hst' (Nat.le_succ _) fun b hb o e => ?_) hSi fun s'' hm'' hS'' => ?_⟩
    · rw [hsb.2 b (fun h : b = S => hSf (by rw [← h]; exact hb))]; exact e
    · refine hR s'' (Moved.trans W.gtrans ((hm.mono hsub).then_heap (Nat.le_succ _) fun b o hb e => ?_) hm'') hS''
      rw [hsb.2 b (fun h : b = S => hb (by rw [h]; exact List.mem_cons_self))]; exact e
end
abbrev ob0 (led : Bool) : Obj := { cls := .type "set", dict := none, data := .set #[] 0 (.fresh 0 0 led) }
section
variable {prog : Program} {w : World} {A : Around} {E : Value → Shared → Prop} {s : Shared}
set_option maxHeartbeats 3200000 in
theorem call_setT {l : Addr} {items : Array Value} {xs : List Str} {Q : Value → Shared → Prop}
    (hh : A.handled = none) (hl : s.heap.IsList l items) (hi : PyProof.Rows.StrsAre items.toList xs) (hn1 : xs.length + 1 < scanBound)
    (h : ∀ (h' : Heap) (tk : Nat), SetN prog w h' s.heap.objs.size xs items.size →
      (∀ b o, b < s.heap.objs.size → s.heap.get? b = some o → h'.get? b = some o) → Q (.ref s.heap.objs.size) { s with heap := h', toks := tk }) :
    wpAny (model prog w) A (call (.type "set") [.ref l]) Q E s := by
  obtain ⟨c, tl, hmro⟩ := PySem.F.called_set.mro
  have hmade := PySem.F.called_set.made
  have hsub := PySem.F.called_set.sub
  refine wpAny_call (codeAny_of_tree ?_)
  show wpAny _ _ (callAny (.type "set") _) _ _ _
  refine wpAny_pure ⟨Code.quiet_builtin _ (by decide +kernel), codeAny_builtin PySem.F.entry_type_call ?_⟩
  rw [Around.under_plain (weight_type_call_type "set" [.ref l] []) rfl]
  have h1 := PySem.F.called_set.notType
  have h2 := PySem.F.called_set.canCreate
  have hct := PySem.F.typeCall_set_1 (.ref l)
  repeat (any_goals (first | assumption | wp_step))
  refine codeAny_mono (code_set_new_1 (.ref l) (E := E) (Q₁ := fun obj s₁ => ∃ led : Bool, obj = .ref s.heap.objs.size ∧ s₁ = { s with heap := s.heap.push (ob0 led) }) fun led => ⟨led, rfl, rfl⟩) fun r s₁ hr => ?_
  cases r with
  | error e => exact hr
  | ok fl =>
    cases fl with
    | ret obj =>
      obtain ⟨led, rfl, rfl⟩ := hr
      have hS : (s.heap.push (ob0 led)).get? s.heap.objs.size = some (ob0 led) := Heap.get?_push_size _ rfl
      have hT : Shared.TypeIs { s with heap := s.heap.push (ob0 led) } (.ref s.heap.objs.size) "set" := ⟨_, hS, rfl⟩
      have hli := PySem.F.called_set.init.lookup
      have hbi := PySem.F.called_set.init.bind (.ref s.heap.objs.size)
      repeat (any_goals (first | assumption | wp_step))
      refine codeAny_mono (codeAny_call_builtin (R := wants (fun r s₂ => r = .none ∧ ∃ h' tk, s₂ = { s with heap := h', toks := tk } ∧ SetN prog w h' s.heap.objs.size xs items.size ∧
          (∀ b o, b < s.heap.objs.size → s.heap.get? b = some o → h'.get? b = some o)) E) PySem.F.called_set.init.plain PySem.F.entry_set_init (check_set_init_1 hT ?_)) fun r₂ s₂ hr₂ => ?_
      · obtain ⟨ol, hol, hcl, nl, hdl⟩ := hl
        obtain ⟨ocls, odict, odata, oslots⟩ := ol
        simp only at hcl hdl
        subst hcl; subst hdl
        have hol' : (s.heap.push (ob0 led)).get? l = some { cls := .type "list", dict := odict, data := .seq items nl, slots := oslots } := Heap.get?_push_of_some _ hol
        have hsls := PySem.F.sub_list_set
        have hslf := PySem.F.sub_list_frozenset
        have hne : (Value.type "list" == Value.type "dict") = false := by decide
        have hl1 : (s.heap.push (ob0 led)).IsList l items := ⟨_, hol', rfl, nl, rfl⟩
        unfold Builtin.«set.__init__» noKeywords Builtin.Frozenset.updateFrom
        generalize hPI : pyIter = PI
        wp_walk
        subst hPI
        refine wpAny_pyIter_list hl1 ?_
        refine wpAny_bind (wpAny_runValue ?_)
        have hlS : l < s.heap.objs.size := Heap.lt_size hol
        have hh3 : A.in1.in1.in1.handled = none := by simp [hh]
        have hneI : l ≠ (s.heap.push (ob0 led)).objs.size := by
          rw [Heap.size_push]; exact Nat.ne_of_lt (Nat.lt_succ_of_lt hlS)
        have hSf : s.heap.objs.size ∉ [(s.heap.push (ob0 led)).objs.size, l] := by
          rw [Heap.size_push]; simp only [List.mem_cons, List.mem_singleton, List.not_mem_nil, or_false, not_or]
          exact ⟨Nat.ne_of_lt (Nat.lt_succ_self _), Nat.ne_of_gt hlS⟩
        have hsz : xs.length = items.size := by rw [← StrsAre.len_eq hi, Array.length_toList]
        have hval : ∀ (i : Nat) (v : Value), items[i]? = some v → ∃ t, v = .str (xs.getD i Str.empty) t := fun i v hv => SS.strs_at hi i v (by rw [Array.getElem?_toList]; exact hv)
        refine loopN ((Walks.list hh3 _ l hneI items).toS) s.heap.objs.size
          hSf xs hsz (by rw [← hsz]; exact hn1) hval (items.size - 0) 0 _ (by omega) (Nat.zero_le _)
          ⟨⟨_, Heap.get?_push_size _ rfl, rfl, rfl⟩, (hl1.push _)⟩ ?hS0 ?hR
        case hS0 =>
          have hget : ((s.heap.push (ob0 led)).push { cls := .type "list_iterator", data := .fields #[.ref l, .int 0 0] }).get? s.heap.objs.size = some (ob0 led) := Heap.get?_push_of_some _ hS
          exact ⟨0, Nat.le_refl 0, ⟨fun _ => by rw [List.take_zero]; exact List.nodup_nil, fun _ => rfl⟩, PyProof.Rows.SetOf_congr ((PyProof.Rows.setObjOf_fresh (knd := PySem.strKind prog w) led).setOf hget (by unfold scanBound; omega)) (fun _ => rfl) rfl⟩
        case hR =>
          intro s' hm hS'
          obtain ⟨h', g', d', tk', os'⟩ := s'
          have eg : g' = s.gens := hm.gens
          have ed : d' = s.drawn := hm.drawn
          have eo : os' = s.os := hm.os
          subst eg; subst ed; subst eo
          show wpAny _ _ _ _ _ _
          refine wpAny_pure ?_
          show wpAny _ _ (ret Value.none) _ _ _
          refine wpAny_pure ⟨rfl, h', tk', rfl, hS', fun b o hb e => ?_⟩
          have hb1 : b ≠ s.heap.objs.size := Nat.ne_of_lt hb
          have hb2 : b ≠ (s.heap.push (ob0 led)).objs.size := by
            rw [Heap.size_push]; exact Nat.ne_of_lt (Nat.lt_succ_of_lt hb)
          exact hm.heap b o (by simp only [List.mem_cons, List.mem_singleton, List.not_mem_nil, or_false, not_or]; exact ⟨hb1, hb2⟩) (Heap.get?_push_of_some _ (Heap.get?_push_of_some _ e))
      · cases r₂ with
        | error e => exact hr₂
        | ok fl₂ =>
          cases fl₂ with
          | ret r =>
            obtain ⟨rfl, h', tk, rfl, hS', hk'⟩ := hr₂
            repeat (any_goals (first | assumption | wp_step))
            exact h _ _ hS' hk'
          | _ => exact hr₂.elim
    | _ => exact hr.elim
end
end ShT
namespace Sh
open PySem PySem.Spec PyProof.Rows L2
theorem nodup_le : ∀ {ks ns : List Int}, ks.Nodup → (∀ k ∈ ks, k ∈ ns) → ks.length ≤ ns.length
  | [], _, _, _ => Nat.zero_le _
  | k :: r, ns, hn, hs => by
    have h1 := List.nodup_cons.mp hn
    have hk := hs k List.mem_cons_self
    have ih := nodup_le (ks := r) (ns := ns.erase k) h1.2 fun j hj => (List.mem_erase_of_ne fun e => h1.1 (by rw [← e]; exact hj)).mpr (hs j (List.mem_cons_of_mem _ hj))
    rw [List.length_erase_of_mem hk] at ih
    have := List.length_pos_of_mem hk
    rw [List.length_cons]
    omega
theorem nodup_eq : ∀ {ks ns : List Int}, ks.Nodup → (∀ k ∈ ks, k ∈ ns) → ks.length = ns.length → ns.Nodup
  | [], ns, _, _, hl => by
    cases ns with
    | nil => exact List.nodup_nil
    | cons n r => simp at hl
  | k :: r, ns, hn, hs, hl => by
    have h1 := List.nodup_cons.mp hn
    have hk := hs k List.mem_cons_self
    have hr : ∀ j ∈ r, j ∈ ns.erase k := fun j hj => (List.mem_erase_of_ne fun e => h1.1 (by rw [← e]; exact hj)).mpr (hs j (List.mem_cons_of_mem _ hj))
    have le := List.length_erase_of_mem hk
    have lp := List.length_pos_of_mem hk
    rw [List.length_cons] at hl
    have ih := nodup_eq (ks := r) (ns := ns.erase k) h1.2 hr (by omega)
    have no : k ∉ ns.erase k := fun hm => by
      have z := nodup_le (ks := k :: r) (ns := ns.erase k) hn fun j hj => by
        rcases List.mem_cons.mp hj with rfl | hj
        · exact hm
        · exact hr j hj
      rw [List.length_cons] at z
      omega
    exact (List.perm_cons_erase hk).nodup_iff.mpr (List.nodup_cons.mpr ⟨no, ih⟩)
theorem count_ints {ks ns : List Int} (hn : ks.Nodup) (hm : ∀ k, k ∈ ks ↔ k ∈ ns) : ks.length = ns.length ↔ ns.Nodup := by
  constructor
  · exact nodup_eq hn fun k hk => (hm k).mp hk
  · intro h
    have a := nodup_le hn fun k hk => (hm k).mp hk
    have b := nodup_le h fun k hk => (hm k).mpr hk
    omega
/-- len(set(xs)): texts in a list, ints in a list or tuple -/
def tLenSetU (K : PySem.W.Frag) (ta : TE) : TE := fun σ H Q => ta σ H fun x H1 => (∃ (l : Addr) (xs : List Str), x = .ref l ∧ SqL K H1 l (xs.map V.str) ∧ xs.length ≤ 60 ∧ ∀ c : Nat, (c = xs.length ↔ xs.Nodup) → Q (.int c) H1) ∨
  (∃ (l : Addr) (ns : List Int), x = .ref l ∧ SqT K H1 l (ns.map V.int) ∧ ns.length ≤ 60 ∧ ∀ c : Nat, (c = ns.length ↔ ns.Nodup) → Q (.int c) H1)
theorem pe_lenSetU {X : Cx} {a : Expr} {ta : TE} {p p2 q pos : Pos} (hc : X.calm = true) (hg : Gl X "len") (hm : X.mg "len" = none) (hg2 : Gl X "set") (hm2 : X.mg "set" = none) (ha : PE X a ta)
    (na : starEach [a] X.env = (false, eval a X.env) :: starEach [] X.env := by rfl) : PE X (.Call (.Name "len" p) [.Call (.Name "set" p2) [a] [] q] [] pos) (tLenSetU X.K ta) := by
  refine ⟨fun pins s σ H Q I h => ?_⟩
  refine Call_ (ld_blt I hg hm boot_len ?_)
  refine PyProof.Rows.callWith_builtin1 (PyProof.Rows.args_cons ?_ rfl) rfl rfl
  refine Call_ (ld_blt I hg2 hm2 boot_set ?_)
  refine PyProof.Rows.callWith_type1 (PyProof.Rows.args_cons (thn (ha.run pins s σ H _ I h) fun v s1 ⟨x, H1, I1, r1, q1⟩ => PyProof.Rows.args_nil ?_) na) na rfl
  rcases q1 with ⟨l, xs, rfl, hq, h1, q1⟩ | ⟨l, ns, rfl, hq, h1, q1⟩
  · cases r1
    obtain ⟨its, r, pl, hz⟩ := I1.list hq
    have hl : its.toArray.size = xs.length := by rw [List.size_toArray, ← r.length, List.length_map]
    refine ShT.call_setT (I1.ok.hd hc) pl.isList (by simpa using strsAre_of r) (by unfold scanBound; omega) fun h' tk hS hk => ?_
    refine PyProof.Rows.args_nil ?_
    obtain ⟨c, c0, c1, o, es, ep, t, ho, hex, hd, _, _, _, hf, hn⟩ := hS
    rw [hl] at c0 c1
    rw [List.take_of_length_le (Nat.le_refl _)] at c1
    have I2 : Inv X pins σ H1 { s1 with heap := h', toks := tk } := I1.kept fun b o e => hk b o (Heap.lt_size e) e
    exact call_len_set ho hex hd hf (by rw [hn] <;> omega) ⟨.int c, H1, I2.tok _, ⟨_, by rw [hn]⟩, q1 c c1⟩
  · cases r1
    obtain ⟨its, r, pl, hz⟩ := I1.tuple hq
    refine call_set_tupI ns (I1.ok.hd hc) pl (by simpa using r.ints) (by unfold scanBound; omega) fun h' tk c R le hk => ?_
    refine PyProof.Rows.args_nil ?_
    obtain ⟨o, es, ep, t, ho, hex, hd, _, nd, hm, hb, hf, hn, _⟩ := R
    have I2 : Inv X pins σ H1 { s1 with heap := h', toks := tk } := I1.kept fun b o e => hk b o e
    have key := count_ints nd fun k => ((hm k).symm.trans decide_eq_true_iff)
    rw [List.length_map, Array.length_toList, hn] at key
    exact call_len_set ho hex hd hf (by rw [hn] <;> omega) ⟨.int c, H1, I2.tok _, ⟨_, by rw [hn]⟩, q1 c key⟩
theorem w_lenSetU {K : PySem.W.Frag} {ta : TE} {σ : L2.St} {H : Hp} {Q : VK} (h : ta σ H fun x H1 => (∃ (l : Addr) (xs : List Str), x = .ref l ∧ SqL K H1 l (xs.map V.str) ∧ xs.length ≤ 60 ∧ ∀ c : Nat, (c = xs.length ↔ xs.Nodup) → Q (.int c) H1) ∨
  (∃ (l : Addr) (ns : List Int), x = .ref l ∧ SqT K H1 l (ns.map V.int) ∧ ns.length ≤ 60 ∧ ∀ c : Nat, (c = ns.length ↔ ns.Nodup) → Q (.int c) H1)) : tLenSetU K ta σ H Q := h
end Sh
/-! what is a name, a row, a kind, a field, a shape, a road, a pact -/
namespace Sh
open PySem PySem.Spec PyProof.Rows L2
def nameD : PyData → Bool
  | .str z => decide (1 ≤ z.length) && (decide (z.length ≤ 8) && (cz z).all fun c => decide (c ∈ ("abcdefghijklmnopqrstuvwxyz" : Str).cps.toList))
  | _ => false
def intsD : List PyData → List Int
  | [] => []
  | .int i :: r => i :: intsD r
  | _ :: r => intsD r
def turnD (b : Int) : PyData → Bool
  | .tuple ds => decide (2 ≤ ds.length) && (decide (ds.length ≤ 12) && (ds.all (betwD 0 (p2 b - 1)) && decide ((intsD ds).Nodup)))
  | _ => false
theorem intsD_of {lo hi : Int} : ∀ {ds : List PyData}, ds.all (betwD lo hi) = true → ds = (intsD ds).map PyData.int
  | [], _ => rfl
  | d :: r, h => by
    rw [List.all_cons, Bool.and_eq_true] at h
    cases d with
    | int i =>
      show PyData.int i :: r = PyData.int i :: (intsD r).map PyData.int
      rw [← intsD_of h.2]
    | _ => cases h.1
theorem dzs_intsD {K : PySem.W.Frag} {P : Addr → Prop} {H : Hp} : ∀ {xs : List V} {ns : List Int}, DzAll K P H xs (ns.map PyData.int) → xs = ns.map V.int
  | _, [], h => by cases h; rfl
  | _, n :: r, h => by
    cases h with
    | cons h1 h2 => rw [dz_int h1, dzs_intsD h2]; rfl
def kindE (pl b : Int) (s : Str) : List PyData → Bool
  | [] => decide (s = "still") || decide (s = "drawn")
  | [d1] => (decide (s = "step") && betwD 0 (p2 b - 1) d1) || (decide (s = "turn") && turnD b d1)
  | [d1, d2] => decide (s = "with") && (betwD 0 (pl - 1) d1 && betwD (-99) 99 d2)
  | _ => false
def kindD (pl b : Int) : PyData → Bool
  | .tuple (.str s :: r) => kindE pl b s r
  | _ => false
def fieldE (pl : Int) (d2 : PyData) : PyData → Bool
  | .int b => kindD pl b d2
  | _ => false
def fieldD (pl : Int) : PyData → Bool
  | .tuple [d0, d1, d2] => nameD d0 && (betwD 1 40 d1 && fieldE pl d2 d1)
  | _ => false
def nmD : PyData → Str
  | .tuple (.str z :: _) => z
  | _ => ""
def fieldsB (ds : List PyData) : Bool := (ds.mapIdx fun i d => fieldD (i : Int) d).all id
def fieldsD : PyData → Bool
  | .tuple ds => decide (1 ≤ ds.length) && (decide (ds.length ≤ 12) && (fieldsB ds && decide ((ds.map nmD).Nodup)))
  | _ => false
def shapeD : PyData → Bool
  | .tuple [d0, d1] => betwD 1 1000000 d1 && fieldsD d0
  | _ => false
def SmNm (d : PyData) : Prop := ∀ z r, d = .tuple (.str z :: r) → z.length ≤ 1000000
def SmSh (d : PyData) : Prop := ∀ ds r, d = .tuple (.tuple ds :: r) → ∀ e ∈ ds, SmNm e
theorem field_nm {pl : Int} {d : PyData} (h : fieldD pl d = true) : ∃ z a b, d = .tuple [.str z, a, b] := by
  cases d with
  | tuple ds =>
    rcases ds with _ | ⟨d0, _ | ⟨d1, _ | ⟨d2, _ | ⟨d3, r⟩⟩⟩⟩
    · cases h
    · cases h
    · cases h
    · have e : (nameD d0 && (betwD 1 40 d1 && fieldE pl d2 d1)) = true := h
      rw [Bool.and_eq_true] at e
      cases d0 with
      | str z => exact ⟨z, _, _, rfl⟩
      | _ => cases e.1
    · cases h
  | _ => cases h
theorem fields_get {ds : List PyData} {i : Nat} {d : PyData} (h : fieldsB ds = true) (e : ds[i]? = some d) : fieldD (i : Int) d = true := by
  unfold fieldsB at h
  rw [List.all_eq_true] at h
  refine h _ (List.mem_of_getElem? (i := i) ?_)
  rw [List.getElem?_mapIdx, e]
  rfl
theorem nm_ok {z : Str} (h : OkNm z) : nameD (.str z) = true := by
  show (decide (1 ≤ z.length) && (decide (z.length ≤ 8) && (cz z).all fun c => decide (c ∈ ("abcdefghijklmnopqrstuvwxyz" : Str).cps.toList))) = true
  rw [decide_eq_true h.1, decide_eq_true h.2.1, Bool.true_and, Bool.true_and, List.all_eq_true]
  intro c hc
  have z := h.2.2 c hc
  obtain ⟨k, rfl⟩ : ∃ k, c = 97 + k := ⟨c - 97, by omega⟩
  have hk : k < 26 := by omega
  refine decide_eq_true ?_
  rw [show ("abcdefghijklmnopqrstuvwxyz" : Str).cps.toList = (List.range 26).map (97 + ·) by decide +kernel]
  exact List.mem_map.mpr ⟨k, List.mem_range.mpr hk, rfl⟩
theorem kd_ok {pl : Nat} {b : Int} {k : Kd} (h : OkKd pl b k) : kindD (pl : Int) b (kdD k) = true := by
  cases k with
  | still => rfl
  | drawn => rfl
  | step n =>
    have e : kindD (pl : Int) b (kdD (.step n)) = ((decide (("step" : Str) = "step") && betwD 0 (p2 b - 1) (.int n)) || (decide (("step" : Str) = "turn") && turnD b (.int n))) := rfl
    rw [e, betw_ok h.1 (by have := h.2; omega), decide_eq_true rfl]
    rfl
  | turn ns =>
    have e : kindD (pl : Int) b (kdD (.turn ns)) = ((decide (("turn" : Str) = "step") && betwD 0 (p2 b - 1) (.tuple (ns.map .int))) || (decide (("turn" : Str) = "turn") && turnD b (.tuple (ns.map .int)))) := rfl
    have ei : ∀ l : List Int, intsD (l.map PyData.int) = l := fun l => by
      induction l with
      | nil => rfl
      | cons x r ih =>
        show x :: intsD (r.map PyData.int) = x :: r
        rw [ih]
    have et : turnD b (.tuple (ns.map .int)) = true := by
      show (decide (2 ≤ (ns.map PyData.int).length) && (decide ((ns.map PyData.int).length ≤ 12) && ((ns.map PyData.int).all (betwD 0 (p2 b - 1)) && decide ((intsD (ns.map PyData.int)).Nodup)))) = true
      rw [ei, List.length_map, decide_eq_true h.1, decide_eq_true h.2.1, decide_eq_true h.2.2.2, Bool.true_and, Bool.true_and, Bool.and_true, List.all_map, List.all_eq_true]
      intro n hn
      have z := h.2.2.1 n hn
      exact betw_ok z.1 (by omega)
    rw [e, et, decide_eq_true (rfl : ("turn" : Str) = "turn"), Bool.true_and, Bool.or_true]
  | wth p z =>
    have e : kindD (pl : Int) b (kdD (.wth p z)) = (decide (("with" : Str) = "with") && (betwD 0 ((pl : Int) - 1) (.int p) && betwD (-99) 99 (.int z))) := rfl
    obtain ⟨h0, h1, h2, h3⟩ := h
    rw [e, betw_ok h0 (by omega), betw_ok h2 h3, decide_eq_true rfl]
    rfl
theorem fd_ok {i : Nat} {f : Fd} (h : OkFd i f) : fieldD (i : Int) (fdD f) = true := by
  have e : fieldD (i : Int) (fdD f) = (nameD (.str f.nm) && (betwD 1 40 (.int f.br) && kindD (i : Int) f.br (kdD f.kd))) := rfl
  rw [e, nm_ok h.nm, betw_ok h.b0 h.b1, kd_ok h.kd]
  rfl
theorem shape_ok {s : Shp} (h : OkShp s) : shapeD (shD s) = true := by
  have e : shapeD (shD s) = (betwD 1 1000000 (.int s.m) && (decide (1 ≤ (s.fs.map fdD).length) && (decide ((s.fs.map fdD).length ≤ 12) && (fieldsB (s.fs.map fdD) && decide (((s.fs.map fdD).map nmD).Nodup))))) := rfl
  have en : (s.fs.map fdD).map nmD = s.fs.map Fd.nm := by
    rw [List.map_map]
    rfl
  have ef : fieldsB (s.fs.map fdD) = true := by
    unfold fieldsB
    rw [List.all_eq_true]
    intro x hx
    obtain ⟨i, hi⟩ := List.getElem?_of_mem hx
    rw [List.getElem?_mapIdx, List.getElem?_map] at hi
    cases c : s.fs[i]? with
    | none => rw [c] at hi; cases hi
    | some f =>
      rw [c] at hi
      rw [← Option.some.inj hi]
      exact fd_ok (h.fd i f c)
  rw [e, en, ef, betw_ok h.m0 h.m1, List.length_map, decide_eq_true h.l0, decide_eq_true h.l1, decide_eq_true h.nd]
  rfl
theorem smnm_ok {s : Shp} (h : OkShp s) : ∀ e ∈ s.fs.map fdD, SmNm e := fun e he z r ez => by
  obtain ⟨f, hf, rfl⟩ := List.mem_map.mp he
  obtain ⟨i, hi⟩ := List.getElem?_of_mem hf
  have hn := (h.fd i f hi).nm.2.1
  injection ez with ez
  injection ez with e1 _
  injection e1 with e1
  rw [← e1]
  omega
theorem smsh_ok {s : Shp} (h : OkShp s) : SmSh (shD s) := fun ds r e => by
  injection e with e
  injection e with e1 _
  injection e1 with e1
  rw [← e1]
  exact smnm_ok h
def roadE (d1 d2 d3 : PyData) : PyData → Bool
  | .int a => betwD a 400 d1 && (betwD 0 20 d2 && betwD 0 400 d3)
  | _ => false
def roadD : PyData → Bool
  | .tuple [d0, d1, d2, d3] => betwD 0 39 d0 && roadE d1 d2 d3 d0
  | _ => false
def formsD (s : Shp) : PyData → Bool
  | .tuple fs => decide (fs.length ≤ 12) && fs.all (formD s)
  | _ => false
def PaC (d : PyData) (r : Bool) : Prop :=
  (r = false ∧ ∀ d0 d1 d2 d3, d ≠ .tuple [d0, d1, d2, d3]) ∨ (∃ d0 d1 d2 d3, d = .tuple [d0, d1, d2, d3] ∧ r = false ∧ shapeD d0 = false ∧ SmSh d0) ∨
  ∃ (s : Shp) (d1 d2 d3 : PyData), OkShp s ∧ d = .tuple [shD s, d1, d2, d3] ∧ r = (betwD 1 40 d1 && (formsD s d2 && roadD d3))
theorem OkShp.brs {s : Shp} (h : OkShp s) : ∀ f ∈ s.fs, f.br ≤ 1000 := fun f hf => by
  obtain ⟨i, hi⟩ := List.getElem?_of_mem hf
  have := (h.fd i f hi).b1
  omega
theorem dz_4 {K : PySem.W.Frag} {P : Addr → Prop} {H : Hp} {v : V} {d0 d1 d2 d3 : PyData} (hd : Dz K P H v (.tuple [d0, d1, d2, d3])) : ∃ a x0 x1 x2 x3, v = .ref a ∧ SqT K H a [x0, x1, x2, x3] ∧ Dz K P H x0 d0 ∧ Dz K P H x1 d1 ∧ Dz K P H x2 d2 ∧ Dz K P H x3 d3 := by
  obtain ⟨a, xs, rfl, hxs, hds⟩ := dz_tt hd
  cases hds with
  | cons a0 r => cases r with
    | cons a1 r => cases r with
      | cons a2 r => cases r with
        | cons a3 r =>
          cases r
          exact ⟨_, _, _, _, _, rfl, hxs, a0, a1, a2, a3⟩
theorem rd0 {d0 d1 d2 d3 : PyData} (h : betwD 0 39 d0 = false) : roadD (.tuple [d0, d1, d2, d3]) = false := by
  show (betwD 0 39 d0 && roadE d1 d2 d3 d0) = false
  rw [h, Bool.false_and]
theorem rd1 {a : Int} {d1 d2 d3 : PyData} (h : betwD a 400 d1 = false) : roadD (.tuple [.int a, d1, d2, d3]) = false := by
  show (betwD 0 39 (.int a) && (betwD a 400 d1 && (betwD 0 20 d2 && betwD 0 400 d3))) = false
  rw [h, Bool.false_and, Bool.and_false]
theorem rd2 {a : Int} {d1 d2 d3 : PyData} (h : betwD 0 20 d2 = false) : roadD (.tuple [.int a, d1, d2, d3]) = false := by
  show (betwD 0 39 (.int a) && (betwD a 400 d1 && (betwD 0 20 d2 && betwD 0 400 d3))) = false
  rw [h, Bool.false_and, Bool.and_false, Bool.and_false]
theorem rd3 {a : Int} {d1 d2 d3 : PyData} (h : betwD 0 400 d3 = false) : roadD (.tuple [.int a, d1, d2, d3]) = false := by
  show (betwD 0 39 (.int a) && (betwD a 400 d1 && (betwD 0 20 d2 && betwD 0 400 d3))) = false
  rw [h, Bool.and_false, Bool.and_false, Bool.and_false]
theorem dq_i4 {K : PySem.W.Frag} {H : Hp} {v : V} {a b c d : Int} (h : Dq K H v (.tuple [.int a, .int b, .int c, .int d])) : ∃ p, v = .ref p ∧ SqN K H p [.int a, .int b, .int c, .int d] := by
  obtain ⟨p, xs, rfl, hx, r⟩ := dq_tt h
  cases r with
  | cons h1 r => cases r with
    | cons h2 r => cases r with
      | cons h3 r => cases r with
        | cons h4 r =>
          cases r
          cases dq_int h1
          cases dq_int h2
          cases dq_int h3
          cases dq_int h4
          exact ⟨p, rfl, hx⟩
theorem pac_w {s : Shp} {d1 d2 d3 : PyData} (ok : OkShp s) (h : betwD 1 40 d1 = false) : PaC (.tuple [shD s, d1, d2, d3]) false := .inr (.inr ⟨s, d1, d2, d3, ok, rfl, by rw [h, Bool.false_and]⟩)
theorem pac_f {s : Shp} {d1 d2 d3 : PyData} (ok : OkShp s) (h : formsD s d2 = false) : PaC (.tuple [shD s, d1, d2, d3]) false := .inr (.inr ⟨s, d1, d2, d3, ok, rfl, by rw [h, Bool.false_and, Bool.and_false]⟩)
theorem pac_r {s : Shp} {d1 d2 d3 : PyData} (ok : OkShp s) (h : roadD d3 = false) : PaC (.tuple [shD s, d1, d2, d3]) false := .inr (.inr ⟨s, d1, d2, d3, ok, rfl, by rw [h, Bool.and_false, Bool.and_false]⟩)
theorem pac_s {d0 d1 d2 d3 : PyData} (h : shapeD d0 = false) (hz : SmSh d0) : PaC (.tuple [d0, d1, d2, d3]) false := .inr (.inl ⟨d0, d1, d2, d3, rfl, rfl, h, hz⟩)
theorem pac_n {d : PyData} (h : ∀ d0 d1 d2 d3, d ≠ .tuple [d0, d1, d2, d3]) : PaC d false := .inl ⟨rfl, h⟩
theorem forms_bad {s : Shp} {l : List PyData} {d : PyData} (h : formD s d = false) (hd : d ∈ l) : formsD s (.tuple l) = false := by
  show (decide (l.length ≤ 12) && l.all (formD s)) = false
  have e : l.all (formD s) = false := by
    rw [List.all_eq_false]
    exact ⟨d, hd, by rw [h]; decide⟩
  rw [e, Bool.and_false]
theorem form_lenO {s : Shp} {a b : PyData} {ws : List PyData} (h : ws.length ≠ s.fs.length) : formD s (.tuple [a, b, .tuple ws]) = false := by
  show (betwD 1 40 a && (betwD 1 40 b && (decide (ws.length = s.fs.length) && _))) = false
  rw [decide_eq_false h, Bool.false_and, Bool.and_false, Bool.and_false]
theorem lc_genF {K : PySem.W.Frag} {σ : L2.St} {H : Hp} {Q : VK} {te : TE} {tt : TT} {g : TG} {vs : List Nat} {a : Addr} {xs : List V} (hx : SqL K H a xs) (I : Nat → List V → Hp → Prop) (hst : ∀ D, H D = none → ∀ i acc H' xs ys, H' D = some (.lst xs) → I i acc H' → I i acc (upd H' D (.lst ys))) (hn : xs.length ≤ 1000000) (hI : ∀ i acc H', I i acc H' → acc.length ≤ i) (h0 : ∀ H', Same H H' → I 0 [] H')
    (hs : ∀ i x acc H', xs[i]? = some x → Same H H' → I i acc H' → ∀ (k : VK) (k' : Hp → Prop), (∀ y H4, Same H' H4 → I (i + 1) (acc ++ [y]) H4 → k y H4) → (∀ H3, Same H' H3 → I (i + 1) acc H3 → k' H3) →
      g x (wipe σ vs) H' fun σ2 H2 => wipe σ2 vs = wipe σ vs ∧ tt σ2 H2 fun b H3 => if b = true then te σ2 H3 k else k' H3)
    (hd : ∀ D acc H', H D = none → Same H H' → H' D = some (.lst acc) → I xs.length acc H' → Q (.ref D) H') : LcOk (Itl K a) g tt te vs σ Q H := fun D hD => by
  refine ⟨fun i m H' => m = xs.length - i ∧ i ≤ xs.length ∧ ∃ acc, Same H H' ∧ H' D = some (.lst acc) ∧ I i acc H', ⟨xs.length, by omega, by omega, [], same_new hD, upd_same, h0 _ (same_new hD)⟩, fun i m H1 ⟨em, hi, acc, s1, hD1, w1⟩ => ?_⟩
  by_cases hlt : i < xs.length
  · refine .inr ⟨⟨xs, xs[i], s1.seq hx, List.getElem?_eq_getElem hlt⟩, fun H' => i + 1 ≤ xs.length ∧ ∃ acc, Same H H' ∧ H' D = some (.lst acc) ∧ I (i + 1) acc H', fun H' ⟨a, b⟩ => ⟨xs.length - (i + 1), by omega, rfl, a, b⟩, fun x H' y => ?_⟩
    obtain ⟨e1, e2⟩ := y
    subst e1
    refine hs i x acc _ (e2 xs (s1.seq hx)) s1 w1 _ _ (fun y H4 s4 w4 => ⟨acc, s4 _ _ hD1, ?_, hlt, _, same_mut (s1.trans s4) hD, upd_same, hst D hD _ _ _ _ _ (s4 _ _ hD1) w4⟩) fun H3 s3 w3 => ⟨hlt, acc, s1.trans s3, s3 _ _ hD1, w3⟩
    have l1 := hI i acc _ w1
    exact Nat.lt_of_le_of_lt (m := 1000000) (by omega) (by decide)
  · have e : i = xs.length := by omega
    subst e
    exact .inl ⟨⟨xs, s1.seq hx, Nat.le_refl _⟩, hd D acc H1 hD s1 hD1 w1⟩
theorem tupOs_mem : ∀ {ds : List PyData} {d : PyData}, tupOs ds → d ∈ ds → tupO d
  | e :: r, d, h, hd => by
    rcases List.mem_cons.mp hd with rfl | hd
    · exact h.1
    · exact tupOs_mem h.2 hd
  | [], _, _, hd => nomatch hd
end Sh
/-! own classes: their methods, fields, new instances -/
namespace Sh
open PySem PySem.Spec PyProof.Rows L2
/-- where a class of the text stands -/
@[irreducible] def clsOf (K : PySem.W.Frag) (x : Str) : Addr := match PySem.W.nsIn K mainGlobals x with
  | some (some (.ref C)) => C
  | _ => 0
theorem clsOf_eq {K : PySem.W.Frag} {x : Str} {C : Addr} (h : PySem.W.nsIn K mainGlobals x = some (some (.ref C))) : clsOf K x = C := by
  unfold clsOf
  rw [h]
def KTup (K : PySem.W.Frag) (a : Addr) (xs : List V) : Prop := ∃ (o : Obj) (its : Array Value) (n : Nat), K.lookup a = some o ∧ o.dict = none ∧ o.cls = .type "tuple" ∧ o.data = .seq its n ∧ its.size ≤ sizeLine ∧ Vals xs its.toList
theorem ktup_mk {K : PySem.W.Frag} {a : Addr} {xs : List V} {c : Value} {d : Option Addr} {its : Array Value} {n : Nat} {sl : Array (Option Value)} (l : K.lookup a = some ⟨c, d, .seq its n, sl⟩) (hc : c = .type "tuple") (hd : d = none) (hs : its.size ≤ sizeLine) (hv : Vals xs its.toList) : KTup K a xs :=
  ⟨_, its, n, l, hd, hc, rfl, hs, hv⟩
theorem KTup.n {K : PySem.W.Frag} {a : Addr} {xs : List V} {H : Hp} (h : KTup K a xs) : SqN K H a xs := .inr h
structure KlsOk (K : PySem.W.Frag) (mg : Str → Option Value) (x : Str) : Prop where
  cl : Cls K (clsOf K x)
  mg : mg x = some (.ref (clsOf K x))
def SrcM (K : PySem.W.Frag) (C : Addr) (m qual : Str) (st : Stmt) : Prop := ∃ f fd, Meth K C m f ∧ Fun K m qual st f fd
def SrcI (K : PySem.W.Frag) (C : Addr) (qual : Str) (st : Stmt) : Prop := ∃ f fd, Mk K C f ∧ Fun K "__init__" qual st f fd
def CalM (W : Wd) (mg : Str → Option Value) (base : Heap) (C : Addr) (m : Str) (k : Nat) (ps : List Str) (sp : Sp) : Prop :=
  ∃ f fd, Meth W.K C m f ∧ FnOk W.P W.w W.K mg base CX0 k f fd ps sp ∧ Binds W.K fd ps []
def CalI (W : Wd) (mg : Str → Option Value) (base : Heap) (C : Addr) (k : Nat) (ps : List Str) (sp : Sp) : Prop :=
  ∃ f fd, Mk W.K C f ∧ FnOk W.P W.w W.K mg base CX0 k f fd ps sp ∧ Binds W.K fd ps []
section
variable {K : PySem.W.Frag} {mg : Str → Option Value} {h : Heap} {x m qual : Str} {C f : Addr} {st : Stmt} {oc : Value} {od an : Option Addr} {osl : Array (Option Value)} {kV doc pm cdv ct : Value}
theorem kls_mk (X : K.In h) (G : h.Ns mainGlobals mg) (a : PySem.W.nsIn K mainGlobals x = some (some (.ref C))) (pg : PySem.W.plainGet K C Str.empty = true) (hd : PySem.W.hasDictIn K C = true) (po : PySem.W.plainOver K C = true)
    (sa : PySem.W.findIn K (.ref C) "__setattr__" = some (some (.builtin "object.__setattr__"))) : KlsOk K mg x := by
  have e := clsOf_eq a
  exact ⟨by rw [e]; exact ⟨pg, hd, po, sa⟩, by rw [e]; exact PySem.W.mg_of X G a⟩
theorem no_mk {g : Str} (a : PySem.W.nsIn K mainGlobals x = some (some (.ref C))) (n : PySem.W.findIn K (.ref C) g = some none) : NoAttr K (clsOf K x) g := by
  rw [clsOf_eq a]
  exact n
theorem src_mkM (e : PySem.W.nsIn K mainGlobals x = some (some (.ref C))) (a : PySem.W.findIn K (.ref C) m = some (some (.ref f))) (i : PySem.W.isFn K (.ref f) = true)
    (l : K.lookup f = some ⟨oc, od, .func (PySem.W.fnOf m qual (defArgs st) (defBody st) (defScope st) .none kV doc pm an cdv ct), osl⟩) (c : PySem.W.codeIn K cdv qual = true) (k : PySem.W.keepIn K (.ref f) = true) : SrcM K (clsOf K x) m qual st := by
  rw [clsOf_eq e]
  exact ⟨f, _, ⟨a, i, k⟩, fun_mk l c k⟩
theorem src_mkI (e : PySem.W.nsIn K mainGlobals x = some (some (.ref C))) (a : PySem.W.findIn K (.ref C) "__init__" = some (some (.ref f))) (i : PySem.W.isFn K (.ref f) = true) (mk : PySem.W.makesIn K C = true) (kc : PySem.W.keepIn K (.ref C) = true)
    (l : K.lookup f = some ⟨oc, od, .func (PySem.W.fnOf "__init__" qual (defArgs st) (defBody st) (defScope st) .none kV doc pm an cdv ct), osl⟩) (c : PySem.W.codeIn K cdv qual = true) (k : PySem.W.keepIn K (.ref f) = true) : SrcI K (clsOf K x) qual st := by
  rw [clsOf_eq e]
  exact ⟨f, _, ⟨mk, a, i, kc⟩, fun_mk l c k⟩
end
/-! ### fields -/
def FdOk (C : Addr) (f : Str) (Q : VK) (x : V) (H : Hp) : Prop := ∃ a dx fs v, x = .ref a ∧ H a = some (.ins C dx fs) ∧ fs.lookup f = some v ∧ Q v H
def tFd (C : Addr) (ta : TE) (f : Str) : TE := fun σ H Q => ta σ H fun x H1 => FdOk C f Q x H1
def SfOk (C : Addr) (f : Str) (y : V) (k : Hp → Prop) (x : V) (H : Hp) : Prop := ∃ a dx fs, x = .ref a ∧ H a = some (.ins C dx fs) ∧ fs.length < 1000 ∧ k (upd H a (.ins C dx (putF f y fs)))
def sFd (C : Addr) (ta tv : TE) (f : Str) : TS := fun D σ H => tv σ H fun y H1 => ta σ H1 fun x H2 => SfOk C f y (D.nx σ) x H2
section
variable {X : Cx} {o e value : Expr} {f : Str} {pos pos' tpos : Pos} {ta tv : TE} {C : Addr}
theorem pe_fd (c : Cls X.K C) (n : NoAttr X.K C f) (he : PE X e ta) (hb : attributeBase e f X.env (eval e X.env) = eval e X.env) : PE X (.Attribute e f pos) (tFd C ta f) := by
  refine ⟨fun pins s σ H Q I h => ?_⟩
  refine attr_of hb (thn (he.run pins s σ H _ I h) fun u s1 ⟨x, H1, I1, rx, a, dx, fs, v, ex, ea, l, q⟩ => ?_)
  subst ex
  obtain rfl : u = Value.ref a := rx
  exact getattr_ok I1 ea c n l fun u' s2 I2 ru => ⟨v, H1, I2, ru, q⟩
theorem ps_fd (c : Cls X.K C) (n : NoAttr X.K C f) (ha : PE X o ta) (hv : PE X value tv) (hs : swapsWith value (some (.Attribute o f pos')) pos.line X.env = pure false) : PS X (.Assign [.Attribute o f pos'] value pos) (sFd C ta tv f) := by
  refine ⟨fun pins s σ H D I h => ?_⟩
  refine plainObj_wpAny_Assign_Attribute (thn (hv.run pins s σ H _ I h) fun u s1 ⟨y, H1, I1, ry, q⟩ => thn (ha.run pins s1 σ H1 _ I1 q) fun ov s2 ⟨x, H2, I2, rx, a, dx, fs, ex, ea, l, q2⟩ => ?_) hs
  subst ex
  obtain rfl : ov = Value.ref a := rx
  exact setattr_ok I2 ea c n l ry fun s3 I3 => ⟨σ, _, I3, q2⟩
end
/-! ### calls of methods, new instances -/
def MtOk (C : Addr) (m : Str) (t : TA) (sp : Sp) (E : XK) (σ : L2.St) (Q : VK) (x : V) (H1 : Hp) : Prop := ∃ a dx fs, x = .ref a ∧ H1 a = some (.ins C dx fs) ∧ fs.lookup m = none ∧ t σ H1 fun vs H2 => sp (x :: vs) H2 Q E
def MkOk (C : Addr) (sp : Sp) (E : XK) (Q : VK) (vs : List V) (H1 : Hp) : Prop := ∀ x dx, H1 x = none → H1 dx = none → dx ≠ x → sp (.ref x :: vs) (upd (upd H1 dx (.own x)) x (.ins C dx [])) (fun v H2 => v = .non ∧ Q (.ref x) H2) E
section
variable {C a dx : Addr} {m f : Str} {sp : Sp} {E : XK} {ta tv : TE} {t : TA} {σ : L2.St} {H : Hp} {Q : VK} {fs : List (Str × V)} {v y : V} {nx bk ct : L2.St → Hp → Prop} {rt : VK} {k : Hp → Prop}
theorem w_fd (h : ta σ H fun x H1 => FdOk C f Q x H1) : tFd C ta f σ H Q := h
theorem w_fdok (h : H a = some (.ins C dx fs)) (l : fs.lookup f = some v) (q : Q v H) : FdOk C f Q (.ref a) H := ⟨a, dx, fs, v, rfl, h, l, q⟩
theorem w_sfd (h : tv σ H fun y H1 => ta σ H1 fun x H2 => SfOk C f y (nx σ) x H2) : sFd C ta tv f ⟨nx, rt, bk, ct⟩ σ H := h
theorem w_sfok (h : H a = some (.ins C dx fs)) (l : fs.length < 1000) (q : k (upd H a (.ins C dx (putF f y fs)))) : SfOk C f y k (.ref a) H := ⟨a, dx, fs, rfl, h, l, q⟩
theorem w_meth (h : ta σ H fun x H1 => MtOk C m t sp E σ Q x H1) : tMeth C m sp [] E ta t σ H Q := by
  have e : tMeth C m sp [] E ta t σ H Q = (ta σ H fun x H1 => MtOk C m t sp E σ Q x H1) := by
    unfold tMeth MtOk
    simp only [List.append_nil]
  rw [e]
  exact h
theorem w_mtok (h : H a = some (.ins C dx fs)) (l : fs.lookup m = none) (q : t σ H fun vs H2 => sp (.ref a :: vs) H2 Q E) : MtOk C m t sp E σ Q (.ref a) H := ⟨a, dx, fs, rfl, h, l, q⟩
theorem w_make (h : t σ H fun vs H1 => MkOk C sp E Q vs H1) : tMake C sp [] E t σ H Q := by
  have e : tMake C sp [] E t σ H Q = (t σ H fun vs H1 => MkOk C sp E Q vs H1) := by
    unfold tMake MkOk
    simp only [List.append_nil]
  rw [e]
  exact h
theorem lk_hit {r : List (Str × V)} : List.lookup f ((f, v) :: r) = some v := by
  rw [List.lookup_cons, beq_self_eq_true]
theorem lk_miss {g : Str} {r : List (Str × V)} (h : (f == g) = false) : List.lookup f ((g, v) :: r) = List.lookup f r := by
  rw [List.lookup_cons, h]
theorem pf_hit {r : List (Str × V)} : putF f y ((f, v) :: r) = (f, y) :: r := if_pos rfl
theorem pf_miss {g : Str} {r : List (Str × V)} (h : ¬ g = f) : putF f y ((g, v) :: r) = (g, v) :: putF f y r := if_neg h
end
/-! ### heaps in which an object's own parts change -/
def isTup : HO → Prop
  | .tup _ => True
  | .frz _ (.tup _) => True
  | _ => False
/-- tuples stay -/
def St (H H' : Hp) : Prop := ∀ a u, H a = some u → isTup u → H' a = some u
theorem St.refl (H : Hp) : St H H := fun _ _ h _ => h
theorem St.trans {H H1 H2 : Hp} (a : St H H1) (b : St H1 H2) : St H H2 := fun c o h t => b c o (a c o h t) t
theorem Same.st {H H' : Hp} (e : Same H H') : St H H' := fun a u h _ => e a u h
theorem tup_noE {u : HO} (h : isTup u) : noE u = true := by
  cases u <;> first | rfl | exact h.elim
theorem Sx.st {H H' : Hp} (e : Sx H H') : St H H' := fun a u h t => e.keep a u h (tup_noE t)
section
variable {K : PySem.W.Frag} {H H' : Hp} {a : Addr} {xs : List V}
theorem st_t (e : St H H') (h : SqT K H a xs) : SqT K H' a xs := by
  rcases h with (h | ⟨o, h⟩) | h
  · exact .inl (.inl (e _ _ h trivial))
  · exact .inl (.inr ⟨o, e _ _ h trivial⟩)
  · exact .inr h
theorem st_tup (e : St H H') (h : TupN H a xs) : TupN H' a xs := by
  obtain ⟨o, d, h⟩ := h
  exact ⟨o, d, e _ _ h trivial⟩
theorem st_n (e : St H H') (h : SqN K H a xs) : SqN K H' a xs := by
  rcases h with h | h
  · exact .inl (st_tup e h)
  · exact .inr h
mutual
theorem dqt (e : St H H') : ∀ {v : V} {d : PyData}, Dq K H v d → tupO d → Dq K H' v d
  | _, _, .non, _ => .non
  | _, _, .bl b, _ => .bl b
  | _, _, .int i, _ => .int i
  | _, _, .str x, _ => .str x
  | _, _, .lst _ _, z => (show False from z).elim
  | _, _, .tup h r, z => .tup (st_n e h) (dqst e r z)
theorem dqst (e : St H H') : ∀ {vs : List V} {ds : List PyData}, DqAll K H vs ds → tupOs ds → DqAll K H' vs ds
  | _, _, .nil, _ => .nil
  | _, _, .cons h r, z => .cons (dqt e h z.1) (dqst e r z.2)
end
end
/-- all but the objects at p and l stays -/
def Mv (p l : Addr) (H H' : Hp) : Prop := ∀ a u, H a = some u → a ≠ p → a ≠ l → H' a = some u
section
variable {W : Wd} {K : PySem.W.Frag} {H0 H H' H2 : Hp} {p l : Addr} {C dx : Addr} {fs : List (Str × V)} {hs : List V} {v : V} {b : Bool} {n : Int}
theorem Mv.same (e : Same H H') : Mv p l H H' := fun a u h _ _ => e a u h
theorem Mv.trans (e : Mv p l H H') (e' : Mv p l H' H2) : Mv p l H H2 := fun a u h n1 n2 => e' a u (e a u h n1 n2) n1 n2
theorem mv_st (h1 : H p = some (.ins C dx fs)) (h2 : H l = some (.lst hs)) (e : Mv p l H H') : St H H' := fun a u h t => e a u h (fun z => by
  rw [z, h1] at h
  cases h
  exact t) fun z => by
  rw [z, h2] at h
  cases h
  exact t
theorem mv_box (h1 : H p = some (.ins C dx fs)) (h2 : H l = some (.lst hs)) (e : Mv p l H H') (h : BoxAt W b n H v) : BoxAt W b n H' v := by
  obtain ⟨q, o, k, rfl, hpo, hk, hp, ho⟩ := h
  refine ⟨q, o, k, rfl, hpo, hk, e _ _ hp (fun z => ?_) fun z => ?_, e _ _ ho (fun z => ?_) fun z => ?_⟩
  · rw [z, h1] at hp
    cases hp
  · rw [z, h2] at hp
    cases hp
  · rw [z, h1] at ho
    cases ho
  · rw [z, h2] at ho
    cases ho
theorem mv_sx (e0 : Sx H0 H) (n1 : H0 p = none) (n2 : H0 l = none) (e : Mv p l H H') (c1 : NoC H p := by walk_at "Znoc") (c2 : NoC H l := by walk_at "Znoc") : Sx H0 H' :=
  sx_step (A := fun x => x = p ∨ x = l) e0 (fun x z => z.elim (fun z => z ▸ n1) fun z => z ▸ n2) (fun x z => z.elim (fun z => z ▸ c1) fun z => z ▸ c2) fun x u h z => e x u h (fun y => z (.inl y)) fun y => z (.inr y)
end
/-! max of three -/
abbrev rMax3 : List V → Hp → VK → Prop := fun xs H Q => ∃ i j k, xs = [V.int i, V.int j, V.int k] ∧ Q (.int (if j > i then (if k > j then k else j) else (if k > i then k else i))) H
theorem call_max3 {X : Cx} (hc : X.calm = true) : CallR X (.builtin "max") rMax3 := by
  intro pins s σ H xs us Q I r h
  obtain ⟨i, j, k, rfl, q⟩ := h
  obtain ⟨t1, t2, t3, rfl⟩ : ∃ t1 t2 t3, us = [Value.int i t1, Value.int j t2, Value.int k t3] := by
    cases r with
    | cons r1 r => cases r with
      | cons r2 r => cases r with
        | cons r3 r =>
          cases r
          obtain ⟨t1, e1⟩ := r1
          obtain ⟨t2, e2⟩ := r2
          obtain ⟨t3, e3⟩ := r3
          exact ⟨t1, t2, t3, by rw [e1, e2, e3]⟩
  refine max_three_ints (I.ok.hd hc) fun h' tk kp => ⟨_, H, I.kept kp, ?_, q⟩
  split
  · split <;> exact ⟨_, rfl⟩
  · split <;> exact ⟨_, rfl⟩
theorem w_max3 {i j k : Int} {H : Hp} {Q : VK} (h : Q (.int (if j > i then (if k > j then k else j) else (if k > i then k else i))) H) : rMax3 [.int i, .int j, .int k] H Q := ⟨i, j, k, rfl, h⟩
end Sh
/-! pressers: what they remember, what hinders a form -/
namespace Sh
open PySem PySem.Spec PyProof.Rows L2
def oV : Option Int → V
  | none => .non
  | some i => .int i
def oD : Option Int → PyData
  | none => .none
  | some i => .int i
theorem oV_dq {K : PySem.W.Frag} {H : Hp} (t : Option Int) : Dq K H (oV t) (oD t) := by
  cases t with
  | none => exact .non
  | some i => exact .int i
/-- the greater one, none being less than all -/
def grt : Option Int → Option Int → Option Int
  | none, b => b
  | some x, none => some x
  | some x, some y => if x < y then some y else some x
structure PrS where
  P : Pt
  past : List (List Int)
  had : Option Int
  base : Option Int
  fresh : Int
def inO (n : Int) : Option Int → Prop
  | none => True
  | some x => 0 ≤ x ∧ x < n
structure OkPr (s : PrS) : Prop where
  ok : OkPt s.P
  hds : ∀ h ∈ s.past, OkHead s.P.s.fs h
  len : s.past.length ≤ 1000
  f0 : 0 ≤ s.fresh
  f1 : s.fresh ≤ s.past.length
  had : inO s.past.length s.had
  base : inO s.past.length s.base
def prF (vp : V) (l : Addr) (h b : Option Int) (f : Int) : List (Str × V) := [("pact", vp), ("past", .ref l), ("had_most", oV h), ("base_most", oV b), ("fresh_from", .int f)]
/-- a presser stands at p, its past at l -/
def PrAt (W : Wd) (H : Hp) (p l : Addr) (s : PrS) : Prop := ∃ (dx : Addr) (vp : V) (hs : List V), H p = some (.ins (clsOf W.K "Presser") dx (prF vp l s.had s.base s.fresh)) ∧ Dq W.K H vp (ptD s.P) ∧ H l = some (.lst hs) ∧ DqAll W.K H hs (s.past.map headD)
def headB (fs : List Fd) : PyData → Bool
  | .tuple ds => decide (ds.length = fs.length) && (fs.zip ds).all fun fd => betwD 0 (p2 fd.1.br - 1) fd.2
  | _ => false
theorem headB_ok : ∀ {fs : List Fd} {hd : List Int}, OkHead fs hd → headB fs (headD hd) = true := fun {fs hd} h => by
  have l := okHead_len h
  show (decide ((hd.map PyData.int).length = fs.length) && (fs.zip (hd.map PyData.int)).all fun fd => betwD 0 (p2 fd.1.br - 1) fd.2) = true
  rw [List.length_map, decide_eq_true l, Bool.true_and, List.all_eq_true]
  intro x hx
  obtain ⟨i, hi⟩ := List.getElem?_of_mem hx
  obtain ⟨e1, e2⟩ := List.getElem?_zip_eq_some.mp hi
  rw [List.getElem?_map] at e2
  cases c : hd[i]? with
  | none => rw [c] at e2; cases e2
  | some n =>
    rw [c] at e2
    rw [← Option.some.inj e2]
    have z := okHead_get h e1 c
    exact betw_ok z.1 (by omega)
theorem tupO_pt (P : Pt) : tupO (ptD P) := ⟨⟨tupO_fds _, trivial, trivial⟩, trivial, tupOs_of (fun d hd => by
  obtain ⟨g, _, rfl⟩ := List.mem_map.mp hd
  exact tupO_fm g), ⟨trivial, trivial, trivial, trivial, trivial⟩, trivial⟩
def prNo (m : Str) : Bool := !(m == "pact") && (!(m == "past") && (!(m == "had_most") && (!(m == "base_most") && !(m == "fresh_from"))))
section
variable {W : Wd} {H H' H0 : Hp} {p l : Addr} {s : PrS} {Q : VK} {k : Hp → Prop} {v : V} {hd : List Int} {b : Option Int}
theorem pr_sx (e : Sx H H') (h : PrAt W H p l s) : PrAt W H' p l s := by
  obtain ⟨dx, vp, hs, h1, h2, h3, h4⟩ := h
  exact ⟨dx, vp, hs, e.keep _ _ h1 rfl, dqx e h2, e.keep _ _ h3 rfl, dqsx e h4⟩
theorem pr_same (e : Same H H') (h : PrAt W H p l s) : PrAt W H' p l s := pr_sx (Same.sx e) h
theorem pr_ne (h : PrAt W H p l s) : p ≠ l := fun z => by
  obtain ⟨dx, vp, hs, h1, h2, h3, h4⟩ := h
  rw [← z, h1] at h3
  cases h3
theorem prm_st (h : PrAt W H p l s) (e : Mv p l H H') : St H H' := by
  obtain ⟨dx, vp, hs, h1, h2, h3, h4⟩ := h
  exact mv_st h1 h3 e
theorem prm_box {c : Bool} {n : Int} (h : PrAt W H p l s) (e : Mv p l H H') (hb : BoxAt W c n H v) : BoxAt W c n H' v := by
  obtain ⟨dx, vp, hs, h1, h2, h3, h4⟩ := h
  exact mv_box h1 h3 e hb
theorem w_prPact (h : PrAt W H p l s) (q : ∀ v, Dq W.K H v (ptD s.P) → Q v H) : FdOk (clsOf W.K "Presser") "pact" Q (.ref p) H := by
  obtain ⟨dx, vp, hs, h1, h2, h3, h4⟩ := h
  exact w_fdok h1 lk_hit (q vp h2)
theorem w_prPast (h : PrAt W H p l s) (q : Q (.ref l) H) : FdOk (clsOf W.K "Presser") "past" Q (.ref p) H := by
  obtain ⟨dx, vp, hs, h1, h2, h3, h4⟩ := h
  exact w_fdok h1 ((lk_miss (by decide +kernel)).trans lk_hit) q
theorem w_prHad (h : PrAt W H p l s) (q : Q (oV s.had) H) : FdOk (clsOf W.K "Presser") "had_most" Q (.ref p) H := by
  obtain ⟨dx, vp, hs, h1, h2, h3, h4⟩ := h
  exact w_fdok h1 ((lk_miss (by decide +kernel)).trans ((lk_miss (by decide +kernel)).trans lk_hit)) q
theorem w_prBase (h : PrAt W H p l s) (q : Q (oV s.base) H) : FdOk (clsOf W.K "Presser") "base_most" Q (.ref p) H := by
  obtain ⟨dx, vp, hs, h1, h2, h3, h4⟩ := h
  exact w_fdok h1 ((lk_miss (by decide +kernel)).trans ((lk_miss (by decide +kernel)).trans ((lk_miss (by decide +kernel)).trans lk_hit))) q
theorem w_prFresh (h : PrAt W H p l s) (q : Q (.int s.fresh) H) : FdOk (clsOf W.K "Presser") "fresh_from" Q (.ref p) H := by
  obtain ⟨dx, vp, hs, h1, h2, h3, h4⟩ := h
  exact w_fdok h1 ((lk_miss (by decide +kernel)).trans ((lk_miss (by decide +kernel)).trans ((lk_miss (by decide +kernel)).trans ((lk_miss (by decide +kernel)).trans lk_hit)))) q
theorem w_mtPr {m : Str} {t : TA} {sp : Sp} {E : XK} {σ : L2.St} (h : PrAt W H p l s) (n : prNo m = true) (q : t σ H fun vs H2 => sp (.ref p :: vs) H2 Q E) : MtOk (clsOf W.K "Presser") m t sp E σ Q (.ref p) H := by
  obtain ⟨dx, vp, hs, h1, h2, h3, h4⟩ := h
  unfold prNo at n
  simp only [Bool.and_eq_true, Bool.not_eq_true'] at n
  obtain ⟨n1, n2, n3, n4, n5⟩ := n
  exact w_mtok h1 ((lk_miss n1).trans ((lk_miss n2).trans ((lk_miss n3).trans ((lk_miss n4).trans ((lk_miss n5).trans rfl))))) q
theorem w_lenPast (h : PrAt W H p l s) (q : Q (.int s.past.length) H) : rLenU W.K [.ref l] H Q := by
  obtain ⟨dx, vp, hs, h1, h2, h3, h4⟩ := h
  refine w_lenL (SqL.of h3) ?_
  rw [dqs_len h4, List.length_map]
  exact q
theorem w_tyPast {R : Prop} (h : PrAt W H p l s) (q : R) : tyV W.K "list" (.ref l) H ∧ R := by
  obtain ⟨dx, vp, hs, h1, h2, h3, h4⟩ := h
  exact w_tyL h3 q
theorem w_ixPast {m : Nat} (h : PrAt W H p l s) (m0 : 1 ≤ m) (m1 : m ≤ s.past.length) (q : ∀ v, Dq W.K H v (headD (s.past.getD (s.past.length - m) [])) → Q v H) : rIxU W.K (.ref l) (.int (-(m : Int))) H Q := by
  obtain ⟨dx, vp, hs, h1, h2, h3, h4⟩ := h
  have hl : hs.length = s.past.length := by rw [dqs_len h4, List.length_map]
  have e : (s.past.map headD)[s.past.length - m]? = some (headD (s.past.getD (s.past.length - m) [])) := by
    rw [List.getElem?_map, List.getD_eq_getElem?_getD, List.getElem?_eq_getElem (by omega)]
    rfl
  obtain ⟨v, e1, e2⟩ := dqs_get h4 e
  refine w_ixl (SqL.of h3) (x := v) ?_ (q v e2)
  unfold atI ixN
  rw [if_neg (by omega), if_pos (by omega), show (-(m : Int) + (hs.length : Int)).toNat = s.past.length - m by omega]
  exact e1
theorem mv_upd1 {u : HO} : Mv p l H (upd H p u) := fun a o h n1 _ => by
  rw [upd_ne n1]
  exact h
theorem mv_upd2 {u : HO} : Mv p l H (upd H l u) := fun a o h _ n2 => by
  rw [upd_ne n2]
  exact h
theorem pr_put (h : PrAt W H p l s) {f : Str} {y : V} {s' : PrS} (eP : s'.P = s.P) (ep : s'.past = s.past) (hf : ∀ vp, putF f y (prF vp l s.had s.base s.fresh) = prF vp l s'.had s'.base s'.fresh) (q : ∀ H', Mv p l H H' → PrAt W H' p l s' → k H') : SfOk (clsOf W.K "Presser") f y k (.ref p) H := by
  have np := pr_ne h
  have h0 := h
  obtain ⟨dx, vp, hs, h1, h2, h3, h4⟩ := h
  refine w_sfok h1 (by show 5 < 1000; decide) (q _ mv_upd1 ?_)
  have e := prm_st h0 (mv_upd1 (p := p) (l := l) (H := H) (u := .ins (clsOf W.K "Presser") dx (putF f y (prF vp l s.had s.base s.fresh))))
  exact ⟨dx, vp, hs, by rw [upd_same, hf], by rw [eP]; exact dqt e h2 (tupO_pt _), by rw [upd_ne np.symm]; exact h3, by rw [ep]; exact dqst e h4 (tupOs_heads _)⟩
theorem w_prSetHad (h : PrAt W H p l s) (q : ∀ H', Mv p l H H' → PrAt W H' p l ⟨s.P, s.past, b, s.base, s.fresh⟩ → k H') : SfOk (clsOf W.K "Presser") "had_most" (oV b) k (.ref p) H :=
  pr_put h (s' := ⟨s.P, s.past, b, s.base, s.fresh⟩) rfl rfl (fun vp => by
    unfold prF
    rw [pf_miss (by decide +kernel), pf_miss (by decide +kernel), pf_hit]) q
theorem w_prSetBase (h : PrAt W H p l s) (q : ∀ H', Mv p l H H' → PrAt W H' p l ⟨s.P, s.past, s.had, b, s.fresh⟩ → k H') : SfOk (clsOf W.K "Presser") "base_most" (oV b) k (.ref p) H :=
  pr_put h (s' := ⟨s.P, s.past, s.had, b, s.fresh⟩) rfl rfl (fun vp => by
    unfold prF
    rw [pf_miss (by decide +kernel), pf_miss (by decide +kernel), pf_miss (by decide +kernel), pf_hit]) q
theorem w_prSetFresh {f : Int} (h : PrAt W H p l s) (q : ∀ H', Mv p l H H' → PrAt W H' p l ⟨s.P, s.past, s.had, s.base, f⟩ → k H') : SfOk (clsOf W.K "Presser") "fresh_from" (.int f) k (.ref p) H :=
  pr_put h (s' := ⟨s.P, s.past, s.had, s.base, f⟩) rfl rfl (fun vp => by
    unfold prF
    rw [pf_miss (by decide +kernel), pf_miss (by decide +kernel), pf_miss (by decide +kernel), pf_miss (by decide +kernel), pf_hit]) q
theorem w_prAppend (h : PrAt W H p l s) (hh : Dq W.K H v (headD hd)) (hl : s.past.length < 100000) (q : ∀ H', Mv p l H H' → PrAt W H' p l ⟨s.P, s.past ++ [hd], s.had, s.base, s.fresh⟩ → Q .non H') : rAppend (.ref l) [v] H Q := by
  have np := pr_ne h
  have h0 := h
  obtain ⟨dx, vp, hs, h1, h2, h3, h4⟩ := h
  have hln : hs.length = s.past.length := by rw [dqs_len h4, List.length_map]
  refine w_append h3 (by omega) (q _ mv_upd2 ?_)
  have e := prm_st h0 (mv_upd2 (p := p) (l := l) (H := H) (u := .lst (hs ++ [v])))
  refine ⟨dx, vp, hs ++ [v], by rw [upd_ne np]; exact h1, dqt e h2 (tupO_pt _), upd_same, ?_⟩
  rw [List.map_append]
  exact dqst e (dqs_app h4 (dqs_one hh)) (tupOs_of fun d hd' => by
    rcases List.mem_append.mp hd' with z | z
    · obtain ⟨g, _, rfl⟩ := List.mem_map.mp z
      exact tupO_head g
    · rw [List.mem_singleton.mp z]
      exact tupO_head hd)
theorem pf_m {g f : Str} {x y : V} {r r2 : List (Str × V)} (h : ¬ g = f) (e : putF f y r = r2) : putF f y ((g, x) :: r) = (g, x) :: r2 := (pf_miss h).trans (by rw [e])
theorem prF_mk {vp : V} : putF "fresh_from" (.int 0) (putF "base_most" .non (putF "had_most" .non (putF "past" (.ref l) (putF "pact" vp [])))) = prF vp l none none 0 := by
  rw [show putF "pact" vp [] = ([("pact", vp)] : List (Str × V)) from rfl,
    show putF "past" (V.ref l) [("pact", vp)] = ([("pact", vp), ("past", V.ref l)] : List (Str × V)) from pf_m (by decide +kernel) rfl,
    show putF "had_most" V.non [("pact", vp), ("past", V.ref l)] = ([("pact", vp), ("past", V.ref l), ("had_most", V.non)] : List (Str × V)) from pf_m (by decide +kernel) (pf_m (by decide +kernel) rfl),
    show putF "base_most" V.non [("pact", vp), ("past", V.ref l), ("had_most", V.non)] = ([("pact", vp), ("past", V.ref l), ("had_most", V.non), ("base_most", V.non)] : List (Str × V)) from pf_m (by decide +kernel) (pf_m (by decide +kernel) (pf_m (by decide +kernel) rfl)),
    show putF "fresh_from" (V.int 0) [("pact", vp), ("past", V.ref l), ("had_most", V.non), ("base_most", V.non)] = ([("pact", vp), ("past", V.ref l), ("had_most", V.non), ("base_most", V.non), ("fresh_from", V.int 0)] : List (Str × V)) from pf_m (by decide +kernel) (pf_m (by decide +kernel) (pf_m (by decide +kernel) (pf_m (by decide +kernel) rfl)))]
  rfl
end
section
variable {K : PySem.W.Frag} {H : Hp} {Q : VK} {v : V} {P : Pt} {a b c d : Int}
theorem w_ptR (h : Dq K H v (ptD P)) (q : ∀ x, Dq K H x (.tuple [.int P.sk, .int P.gp, .int P.lt, .int P.an]) → Q x H) : rIxU K v (.int 3) H Q := w_ixQT h (d := .tuple [.int P.sk, .int P.gp, .int P.lt, .int P.an]) rfl q
theorem w_rd0 (h : Dq K H v (.tuple [.int a, .int b, .int c, .int d])) (q : Q (.int a) H) : rIxU K v (.int 0) H Q := w_ixQTi h (n := a) rfl q
theorem w_rd1 (h : Dq K H v (.tuple [.int a, .int b, .int c, .int d])) (q : Q (.int b) H) : rIxU K v (.int 1) H Q := w_ixQTi h (n := b) rfl q
theorem w_rd2 (h : Dq K H v (.tuple [.int a, .int b, .int c, .int d])) (q : Q (.int c) H) : rIxU K v (.int 2) H Q := w_ixQTi h (n := c) rfl q
theorem w_rd3 (h : Dq K H v (.tuple [.int a, .int b, .int c, .int d])) (q : Q (.int d) H) : rIxU K v (.int 3) H Q := w_ixQTi h (n := d) rfl q
theorem w_fmAt {l : List Fm} {i : Nat} {f : Fm} (h : Dq K H v (.tuple (l.map fmD))) (e : l[i]? = some f) (q : ∀ x, Dq K H x (fmD f) → Q x H) : rIxU K v (.int (i : Int)) H Q := by
  have hi := (List.getElem?_eq_some_iff.mp e).1
  exact w_ixM h (by omega) (by omega) fun g x hg hx => by
    rw [Int.toNat_natCast, e] at hg
    rw [← Option.some.inj hg] at hx
    exact q x hx
end
/-! ### the plain rules -/
/-- the former heads with how many letters ahead -/
def foP (past : List (List Int)) (n : Nat) : List Fo := (List.range (min n past.length)).map fun (k : Nat) => ((k : Int) + 1, past.getD (past.length - (k + 1)) [])
def shM (s : PrS) : Option Int := grt s.base (if (s.past.length : Int) - 1 - s.P.sk < s.fresh then none else some ((s.past.length : Int) - 1 - s.P.sk))
def shB (s : PrS) (r : Int) : Bool := match shM s with
  | none => false
  | some m => decide ((s.past.length : Int) - r ≤ m)
def maxI (i j : Int) : Int := if j > i then j else i
def ltI (s : PrS) : Int := match s.had with
  | none => maxI 0 ((s.past.length : Int) - 1 - s.P.gp)
  | some h => maxI (maxI 0 ((s.past.length : Int) - 1 - s.P.gp)) (h - s.P.lt)
def cntB (s : PrS) (c : Int) : Bool := decide ((s.past.length : Int) + s.P.lt - ltI s < p2 c)
def tnB (s : PrS) : Bool := decide (0 < s.P.an) && decide ((s.past.length : Int) % s.P.an = 0)
inductive Hin where
  | anew
  | shared
  | count
  | dou (d : Option (Int × Int × Int))
def hinD : Hin → PyData
  | .anew => .str "anew"
  | .shared => .str "shared"
  | .count => .str "count"
  | .dou d => pairD d
def HinR (s : PrS) (hd : List Int) (f : Fm) (r : Hin) : Prop :=
  if tnB s = true then r = .anew else if shB s f.r = false then r = .shared else if cntB s f.c = false then r = .count else ∃ d, r = .dou d ∧ DouR s.P.s f hd (foP s.past f.r.toNat) d
theorem foP_ok {s : PrS} {n : Nat} (ok : OkPr s) (hn : n ≤ 1000) : ∀ p ∈ foP s.past n, OkFo s.P.s p := fun p hp => by
  unfold foP at hp
  obtain ⟨k, hk, rfl⟩ := List.mem_map.mp hp
  have hk := List.mem_range.mp hk
  refine ⟨?_, by show 1 ≤ (k : Int) + 1; omega, by show (k : Int) + 1 ≤ 1000; omega⟩
  show (s.past.getD (s.past.length - (k + 1)) []).length = _
  have hi : s.past.length - (k + 1) < s.past.length := by omega
  rw [List.getD_eq_getElem?_getD, List.getElem?_eq_getElem hi]
  exact okHead_len (ok.hds _ (List.getElem_mem hi))
theorem foP_len {past : List (List Int)} {n : Nat} : (foP past n).length ≤ n := by
  unfold foP
  rw [List.length_map, List.length_range]
  omega
theorem HinR.one {s : PrS} {hd : List Int} {f : Fm} {r r' : Hin} (ok : OkPr s) (okf : OkFm s.P.s f) (h : HinR s hd f r) (h' : HinR s hd f r') : r = r' := by
  unfold HinR at h h'
  split at h
  · rw [if_pos (by assumption)] at h'
    rw [h, h']
  · rw [if_neg (by assumption)] at h'
    split at h
    · rw [if_pos (by assumption)] at h'
      rw [h, h']
    · rw [if_neg (by assumption)] at h'
      split at h
      · rw [if_pos (by assumption)] at h'
        rw [h, h']
      · rw [if_neg (by assumption)] at h'
        obtain ⟨d, rfl, h⟩ := h
        obtain ⟨d', rfl, h'⟩ := h'
        have z1 := okf.r1
        rw [DouR.one okf.len (foP_ok ok (by omega)) h h']
/-- the places of the forms that may tell a head -/
def UseR (s : PrS) (hd : List Int) (us : List Nat) : Prop := ∃ g : Nat → Bool, us = (List.range s.P.fs.length).filter g ∧ ∀ i f, s.P.fs[i]? = some f → ∃ r, HinR s hd f r ∧ (g i = true ↔ r = .dou none)
/-- the form that is taken -/
def choF (P : Pt) (t : Option Nat) (i : Nat) : Option Nat := if sizeP P (some i) < sizeP P t then some i else t
def cho (P : Pt) (us : List Nat) : Option Nat := us.foldl (choF P) none
theorem UseR.mem {s : PrS} {hd : List Int} {us : List Nat} (h : UseR s hd us) {i : Nat} (hi : i ∈ us) : i < s.P.fs.length := by
  obtain ⟨g, rfl, _⟩ := h
  exact List.mem_range.mp (List.mem_filter.mp hi).1
theorem cho_in {P : Pt} : ∀ (us : List Nat) (t : Option Nat) (i : Nat), us.foldl (choF P) t = some i → i ∈ us ∨ t = some i
  | [], t, i, h => .inr h
  | u :: r, t, i, h => by
    rw [List.foldl_cons] at h
    rcases cho_in r _ i h with z | z
    · exact .inl (List.mem_cons_of_mem _ z)
    · unfold choF at z
      split at z
      · exact .inl (by rw [Option.some.inj z]; exact List.mem_cons_self)
      · exact .inr z
theorem cho_ok {s : PrS} {hd : List Int} {us : List Nat} (h : UseR s hd us) : AtOk s.P (cho s.P us) := by
  cases c : cho s.P us with
  | none => trivial
  | some i =>
    rcases cho_in us none i c with z | z
    · exact h.mem z
    · cases z
/-! ### words -/
def wdD : Option Int → PyData
  | none => .tuple [.str "anew"]
  | some n => .tuple [.str "have", .int n]
def heaP (s : PrS) : Option Int → PrS
  | none => ⟨s.P, s.past, s.had, none, s.past.length⟩
  | some n => ⟨s.P, s.past, grt s.had (some n), if s.fresh ≤ n then grt s.base (some n) else s.base, s.fresh⟩
theorem sok_anew : PyData.strOk ("anew" : Str) = true := by decide +kernel
theorem sok_have : PyData.strOk ("have" : Str) = true := by decide +kernel
theorem shp_anew : SeqAt.shaped (.tuple [.str "anew"]) = true := by simp [sok_anew, SeqAt.shaped, PyData.canLay0, PyData.canLayAll0, PyData.depth, PyData.depthAll]
theorem shp_have (n : Int) : SeqAt.shaped (.tuple [.str "have", .int n]) = true := by simp [sok_have, SeqAt.shaped, PyData.canLay0, PyData.canLayAll0, PyData.depth, PyData.depthAll]
theorem w_ifn {x : Int} {A B : Prop} (q : B) : if decide (V.int x = V.non) = true then A else B := w_if (fun z => by cases z) q
/-! ### fields that stay, forms that keep all -/
theorem still_su {s : Shp} {f : Fm} {hd : List Int} {m : Int} (hs : ∀ g ∈ s.fs, g.kd = .still) (hw : ∀ w ∈ f.ws, w = .keep) (oh : OkHead s.fs hd) : SuP s f hd (m, hd) := by
  refine ⟨okHead_len oh, fun j fd w v hj hfd hww hv => ⟨v, hv, ?_⟩⟩
  rw [hw w (List.mem_of_getElem? hww)]
  refine ⟨v, by rw [hs fd (List.mem_of_getElem? hfd)]; rfl, ?_⟩
  have z := okHead_get oh hfd hv
  exact (Int.emod_eq_of_lt z.1 z.2).symm
theorem grt_ge {a : Option Int} {y : Int} : ∃ z, grt a (some y) = some z ∧ y ≤ z := by
  cases a with
  | none => exact ⟨y, rfl, Int.le_refl _⟩
  | some x =>
    by_cases c : x < y
    · exact ⟨y, if_pos c, Int.le_refl _⟩
    · exact ⟨x, if_neg c, by omega⟩
theorem foP_rep {n k : Nat} {hd : List Int} : ∀ p ∈ foP (List.replicate n hd) k, p.2 = hd := fun p hp => by
  unfold foP at hp
  obtain ⟨j, hj, rfl⟩ := List.mem_map.mp hp
  have hj := List.mem_range.mp hj
  rw [List.length_replicate] at hj
  show (List.replicate n hd).getD _ [] = hd
  rw [List.getD_eq_getElem?_getD, List.getElem?_replicate, if_pos (by rw [List.length_replicate]; omega)]
  rfl
theorem still_hin {s : PrS} {hd : List Int} {f : Fm} {r : Hin} {n : Nat} (ok : OkPr s) (okf : OkFm s.P.s f) (ep : s.past = List.replicate n hd) (hs : ∀ g ∈ s.P.s.fs, g.kd = .still) (hw : ∀ w ∈ f.ws, w = .keep) (oh : OkHead s.P.s.fs hd) (h : HinR s hd f r) :
    r = if tnB s = true then .anew else if shB s f.r = false then .shared else if cntB s f.c = false then .count else .dou none := by
  refine HinR.one ok okf h ?_
  unfold HinR
  split
  · rfl
  · split
    · rfl
    · split
      · rfl
      · refine ⟨none, rfl, fun p hp => ?_⟩
        have e := foP_rep (n := n) (hd := hd) p (by rw [← ep]; exact hp)
        obtain ⟨m, h2⟩ := p
        have e : h2 = hd := e
        rw [e]
        exact still_su hs hw oh
section
variable {K : PySem.W.Frag} {H : Hp} {Q : VK} {A B : Prop}
theorem w_neNN (q : Q (.bl false) H) : rNeU K .non .non H Q := .inl ⟨rfl, q⟩
theorem w_neSN {z : Str} (q : Q (.bl true) H) : rNeU K (.str z) .non H Q := .inl ⟨rfl, by
  have e : decide (V.str z = V.non) = false := decide_eq_false (fun h => by cases h)
  rw [e]
  exact q⟩
end
/-! ### a model of what is known -/
def enc : Option Int → Int
  | none => -1
  | some x => x
def mdlK (s : PrS) : List (Key × V) := [(.inr "had", .int (enc s.had)), (.inr "base", .int (enc s.base)), (.inr "fresh", .int s.fresh)]
theorem enc_grt {n x : Int} {a : Option Int} (ha : inO n a) (hx : 0 ≤ x) : enc (grt a (some x)) = if x > enc a then x else enc a := by
  cases a with
  | none =>
    show x = if x > -1 then x else -1
    rw [if_pos (by omega)]
  | some y =>
    show enc (if y < x then some x else some y) = if x > y then x else y
    split
    · rfl
    · rfl
section
variable {W : Wd} {H H' H0 : Hp} {p l d : Addr} {s : PrS} {v : V} {kvs : List (Key × V)}
theorem mvd_st (h : H d = some (.dK kvs)) (e : Mv d d H H') : St H H' := fun a u ha t => e a u ha (fun z => by
  rw [z, h] at ha
  cases ha
  exact t) fun z => by
  rw [z, h] at ha
  cases ha
  exact t
theorem mvd_box {b : Bool} {n : Int} (h : H d = some (.dK kvs)) (e : Mv d d H H') (hb : BoxAt W b n H v) : BoxAt W b n H' v := by
  obtain ⟨q, o, k, rfl, hpo, hk, hp, ho⟩ := hb
  have n1 : q ≠ d := fun z => by
    rw [z, h] at hp
    cases hp
  have n2 : o ≠ d := fun z => by
    rw [z, h] at ho
    cases ho
  exact ⟨q, o, k, rfl, hpo, hk, e _ _ hp n1 n1, e _ _ ho n2 n2⟩
theorem mvd_pr (h : H d = some (.dK kvs)) (e : Mv d d H H') (hp : PrAt W H p l s) : PrAt W H' p l s := by
  obtain ⟨dx, vp, hs, h1, h2, h3, h4⟩ := hp
  have n1 : p ≠ d := fun z => by
    rw [z, h] at h1
    cases h1
  have n2 : l ≠ d := fun z => by
    rw [z, h] at h3
    cases h3
  have t := mvd_st h e
  exact ⟨dx, vp, hs, e _ _ h1 n1 n1, dqt t h2 (tupO_pt _), e _ _ h3 n2 n2, dqst t h4 (tupOs_heads _)⟩
theorem prm_md (hp : PrAt W H p l s) (e : Mv p l H H') (h : H d = some (.dK kvs)) : H' d = some (.dK kvs) := by
  obtain ⟨dx, vp, hs, h1, h2, h3, h4⟩ := hp
  exact e _ _ h (fun z => by
    rw [z, h1] at h
    cases h) fun z => by
    rw [z, h3] at h
    cases h
end
end Sh
/-! readers: dicts by number, max(.., default=..) -/
namespace Sh
open PySem PySem.Spec PyProof.Rows L2 RZ
theorem alike_ints (ns : List Int) : PySem.W.AlikeAll (ns.map PyData.int) := by
  refine ⟨fun x hx y hy => ?_, fun x hx => ?_⟩
  · obtain ⟨i, _, rfl⟩ := List.mem_map.mp hx
    obtain ⟨j, _, rfl⟩ := List.mem_map.mp hy
    rfl
  · obtain ⟨i, _, rfl⟩ := List.mem_map.mp hx
    exact fun h => nomatch h
theorem foldMax : ∀ (xs : List Int) (x : Int), xs.foldl max x ∈ x :: xs ∧ ∀ y ∈ x :: xs, y ≤ xs.foldl max x
  | [], x => ⟨.head _, fun y hy => by cases hy with | head => exact Int.le_refl _ | tail _ h => cases h⟩
  | z :: xs, x => by
    obtain ⟨h1, h2⟩ := foldMax xs (max x z)
    have hm := h2 (max x z) (.head _)
    rw [List.foldl_cons]
    refine ⟨?_, fun y hy => ?_⟩
    · rcases List.mem_cons.mp h1 with e | h
      · rw [e]
        by_cases c : x ≤ z
        · rw [Int.max_eq_right c]; exact .tail _ (.head _)
        · rw [Int.max_eq_left (by omega)]; exact .head _
      · exact .tail _ (.tail _ h)
    · cases hy with
      | head => exact Int.le_trans (Int.le_max_left _ _) hm
      | tail _ h =>
        cases h with
        | head => exact Int.le_trans (Int.le_max_right _ _) hm
        | tail _ h => exact h2 y (.tail _ h)
theorem depth_ints : ∀ ns : List Int, PyData.depthAll (ns.map PyData.int) ≤ 1
  | [] => by show PyData.depthAll [] ≤ 1; unfold PyData.depthAll; omega
  | n :: ns => by
    have := depth_ints ns
    rw [List.map_cons]
    unfold PyData.depthAll PyData.depth
    omega
/-- max(xs, default=d) of a list of ints -/
def rMaxD (K : PySem.W.Frag) : List V → List V → Hp → VK → Prop := fun vs zs H Q => ∃ (a : Addr) (ns : List Int) (d : V), vs = [V.ref a] ∧ zs = [d] ∧ SqL K H a (ns.map V.int) ∧ (ns = [] → Q d H) ∧ ∀ m, m ∈ ns → (∀ y, y ∈ ns → y ≤ m) → Q (.int m) H
theorem cr_maxDef {X : Cx} (hc : X.calm = true) (hu : X.A.units + 64 < cLine) : CallRK X (.builtin "max") [Str.ofString "default"] (rMaxD X.K) := by
  intro pins s σ H vs zs us ws Q I r rz h
  obtain ⟨a, ns, d, rfl, rfl, hs, q0, q1⟩ := h
  obtain rfl := Vals.ref1 r
  obtain ⟨w1, rfl, e1⟩ := vals1 rz
  obtain ⟨its, rv, hl, _⟩ := I.list hs
  refine PySem.W.max_list_default (xs := ns.map PyData.int) (as := []) (I.ok.hd hc) hl.isList ?_ (alike_ints ns) ?_ (fun h0 h' tk hk => ?_) (fun y ys i v h' tk bs hy hi hr hk => ?_)
  · exact ints_readAll _ rv.ints
  · have := depth_ints ns
    omega
  · refine ⟨d, H, I.kept hk, e1, q0 ?_⟩
    cases ns with
    | nil => rfl
    | cons _ _ => cases h0
  · cases ns with
    | nil => cases hy
    | cons n ns =>
      cases hy
      obtain ⟨h2, h3⟩ := foldMax ns n
      rw [PySem.W.maxD_ints] at hr
      generalize hm : ns.foldl max n = m at hr h2 h3
      cases hr with
      | int _ t => exact ⟨.int m, H, I.kept hk, ⟨t, rfl⟩, q1 m h2 h3⟩
/-- dict(pairs) -/
def rDictP (K : PySem.W.Frag) : List V → Hp → VK → Prop := fun xs H Q => ∃ (a : Addr) (ps : List Addr) (kvs : List (Key × V)), xs = [.ref a] ∧ SqL K H a (ps.map V.ref) ∧ Paired (fun p kv => SqT K H p [kV kv.1, kv.2]) ps kvs ∧
    ∀ p, H p = none → Q (.ref p) (upd H p (.dK (mergeK [] kvs)))
theorem call_dictPU {X : Cx} (hc : X.calm = true) : CallR X (.type "dict") (rDictP X.K) := call_dictP hc
/-- sorted(a dict by number) -/
def rSortedDI : List V → Hp → VK → Prop := fun xs H Q => ∃ (a : Addr) (kvs : List (Key × V)) (ks : List Int), xs = [.ref a] ∧ Rd H a (.dK kvs) ∧ kvs.map (·.1) = ks.map Sum.inl ∧ ks.length < 64 ∧
    ∀ (ys : List Int) (p : Addr), ys.Perm ks → ys.Pairwise (· ≤ ·) → H p = none → Q (.ref p) (upd H p (.lst (ys.map V.int)))
theorem call_sortedDIU {X : Cx} (hc : X.calm = true) : CallR X (.builtin "sorted") rSortedDI := call_sortedDI hc
/-- list(d): its keys -/
def rListD : List V → Hp → VK → Prop := fun xs H Q => ∃ (a : Addr) (kvs : List (Key × V)), xs = [.ref a] ∧ Rd H a (.dK kvs) ∧ ∀ p, H p = none → Q (.ref p) (upd H p (.lst (kvs.map fun kv => kV kv.1)))
theorem call_listDU {X : Cx} (hc : X.calm = true) : CallR X (.type "list") rListD := call_listD hc
structure RdS where
  P : Pt
  top : Option Int
  held : List (Int × List Int)
structure OkRd (s : RdS) : Prop where
  ok : OkPt s.P
  hds : ∀ h ∈ s.held, OkHead s.P.s.fs h.2
  nd : (s.held.map (·.1)).Nodup
/-- the entries of a dict of heads by number -/
def HdK (K : PySem.W.Frag) (H : Hp) : List (Key × V) → List (Int × List Int) → Prop := Paired fun kv h => kv.1 = .inl h.1 ∧ Dq K H kv.2 (headD h.2)
def rdF (vp : V) (l : Addr) (t : Option Int) : List (Str × V) := [("pact", vp), ("greatest", oV t), ("held", .ref l)]
/-- a reader stands at p, its heads' dict at l -/
def RdAt (W : Wd) (H : Hp) (p l : Addr) (s : RdS) : Prop := ∃ (dx : Addr) (vp : V) (kvs : List (Key × V)), H p = some (.ins (clsOf W.K "Reader") dx (rdF vp l s.top)) ∧ Dq W.K H vp (ptD s.P) ∧ H l = some (.dK kvs) ∧ HdK W.K H kvs s.held
theorem hdk_mono {K : PySem.W.Frag} {H H' : Hp} (f : ∀ {v : V} {h : List Int}, Dq K H v (headD h) → Dq K H' v (headD h)) : ∀ {kvs : List (Key × V)} {hs : List (Int × List Int)}, HdK K H kvs hs → HdK K H' kvs hs
  | _, _, .nil => .nil
  | _, _, .cons ⟨e, h⟩ t => .cons ⟨e, f h⟩ (hdk_mono f t)
theorem hdk_keys {K : PySem.W.Frag} {H : Hp} : ∀ {kvs : List (Key × V)} {hs : List (Int × List Int)}, HdK K H kvs hs → kvs.map (·.1) = (hs.map (·.1)).map Sum.inl
  | _, _, .nil => rfl
  | _, _, .cons ⟨e, h⟩ t => by rw [List.map_cons, List.map_cons, List.map_cons, hdk_keys t, e]
/-- the head kept by a number -/
def hdV : List (Int × List Int) → Int → Option (List Int)
  | [], _ => none
  | h :: r, n => if h.1 = n then some h.2 else hdV r n
theorem hdk_val {K : PySem.W.Frag} {H : Hp} (n : Int) : ∀ {kvs : List (Key × V)} {hs : List (Int × List Int)}, HdK K H kvs hs → (hdV hs n = none ∧ valV kvs (.inl n) = none) ∨ ∃ h v, hdV hs n = some h ∧ valV kvs (.inl n) = some v ∧ Dq K H v (headD h)
  | _, _, .nil => .inl ⟨rfl, rfl⟩
  | kv :: _, h :: _, .cons ⟨e, d⟩ t => by
    by_cases c : h.1 = n
    · exact .inr ⟨h.2, kv.2, if_pos c, valV_pos (e.trans (by rw [c])), d⟩
    · have z : ¬ kv.1 = .inl n := fun z => c (Sum.inl.inj (e.symm.trans z))
      rcases hdk_val n t with ⟨a, b⟩ | ⟨h2, v, a, b, d2⟩
      · exact .inl ⟨(if_neg c).trans a, (valV_neg z).trans b⟩
      · exact .inr ⟨h2, v, (if_neg c).trans a, (valV_neg z).trans b, d2⟩
section
variable {W : Wd} {H H' : Hp} {p l : Addr} {s : RdS} {Q : VK}
theorem rd_sx (e : Sx H H') (h : RdAt W H p l s) : RdAt W H' p l s := by
  obtain ⟨dx, vp, ks, h1, h2, h3, h4⟩ := h
  exact ⟨dx, vp, ks, e.keep _ _ h1 rfl, dqx e h2, e.keep _ _ h3 rfl, hdk_mono (fun h => dqx e h) h4⟩
theorem rd_same (e : Same H H') (h : RdAt W H p l s) : RdAt W H' p l s := rd_sx (Same.sx e) h
theorem rd_ne (h : RdAt W H p l s) : p ≠ l := fun z => by
  obtain ⟨dx, vp, hs, h1, h2, h3, h4⟩ := h
  rw [← z, h1] at h3
  cases h3
theorem w_rdPact (h : RdAt W H p l s) (q : ∀ v, Dq W.K H v (ptD s.P) → Q v H) : FdOk (clsOf W.K "Reader") "pact" Q (.ref p) H := by
  obtain ⟨dx, vp, hs, h1, h2, h3, h4⟩ := h
  exact w_fdok h1 lk_hit (q vp h2)
theorem w_rdTop (h : RdAt W H p l s) (q : Q (oV s.top) H) : FdOk (clsOf W.K "Reader") "greatest" Q (.ref p) H := by
  obtain ⟨dx, vp, hs, h1, h2, h3, h4⟩ := h
  exact w_fdok h1 ((lk_miss (by decide +kernel)).trans lk_hit) q
theorem w_rdHeld (h : RdAt W H p l s) (q : Q (.ref l) H) : FdOk (clsOf W.K "Reader") "held" Q (.ref p) H := by
  obtain ⟨dx, vp, hs, h1, h2, h3, h4⟩ := h
  exact w_fdok h1 ((lk_miss (by decide +kernel)).trans ((lk_miss (by decide +kernel)).trans lk_hit)) q
def rdNo (m : Str) : Bool := !(m == "pact") && (!(m == "greatest") && !(m == "held"))
theorem w_mtRd {m : Str} {t : TA} {sp : Sp} {E : XK} {σ : L2.St} (h : RdAt W H p l s) (n : rdNo m = true) (q : t σ H fun vs H2 => sp (.ref p :: vs) H2 Q E) : MtOk (clsOf W.K "Reader") m t sp E σ Q (.ref p) H := by
  obtain ⟨dx, vp, hs, h1, h2, h3, h4⟩ := h
  unfold rdNo at n
  simp only [Bool.and_eq_true, Bool.not_eq_true'] at n
  obtain ⟨n1, n2, n3⟩ := n
  exact w_mtok h1 ((lk_miss n1).trans ((lk_miss n2).trans ((lk_miss n3).trans rfl))) q
end
end Sh
/-! readers: heaps, keys, what comes -/
namespace Sh
open PySem PySem.Spec PyProof.Rows L2
/-! dicts of heads, compared -/
def rNeHD (K : PySem.W.Frag) : R2 := fun x y H Q => ∃ (a b : Addr) (ks ls : List (Key × V)), x = .ref a ∧ y = .ref b ∧ H a = some (.dK ks) ∧ H b = some (.dK ls) ∧ ks.length = ls.length ∧ (∀ p ∈ ks, ∃ u h, valV ls p.1 = some u ∧ Dq K H p.2 (headD h) ∧ Dq K H u (headD h)) ∧ Q (.bl false) H
theorem depth_head (h : List Int) : PyData.depth (headD h) ≤ 2 := by
  have := depth_ints h
  unfold headD PyData.depth
  omega
theorem hits_hd {X : Cx} {pins : List (Addr × Obj)} {σ : L2.St} {H : Hp} {s : Shared} {A : Around} (I : Inv X pins σ H s) (hu : A.units + 2 < cLine) {ls : List (Key × V)} {vb : List (Key × Value)} (rb : KV ls vb) {ks : List (Key × V)} {va : List (Key × Value)} (ra : KV ks va) :
    (∀ p ∈ ks, ∃ u h, valV ls p.1 = some u ∧ Dq X.K H p.2 (headD h) ∧ Dq X.K H u (headD h)) → PySem.W.KeqHits A s vb va true := by
  unfold KV at ra
  induction ra with
  | nil => intro _; exact .nil
  | @cons p q ps qs h t ih =>
    intro hp
    obtain ⟨h1, h2⟩ := h
    obtain ⟨u, hd, e, f1, f2⟩ := hp p List.mem_cons_self
    have rr : RelO (some u) (valueAt vb p.1) := by rw [← e]; exact rb.val p.1
    obtain ⟨y, hy, ry⟩ := rr.some_of
    obtain ⟨k, v⟩ := q
    have h1' : p.1 = k := h1
    rw [h1'] at hy
    obtain ⟨as, r1⟩ := Dp.reads I _ _ _ (dq_dp f1) h2
    obtain ⟨bs, r2⟩ := Dp.reads I _ _ _ (dq_dp f2) ry
    have sh := SeqAt.canLay_of_shaped (shaped_tints hd)
    have e2 := SeqAt.eqAt_reads (headD hd) (headD hd) A s v y as bs r1 r2 sh sh (by
      have := depth_head hd
      omega)
    have e3 : PyData.eqv (headD hd) (headD hd) = true := by
      show PyData.eqv (.tuple (hd.map .int)) (.tuple (hd.map .int)) = _
      rw [PyData.eqv, eqvAll_ints]
      exact decide_eq_true rfl
    rw [e3] at e2
    show PySem.W.KeqHits A s vb ((k, v) :: qs) (true && true)
    exact .hit hy e2 (ih fun p' hm => hp p' (List.mem_cons_of_mem _ hm))
theorem op_neHD {X : Cx} (hu : X.A.units + 64 < cLine) : OpR X (compareOp .NotEq) (rNeHD X.K) := by
  intro pins s σ H x y v u Q I rx ry h
  obtain ⟨a, b, ks, ls, rfl, rfl, ea, eb, hlen, hp, q⟩ := h
  obtain rfl : v = Value.ref a := rx
  obtain rfl : u = Value.ref b := ry
  obtain ⟨_, ya, va, ra, da⟩ := (show ObjOk X.prog X.w H s.heap a (.dK ks) from I.hok a _ ea)
  obtain ⟨_, yb, vb, rb, db⟩ := (show ObjOk X.prog X.w H s.heap b (.dK ls) from I.hok b _ eb)
  have hl : va.length = vb.length := by rw [← ra.length, ← rb.length]; exact hlen
  exact PySem.W.keq_ne (knd := mixKind X.prog X.w) (r := true) ya yb da db (by omega) (fun _ => hits_hd I (by show X.A.units + 1 + 2 < cLine; omega) rb ra hp) (fin_bl I q (by simp [hl]))
/-! keys -/
section
variable {K : PySem.W.Frag} {H : Hp}
theorem hdk_get : ∀ {kvs : List (Key × V)} {hs : List (Int × List Int)} {i : Nat} {kv : Key × V}, HdK K H kvs hs → kvs[i]? = some kv → ∃ h, hs[i]? = some h ∧ kv.1 = .inl h.1 ∧ Dq K H kv.2 (headD h.2)
  | _, _, _, _, .nil, e => by simp at e
  | _, _, 0, _, .cons ⟨a, b⟩ t, e => by
    simp at e
    subst e
    exact ⟨_, rfl, a, b⟩
  | _, _, i + 1, kv, .cons _ t, e => by
    obtain ⟨h, h1, h2⟩ := hdk_get (i := i) (kv := kv) t (by simpa using e)
    exact ⟨h, by simpa using h1, h2⟩
theorem hdk_len {kvs : List (Key × V)} {hs : List (Int × List Int)} (h : HdK K H kvs hs) : kvs.length = hs.length := Paired.length h
def kI : Key → Int
  | .inl i => i
  | .inr _ => 0
theorem hdk_filter (F : Int → Bool) : ∀ {kvs : List (Key × V)} {hs : List (Int × List Int)}, HdK K H kvs hs → HdK K H (kvs.filter fun kv => F (kI kv.1)) (hs.filter fun h => F h.1)
  | _, _, .nil => .nil
  | kv :: _, h :: _, .cons ⟨e, d⟩ t => by
    have ih := hdk_filter F t
    have ek : kI kv.1 = h.1 := by rw [e]; rfl
    rw [List.filter_cons, List.filter_cons, ek]
    by_cases c : F h.1 = true
    · rw [if_pos c, if_pos c]
      exact .cons ⟨e, d⟩ ih
    · rw [if_neg c, if_neg c]
      exact ih
theorem hdk_app : ∀ {kvs ls : List (Key × V)} {hs gs : List (Int × List Int)}, HdK K H kvs hs → HdK K H ls gs → HdK K H (kvs ++ ls) (hs ++ gs)
  | _, _, _, _, .nil, s => s
  | _, _, _, _, .cons h r, s => .cons h (hdk_app r s)
theorem hdk_nd {kvs : List (Key × V)} {hs : List (Int × List Int)} (h : HdK K H kvs hs) (nd : (hs.map (·.1)).Nodup) : (kvs.map (·.1)).Nodup := by
  rw [hdk_keys h]
  exact List.Pairwise.map _ (fun a b n z => n (Sum.inl.inj z)) nd
theorem hdk_st {H' : Hp} (e : St H H') {kvs : List (Key × V)} {hs : List (Int × List Int)} (h : HdK K H kvs hs) : HdK K H' kvs hs := hdk_mono (fun h => dqt e h (tupO_head _)) h
theorem mergeK_app : ∀ (more kvs : List (Key × V)), ((kvs ++ more).map (·.1)).Nodup → mergeK kvs more = kvs ++ more
  | [], kvs, _ => (List.append_nil kvs).symm
  | p :: r, kvs, nd => by
    have e : putK kvs p.1 p.2 = kvs ++ [p] := by
      refine putK_new p.2 ?_
      cases c : valV kvs p.1 with
      | none => rfl
      | some v =>
        exfalso
        have a : (kvs.any fun kv => decide (kv.1 = p.1)) = true := by rw [valV_any, c]; rfl
        obtain ⟨kv, hm, hk⟩ := List.any_eq_true.mp a
        rw [List.map_append, List.nodup_append] at nd
        exact nd.2.2 kv.1 (List.mem_map.mpr ⟨kv, hm, rfl⟩) p.1 (List.mem_map.mpr ⟨p, List.mem_cons_self, rfl⟩) (of_decide_eq_true hk)
    show mergeK (putK kvs p.1 p.2) r = _
    rw [e, mergeK_app r (kvs ++ [p]) (by rw [List.append_assoc]; exact nd), List.append_assoc]
    rfl
theorem mergeK_nd {kvs : List (Key × V)} (nd : (kvs.map (·.1)).Nodup) : mergeK [] kvs = kvs := mergeK_app kvs [] nd
theorem hdV_mem : ∀ {hs : List (Int × List Int)} {n : Int} {h : List Int}, hdV hs n = some h → (n, h) ∈ hs
  | g :: r, n, h, e => by
    by_cases c : g.1 = n
    · have e2 : some g.2 = some h := (if_pos c).symm.trans e
      rw [← Option.some.inj e2, ← c]
      exact List.mem_cons_self
    · exact List.mem_cons_of_mem _ (hdV_mem ((if_neg c).symm.trans e))
theorem hdV_nd : ∀ {hs : List (Int × List Int)} {g : Int × List Int}, (hs.map (·.1)).Nodup → g ∈ hs → hdV hs g.1 = some g.2
  | q :: r, g, nd, h => by
    rw [List.map_cons, List.nodup_cons] at nd
    rcases List.mem_cons.mp h with e | h'
    · rw [e]
      exact if_pos rfl
    · refine (if_neg fun z => nd.1 (List.mem_map.mpr ⟨g, h', z.symm⟩)).trans (hdV_nd nd.2 h')
theorem hdV_none {hs : List (Int × List Int)} {n : Int} : hdV hs n = none ↔ n ∉ hs.map (·.1) := by
  induction hs with
  | nil => exact ⟨fun _ h => (nomatch h), fun _ => rfl⟩
  | cons g r ih =>
    rw [List.map_cons, List.mem_cons]
    by_cases c : g.1 = n
    · exact ⟨fun e => (nomatch (if_pos c).symm.trans e), fun h => (h (.inl c.symm)).elim⟩
    · exact ⟨fun e h => h.elim (fun z => c z.symm) (ih.mp ((if_neg c).symm.trans e)), fun h => (if_neg c).trans (ih.mpr fun z => h (.inr z))⟩
theorem hdk_in {kvs : List (Key × V)} {hs : List (Int × List Int)} (h : HdK K H kvs hs) (n : Int) : (valV kvs (.inl n)).isSome = (hdV hs n).isSome := by
  rcases hdk_val n h with ⟨a, b⟩ | ⟨x, v, a, b, _⟩
  · rw [a, b]; rfl
  · rw [a, b]; rfl
theorem hdk_put {kvs : List (Key × V)} {hs : List (Int × List Int)} {n : Int} {v : V} {hd : List Int} (h : HdK K H kvs hs) (nn : hdV hs n = none) (hv : Dq K H v (headD hd)) : HdK K H (putK kvs (.inl n) v) (hs ++ [(n, hd)]) := by
  have e : valV kvs (.inl n) = none := by
    rcases hdk_val n h with ⟨_, b⟩ | ⟨x, w, a, _⟩
    · exact b
    · rw [nn] at a; cases a
  rw [putK_new v e]
  exact hdk_app h (.cons ⟨rfl, hv⟩ .nil)
end
/-! what comes -/
def belF (ks : List Int) (n : Int) : Option Int := (ks.filter fun k => decide (k < n)).max?
theorem belF_nil {ks : List Int} {n : Int} (h : (ks.filter fun k => decide (k < n)) = []) : belF ks n = none := by
  unfold belF
  rw [h]
  rfl
theorem belF_max {ks : List Int} {n m : Int} (h : m ∈ ks.filter fun k => decide (k < n)) (g : ∀ y ∈ ks.filter fun k => decide (k < n), y ≤ m) : belF ks n = some m := by
  unfold belF
  exact List.max?_eq_some_iff.mpr ⟨h, g⟩
theorem belF_mem {ks : List Int} {n m : Int} (h : belF ks n = some m) : m ∈ ks ∧ m < n := by
  have z := (List.max?_eq_some_iff.mp h).1
  obtain ⟨a, b⟩ := List.mem_filter.mp z
  exact ⟨a, of_decide_eq_true b⟩
def topF (t : Option Int) (n : Int) : Int := match t with
  | none => n
  | some g => if g < n then n else g
/-- which numbers stay -/
def stayB (e : Int) (o : Option Int) (k : Int) : Bool := decide (e ≤ k) || decide (some k = o)
def keyH (hs : List (Int × List Int)) : List Int := hs.map (·.1)
def comeH (hs : List (Int × List Int)) (e : Int) : List (Int × List Int) := hs.filter fun h => stayB e (belF (keyH hs) e) h.1
def comeF (s : RdS) (n : Int) : RdS := ⟨s.P, some (topF s.top n), comeH s.held (topF s.top n - s.P.lt)⟩
theorem nd_filter {hs : List (Int × List Int)} (F : Int × List Int → Bool) (nd : (hs.map (·.1)).Nodup) : ((hs.filter F).map (·.1)).Nodup := List.Nodup.sublist (List.Sublist.map _ List.filter_sublist) nd
theorem okRd_come {s : RdS} {n : Int} (ok : OkRd s) : OkRd (comeF s n) := ⟨ok.ok, fun h hm => ok.hds h ((List.mem_filter.mp hm).1), nd_filter _ ok.nd⟩
theorem okRd_put {s : RdS} {n : Int} {hd : List Int} (ok : OkRd s) (oh : OkHead s.P.s.fs hd) (nn : hdV s.held n = none) : OkRd ⟨s.P, s.top, s.held ++ [(n, hd)]⟩ := by
  refine ⟨ok.ok, fun h hm => ?_, ?_⟩
  · rcases List.mem_append.mp hm with z | z
    · exact ok.hds h z
    · rw [List.mem_singleton.mp z]
      exact oh
  · show ((s.held ++ [(n, hd)]).map (·.1)).Nodup
    rw [List.map_append, List.nodup_append]
    refine ⟨ok.nd, List.nodup_cons.mpr ⟨(fun z => nomatch z), List.nodup_nil⟩, fun a ha b hb z => ?_⟩
    have z2 : a = n := z.trans (List.mem_singleton.mp hb)
    rw [z2] at ha
    exact hdV_none.mp nn ha
/-! heaps -/
section
variable {W : Wd} {K : PySem.W.Frag} {H H' H0 : Hp} {p l d k : Addr} {s : RdS} {Q : VK} {v : V} {u : HO} {od : Obj}
theorem same_lock (hl : H l = some u) (e : Same (upd H l (.frz od u)) H') : Same H (upd H' l u) := fun a w h => by
  by_cases c : a = l
  · subst c
    rw [upd_same, ← hl, h]
  · rw [upd_ne c]
    exact e a w (by rw [upd_ne c]; exact h)
theorem rdm_st (h : RdAt W H p l s) (e : Mv p l H H') : St H H' := by
  obtain ⟨dx, vp, ks, h1, _, h3, _⟩ := h
  exact fun a u h t => e a u h (fun z => by
    rw [z, h1] at h
    cases h
    exact t) fun z => by
    rw [z, h3] at h
    cases h
    exact t
theorem rdm_box {b : Bool} {n : Int} (h : RdAt W H p l s) (e : Mv p l H H') (hb : BoxAt W b n H v) : BoxAt W b n H' v := by
  obtain ⟨dx, vp, ks, h1, _, h3, _⟩ := h
  obtain ⟨q, o, k, rfl, hpo, hk, hp, ho⟩ := hb
  refine ⟨q, o, k, rfl, hpo, hk, e _ _ hp (fun z => ?_) fun z => ?_, e _ _ ho (fun z => ?_) fun z => ?_⟩
  · rw [z, h1] at hp
    cases hp
  · rw [z, h3] at hp
    cases hp
  · rw [z, h1] at ho
    cases ho
  · rw [z, h3] at ho
    cases ho
theorem rd_st (st : St H H') (e1 : ∀ u, H p = some u → H' p = some u) (e2 : ∀ u, H l = some u → H' l = some u) (h : RdAt W H p l s) : RdAt W H' p l s := by
  obtain ⟨dx, vp, ks, h1, h2, h3, h4⟩ := h
  exact ⟨dx, vp, ks, e1 _ h1, dqt st h2 (tupO_pt _), e2 _ h3, hdk_st st h4⟩
/-- a law's own book stands at d, its heads at k -/
def MdAt (W : Wd) (H : Hp) (d k : Addr) (s : RdS) : Prop := H d = some (.dK [(.inr "top", oV s.top), (.inr "kept", .ref k)]) ∧ ∃ kvs, H k = some (.dK kvs) ∧ HdK W.K H kvs s.held
theorem md_sx (e : Sx H H') (h : MdAt W H d k s) : MdAt W H' d k s := by
  obtain ⟨h1, kvs, h3, h4⟩ := h
  exact ⟨e.keep _ _ h1 rfl, kvs, e.keep _ _ h3 rfl, hdk_mono (fun h => dqx e h) h4⟩
theorem md_same (e : Same H H') (h : MdAt W H d k s) : MdAt W H' d k s := md_sx (Same.sx e) h
theorem md_st (st : St H H') (e1 : ∀ u, H d = some u → H' d = some u) (e2 : ∀ u, H k = some u → H' k = some u) (h : MdAt W H d k s) : MdAt W H' d k s := by
  obtain ⟨h1, kvs, h3, h4⟩ := h
  exact ⟨e1 _ h1, kvs, e2 _ h3, hdk_st st h4⟩
theorem mdm_st (h : MdAt W H d k s) (e : Mv d k H H') : St H H' := by
  obtain ⟨h1, ks, h3, _⟩ := h
  exact fun a u h t => e a u h (fun z => by
    rw [z, h1] at h
    cases h
    exact t) fun z => by
    rw [z, h3] at h
    cases h
    exact t
theorem mdm_box {b : Bool} {n : Int} (h : MdAt W H d k s) (e : Mv d k H H') (hb : BoxAt W b n H v) : BoxAt W b n H' v := by
  obtain ⟨h1, ks, h3, _⟩ := h
  obtain ⟨q, o, j, rfl, hpo, hk, hp, ho⟩ := hb
  refine ⟨q, o, j, rfl, hpo, hk, e _ _ hp (fun z => ?_) fun z => ?_, e _ _ ho (fun z => ?_) fun z => ?_⟩
  · rw [z, h1] at hp
    cases hp
  · rw [z, h3] at hp
    cases hp
  · rw [z, h1] at ho
    cases ho
  · rw [z, h3] at ho
    cases ho
/-- a reader that moves, a book that stays -/
theorem rdm_md (h : RdAt W H p l s) (e : Mv p l H H') (n1 : d ≠ l) (n2 : k ≠ l) {s' : RdS} (hm : MdAt W H d k s') : MdAt W H' d k s' := by
  have st := rdm_st h e
  obtain ⟨dx, vp, ks, h1, _, _, _⟩ := h
  obtain ⟨g1, kvs, g3, g4⟩ := hm
  have m1 : d ≠ p := fun z => by rw [z, h1] at g1; cases g1
  have m2 : k ≠ p := fun z => by rw [z, h1] at g3; cases g3
  exact ⟨e _ _ g1 m1 n1, kvs, e _ _ g3 m2 n2, hdk_st st g4⟩
theorem mdm_rd {s' : RdS} (hm : MdAt W H d k s') (e : Mv d k H H') (n1 : l ≠ d) (n2 : l ≠ k) (h : RdAt W H p l s) : RdAt W H' p l s := by
  have st := mdm_st hm e
  obtain ⟨dx, vp, ks, h1, h2, h3, h4⟩ := h
  obtain ⟨g1, kvs, g3, g4⟩ := hm
  have m1 : p ≠ d := fun z => by rw [← z, h1] at g1; cases g1
  have m2 : p ≠ k := fun z => by rw [← z, h1] at g3; cases g3
  exact ⟨dx, vp, ks, e _ _ h1 m1 m2, dqt st h2 (tupO_pt _), e _ _ h3 n1 n2, hdk_st st h4⟩
end
/-! walks over keys -/
section
variable {K : PySem.W.Frag} {σ : L2.St} {H : Hp} {Q : VK} {te td : TE} {tt : TT} {g : TG} {vs : List Nat} {d : Addr} {o : Obj} {kvs : List (Key × V)}
def KyOk (R : It → Hp → Prop) (x : V) (H1 : Hp) : Prop := ∃ d o, x = .ref d ∧ ((∃ kvs, H1 d = some (.frz o (.dK kvs)) ∧ R (Itk d o kvs) H1) ∨ ∃ kvs, H1 d = some (.frz o (.dT kvs)) ∧ R (Itkt d o kvs) H1)
theorem w_ikeys {R : It → Hp → Prop} (h : td σ H fun x H1 => KyOk R x H1) : iKeys td σ H R := h
theorem w_kyok {R : It → Hp → Prop} (h : H d = some (.frz o (.dK kvs))) (q : R (Itk d o kvs) H) : KyOk R (.ref d) H := ⟨d, o, rfl, .inl ⟨kvs, h, q⟩⟩
theorem w_lock (h : H d = some (.dK kvs)) (q : ∀ od, te σ (upd H d (.frz od (.dK kvs))) fun v H' => H' d = some (.frz od (.dK kvs)) ∧ Q v (upd H' d (.dK kvs))) : tLockE te σ H Q := ⟨d, .dK kvs, h, trivial, q⟩
theorem lcK (hd : H d = some (.frz o (.dK kvs))) (I : Nat → List V → Hp → Prop) (hst : Stb I) (hn : kvs.length ≤ 1000000) (hI : ∀ i acc H', I i acc H' → acc.length ≤ i) (h0 : ∀ H', Same H H' → I 0 [] H')
    (hs : ∀ i kv acc H', kvs[i]? = some kv → Same H H' → I i acc H' → ∀ (k : VK) (k' : Hp → Prop), (∀ y H4, Same H' H4 → I (i + 1) (acc ++ [y]) H4 → k y H4) → (∀ H3, Same H' H3 → I (i + 1) acc H3 → k' H3) →
      g (kV kv.1) (wipe σ vs) H' fun σ2 H2 => wipe σ2 vs = wipe σ vs ∧ tt σ2 H2 fun b H3 => if b = true then te σ2 H3 k else k' H3)
    (hq : ∀ D acc H', H D = none → Same H H' → H' D = some (.lst acc) → I kvs.length acc H' → Q (.ref D) H') : LcOk (Itk d o kvs) g tt te vs σ Q H :=
  lc_gen I hst hn hI h0 (fun i acc H' hi s1 _ => ⟨s1 _ _ hd, hi⟩) (fun _ _ s1 _ => ⟨s1 _ _ hd, Nat.le_refl _⟩) (fun i acc x H' H'' hi s1 w1 y => by
    obtain ⟨e1, k, v, e2, e3⟩ := y
    subst e1
    subst e3
    exact hs i (k, v) acc _ e2 s1 w1) hq
theorem w_maxD {a : Addr} {ns : List Int} {z : V} (h : SqL K H a (ns.map V.int)) (q0 : ns = [] → Q z H) (q1 : ∀ m, m ∈ ns → (∀ y, y ∈ ns → y ≤ m) → Q (.int m) H) : rMaxD K [.ref a] [z] H Q := ⟨a, ns, z, rfl, rfl, h, q0, q1⟩
theorem w_ckw {r : List V → List V → Hp → VK → Prop} {ta tk : TA} (h : ta σ H fun vs H1 => tk σ H1 fun zs H2 => r vs zs H2 Q) : tCKw r ta tk σ H Q := h
theorem w_din {tk : TE} (h : tk σ H fun y H1 => td σ H1 fun x H2 => ∃ a o, x = .ref a ∧ DGet H2 a y o ∧ Q (.bl o.isSome) H2) : tDIn tk td σ H Q := h
theorem w_dgi {n : Int} {v : V} (h : Rd H d (.dK kvs)) (e : valV kvs (.inl n) = some v) (q : Q v H) : DG Q (.ref d) (.int n) H := ⟨d, v, rfl, .inl ⟨kvs, .inl n, h, rfl, e.symm⟩, q⟩
theorem w_dini {n : Int} {b : Bool} (h : H d = some (.dK kvs)) (e : (valV kvs (.inl n)).isSome = b) (q : Q (.bl b) H) : ∃ a o, V.ref d = .ref a ∧ DGet H a (.int n) o ∧ Q (.bl o.isSome) H := ⟨d, _, rfl, DGet.k (k := .inl n) h, by rw [e]; exact q⟩
theorem w_dint {n : Int} {b : Bool} {R : Bool → Prop} (h : H d = some (.dK kvs)) (e : (valV kvs (.inl n)).isSome = b) (q : R b) : ∃ a o, V.ref d = .ref a ∧ DGet H a (.int n) o ∧ ∃ k, V.bl o.isSome = V.bl k ∧ R k := ⟨d, _, rfl, DGet.k (k := .inl n) h, _, rfl, by rw [e]; exact q⟩
theorem w_dputi {k : Hp → Prop} {n : Int} {v : V} (h : H d = some (.dK kvs)) (hl : kvs.length < 1000000) (q : k (upd H d (.dK (putK kvs (.inl n) v)))) : rSetU (.ref d) (.int n) v H k :=
  .inr ⟨d, _, rfl, DPut.k (k := .inl n) h (Nat.lt_trans hl (by decide)), q⟩
theorem w_dictP {a : Addr} {ps : List Addr} (h : SqL K H a (ps.map V.ref)) (hp : Paired (fun p kv => TupN H p [kV kv.1, kv.2]) ps kvs) (nd : (kvs.map (·.1)).Nodup) (q : ∀ p H', H p = none → Same H H' → H' p = some (.dK kvs) → Q (.ref p) H') : rDictP K [.ref a] H Q :=
  ⟨a, ps, kvs, rfl, h, Paired.mapP hp fun _ _ z => SqN.t (SqN.of z), fun p hn => q p _ hn (same_new hn) (by rw [upd_same, mergeK_nd nd])⟩
/-- pairs in tuples, on a list that grows -/
def PairI (i : Nat) (F : Nat → List (Key × V)) (acc : List V) (H' : Hp) : Prop := ∃ ps : List Addr, acc = ps.map V.ref ∧ Paired (fun p kv => TupN H' p [kV kv.1, kv.2]) ps (F i)
theorem pairI_stb (F : Nat → List (Key × V)) : Stb fun i acc H' => PairI i F acc H' := fun i acc H' D xs ys hD ⟨ps, e, h⟩ => ⟨ps, e, Paired.mapP h fun _ _ ⟨o, hd, z⟩ => ⟨o, hd, by
  rw [upd_ne fun c => by rw [c, hD] at z; cases z]
  exact z⟩⟩
theorem pairI_len {i : Nat} {F : Nat → List (Key × V)} {acc : List V} {H' : Hp} (h : PairI i F acc H') (hl : (F i).length ≤ i) : acc.length ≤ i := by
  obtain ⟨ps, e, h⟩ := h
  rw [e, List.length_map, Paired.length h]
  exact hl
theorem pairI_skip {i : Nat} {F : Nat → List (Key × V)} {acc : List V} {H' : Hp} (h : PairI i F acc H') (e : F (i + 1) = F i) : PairI (i + 1) F acc H' := by
  unfold PairI
  rw [e]
  exact h
theorem pairI_add {i : Nat} {F : Nat → List (Key × V)} {acc : List V} {H' H'' : Hp} {p : Addr} {kv : Key × V} (h : PairI i F acc H') (s : Same H' H'') (hp : TupN H'' p [kV kv.1, kv.2]) (e : F (i + 1) = F i ++ [kv]) : PairI (i + 1) F (acc ++ [.ref p]) H'' := by
  obtain ⟨ps, ea, h⟩ := h
  refine ⟨ps ++ [p], by rw [ea, List.map_append]; rfl, ?_⟩
  rw [e]
  exact Paired.snoc (Paired.mapP h fun _ _ z => z.mono s) hp
theorem w_eqo {n : Int} {o : Option Int} (q : Q (.bl (decide (some n = o))) H) : rEqU K (.int n) (oV o) H Q := by
  cases o with
  | none => exact .inl ⟨rfl, by
      rw [show decide (V.int n = oV none) = decide (some n = none) from (decide_eq_false (fun z => nomatch z)).trans (decide_eq_false (fun z => nomatch z)).symm]
      exact q⟩
  | some m => exact w_eqi (by
      rw [show decide (n = m) = decide (some n = some m) by simp]
      exact q)
theorem w_neo {n : Int} {o : Option Int} (q : Q (.bl (!decide (some n = o))) H) : rNeU K (.int n) (oV o) H Q := by
  cases o with
  | none => exact .inl ⟨rfl, by
      rw [show decide (V.int n = oV none) = decide (some n = none) from (decide_eq_false (fun z => nomatch z)).trans (decide_eq_false (fun z => nomatch z)).symm]
      exact q⟩
  | some m => exact w_nei (by
      rw [show decide (n = m) = decide (some n = some m) by simp]
      exact q)
theorem filter_snoc {ks : List Int} {P : Int → Bool} {i : Nat} {k : Int} (h : ks[i]? = some k) : (ks.take (i + 1)).filter P = (ks.take i).filter P ++ (if P k = true then [k] else []) := by
  rw [take_snoc h, List.filter_append]
  by_cases c : P k = true
  · simp [c]
  · simp [c]
theorem filter_snocK {ks : List (Key × V)} {P : Key × V → Bool} {i : Nat} {k : Key × V} (h : ks[i]? = some k) : (ks.take (i + 1)).filter P = (ks.take i).filter P ++ (if P k = true then [k] else []) := by
  rw [take_snoc h, List.filter_append]
  by_cases c : P k = true
  · simp [c]
  · simp [c]
end
section
variable {W : Wd} {H H' : Hp} {p l : Addr} {s : RdS} {k : Hp → Prop} {n : Int}
theorem rd_upd {u : HO} (h : RdAt W H p l s) : Mv p l H (upd H p u) ∧ ∀ a, upd H p u a = none → H a = none := by
  obtain ⟨dx, vp, ks, h1, _⟩ := h
  refine ⟨fun a o h n1 _ => by rw [upd_ne n1]; exact h, fun a e => ?_⟩
  by_cases c : a = p
  · rw [c, upd_same] at e
    cases e
  · rw [upd_ne c] at e
    exact e
theorem w_rdSetTop (h : RdAt W H p l s) (q : ∀ H', Mv p l H H' → (∀ a, H' a = none → H a = none) → RdAt W H' p l ⟨s.P, some n, s.held⟩ → k H') : SfOk (clsOf W.K "Reader") "greatest" (.int n) k (.ref p) H := by
  have np := rd_ne h
  have h0 := h
  obtain ⟨dx, vp, ks, h1, h2, h3, h4⟩ := h
  obtain ⟨m1, m2⟩ := rd_upd (u := .ins (clsOf W.K "Reader") dx (putF "greatest" (.int n) (rdF vp l s.top))) h0
  have e := rdm_st h0 m1
  refine w_sfok h1 (by show 3 < 1000; decide) (q _ m1 m2 ⟨dx, vp, ks, ?_, dqt e h2 (tupO_pt _), ?_, hdk_st e h4⟩)
  · rw [upd_same]
    unfold rdF
    rw [pf_miss (by decide +kernel), pf_hit]
    rfl
  · rw [upd_ne np.symm]
    exact h3
theorem w_rdSetHeld {l' : Addr} {kvs : List (Key × V)} {hs : List (Int × List Int)} (h : RdAt W H p l s) (hl : H l' = some (.dK kvs)) (hk : HdK W.K H kvs hs) (q : ∀ H', Mv p l H H' → (∀ a, H' a = none → H a = none) → RdAt W H' p l' ⟨s.P, s.top, hs⟩ → k H') : SfOk (clsOf W.K "Reader") "held" (.ref l') k (.ref p) H := by
  have h0 := h
  obtain ⟨dx, vp, ks, h1, h2, h3, h4⟩ := h
  have np : l' ≠ p := fun z => by rw [z, h1] at hl; cases hl
  obtain ⟨m1, m2⟩ := rd_upd (u := .ins (clsOf W.K "Reader") dx (putF "held" (.ref l') (rdF vp l s.top))) h0
  have e := rdm_st h0 m1
  refine w_sfok h1 (by show 3 < 1000; decide) (q _ m1 m2 ⟨dx, vp, kvs, ?_, dqt e h2 (tupO_pt _), ?_, hdk_st e hk⟩)
  · rw [upd_same]
    unfold rdF
    rw [pf_miss (by decide +kernel), pf_miss (by decide +kernel), pf_hit]
  · rw [upd_ne np]
    exact hl
end
section
variable {K : PySem.W.Frag} {σ : L2.St} {H : Hp} {Q : VK} {a : Addr} {kvs : List (Key × V)} {td ty : TE}
theorem w_sortedDI {ks : List Int} (h : H a = some (.dK kvs)) (e : kvs.map (·.1) = ks.map Sum.inl) (l : ks.length < 64) (q : ∀ (ys : List Int) p H', ys.Perm ks → ys.Pairwise (· ≤ ·) → H p = none → Same H H' → H' p = some (.lst (ys.map V.int)) → Q (.ref p) H') : rSortedDI [.ref a] H Q :=
  ⟨a, kvs, ks, rfl, .inl h, e, l, fun ys p h1 h2 hp => q ys p _ h1 h2 hp (same_new hp) upd_same⟩
theorem kV_map {ks : List Int} (e : kvs.map (·.1) = ks.map Sum.inl) : (kvs.map fun kv => kV kv.1) = ks.map V.int := by
  have e2 : (kvs.map fun kv => kV kv.1) = (kvs.map (·.1)).map kV := by rw [List.map_map]; rfl
  rw [e2, e, List.map_map]
  rfl
theorem w_listDI {ks : List Int} (h : H a = some (.dK kvs)) (e : kvs.map (·.1) = ks.map Sum.inl) (q : ∀ p H', H p = none → Same H H' → H' p = some (.lst (ks.map V.int)) → Q (.ref p) H') : rListD [.ref a] H Q :=
  ⟨a, kvs, rfl, .inl h, fun p hp => q p _ hp (same_new hp) (by rw [upd_same, kV_map e])⟩
def PopOk (Q : VK) (a : Addr) (y : V) (H2 : Hp) : Prop := ∃ kvs k v, H2 a = some (.dK kvs) ∧ y = kV k ∧ valV kvs k = some v ∧ Q v (upd H2 a (.dK (dropK kvs k)))
def PopAt (ty : TE) (σ : L2.St) (Q : VK) (x : V) (H1 : Hp) : Prop := ∃ a, x = .ref a ∧ IsD H1 a ∧ ty σ H1 fun y H2 => PopOk Q a y H2
theorem w_dpop1 (h : td σ H fun x H1 => PopAt ty σ Q x H1) : tDPop1 td ty σ H Q := h
theorem w_popat (h : H a = some (.dK kvs)) (q : ty σ H fun y H2 => PopOk Q a y H2) : PopAt ty σ Q (.ref a) H := ⟨a, rfl, .inl ⟨kvs, .inl h⟩, q⟩
theorem w_popok {n : Int} {v : V} (h : H a = some (.dK kvs)) (e : valV kvs (.inl n) = some v) (q : Q v (upd H a (.dK (dropK kvs (.inl n))))) : PopOk Q a (.int n) H := ⟨kvs, .inl n, v, h, rfl, e, q⟩
theorem w_tyD {R : Prop} (h : H a = some (.dK kvs)) (q : R) : tyV K "dict" (.ref a) H ∧ R := ⟨.inr (.inr (.inl ⟨rfl, .inl ⟨kvs, h⟩⟩)), q⟩
theorem w_dclear (h : H a = some (.dK kvs)) (q : Q .non (upd H a (.dK []))) : rDClear (.ref a) [] H Q := ⟨a, kvs, rfl, rfl, h, q⟩
end
/-- what stays behind a pop -/
theorem drop_pop {kvs : List (Key × V)} {F : Key × V → Bool} {i : Nat} {kv : Key × V} (nd : (kvs.map (·.1)).Nodup) (h : kvs[i]? = some kv) (c : F kv = false) :
    dropK ((kvs.take i).filter F ++ kvs.drop i) kv.1 = (kvs.take (i + 1)).filter F ++ kvs.drop (i + 1) := by
  have e : kvs.drop i = kv :: kvs.drop (i + 1) := by
    obtain ⟨hi, e⟩ := List.getElem?_eq_some_iff.mp h
    rw [← e]
    exact List.drop_eq_getElem_cons hi
  have ek : kvs = kvs.take i ++ (kv :: kvs.drop (i + 1)) := by rw [← e, List.take_append_drop]
  have nd2 := nd
  rw [ek, List.map_append, List.map_cons, List.nodup_append, List.nodup_cons] at nd2
  obtain ⟨_, ⟨n1, _⟩, n3⟩ := nd2
  have a1 : ∀ x ∈ kvs.take i, x.1 ≠ kv.1 := fun x hx => n3 x.1 (List.mem_map.mpr ⟨x, hx, rfl⟩) kv.1 List.mem_cons_self
  have a2 : ∀ x ∈ kvs.drop (i + 1), x.1 ≠ kv.1 := fun x hx z => n1 (List.mem_map.mpr ⟨x, hx, z⟩)
  rw [filter_snocK h, if_neg (by rw [c]; decide), List.append_nil, e]
  unfold dropK
  rw [List.filter_append, List.filter_cons, if_neg (by simp), List.filter_eq_self.mpr fun x hx => decide_eq_true (a1 x (List.mem_filter.mp hx).1), List.filter_eq_self.mpr fun x hx => decide_eq_true (a2 x hx)]
theorem stay_skip {kvs : List (Key × V)} {F : Key × V → Bool} {i : Nat} {kv : Key × V} (h : kvs[i]? = some kv) (c : F kv = true) : (kvs.take i).filter F ++ kvs.drop i = (kvs.take (i + 1)).filter F ++ kvs.drop (i + 1) := by
  have e : kvs.drop i = kv :: kvs.drop (i + 1) := by
    obtain ⟨hi, e⟩ := List.getElem?_eq_some_iff.mp h
    rw [← e]
    exact List.drop_eq_getElem_cons hi
  rw [filter_snocK h, if_pos c, e, List.append_assoc]
  rfl
section
variable {A B : Prop} {g : Int} {i : Nat}
theorem w_ifO (q : B) : if decide (oV (some g) = V.non) = true then A else B := w_if (fun z => by cases z) q
theorem w_ifON (q : A) : if decide (oV none = V.non) = true then A else B := w_it rfl q
theorem w_ifNO (q : A) : if (!decide (oV (some g) = V.non)) = true then A else B := w_nn (w_ifO q)
theorem w_ifNON (q : B) : if (!decide (oV none = V.non)) = true then A else B := w_nn (w_ifON q)
theorem w_ifAt (q : B) : if decide (atV (some i) = V.non) = true then A else B := w_if (fun z => by cases z) q
theorem w_ifNAt (q : A) : if (!decide (atV (some i) = V.non)) = true then A else B := w_nn (w_ifAt q)
end
/-! what a letter is told -/
def lateB (s : RdS) (n : Int) : Bool := decide (n < 0) || match s.top with
  | none => false
  | some t => decide (n < t - s.P.lt)
inductive Tld where
  | blank
  | late
  | twice (n : Int)
  | far
  | check
  | read (n : Int) (hd : List Int)
def tlD : Tld → PyData
  | .blank => .tuple [.str "not", .str "blank"]
  | .late => .tuple [.str "not", .str "late"]
  | .twice n => .tuple [.str "twice", .int n]
  | .far => .tuple [.str "not", .str "far"]
  | .check => .tuple [.str "not", .str "check"]
  | .read n hd => .tuple [.str "read", .int n, headD hd]
/-- the number that a letter tells, x its number or the rest -/
def numR (s : RdS) (t : Option Nat) (x : Int) : Int := match t with
  | none => x
  | some i => match s.top with
    | none => 0
    | some g => (g - s.P.lt) + (x - (g - s.P.lt)) % p2 (cntP s.P (some i))
/-- the head that a letter tells -/
def HdR (s : RdS) (t : Option Nat) (n : Int) (hd : List Int) (o : Option (List Int)) : Prop := match t with
  | none => o = some hd
  | some i => ∃ f, s.P.fs[i]? = some f ∧ match belF (keyH s.held) n with
    | none => o = none
    | some b => (f.r < n - b → o = none) ∧ (n - b ≤ f.r → ∃ fo h, hdV s.held b = some fo ∧ o = some h ∧ OpN s.P.s f fo (n - b) (pcsP s.P (some i) hd) s.P.s.fs.length h)
def putH (s : RdS) (n : Int) (hd : List Int) : RdS := ⟨s.P, s.top, s.held ++ [(n, hd)]⟩
def ReadR (s : RdS) (t : Option Nat) (x ck : Int) (hd : List Int) (r : Tld) (s' : RdS) : Prop :=
  ((t ≠ none ∧ s.top = none) ∧ r = .blank ∧ s' = s) ∨
  (¬ (t ≠ none ∧ s.top = none) ∧ (
    (lateB s (numR s t x) = true ∧ r = .late ∧ s' = s) ∨
    (lateB s (numR s t x) = false ∧ (∃ h, hdV s.held (numR s t x) = some h) ∧ r = .twice (numR s t x) ∧ s' = s) ∨
    (lateB s (numR s t x) = false ∧ hdV s.held (numR s t x) = none ∧ (
      (HdR s t (numR s t x) hd none ∧ r = .far ∧ s' = comeF s (numR s t x)) ∨
      ∃ h, HdR s t (numR s t x) hd (some h) ∧ (((numR s t x + ckF 0 h) % s.P.s.m ≠ ck ∧ r = .check ∧ s' = s) ∨ ((numR s t x + ckF 0 h) % s.P.s.m = ck ∧ r = .read (numR s t x) h ∧ s' = comeF (putH s (numR s t x) h) (numR s t x)))))))
/-- .. of a whole letter, with its own check -/
def readW (s : RdS) (x : Int) (hd : List Int) : Tld × RdS := if lateB s x = true then (.late, s) else match hdV s.held x with
  | some _ => (.twice x, s)
  | none => (.read x hd, comeF (putH s x hd) x)
theorem readR_whole {s s' : RdS} {x : Int} {hd : List Int} {r : Tld} (h : ReadR s none x ((x + ckF 0 hd) % s.P.s.m) hd r s') : r = (readW s x hd).1 ∧ s' = (readW s x hd).2 := by
  unfold readW
  rcases h with ⟨⟨h, _⟩, _⟩ | ⟨_, h⟩
  · exact (h rfl).elim
  · rcases h with ⟨a, b, c⟩ | ⟨a, ⟨g, e⟩, b, c⟩ | ⟨a, e, h⟩
    · have a : lateB s x = true := a
      rw [if_pos a]
      exact ⟨b, c⟩
    · have a : lateB s x = false := a
      have e : hdV s.held x = some g := e
      rw [if_neg (by rw [a]; decide), e]
      exact ⟨b, c⟩
    · have a : lateB s x = false := a
      have e : hdV s.held x = none := e
      rw [if_neg (by rw [a]; decide), e]
      rcases h with ⟨z, _⟩ | ⟨g, z, h⟩
      · exact nomatch (show none = some hd from z)
      · have z : some g = some hd := z
        obtain rfl := Option.some.inj z
        rcases h with ⟨z, _⟩ | ⟨_, b, c⟩
        · exact (z rfl).elim
        · exact ⟨b, c⟩
theorem come_len {s : RdS} {n : Int} : (comeF s n).held.length ≤ s.held.length := List.length_filter_le _ _
theorem readR_len {s s' : RdS} {t : Option Nat} {x ck : Int} {hd : List Int} {r : Tld} (h : ReadR s t x ck hd r s') : s'.held.length ≤ s.held.length + 1 ∧ s'.P = s.P := by
  have key : s' = s ∨ (∃ n, s' = comeF s n) ∨ ∃ n h, s' = comeF (putH s n h) n := by
    rcases h with ⟨_, _, e⟩ | ⟨_, ⟨_, _, e⟩ | ⟨_, _, _, e⟩ | ⟨_, _, ⟨_, _, e⟩ | ⟨h, _, ⟨_, _, e⟩ | ⟨_, _, e⟩⟩⟩⟩
    · exact .inl e
    · exact .inl e
    · exact .inl e
    · exact .inr (.inl ⟨_, e⟩)
    · exact .inl e
    · exact .inr (.inr ⟨_, _, e⟩)
  clear h
  rcases key with rfl | ⟨n, rfl⟩ | ⟨n, h, rfl⟩
  · exact ⟨Nat.le_succ _, rfl⟩
  · exact ⟨Nat.le_trans come_len (Nat.le_succ _), rfl⟩
  · refine ⟨Nat.le_trans come_len ?_, rfl⟩
    show (s.held ++ [(n, h)]).length ≤ _
    rw [List.length_append]
    exact Nat.le_refl _
theorem okHead_of : ∀ {fs : List Fd} {hd : List Int}, hd.length = fs.length → (∀ (i : Nat) (f : Fd) (n : Int), fs[i]? = some f → hd[i]? = some n → 0 ≤ n ∧ n < p2 f.br) → OkHead fs hd
  | [], [], _, _ => trivial
  | _ :: fs, _ :: hd, l, h => ⟨h 0 _ _ rfl rfl, okHead_of (by simpa using l) fun i f n e1 e2 => h (i + 1) f n (by simpa using e1) (by simpa using e2)⟩
theorem opn_ok {s : Shp} {f : Fm} {fo h : List Int} {m : Int} {z : Str} (ok : OkShp s) (okf : OkFm s f) (lf : fo.length = s.fs.length) (h01 : ∀ c ∈ cz z, c = 48 ∨ c = 49) (hz : z.length = atW s.fs f.ws s.fs.length) (op : OpN s f fo m z s.fs.length h) : OkHead s.fs h := by
  refine okHead_of op.1 fun i fd n e1 e2 => ?_
  have hi := (List.getElem?_eq_some_iff.mp e1).1
  have lw := okf.len
  obtain ⟨w, hw⟩ : ∃ w, f.ws[i]? = some w := ⟨_, List.getElem?_eq_getElem (by omega)⟩
  obtain ⟨v, hv⟩ : ∃ v, fo[i]? = some v := ⟨_, List.getElem?_eq_getElem (by omega)⟩
  obtain ⟨x, hx, vo⟩ := op.2 i fd w v hi e1 hw hv
  obtain rfl := Option.some.inj (e2.symm.trans hx)
  have pp := p2_pos fd.br
  cases w with
  | whole =>
    have e : n = numS z (atW s.fs f.ws i) fd.br.toNat := vo
    rw [e]
    refine numS_bd h01 ?_
    have a := atW_succ e1 hw
    have b := atW_mono s.fs f.ws (show i + 1 ≤ s.fs.length from hi)
    have a2 : atW s.fs f.ws (i + 1) = atW s.fs f.ws i + fd.br.toNat := a
    omega
  | keep =>
    obtain ⟨r, _, rfl⟩ := vo
    exact ⟨Int.emod_nonneg _ (Int.ne_of_gt pp), Int.emod_lt_of_pos _ pp⟩
  | low wd bl =>
    obtain ⟨r, _, rfl⟩ := vo
    exact ⟨Int.emod_nonneg _ (Int.ne_of_gt pp), Int.emod_lt_of_pos _ pp⟩
end Sh
/-! readers: a law's own book, forms that keep all -/
namespace Sh
open PySem PySem.Spec PyProof.Rows L2
section
variable {W : Wd} {H : Hp} {d k : Addr} {s : RdS} {kk : Hp → Prop} {n : Int}
theorem upd_stD {u : HO} {kvs : List (Key × V)} (h : H k = some (.dK kvs)) : St H (upd H k u) := fun a o e t => by
  by_cases c : a = k
  · rw [c, h] at e
    rw [← Option.some.inj e] at t
    exact t.elim
  · rw [upd_ne c]
    exact e
theorem upd_noneD {u : HO} {a : Addr} (e : upd H k u a = none) : H a = none := by
  by_cases c : a = k
  · rw [c, upd_same] at e
    cases e
  · rw [upd_ne c] at e
    exact e
theorem md_setTop (nk : d ≠ k) (h : MdAt W H d k s) (q : ∀ H', Mv d k H H' → (∀ a, H' a = none → H a = none) → MdAt W H' d k ⟨s.P, some n, s.held⟩ → kk H') : rSetU (.ref d) (.str "top") (.int n) H kk := by
  obtain ⟨h1, kvs, h2, h3⟩ := h
  refine w_dputs h1 (by show 2 < 1000; decide) (q _ mv_upd1 (fun a e => upd_noneD e) ⟨?_, kvs, ?_, hdk_st (upd_stD h1) h3⟩)
  · rw [upd_same]
    rfl
  · rw [upd_ne nk.symm]
    exact h2
end
theorem md_put {W : Wd} {H : Hp} {d k : Addr} {s : RdS} {kk : Hp → Prop} {n : Int} {v : V} {hd : List Int} (nk : d ≠ k) (h : MdAt W H d k s) (nn : hdV s.held n = none) (hl : s.held.length ≤ 1000) (hv : Dq W.K H v (headD hd)) (q : ∀ H', Mv d k H H' → (∀ a, H' a = none → H a = none) → St H H' → MdAt W H' d k (putH s n hd) → kk H') : rSetU (.ref k) (.int n) v H kk := by
  obtain ⟨h1, kvs, h2, h3⟩ := h
  have kl := hdk_len h3
  have e : St H (upd H k (.dK (putK kvs (.inl n) v))) := upd_stD h2
  refine w_dputi h2 (by omega) (q _ mv_upd2 (fun a z => upd_noneD z) e ⟨?_, _, upd_same, hdk_st e (hdk_put h3 nn hv)⟩)
  rw [upd_ne nk]
  exact h1
theorem w_DB2 {Q : VK} {H : Hp} {p : Addr} {x1 x2 : V} (h : H p = some (.dK [])) (q : Q (.ref p) (upd H p (.dK [(.inr "top", x1), (.inr "kept", x2)]))) : DB Q p [(.str "top", x1), (.str "kept", x2)] H :=
  ⟨h, [(.inr "top", x1), (.inr "kept", x2)], rfl, (by decide : 2 ≤ 15), q⟩
/-- a new book -/
theorem md_new {W : Wd} {H H7 : Hp} {d k : Addr} (P : Pt) (nd : H d = none) (nk : upd H d (.dK []) k = none) (e7 : Same (upd H d (.dK [])) H7) (hk : H7 k = some (.dK [])) :
    Same H (upd H7 d (.dK [(.inr "top", .non), (.inr "kept", .ref k)])) ∧ d ≠ k ∧ H k = none ∧ MdAt W (upd H7 d (.dK [(.inr "top", .non), (.inr "kept", .ref k)])) d k ⟨P, none, []⟩ := by
  have ndk : d ≠ k := fun z => by rw [← z, upd_same] at nk; cases nk
  rw [upd_ne ndk.symm] at nk
  refine ⟨fun a u h => ?_, ndk, nk, upd_same, [], ?_, .nil⟩
  · have na : a ≠ d := fun z => by rw [z, nd] at h; cases h
    rw [upd_ne na]
    exact e7 a u (by rw [upd_ne na]; exact h)
  · rw [upd_ne ndk.symm]
    exact hk
theorem w_keptNe {W : Wd} {H : Hp} {Q : VK} {q k : Addr} {ks ls : List (Key × V)} {hs gs : List (Int × List Int)} (nd : (gs.map (·.1)).Nodup) (h1 : H q = some (.dK ks)) (g1 : HdK W.K H ks hs) (h2 : H k = some (.dK ls)) (g2 : HdK W.K H ls gs) (pm : hs.Perm gs) (q' : Q (.bl false) H) : rNeHD W.K (.ref q) (.ref k) H Q := by
  refine ⟨q, k, ks, ls, rfl, rfl, h1, h2, by rw [hdk_len g1, hdk_len g2, pm.length_eq], fun p hp => ?_, q'⟩
  obtain ⟨i, hi⟩ := List.getElem?_of_mem hp
  obtain ⟨h, hh, e1, e2⟩ := hdk_get g1 hi
  have hm : h ∈ gs := pm.mem_iff.mp (List.mem_of_getElem? hh)
  have hv := hdV_nd nd hm
  rcases hdk_val h.1 g2 with ⟨a, _⟩ | ⟨x, v, a, b, c⟩
  · rw [a] at hv
    cases hv
  · obtain rfl := Option.some.inj (hv.symm.trans a)
    exact ⟨v, _, by rw [e1]; exact b, e2, c⟩
theorem perm_sorted {a b : List Int} (p : a.Perm b) (ha : a.Pairwise (· ≤ ·)) (hb : b.Pairwise (· ≤ ·)) : a = b :=
  p.eq_of_pairwise (fun _ _ _ _ h1 h2 => Int.le_antisymm h1 h2) ha hb
theorem w_neLL {K : PySem.W.Frag} {H : Hp} {Q : VK} {a p : Addr} {ns : List Int} (h : SqL K H a (ns.map V.int)) (h' : SqL K H p (ns.map V.int)) (q : Q (.bl false) H) : rNeU K (.ref a) (.ref p) H Q :=
  w_neD (.lst h (dqs_ints ns)) (.lst h' (dqs_ints ns)) (PySem.W.shaped_ints ns) (PySem.W.shaped_ints ns) (by
    have e : PyData.eqv (.list (ns.map .int)) (.list (ns.map .int)) = true := by
      rw [PyData.eqv, eqvAll_ints]
      exact decide_eq_true rfl
    rw [e]
    exact q)
theorem w_neOO {K : PySem.W.Frag} {H : Hp} {Q : VK} {o : Option Int} (q : Q (.bl false) H) : rNeU K (oV o) (oV o) H Q := by
  cases o with
  | none => exact w_neNN q
  | some m => exact w_nei (by
      rw [decide_eq_true (rfl : m = m)]
      exact q)
theorem plD_head {n : Nat} {hd : List Int} (h : hd.length ≤ 1000) : PlD (n + 1) (headD hd) := ⟨by rw [List.length_map]; exact h, fun d hd' => by
  obtain ⟨m, _, rfl⟩ := List.mem_map.mp hd'
  cases n <;> trivial⟩
theorem plD_tl {r : Tld} (h : ∀ n hd, r = .read n hd → hd.length ≤ 1000) : PlD 6 (tlD r) := by
  cases r with
  | read n hd => exact ⟨(by show 3 ≤ 1000; decide), fun d hm => by
      simp only [List.mem_cons, List.not_mem_nil, or_false] at hm
      rcases hm with rfl | rfl | rfl
      · exact trivial
      · exact trivial
      · exact plD_head (h n hd rfl)⟩
  | _ => exact ⟨(by show 2 ≤ 1000; decide), fun d hm => by
      simp only [List.mem_cons, List.not_mem_nil, or_false] at hm
      rcases hm with rfl | rfl
      all_goals exact trivial⟩
theorem tupO_tl (r : Tld) : tupO (tlD r) := by
  cases r with
  | read n hd => exact ⟨trivial, trivial, tupO_head _, trivial⟩
  | _ => exact ⟨trivial, trivial, trivial⟩
section
variable {σ : L2.St} {H : Hp} {ts : TS} {nx bk ct : L2.St → Hp → Prop} {rt : VK} {d : Addr} {kvs : List (Key × V)} {K : PySem.W.Frag} {Q : VK} {a p : Addr}
theorem w_lockS (h : H d = some (.dK kvs)) (q : ∀ od, ts ⟨fun σ' H' => H' d = some (.frz od (.dK kvs)) ∧ nx σ' (upd H' d (.dK kvs)), fun v H' => H' d = some (.frz od (.dK kvs)) ∧ rt v (upd H' d (.dK kvs)), fun σ' H' => H' d = some (.frz od (.dK kvs)) ∧ bk σ' (upd H' d (.dK kvs)), fun σ' H' => H' d = some (.frz od (.dK kvs)) ∧ ct σ' (upd H' d (.dK kvs))⟩ σ (upd H d (.frz od (.dK kvs)))) : tLock ts ⟨nx, rt, bk, ct⟩ σ H := ⟨d, .dK kvs, h, trivial, q⟩
theorem w_eqNil {ns : List Int} (h : SqL K H a (ns.map V.int)) (h' : SqL K H p []) (q : Q (.bl (decide (ns = []))) H) : rEqU K (.ref a) (.ref p) H Q :=
  w_eqD (.lst h (dqs_ints ns)) (.lst h' .nil) (PySem.W.shaped_ints ns) (PySem.W.shaped_ints []) (by rw [eqv_nil]; exact q)
theorem w_maxL {ns : List Int} (h : SqL K H a (ns.map V.int)) (h0 : 0 < ns.length) (q : ∀ m, m ∈ ns → (∀ y, y ∈ ns → y ≤ m) → Q (.int m) H) : rMax K [.ref a] H Q := ⟨a, ns, rfl, h, h0, q⟩
end
/-- a letter of a form that keeps a head which stays -/
def readF (s : RdS) (r n : Int) (hd : List Int) : Tld × RdS := if lateB s n = true then (.late, s) else match hdV s.held n with
  | some _ => (.twice n, s)
  | none => match belF (keyH s.held) n with
    | none => (.far, comeF s n)
    | some b => if r < n - b then (.far, comeF s n) else (.read n hd, comeF (putH s n hd) n)
theorem opn_still {s : Shp} {f : Fm} {hd h : List Int} {m : Int} {z : Str} (hs : ∀ g ∈ s.fs, g.kd = .still) (hw : ∀ w ∈ f.ws, w = .keep) (lw : f.ws.length = s.fs.length) (oh : OkHead s.fs hd) (op : OpN s f hd m z s.fs.length h) : h = hd := by
  have lh := okHead_len oh
  refine List.ext_getElem? fun i => ?_
  by_cases hi : i < s.fs.length
  · obtain ⟨fd, e1⟩ : ∃ fd, s.fs[i]? = some fd := ⟨_, List.getElem?_eq_getElem hi⟩
    obtain ⟨w, e2⟩ : ∃ w, f.ws[i]? = some w := ⟨_, List.getElem?_eq_getElem (by omega)⟩
    obtain ⟨v, e3⟩ : ∃ v, hd[i]? = some v := ⟨_, List.getElem?_eq_getElem (by omega)⟩
    obtain ⟨x, hx, vo⟩ := op.2 i fd w v hi e1 e2 e3
    rw [hw w (List.mem_of_getElem? e2)] at vo
    obtain ⟨r, hr, rfl⟩ := vo
    rw [hs fd (List.mem_of_getElem? e1)] at hr
    have hr : r = v := hr
    have z := okHead_get oh e1 e3
    rw [hx, e3, hr, Int.emod_eq_of_lt z.1 z.2]
  · rw [List.getElem?_eq_none (by have := op.1; omega), List.getElem?_eq_none (by omega)]
theorem readR_still {s s' : RdS} {i : Nat} {f : Fm} {g x : Int} {hd h0 : List Int} {r : Tld} (ok : OkRd s) (hf : s.P.fs[i]? = some f) (hg : s.top = some g) (hm : s.P.s.m = 1) (hs : ∀ g ∈ s.P.s.fs, g.kd = .still) (hw : ∀ w ∈ f.ws, w = .keep)
    (all : ∀ h ∈ s.held, h.2 = hd) (h : ReadR s (some i) x 0 h0 r s') : r = (readF s f.r (numR s (some i) x) hd).1 ∧ s' = (readF s f.r (numR s (some i) x) hd).2 := by
  unfold readF
  unfold ReadR at h
  generalize numR s (some i) x = n at h ⊢
  have lw := (ok.ok.fk f (List.mem_of_getElem? hf)).len
  rcases h with ⟨⟨_, h⟩, _⟩ | ⟨_, h⟩
  · rw [hg] at h
    cases h
  · rcases h with ⟨a, b, c⟩ | ⟨a, ⟨y, e⟩, b, c⟩ | ⟨a, e, h⟩
    · rw [if_pos a]
      exact ⟨b, c⟩
    · rw [if_neg (by rw [a]; decide), e]
      exact ⟨b, c⟩
    · rw [if_neg (by rw [a]; decide), e]
      rcases h with ⟨⟨f', hf', z⟩, b, c⟩ | ⟨y, ⟨f', hf', z⟩, h⟩
      · obtain rfl := Option.some.inj (hf.symm.trans hf')
        cases hb : belF (keyH s.held) n with
        | none => exact ⟨b, c⟩
        | some b' =>
          rw [hb] at z
          by_cases q : f.r < n - b'
          · show r = (if f.r < n - b' then _ else _ : Tld × RdS).1 ∧ s' = (if f.r < n - b' then _ else _ : Tld × RdS).2
            rw [if_pos q]
            exact ⟨b, c⟩
          · obtain ⟨_, _, _, w, _⟩ := z.2 (by omega)
            cases w
      · obtain rfl := Option.some.inj (hf.symm.trans hf')
        cases hb : belF (keyH s.held) n with
        | none =>
          rw [hb] at z
          cases z
        | some b' =>
          rw [hb] at z
          have q : ¬ f.r < n - b' := fun q => nomatch z.1 q
          obtain ⟨fo, y', hfo, e1, op⟩ := z.2 (by omega)
          obtain rfl := Option.some.inj e1
          have hm2 := hdV_mem hfo
          have efo : fo = hd := all _ hm2
          rw [efo] at op
          have oh : OkHead s.P.s.fs hd := by
            have w := ok.hds _ hm2
            rw [← efo]
            exact w
          obtain rfl := opn_still hs hw lw oh op
          show r = (if f.r < n - b' then _ else _ : Tld × RdS).1 ∧ s' = (if f.r < n - b' then _ else _ : Tld × RdS).2
          rw [if_neg q]
          rcases h with ⟨w, _⟩ | ⟨_, b, c⟩
          · rw [hm, Int.emod_one] at w
            exact (w rfl).elim
          · exact ⟨b, c⟩
theorem readF_P {s : RdS} {r n : Int} {hd : List Int} : (readF s r n hd).2.P = s.P ∧ (readF s r n hd).2.held.length ≤ s.held.length + 1 := by
  have c1 : ∀ m, (comeF s m).held.length ≤ s.held.length + 1 := fun m => Nat.le_trans come_len (Nat.le_succ _)
  unfold readF
  split
  · exact ⟨rfl, Nat.le_succ _⟩
  · split
    · exact ⟨rfl, Nat.le_succ _⟩
    · split
      · exact ⟨rfl, c1 _⟩
      · split
        · exact ⟨rfl, c1 _⟩
        · refine ⟨rfl, Nat.le_trans come_len ?_⟩
          show (s.held ++ [(n, hd)]).length ≤ _
          rw [List.length_append]
          exact Nat.le_refl _
theorem come_all {s : RdS} {n : Int} {hd : List Int} (all : ∀ h ∈ s.held, h.2 = hd) : ∀ h ∈ (comeF s n).held, h.2 = hd := fun h hm => all h (List.mem_filter.mp hm).1
theorem put_all {s : RdS} {n : Int} {hd : List Int} (all : ∀ h ∈ s.held, h.2 = hd) : ∀ h ∈ (putH s n hd).held, h.2 = hd := fun h hm => by
  rcases List.mem_append.mp hm with z | z
  · exact all h z
  · rw [List.mem_singleton.mp z]
theorem readF_all {s : RdS} {r n : Int} {hd : List Int} (all : ∀ h ∈ s.held, h.2 = hd) : ∀ h ∈ (readF s r n hd).2.held, h.2 = hd := by
  unfold readF
  split
  · exact all
  · split
    · exact all
    · split
      · exact come_all all
      · split
        · exact come_all all
        · exact come_all (put_all all)
theorem readF_top {s : RdS} {r n : Int} {hd : List Int} {g : Int} (hg : s.top = some g) : ∃ g', (readF s r n hd).2.top = some g' := by
  unfold readF
  split
  · exact ⟨g, hg⟩
  · split
    · exact ⟨g, hg⟩
    · split
      · exact ⟨_, rfl⟩
      · split
        · exact ⟨_, rfl⟩
        · exact ⟨_, rfl⟩
theorem plD_readF {s : RdS} {r n : Int} {hd : List Int} (h : hd.length ≤ 1000) : PlD 6 (tlD (readF s r n hd).1) := plD_tl fun m g e => by
  unfold readF at e
  split at e
  · cases e
  · split at e
    · cases e
    · split at e
      · cases e
      · split at e
        · cases e
        · cases e
          exact h
/-! pacts of one field that stays -/
def oneP (b n lt : Int) (fs : List Fm) (sw : Nat) : Pt := ⟨⟨[⟨"n", b, .still⟩], 1⟩, n, fs, 0, 0, lt, 0, sw, 0⟩
theorem nm_n : OkNm ("n" : Str) := ⟨by decide +kernel, by decide +kernel, by decide +kernel⟩
theorem oneP_ok {b n lt : Int} {fs : List Fm} {sw : Nat} (b0 : 1 ≤ b) (b1 : b ≤ 40) (n0 : 1 ≤ n) (n1 : n ≤ 40) (l0 : 0 ≤ lt) (l1 : lt ≤ 20) (fl : fs.length ≤ 12) (hsw : IsW (1 + (fs.length : Int)) sw) (fk : ∀ f ∈ fs, f.ws = [.keep] ∧ 1 ≤ f.r ∧ f.r ≤ 40 ∧ 1 ≤ f.c ∧ f.c ≤ 40) : OkPt (oneP b n lt fs sw) := by
  have oks : OkShp ⟨[⟨"n", b, .still⟩], 1⟩ := by
    refine ⟨by show 1 ≤ 1; decide, by show 1 ≤ 12; decide, fun i f hi => ?_, List.nodup_cons.mpr ⟨(fun h => nomatch h), List.nodup_nil⟩, by show (1 : Int) ≤ 1; decide, by show (1 : Int) ≤ 1000000; decide⟩
    have hi0 : i = 0 := by
      have := (List.getElem?_eq_some_iff.mp hi).1
      simp only [List.length_cons, List.length_nil] at this
      omega
    subst hi0
    obtain rfl := Option.some.inj hi
    exact ⟨nm_n, b0, b1, trivial⟩
  refine ⟨oks, n0, n1, fl, fun f hf => ?_, hsw, ⟨by show (1 : Int) ≤ 2 ^ 0; decide, fun u hu => absurd hu (Nat.not_lt_zero u)⟩, by show (0 : Int) ≤ 0; decide, by show (0 : Int) ≤ 39; decide, by show (0 : Int) ≤ 0; decide, by show (0 : Int) ≤ 400; decide, l0, l1, by show (0 : Int) ≤ 0; decide, by show (0 : Int) ≤ 400; decide⟩
  obtain ⟨z1, z2, z3, z4, z5⟩ := fk f hf
  refine ⟨z2, z3, z4, z5, by rw [z1]; rfl, fun i w fd hw hfd => ?_⟩
  rw [z1] at hw
  have hi0 : i = 0 := by
    have := (List.getElem?_eq_some_iff.mp hw).1
    simp only [List.length_cons, List.length_nil] at this
    omega
  subst hi0
  obtain rfl := Option.some.inj hw
  trivial
theorem oneP_still {b n lt : Int} {fs : List Fm} {sw : Nat} : ∀ g ∈ (oneP b n lt fs sw).s.fs, g.kd = .still := fun g hg => by rw [List.mem_singleton.mp hg]
theorem cz_b0 (x : Int) : cz (bitsT x 0) = [] := rfl
theorem one_pcs {b n lt : Int} {fs : List Fm} {sw : Nat} {v : Int} (t : Option Nat) {w : Wy} (hw : wsP (oneP b n lt fs sw) t = [w]) : cz (pcsP (oneP b n lt fs sw) t [v]) = cz (pieceT (⟨"n", b, .still⟩, w, v)) := by
  unfold pcsP
  rw [hw, cz_pieces]
  exact List.append_nil _
/-- a whole letter of such a pact -/
theorem one_whole {b n lt : Int} {fs : List Fm} {sw : Nat} {x v : Int} : genT (oneP b n lt fs sw) none x [v] 0 = (bitsT 0 sw ++ bitsT x n.toNat) ++ bitsT v b.toNat := by
  refine cz_inj ?_
  rw [gen_cz, one_pcs none (w := .whole) rfl, cz_app, cz_app, List.append_assoc]
  show _ ++ (_ ++ (cz (bitsT (v % p2 ((b.toNat : Nat) : Int)) b.toNat) ++ cz (bitsT 0 0))) = _
  rw [cz_b0, List.append_nil]
  have e : bitsT (v % p2 ((b.toNat : Nat) : Int)) b.toNat = bitsT v b.toNat := by
    have z := bitsT_p2 v ((b.toNat : Nat) : Int)
    rw [Int.toNat_natCast] at z
    exact z
  rw [e]
  rfl
/-- one of a form -/
theorem one_form {b n lt : Int} {fs : List Fm} {sw : Nat} {x v : Int} {i : Nat} {f : Fm} (hf : fs[i]? = some f) (hw : f.ws = [.keep]) : genT (oneP b n lt fs sw) (some i) x [v] 0 = bitsT (1 + (i : Int)) sw ++ bitsT x f.c.toNat := by
  have e1 : wsP (oneP b n lt fs sw) (some i) = [.keep] := by
    show (match fs[i]? with | some f => f.ws | none => []) = _
    rw [hf]
    exact hw
  have e2 : cntP (oneP b n lt fs sw) (some i) = f.c := by
    show (match fs[i]? with | some f => f.c | none => 0) = _
    rw [hf]
  refine cz_inj ?_
  rw [gen_cz, one_pcs (some i) e1, cz_app, e2]
  show _ ++ (_ ++ ([] ++ cz (bitsT 0 0))) = _
  rw [cz_b0, List.append_nil, List.append_nil]
  rfl
theorem one_let {b n lt : Int} {fs : List Fm} {sw : Nat} {x v : Int} (t : Option Nat) : letT (oneP b n lt fs sw) t x [v] = genT (oneP b n lt fs sw) t x [v] 0 := by
  unfold letT genT
  rw [show (oneP b n lt fs sw).s.m = 1 from rfl, Int.emod_one]
theorem w_DB1i {Q : VK} {H : Hp} {p : Addr} {n : Int} {x : V} (h : H p = some (.dK [])) (q : Q (.ref p) (upd H p (.dK [(.inl n, x)]))) : DB Q p [(.int n, x)] H :=
  ⟨h, [(.inl n, x)], rfl, (by decide : 1 ≤ 15), q⟩
/-- a new book that has a head -/
theorem md_new1 {W : Wd} {H : Hp} {d k : Addr} {hv : V} {hd : List Int} (P : Pt) (x : Int) (nd : H d = none) (nk : upd H d (.dK []) k = none) (hh : Dq W.K H hv (headD hd)) :
    Same H (upd (upd (upd (upd H d (.dK [])) k (.dK [])) k (.dK [(.inl x, hv)])) d (.dK [(.inr "top", .int x), (.inr "kept", .ref k)])) ∧ d ≠ k ∧ H k = none ∧ MdAt W (upd (upd (upd (upd H d (.dK [])) k (.dK [])) k (.dK [(.inl x, hv)])) d (.dK [(.inr "top", .int x), (.inr "kept", .ref k)])) d k ⟨P, some x, [(x, hd)]⟩ := by
  have ndk : d ≠ k := fun z => by rw [← z, upd_same] at nk; cases nk
  rw [upd_ne ndk.symm] at nk
  have e : Same H (upd (upd (upd (upd H d (.dK [])) k (.dK [])) k (.dK [(.inl x, hv)])) d (.dK [(.inr "top", .int x), (.inr "kept", .ref k)])) := fun a u h => by
    have na : a ≠ d := fun z => by rw [z, nd] at h; cases h
    have nb : a ≠ k := fun z => by rw [z, nk] at h; cases h
    rw [upd_ne na, upd_ne nb, upd_ne nb, upd_ne na]
    exact h
  refine ⟨e, ndk, nk, upd_same, [(.inl x, hv)], ?_, .cons ⟨rfl, dq_mono e hh⟩ .nil⟩
  rw [upd_ne ndk.symm, upd_same]
theorem eqv_read (x : Int) (v : Int) : PyData.eqv (tlD (.read x [v])) (tlD (.read x [v])) = true := by
  show PyData.eqv (.tuple [.str "read", .int x, .tuple [.int v]]) (.tuple [.str "read", .int x, .tuple [.int v]]) = true
  simp [PyData.eqv, PyData.eqvAll]
theorem sok_read : PyData.strOk ("read" : Str) = true := by decide +kernel
theorem shp_read (x v : Int) : SeqAt.shaped (tlD (.read x [v])) = true := by
  show SeqAt.shaped (.tuple [.str "read", .int x, .tuple [.int v]]) = true
  simp [sok_read, SeqAt.shaped, PyData.canLay0, PyData.canLayAll0, PyData.depth, PyData.depthAll]
end Sh
/-! readers: what is kept of all that was read -/
namespace Sh
open PySem PySem.Spec PyProof.Rows L2
theorem stay_iff {e k : Int} {o : Option Int} : stayB e o k = true ↔ e ≤ k ∨ o = some k := by
  unfold stayB
  rw [Bool.or_eq_true, decide_eq_true_iff, decide_eq_true_iff]
  exact ⟨fun h => h.elim .inl fun z => .inr z.symm, fun h => h.elim .inl fun z => .inr z.symm⟩
theorem belF_of {ks : List Int} {n m : Int} (h : m ∈ ks) (h2 : m < n) (h3 : ∀ k ∈ ks, k < n → k ≤ m) : belF ks n = some m :=
  belF_max (List.mem_filter.mpr ⟨h, decide_eq_true h2⟩) fun y hy => h3 y (List.mem_filter.mp hy).1 (of_decide_eq_true (List.mem_filter.mp hy).2)
theorem belF_no {ks : List Int} {n : Int} (h : ∀ k ∈ ks, ¬ k < n) : belF ks n = none :=
  belF_nil (List.filter_eq_nil_iff.mpr fun k hk z => h k hk (of_decide_eq_true z))
theorem belF_spec (ks : List Int) (n : Int) : (belF ks n = none ∧ ∀ k ∈ ks, ¬ k < n) ∨ ∃ m, belF ks n = some m ∧ m ∈ ks ∧ m < n ∧ ∀ k ∈ ks, k < n → k ≤ m := by
  cases h : belF ks n with
  | none =>
    refine .inl ⟨rfl, fun k hk z => ?_⟩
    unfold belF at h
    have e := List.max?_eq_none_iff.mp h
    have : k ∈ ks.filter fun k => decide (k < n) := List.mem_filter.mpr ⟨hk, decide_eq_true z⟩
    rw [e] at this
    cases this
  | some m =>
    obtain ⟨h1, h2⟩ := belF_mem h
    unfold belF at h
    have e := (List.max?_eq_some_iff.mp h).2
    exact .inr ⟨m, rfl, h1, h2, fun k hk z => e k (List.mem_filter.mpr ⟨hk, decide_eq_true z⟩)⟩
/-- K is what stays of rd at the edge e -/
def KpL (K rd : List Int) (e : Int) : Prop := ∀ n, n ∈ K ↔ n ∈ rd ∧ stayB e (belF rd e) n = true
theorem bel_eq {K rd : List Int} {e e' : Int} (le : e ≤ e') (h : KpL K rd e) : belF K e' = belF rd e' := by
  rcases belF_spec rd e' with ⟨a, b⟩ | ⟨m, a, b, c, d⟩
  · rw [a]
    exact belF_no fun k hk => b k ((h k).mp hk).1
  · rw [a]
    refine belF_of ((h m).mpr ⟨b, stay_iff.mpr ?_⟩) c fun k hk => d k ((h k).mp hk).1
    by_cases q : e ≤ m
    · exact .inl q
    · exact .inr (belF_of b (by omega) fun k hk z => d k hk (by omega))
theorem kpL_mono {K rd : List Int} {e e' : Int} (le : e ≤ e') (h : KpL K rd e) : KpL (K.filter (stayB e' (belF K e'))) rd e' := fun n => by
  have eb := bel_eq le h
  rw [List.mem_filter, eb]
  refine ⟨fun ⟨a, b⟩ => ⟨((h n).mp a).1, b⟩, fun ⟨a, b⟩ => ⟨?_, b⟩⟩
  rcases stay_iff.mp b with z | z
  · exact (h n).mpr ⟨a, stay_iff.mpr (.inl (by omega))⟩
  · rw [← eb] at z
    exact (belF_mem z).1
theorem kpL_app {K rd : List Int} {e n : Int} (le : e ≤ n) (h : KpL K rd e) : KpL (K ++ [n]) (rd ++ [n]) e := fun m => by
  have eb : belF (rd ++ [n]) e = belF rd e := by
    unfold belF
    rw [List.filter_append, List.filter_cons, if_neg (by rw [decide_eq_true_iff]; omega), List.filter_nil, List.append_nil]
  rw [eb, List.mem_append, List.mem_append, List.mem_singleton, h m]
  refine ⟨fun z => ?_, fun ⟨a, b⟩ => ?_⟩
  · rcases z with ⟨a, b⟩ | a
    · exact ⟨.inl a, b⟩
    · exact ⟨.inr a, stay_iff.mpr (.inl (by omega))⟩
  · rcases a with a | a
    · exact .inl ⟨a, b⟩
    · exact .inr a
theorem key_filter (F : Int → Bool) (hs : List (Int × List Int)) : keyH (hs.filter fun h => F h.1) = (keyH hs).filter F := by
  unfold keyH
  rw [List.filter_map]
  rfl
def edgeO (lt : Int) : Option Int → Int
  | none => 0
  | some g => g - lt
/-- a reader that keeps what it should of the numbers rd -/
structure KpI (s : RdS) (rd : List Int) : Prop where
  no : s.top = none → s.held = [] ∧ rd = []
  kp : ∀ g, s.top = some g → KpL (keyH s.held) rd (g - s.P.lt)
theorem kpI_come {s : RdS} {rd : List Int} {n : Int} (h : KpI s rd) : KpI (comeF s n) rd := by
  refine ⟨(fun z => nomatch z), fun g hg => ?_⟩
  have hg : some (topF s.top n) = some g := hg
  obtain rfl := Option.some.inj hg
  show KpL (keyH (s.held.filter fun h => stayB (topF s.top n - s.P.lt) (belF (keyH s.held) (topF s.top n - s.P.lt)) h.1)) rd (topF s.top n - s.P.lt)
  rw [key_filter]
  cases ht : s.top with
  | none =>
    obtain ⟨a, b⟩ := h.no ht
    rw [a, b]
    exact fun m => ⟨(fun z => nomatch z), fun z => nomatch z.1⟩
  | some g =>
    refine kpL_mono ?_ (h.kp g ht)
    show g - s.P.lt ≤ (if g < n then n else g) - s.P.lt
    split <;> omega
theorem kpI_read {s : RdS} {rd : List Int} {n : Int} {hd : List Int} (h : KpI s rd) (hn : ∀ g, s.top = some g → g - s.P.lt ≤ n) : KpI (comeF (putH s n hd) n) (rd ++ [n]) := by
  refine ⟨(fun z => nomatch z), fun g hg => ?_⟩
  have hg : some (topF s.top n) = some g := hg
  obtain rfl := Option.some.inj hg
  show KpL (keyH ((s.held ++ [(n, hd)]).filter fun h => stayB (topF s.top n - s.P.lt) (belF (keyH (s.held ++ [(n, hd)])) (topF s.top n - s.P.lt)) h.1)) (rd ++ [n]) (topF s.top n - s.P.lt)
  rw [key_filter, show keyH (s.held ++ [(n, hd)]) = keyH s.held ++ [n] by unfold keyH; rw [List.map_append]; rfl]
  cases ht : s.top with
  | none =>
    obtain ⟨a, b⟩ := h.no ht
    rw [a, b]
    show KpL ([n].filter _) [n] (n - s.P.lt)
    exact kpL_mono (e := n - s.P.lt) (Int.le_refl _) (K := [n]) fun m => by
      refine ⟨fun z => ⟨z, ?_⟩, fun z => z.1⟩
      obtain rfl := List.mem_singleton.mp z
      rcases belF_spec [m] (m - s.P.lt) with ⟨a, b⟩ | ⟨k, a, b, c, d⟩
      · have := b m (List.mem_singleton.mpr rfl)
        exact stay_iff.mpr (.inl (by omega))
      · obtain rfl := List.mem_singleton.mp b
        exact stay_iff.mpr (.inr a)
  | some g =>
    refine kpL_mono ?_ (kpL_app (hn g ht) (h.kp g ht))
    show g - s.P.lt ≤ (if g < n then n else g) - s.P.lt
    split <;> omega
theorem kpI_new {s : RdS} {rd : List Int} {n : Int} (h : KpI s rd) (hn : ∀ g, s.top = some g → g - s.P.lt ≤ n) (nn : hdV s.held n = none) : n ∉ rd := fun z => by
  cases ht : s.top with
  | none =>
    rw [(h.no ht).2] at z
    cases z
  | some g =>
    exact hdV_none.mp nn ((h.kp g ht n).mpr ⟨z, stay_iff.mpr (.inl (hn g ht))⟩)
theorem nodup_snoc {rd : List Int} {n : Int} (h : rd.Nodup) (hn : n ∉ rd) : (rd ++ [n]).Nodup := by
  rw [List.nodup_append]
  exact ⟨h, List.nodup_cons.mpr ⟨(fun z => nomatch z), List.nodup_nil⟩, fun a ha b hb z => hn (by rw [← List.mem_singleton.mp hb, ← z]; exact ha)⟩
theorem kpI_perm {s : RdS} {rd ys : List Int} (h : KpI s rd) (nd : (s.held.map (·.1)).Nodup) (nr : rd.Nodup) (py : ys.Perm (rd.filter (stayB (edgeO s.P.lt s.top) (belF rd (edgeO s.P.lt s.top))))) : (keyH s.held).Perm ys := by
  refine List.Perm.trans ?_ py.symm
  cases ht : s.top with
  | none =>
    obtain ⟨a, b⟩ := h.no ht
    rw [a, b]
    exact .refl _
  | some g =>
    refine (List.perm_ext_iff_of_nodup nd (nr.filter _)).mpr fun n => ?_
    rw [List.mem_filter]
    exact h.kp g ht n
theorem held_all {hs : List (Int × List Int)} {hd : List Int} (all : ∀ h ∈ hs, h.2 = hd) : (keyH hs).map (fun y => (y, hd)) = hs := by
  unfold keyH
  rw [List.map_map]
  exact (List.map_congr_left fun h hm => by
    show (h.1, hd) = h
    rw [← all h hm]).trans (List.map_id _)
theorem kpI_heads {s : RdS} {rd ys : List Int} {hd : List Int} (all : ∀ h ∈ s.held, h.2 = hd) (p : (keyH s.held).Perm ys) : s.held.Perm (ys.map fun y => (y, hd)) := by
  rw [← held_all all]
  exact p.map _
/-- a law's own book of all that was read -/
def MkAt (H : Hp) (d l : Addr) (t : Option Int) (rd : List Int) : Prop := H d = some (.dK [(.inr "top", oV t), (.inr "read", .ref l)]) ∧ H l = some (.lst (rd.map V.int))
section
variable {W : Wd} {H H' : Hp} {p l d k : Addr} {s : RdS} {t : Option Int} {rd : List Int} {v : V}
theorem mk_sx (e : Sx H H') (h : MkAt H d k t rd) : MkAt H' d k t rd := ⟨e.keep _ _ h.1 rfl, e.keep _ _ h.2 rfl⟩
theorem mk_same (e : Same H H') (h : MkAt H d k t rd) : MkAt H' d k t rd := ⟨e _ _ h.1, e _ _ h.2⟩
theorem mkm_st (h : MkAt H d k t rd) (e : Mv d k H H') : St H H' := fun a u ha q => e a u ha (fun z => by
    rw [z, h.1] at ha
    cases ha
    exact q) fun z => by
    rw [z, h.2] at ha
    cases ha
    exact q
theorem mkm_box {b : Bool} {n : Int} (h : MkAt H d k t rd) (e : Mv d k H H') (hb : BoxAt W b n H v) : BoxAt W b n H' v := by
  obtain ⟨q, o, j, rfl, hpo, hj, hp, ho⟩ := hb
  refine ⟨q, o, j, rfl, hpo, hj, e _ _ hp (fun z => ?_) fun z => ?_, e _ _ ho (fun z => ?_) fun z => ?_⟩
  · rw [z, h.1] at hp
    cases hp
  · rw [z, h.2] at hp
    cases hp
  · rw [z, h.1] at ho
    cases ho
  · rw [z, h.2] at ho
    cases ho
theorem mkm_rd (hm : MkAt H d k t rd) (e : Mv d k H H') (n1 : l ≠ d) (h : RdAt W H p l s) : RdAt W H' p l s := by
  have st := mkm_st hm e
  obtain ⟨dx, vp, ks, h1, h2, h3, h4⟩ := h
  obtain ⟨g1, g2⟩ := hm
  have m1 : p ≠ d := fun z => by rw [← z, h1] at g1; cases g1
  have m2 : p ≠ k := fun z => by rw [← z, h1] at g2; cases g2
  have m3 : l ≠ k := fun z => by rw [← z, h3] at g2; cases g2
  exact ⟨dx, vp, ks, e _ _ h1 m1 m2, dqt st h2 (tupO_pt _), e _ _ h3 n1 m3, hdk_st st h4⟩
theorem rdm_mk (h : RdAt W H p l s) (e : Mv p l H H') (n1 : d ≠ l) (hm : MkAt H d k t rd) : MkAt H' d k t rd := by
  obtain ⟨dx, vp, ks, h1, _, h3, _⟩ := h
  obtain ⟨g1, g2⟩ := hm
  have m1 : d ≠ p := fun z => by rw [z, h1] at g1; cases g1
  have m2 : k ≠ p := fun z => by rw [z, h1] at g2; cases g2
  have m3 : k ≠ l := fun z => by rw [z, h3] at g2; cases g2
  exact ⟨e _ _ g1 m1 n1, e _ _ g2 m2 m3⟩
end
theorem mk_setTop {H : Hp} {d l : Addr} {t : Option Int} {rd : List Int} {n : Int} {kk : Hp → Prop} (h : MkAt H d l t rd) (q : ∀ H', Mv d l H H' → (∀ a, H' a = none → H a = none) → MkAt H' d l (some n) rd → kk H') : rSetU (.ref d) (.str "top") (.int n) H kk := by
  obtain ⟨h1, h2⟩ := h
  have n1 : l ≠ d := fun z => by rw [z, h1] at h2; cases h2
  refine w_dputs h1 (by show 2 < 1000; decide) (q _ mv_upd1 (fun a e => upd_noneD e) ⟨?_, ?_⟩)
  · rw [upd_same]
    rfl
  · rw [upd_ne n1]
    exact h2
theorem mk_app {H : Hp} {d l : Addr} {t : Option Int} {rd : List Int} {n : Int} {Q : VK} (h : MkAt H d l t rd) (hl : rd.length ≤ 1000) (q : ∀ H', Mv d l H H' → (∀ a, H' a = none → H a = none) → MkAt H' d l t (rd ++ [n]) → Q .non H') : rAppend (.ref l) [.int n] H Q := by
  obtain ⟨h1, h2⟩ := h
  have n1 : d ≠ l := fun z => by rw [← z, h1] at h2; cases h2
  refine w_append h2 (by rw [List.length_map]; omega) (q _ mv_upd2 (fun a e => upd_noneD e) ⟨?_, ?_⟩)
  · rw [upd_ne n1]
    exact h1
  · rw [upd_same, List.map_append]
    rfl
theorem topF_max {t : Option Int} {n : Int} : topF t n = match t with
  | none => n
  | some g => if g > n then g else n := by
  cases t with
  | none => rfl
  | some g =>
    show (if g < n then n else g) = if g > n then g else n
    split <;> split <;> omega
theorem w_DB2r {Q : VK} {H : Hp} {p : Addr} {x1 x2 : V} (h : H p = some (.dK [])) (q : Q (.ref p) (upd H p (.dK [(.inr "top", x1), (.inr "read", x2)]))) : DB Q p [(.str "top", x1), (.str "read", x2)] H :=
  ⟨h, [(.inr "top", x1), (.inr "read", x2)], rfl, (by decide : 2 ≤ 15), q⟩
theorem mk_new {H H7 : Hp} {d k : Addr} (nd : H d = none) (nk : upd H d (.dK []) k = none) (e7 : Same (upd H d (.dK [])) H7) (hk : H7 k = some (.lst [])) :
    Same H (upd H7 d (.dK [(.inr "top", .non), (.inr "read", .ref k)])) ∧ d ≠ k ∧ H k = none ∧ MkAt (upd H7 d (.dK [(.inr "top", .non), (.inr "read", .ref k)])) d k none [] := by
  have ndk : d ≠ k := fun z => by rw [← z, upd_same] at nk; cases nk
  rw [upd_ne ndk.symm] at nk
  refine ⟨fun a u h => ?_, ndk, nk, upd_same, ?_⟩
  · have na : a ≠ d := fun z => by rw [z, nd] at h; cases h
    rw [upd_ne na]
    exact e7 a u (by rw [upd_ne na]; exact h)
  · rw [upd_ne ndk.symm]
    exact hk
theorem plD_readW {s : RdS} {n : Int} {hd : List Int} (h : hd.length ≤ 1000) : PlD 6 (tlD (readW s n hd).1) := plD_tl fun m g e => by
  unfold readW at e
  split at e
  · cases e
  · split at e
    · cases e
    · cases e
      exact h
theorem readW_all {s : RdS} {n : Int} {hd : List Int} (all : ∀ h ∈ s.held, h.2 = hd) : ∀ h ∈ (readW s n hd).2.held, h.2 = hd := by
  unfold readW
  split
  · exact all
  · split
    · exact all
    · exact come_all (put_all all)
theorem readW_P {s : RdS} {n : Int} {hd : List Int} : (readW s n hd).2.P = s.P ∧ (readW s n hd).2.held.length ≤ s.held.length + 1 := by
  unfold readW
  split
  · exact ⟨rfl, Nat.le_succ _⟩
  · split
    · exact ⟨rfl, Nat.le_succ _⟩
    · refine ⟨rfl, Nat.le_trans come_len ?_⟩
      show (s.held ++ [(n, hd)]).length ≤ _
      rw [List.length_append]
      exact Nat.le_refl _
theorem readW_tops {s : RdS} {n : Int} {hd : List Int} : (readW s n hd).2.top = s.top ∨ (readW s n hd).2.top = some (topF s.top n) := by
  unfold readW
  split
  · exact .inl rfl
  · split
    · exact .inl rfl
    · exact .inr rfl
theorem readF_tops {s : RdS} {r n : Int} {hd : List Int} : (readF s r n hd).2.top = s.top ∨ (readF s r n hd).2.top = some (topF s.top n) := by
  unfold readF
  split
  · exact .inl rfl
  · split
    · exact .inl rfl
    · split
      · exact .inr rfl
      · split
        · exact .inr rfl
        · exact .inr rfl
theorem ints_filter {P : Int → Bool} {ns : List Int} {i : Nat} {n : Int} {acc : List V} (h : ns[i]? = some n) (ea : acc = ((ns.take i).filter P).map V.int) (c : P n = true) : acc ++ [V.int n] = ((ns.take (i + 1)).filter P).map V.int := by
  rw [filter_snoc h, if_pos c, List.map_append, ea]
  rfl
theorem ints_skip {P : Int → Bool} {ns : List Int} {i : Nat} {n : Int} {acc : List V} (h : ns[i]? = some n) (ea : acc = ((ns.take i).filter P).map V.int) (c : P n = false) : acc = ((ns.take (i + 1)).filter P).map V.int := by
  rw [filter_snoc h, if_neg (by rw [c]; decide), List.append_nil, ea]
theorem ints_len {P : Int → Bool} {ns : List Int} {i : Nat} {acc : List V} (ea : acc = ((ns.take i).filter P).map V.int) : acc.length ≤ i := by
  rw [ea, List.length_map]
  exact Nat.le_trans (List.length_filter_le _ _) (by rw [List.length_take]; omega)
theorem w_sortedI {K : PySem.W.Frag} {H : Hp} {Q : VK} {a : Addr} {ns : List Int} (h : SqL K H a (ns.map V.int)) (q : ∀ (ys : List Int) p H', ys.Perm ns → ys.Pairwise (· ≤ ·) → H p = none → Same H H' → H' p = some (.lst (ys.map V.int)) → Q (.ref p) H') : rSortedI K [.ref a] H Q :=
  ⟨a, ns, rfl, h, fun ys p h1 h2 hp => q ys p _ h1 h2 hp (same_new hp) upd_same⟩
end Sh
/-! pairs of a number and a dict of heads, compared -/
namespace Sh
open PySem PySem.Spec PyProof.Rows L2
def EqH (K : PySem.W.Frag) (H : Hp) (x y : V) : Prop := (x = y ∧ flatB x = true) ∨ ∃ (a b : Addr) (ks ls : List (Key × V)), x = .ref a ∧ y = .ref b ∧ H a = some (.dK ks) ∧ H b = some (.dK ls) ∧ ks.length = ls.length ∧ ∀ p ∈ ks, ∃ u h, valV ls p.1 = some u ∧ Dq K H p.2 (headD h) ∧ Dq K H u (headD h)
def rEqTK (K : PySem.W.Frag) : R2 := fun x y H Q => ∃ (a b : Addr) (xs ys : List V), x = .ref a ∧ y = .ref b ∧ SqT K H a xs ∧ SqT K H b ys ∧ Paired (EqH K H) xs ys ∧ Q (.bl true) H
theorem eqH_run {X : Cx} {pins : List (Addr × Obj)} {σ : L2.St} {H : Hp} {s : Shared} {A : Around} (I : Inv X pins σ H s) (hu : A.units + 8 < cLine) {x y : V} {v u : Value} (h : EqH X.K H x y) (rx : RelV x v) (ry : RelV y u) : SeqAt.EqIn X.prog X.w A s v u true := by
  rcases h with ⟨rfl, f⟩ | ⟨a, b, ks, ls, rfl, rfl, ea, eb, hlen, hp⟩
  · exact (eqAt_same rx ry f).inModel _ _
  · obtain rfl : v = Value.ref a := rx
    obtain rfl : u = Value.ref b := ry
    by_cases e : a = b
    · subst e
      exact (SeqAt.EqAt.same _).inModel _ _
    · obtain ⟨_, ya, va, ra, da⟩ := (show ObjOk X.prog X.w H s.heap a (.dK ks) from I.hok a _ ea)
      obtain ⟨_, yb, vb, rb, db⟩ := (show ObjOk X.prog X.w H s.heap b (.dK ls) from I.hok b _ eb)
      have hl : va.length = vb.length := by rw [← ra.length, ← rb.length]; exact hlen
      refine SeqAt.EqIn.of_refs e fun E Q q => ?_
      exact PySem.W.keq_eq (knd := mixKind X.prog X.w) (r := true) ya yb da db (by omega) (fun _ => hits_hd I (by show A.units + 1 + 2 < cLine; omega) rb ra hp) (by
        rw [show (va.length == vb.length && true) = true by simp [hl]]
        exact q)
theorem op_eqTK {X : Cx} (hu : X.A.units + 64 < cLine) : OpR X (compareOp .Eq) (rEqTK X.K) := by
  intro pins s σ H x y v u Q I rx ry h
  obtain ⟨a, b, xs, ys, rfl, rfl, ha, hb, hp, q⟩ := h
  obtain rfl : v = Value.ref a := rx
  obtain rfl : u = Value.ref b := ry
  obtain ⟨us, r1, p1, _⟩ := I.tuple ha
  obtain ⟨ws, r2, p2, _⟩ := I.tuple hb
  have hsz : us.toArray.size = ws.toArray.size := by
    rw [List.size_toArray, List.size_toArray, ← r1.length, ← r2.length]
    exact Paired.length hp
  have it : ∀ {xs ys : List V}, Paired (EqH X.K H) xs ys → ∀ {us ws : List Value}, Vals xs us → Vals ys ws → ∀ j (h1 : j < us.length) (h2 : j < ws.length), SeqAt.EqIn X.prog X.w X.A.in1 s us[j] ws[j] true := by
    intro xs ys hp
    induction hp with
    | nil =>
      intro us ws r1 r2 j h1 h2
      cases r1
      exact absurd h1 (Nat.not_lt_zero j)
    | cons h _ k =>
      intro us ws r1 r2 j h1 h2
      cases r1 with
      | cons a1 b1 =>
        cases r2 with
        | cons a2 b2 =>
          cases j with
          | zero => exact eqH_run I (by show X.A.units + 1 + 8 < cLine; omega) h a1 a2
          | succ j => exact k b1 b2 j (Nat.lt_of_succ_lt_succ h1) (Nat.lt_of_succ_lt_succ h2)
  refine SeqAt.rcIn_tuples (e := fun _ => true) p1 p2 (by omega) (fun j h1 h2 => ?_) ?_
  · have k := it hp r1 r2 j (by simpa using h1) (by simpa using h2)
    simpa using k
  · rw [hsz, show ((List.range (min ws.toArray.size ws.toArray.size)).all fun _ => true) = true from List.all_eq_true.mpr fun _ _ => rfl, Bool.true_and, beq_self_eq_true]
    exact ⟨.bl true, H, I, rfl, q⟩
/-- what is kept, told twice, ahead of and behind what changes nothing -/
theorem w_eqKept {W : Wd} {H : Hp} {Q : VK} {a b q k : Addr} {t : Option Int} {ks ls : List (Key × V)} {hs gs : List (Int × List Int)} (ha : SqT W.K H a [oV t, .ref q]) (hb : SqT W.K H b [oV t, .ref k]) (nd : (gs.map (·.1)).Nodup) (h1 : H q = some (.dK ks)) (g1 : HdK W.K H ks hs) (h2 : H k = some (.dK ls)) (g2 : HdK W.K H ls gs) (pm : hs.Perm gs) (q' : Q (.bl true) H) : rEqTK W.K (.ref a) (.ref b) H Q := by
  refine ⟨a, b, _, _, rfl, rfl, ha, hb, .cons ?_ (.cons ?_ .nil), q'⟩
  · refine .inl ⟨rfl, ?_⟩
    cases t <;> rfl
  · refine .inr ⟨q, k, ks, ls, rfl, rfl, h1, h2, by rw [hdk_len g1, hdk_len g2, pm.length_eq], fun p hp => ?_⟩
    obtain ⟨i, hi⟩ := List.getElem?_of_mem hp
    obtain ⟨h, hh, e1, e2⟩ := hdk_get g1 hi
    have hm : h ∈ gs := pm.mem_iff.mp (List.mem_of_getElem? hh)
    have hv := hdV_nd nd hm
    rcases hdk_val h.1 g2 with ⟨a, _⟩ | ⟨x, v, a, b, c⟩
    · rw [a] at hv
      cases hv
    · obtain rfl := Option.some.inj (hv.symm.trans a)
      exact ⟨v, _, by rw [e1]; exact b, e2, c⟩
theorem dq_pt4 {K : PySem.W.Frag} {H : Hp} {v : V} {P : Pt} (h : Dq K H v (ptD P)) : ∃ a x0 xf r, v = .ref a ∧ SqN K H a [x0, .int P.n, xf, .ref r] ∧ Dq K H x0 (shD P.s) ∧ Dq K H xf (.tuple (P.fs.map fmD)) ∧ SqN K H r [.int P.sk, .int P.gp, .int P.lt, .int P.an] ∧ Dq K H (.ref r) (.tuple [.int P.sk, .int P.gp, .int P.lt, .int P.an]) := by
  obtain ⟨a, xs, rfl, hxs, hds⟩ := dq_tt h
  cases hds with
  | cons a0 r => cases r with
    | cons a1 r => cases r with
      | cons a2 r => cases r with
        | cons a3 r =>
          cases r
          obtain rfl := dq_int a1
          obtain ⟨r, ys, rfl, hys, hds⟩ := dq_tt a3
          cases hds with
          | cons b0 s => cases s with
            | cons b1 s => cases s with
              | cons b2 s => cases s with
                | cons b3 s =>
                  cases s
                  obtain rfl := dq_int b0
                  obtain rfl := dq_int b1
                  obtain rfl := dq_int b2
                  obtain rfl := dq_int b3
                  exact ⟨_, _, _, _, rfl, hxs, a0, a2, hys, a3⟩
theorem snoc_at {α : Type} {l : List α} {x y : α} {i : Nat} {P : Nat → α → Prop} (h : ∀ i y, l[i]? = some y → P i y) (hx : P l.length x) (e : (l ++ [x])[i]? = some y) : P i y := by
  by_cases hi : i < l.length
  · rw [List.getElem?_append_left hi] at e
    exact h i y e
  · rw [List.getElem?_append_right (by omega)] at e
    have z : i = l.length := by
      by_cases c : i - l.length = 0
      · omega
      · rw [List.getElem?_eq_none (by simp; omega)] at e
        cases e
    subst z
    rw [Nat.sub_self] at e
    rw [← Option.some.inj e]
    exact hx
end Sh
/-! roads: a presser, a reader, two rows between -/
namespace Sh
open PySem PySem.Spec PyProof.Rows L2
/-! frames: all but some objects stays -/
def mutU : HO → Prop
  | .lst _ => True
  | .dK _ => True
  | .ins _ _ _ => True
  | _ => False
theorem mut_noT {u : HO} (h : mutU u) : ¬ isTup u := fun z => by
  cases u with
  | frz o w => exact h
  | lst _ => exact z
  | dK _ => exact z
  | ins _ _ _ => exact z
  | _ => exact h
def Mo (A : List Addr) (H H' : Hp) : Prop := ∀ x u, H x = some u → x ∉ A → H' x = some u
def MutA (A : List Addr) (H : Hp) : Prop := ∀ x ∈ A, ∃ u, H x = some u ∧ mutU u
def NewA (A A' : List Addr) (H : Hp) : Prop := ∀ x ∈ A', x ∈ A ∨ H x = none
section
variable {W : Wd} {A A' A2 : List Addr} {H H' H2 H0 : Hp} {p l x : Addr} {v : V} {b : Bool} {n : Int} {u : HO}
theorem Mo.same (e : Same H H') : Mo A H H' := fun x u h _ => e x u h
theorem Mo.mv (e : Mv p l H H') (hp : p ∈ A) (hl : l ∈ A) : Mo A H H' := fun x u h n => e x u h (fun z => n (z ▸ hp)) fun z => n (z ▸ hl)
theorem mo_upd (hx : x ∈ A) : Mo A H (upd H x u) := fun y w h n => by
  rw [upd_ne (show y ≠ x from fun z => n (by rw [z]; exact hx))]
  exact h
theorem mo_trans (e : Mo A H H') (w : NewA A A' H) (e' : Mo A' H' H2) : Mo A H H2 := fun x u h n => e' x u (e x u h n) fun z => by
  rcases w x z with z | z
  · exact n z
  · rw [z] at h
    cases h
theorem NewA.refl : NewA A A H := fun _ h => .inl h
theorem newA_trans (e : Mo A H H') (w : NewA A A' H) (w' : NewA A' A2 H') : NewA A A2 H := fun x h => by
  rcases w' x h with z | z
  · exact w x z
  · cases c : H x with
    | none => exact .inr rfl
    | some u =>
      by_cases m : x ∈ A
      · exact .inl m
      · rw [e x u c m] at z
        cases z
theorem newA_out (w : NewA A A' H) (h : H x = some u) (n : x ∉ A) : x ∉ A' := fun z => by
  rcases w x z with z | z
  · exact n z
  · rw [z] at h
    cases h
theorem mo_st (m : MutA A H) (e : Mo A H H') : St H H' := fun x u h t => e x u h fun z => by
  obtain ⟨w, h2, mw⟩ := m x z
  rw [h] at h2
  rw [← Option.some.inj h2] at mw
  exact mut_noT mw t
theorem mo_box (m : MutA A H) (e : Mo A H H') (hb : BoxAt W b n H v) : BoxAt W b n H' v := by
  obtain ⟨q, o, k, rfl, hpo, hk, hp, ho⟩ := hb
  have key : ∀ y w, H y = some (.ext w) → H' y = some (.ext w) := fun y w h => e y _ h fun z => by
    obtain ⟨u, h2, mu⟩ := m y z
    rw [h] at h2
    rw [← Option.some.inj h2] at mu
    exact mu
  exact ⟨q, o, k, rfl, hpo, hk, key _ _ hp, key _ _ ho⟩
theorem mo_sx (e0 : Sx H0 H) (n : ∀ x ∈ A, H0 x = none) (e : Mo A H H') (c : ∀ x ∈ A, NoC H x := by walk_at "Znoc") : Sx H0 H' := sx_step (A := fun x => x ∈ A) e0 n c e
theorem newA_none (e0 : Sx H0 H) (n : ∀ x ∈ A, H0 x = none) (w : NewA A A' H) : ∀ x ∈ A', H0 x = none := fun x h => by
  rcases w x h with z | z
  · exact n x z
  · exact none_sx e0 z
end
/-! the road -/
structure RoA where
  r : Addr
  p : Addr
  l : Addr
  q : Addr
  h : Addr
  L : Addr
  B : Addr
  R : Addr
def RoA.all (a : RoA) : List Addr := [a.r, a.p, a.l, a.q, a.h, a.L, a.B, a.R]
structure RoS where
  pr : PrS
  rd : RdS
  line : List (Int × Str)
  back : List (Option Int)
  row : List (List Int)
  came : Option Int
def roF (vp : V) (a : RoA) (c : Option Int) : List (Str × V) := [("pact", vp), ("one_end", .ref a.p), ("other_end", .ref a.q), ("line", .ref a.L), ("back", .ref a.B), ("whole_row", .ref a.R), ("came_most", oV c)]
def lnD (x : Int × Str) : PyData := .tuple [.int x.1, .str x.2]
structure RoAt (W : Wd) (H : Hp) (a : RoA) (s : RoS) : Prop where
  nd : a.all.Nodup
  ob : ∃ (dx : Addr) (vp : V), H a.r = some (.ins (clsOf W.K "Road") dx (roF vp a s.came)) ∧ Dq W.K H vp (ptD s.pr.P)
  pr : PrAt W H a.p a.l s.pr
  rd : RdAt W H a.q a.h s.rd
  L : ∃ ls, H a.L = some (.lst ls) ∧ DqAll W.K H ls (s.line.map lnD)
  B : ∃ bs, H a.B = some (.lst bs) ∧ DqAll W.K H bs (s.back.map wdD)
  R : ∃ hs, H a.R = some (.lst hs) ∧ DqAll W.K H hs (s.row.map headD)
theorem tupO_wd (o : Option Int) : tupO (wdD o) := by
  cases o
  · exact ⟨trivial, trivial⟩
  · exact ⟨trivial, trivial, trivial⟩
theorem tupOs_wds (bs : List (Option Int)) : tupOs (bs.map wdD) := tupOs_of fun d hd => by
  obtain ⟨g, _, rfl⟩ := List.mem_map.mp hd
  exact tupO_wd g
theorem tupO_ln (x : Int × Str) : tupO (lnD x) := ⟨trivial, trivial, trivial⟩
theorem tupOs_lns (ls : List (Int × Str)) : tupOs (ls.map lnD) := tupOs_of fun d hd => by
  obtain ⟨g, _, rfl⟩ := List.mem_map.mp hd
  exact tupO_ln g
theorem nd_ne {A : List Addr} (nd : A.Nodup) {i j : Nat} {x y : Addr} (hx : A[i]? = some x) (hy : A[j]? = some y) (h : i ≠ j) : x ≠ y := fun z => by
  obtain ⟨h1, e1⟩ := List.getElem?_eq_some_iff.mp hx
  obtain ⟨h2, e2⟩ := List.getElem?_eq_some_iff.mp hy
  rcases Nat.lt_or_gt_of_ne h with c | c
  · exact List.pairwise_iff_getElem.mp nd i j h1 h2 c (by rw [e1, e2, z])
  · exact List.pairwise_iff_getElem.mp nd j i h2 h1 c (by rw [e1, e2, z])
section
variable {W : Wd} {H H' H0 : Hp} {a : RoA} {s : RoS} {Q : VK} {k : Hp → Prop} {v : V}
theorem ro_mut (h : RoAt W H a s) : MutA a.all H := fun x hx => by
  obtain ⟨dx, vp, h1, _⟩ := h.ob
  obtain ⟨dx2, vp2, hs2, p1, _, p3, _⟩ := h.pr
  obtain ⟨dx3, vp3, hs3, r1, _, r3, _⟩ := h.rd
  obtain ⟨ls, l1, _⟩ := h.L
  obtain ⟨bs, b1, _⟩ := h.B
  obtain ⟨rs, w1, _⟩ := h.R
  have hx : x ∈ [a.r, a.p, a.l, a.q, a.h, a.L, a.B, a.R] := hx
  simp only [List.mem_cons, List.not_mem_nil, or_false] at hx
  rcases hx with rfl | rfl | rfl | rfl | rfl | rfl | rfl | rfl
  · exact ⟨_, h1, trivial⟩
  · exact ⟨_, p1, trivial⟩
  · exact ⟨_, p3, trivial⟩
  · exact ⟨_, r1, trivial⟩
  · exact ⟨_, r3, trivial⟩
  · exact ⟨_, l1, trivial⟩
  · exact ⟨_, b1, trivial⟩
  · exact ⟨_, w1, trivial⟩
theorem ro_sx (e : Sx H H') (h : RoAt W H a s) : RoAt W H' a s := by
  obtain ⟨dx, vp, h1, h2⟩ := h.ob
  obtain ⟨ls, l1, l2⟩ := h.L
  obtain ⟨bs, b1, b2⟩ := h.B
  obtain ⟨rs, w1, w2⟩ := h.R
  exact ⟨h.nd, ⟨dx, vp, e.keep _ _ h1 rfl, dqx e h2⟩, pr_sx e h.pr, rd_sx e h.rd, ⟨ls, e.keep _ _ l1 rfl, dqsx e l2⟩, ⟨bs, e.keep _ _ b1 rfl, dqsx e b2⟩, ⟨rs, e.keep _ _ w1 rfl, dqsx e w2⟩⟩
theorem ro_same (e : Same H H') (h : RoAt W H a s) : RoAt W H' a s := ro_sx (Same.sx e) h
/-- what lies outside is changed -/
theorem ro_mo {A : List Addr} (m : MutA A H) (d : ∀ x ∈ a.all, x ∉ A) (e : Mo A H H') (h : RoAt W H a s) : RoAt W H' a s := by
  have st := mo_st m e
  obtain ⟨dx, vp, h1, h2⟩ := h.ob
  obtain ⟨dx2, vp2, hs2, p1, p2, p3, p4⟩ := h.pr
  obtain ⟨dx3, vp3, hs3, r1, r2, r3, r4⟩ := h.rd
  obtain ⟨ls, l1, l2⟩ := h.L
  obtain ⟨bs, b1, b2⟩ := h.B
  obtain ⟨rs, w1, w2⟩ := h.R
  have k : ∀ {i : Nat} {x u}, a.all[i]? = some x → H x = some u → H' x = some u := fun hi hx => e _ _ hx (d _ (List.mem_of_getElem? hi))
  exact ⟨h.nd, ⟨dx, vp, k (i := 0) rfl h1, dqt st h2 (tupO_pt _)⟩, ⟨dx2, vp2, hs2, k (i := 1) rfl p1, dqt st p2 (tupO_pt _), k (i := 2) rfl p3, dqst st p4 (tupOs_heads _)⟩, ⟨dx3, vp3, hs3, k (i := 3) rfl r1, dqt st r2 (tupO_pt _), k (i := 4) rfl r3, hdk_st st r4⟩,
    ⟨ls, k (i := 5) rfl l1, dqst st l2 (tupOs_lns _)⟩, ⟨bs, k (i := 6) rfl b1, dqst st b2 (tupOs_wds _)⟩, ⟨rs, k (i := 7) rfl w1, dqst st w2 (tupOs_heads _)⟩⟩
/-- the presser moves -/
theorem ro_pr {s' : PrS} (h : RoAt W H a s) (e : Mv a.p a.l H H') (hp : PrAt W H' a.p a.l s') (eP : s'.P = s.pr.P) : RoAt W H' a ⟨s', s.rd, s.line, s.back, s.row, s.came⟩ := by
  have m : ∀ x ∈ [a.p, a.l], x ∈ a.all := fun x hx => by
    simp only [List.mem_cons, List.not_mem_nil, or_false] at hx
    rcases hx with rfl | rfl
    · exact List.mem_of_getElem? (i := 1) rfl
    · exact List.mem_of_getElem? (i := 2) rfl
  have st := prm_st h.pr e
  obtain ⟨dx, vp, h1, h2⟩ := h.ob
  obtain ⟨dx3, vp3, hs3, r1, r2, r3, r4⟩ := h.rd
  obtain ⟨ls, l1, l2⟩ := h.L
  obtain ⟨bs, b1, b2⟩ := h.B
  obtain ⟨rs, w1, w2⟩ := h.R
  have k : ∀ {i : Nat} {x u}, i ≠ 1 → i ≠ 2 → a.all[i]? = some x → H x = some u → H' x = some u := fun n1 n2 hi hx => e _ _ hx (nd_ne h.nd hi (j := 1) rfl n1) (nd_ne h.nd hi (j := 2) rfl n2)
  exact ⟨h.nd, ⟨dx, vp, k (i := 0) (by decide) (by decide) rfl h1, by show Dq W.K H' vp (ptD s'.P); rw [eP]; exact dqt st h2 (tupO_pt _)⟩, hp, ⟨dx3, vp3, hs3, k (i := 3) (by decide) (by decide) rfl r1, dqt st r2 (tupO_pt _), k (i := 4) (by decide) (by decide) rfl r3, hdk_st st r4⟩,
    ⟨ls, k (i := 5) (by decide) (by decide) rfl l1, dqst st l2 (tupOs_lns _)⟩, ⟨bs, k (i := 6) (by decide) (by decide) rfl b1, dqst st b2 (tupOs_wds _)⟩, ⟨rs, k (i := 7) (by decide) (by decide) rfl w1, dqst st w2 (tupOs_heads _)⟩⟩
def RoA.setH (a : RoA) (h : Addr) : RoA := ⟨a.r, a.p, a.l, a.q, h, a.L, a.B, a.R⟩
theorem setH_new {h' : Addr} (n : h' = a.h ∨ H h' = none) : NewA a.all (a.setH h').all H := fun x hx => by
  have hx : x ∈ [a.r, a.p, a.l, a.q, h', a.L, a.B, a.R] := hx
  simp only [List.mem_cons, List.not_mem_nil, or_false] at hx
  rcases hx with rfl | rfl | rfl | rfl | rfl | rfl | rfl | rfl
  · exact .inl (List.mem_of_getElem? (i := 0) rfl)
  · exact .inl (List.mem_of_getElem? (i := 1) rfl)
  · exact .inl (List.mem_of_getElem? (i := 2) rfl)
  · exact .inl (List.mem_of_getElem? (i := 3) rfl)
  · rcases n with z | z
    · exact .inl (z ▸ List.mem_of_getElem? (i := 4) rfl)
    · exact .inr z
  · exact .inl (List.mem_of_getElem? (i := 5) rfl)
  · exact .inl (List.mem_of_getElem? (i := 6) rfl)
  · exact .inl (List.mem_of_getElem? (i := 7) rfl)
theorem setH_nd {h' : Addr} (nd : a.all.Nodup) (n : h' = a.h ∨ ∀ x ∈ a.all, x ≠ h') : (a.setH h').all.Nodup := by
  rcases n with z | z
  · rw [z]; exact nd
  · have nd : [a.r, a.p, a.l, a.q, a.h, a.L, a.B, a.R].Nodup := nd
    have z : ∀ x ∈ [a.r, a.p, a.l, a.q, a.h, a.L, a.B, a.R], x ≠ h' := z
    show [a.r, a.p, a.l, a.q, h', a.L, a.B, a.R].Nodup
    simp only [List.nodup_cons, List.mem_cons, List.not_mem_nil, or_false, not_or, List.nodup_nil, and_true, not_false_eq_true, forall_eq_or_imp, forall_eq] at nd z ⊢
    obtain ⟨⟨a1, a2, a3, a4, a5, a6, a7⟩, ⟨b2, b3, b4, b5, b6, b7⟩, ⟨c3, c4, c5, c6, c7⟩, ⟨d4, d5, d6, d7⟩, ⟨f5, f6, f7⟩, ⟨g6, g7⟩, i7⟩ := nd
    obtain ⟨z0, z1, z2, z3, z4, z5, z6, z7⟩ := z
    exact ⟨⟨a1, a2, a3, z0, a5, a6, a7⟩, ⟨b2, b3, z1, b5, b6, b7⟩, ⟨c3, z2, c5, c6, c7⟩, ⟨z3, d5, d6, d7⟩, ⟨Ne.symm z5, Ne.symm z6, Ne.symm z7⟩, ⟨g6, g7⟩, i7⟩
/-- the reader moves -/
theorem ro_rd {s' : RdS} {h' : Addr} (h : RoAt W H a s) (e : Mv a.q a.h H H') (n : h' = a.h ∨ H h' = none) (hp : RdAt W H' a.q h' s') : RoAt W H' (a.setH h') ⟨s.pr, s', s.line, s.back, s.row, s.came⟩ := by
  have st := rdm_st h.rd e
  have mu := ro_mut h
  have nd' : (a.setH h').all.Nodup := setH_nd h.nd (n.imp id fun z x hx w => by
    obtain ⟨u, hu, _⟩ := mu x hx
    rw [w, z] at hu
    cases hu)
  obtain ⟨dx, vp, h1, h2⟩ := h.ob
  obtain ⟨dx2, vp2, hs2, p1, p2, p3, p4⟩ := h.pr
  obtain ⟨ls, l1, l2⟩ := h.L
  obtain ⟨bs, b1, b2⟩ := h.B
  obtain ⟨rs, w1, w2⟩ := h.R
  have k : ∀ {i : Nat} {x u}, i ≠ 3 → i ≠ 4 → a.all[i]? = some x → H x = some u → H' x = some u := fun n1 n2 hi hx => e _ _ hx (nd_ne h.nd hi (j := 3) rfl n1) (nd_ne h.nd hi (j := 4) rfl n2)
  exact ⟨nd', ⟨dx, vp, k (i := 0) (by decide) (by decide) rfl h1, dqt st h2 (tupO_pt _)⟩, ⟨dx2, vp2, hs2, k (i := 1) (by decide) (by decide) rfl p1, dqt st p2 (tupO_pt _), k (i := 2) (by decide) (by decide) rfl p3, dqst st p4 (tupOs_heads _)⟩, hp,
    ⟨ls, k (i := 5) (by decide) (by decide) rfl l1, dqst st l2 (tupOs_lns _)⟩, ⟨bs, k (i := 6) (by decide) (by decide) rfl b1, dqst st b2 (tupOs_wds _)⟩, ⟨rs, k (i := 7) (by decide) (by decide) rfl w1, dqst st w2 (tupOs_heads _)⟩⟩
theorem ro_st1 {i : Nat} {x : Addr} {u : HO} (h : RoAt W H a s) (hi : a.all[i]? = some x) : St H (upd H x u) := mo_st (A := [x]) (fun y hy => by
  rw [List.mem_singleton.mp hy]
  exact ro_mut h _ (List.mem_of_getElem? hi)) (mo_upd (List.mem_singleton.mpr rfl))
/-- a row changes -/
theorem ro_L {ls : List V} {l' : List (Int × Str)} (h : RoAt W H a s) (d : DqAll W.K H ls (l'.map lnD)) : RoAt W (upd H a.L (.lst ls)) a ⟨s.pr, s.rd, l', s.back, s.row, s.came⟩ := by
  have st := ro_st1 (i := 5) (u := .lst ls) h rfl
  obtain ⟨dx, vp, h1, h2⟩ := h.ob
  obtain ⟨dx2, vp2, hs2, p1, p2, p3, p4⟩ := h.pr
  obtain ⟨dx3, vp3, hs3, r1, r2, r3, r4⟩ := h.rd
  obtain ⟨bs, b1, b2⟩ := h.B
  obtain ⟨rs, w1, w2⟩ := h.R
  have k : ∀ {i : Nat} {x w}, i ≠ 5 → a.all[i]? = some x → H x = some w → upd H a.L (.lst ls) x = some w := fun n1 hi hx => by
    rw [upd_ne (nd_ne h.nd hi (j := 5) rfl n1)]
    exact hx
  exact ⟨h.nd, ⟨dx, vp, k (i := 0) (by decide) rfl h1, dqt st h2 (tupO_pt _)⟩, ⟨dx2, vp2, hs2, k (i := 1) (by decide) rfl p1, dqt st p2 (tupO_pt _), k (i := 2) (by decide) rfl p3, dqst st p4 (tupOs_heads _)⟩, ⟨dx3, vp3, hs3, k (i := 3) (by decide) rfl r1, dqt st r2 (tupO_pt _), k (i := 4) (by decide) rfl r3, hdk_st st r4⟩,
    ⟨ls, upd_same, dqst st d (tupOs_lns _)⟩, ⟨bs, k (i := 6) (by decide) rfl b1, dqst st b2 (tupOs_wds _)⟩, ⟨rs, k (i := 7) (by decide) rfl w1, dqst st w2 (tupOs_heads _)⟩⟩
theorem ro_B {bs : List V} {b' : List (Option Int)} (h : RoAt W H a s) (d : DqAll W.K H bs (b'.map wdD)) : RoAt W (upd H a.B (.lst bs)) a ⟨s.pr, s.rd, s.line, b', s.row, s.came⟩ := by
  have st := ro_st1 (i := 6) (u := .lst bs) h rfl
  obtain ⟨dx, vp, h1, h2⟩ := h.ob
  obtain ⟨dx2, vp2, hs2, p1, p2, p3, p4⟩ := h.pr
  obtain ⟨dx3, vp3, hs3, r1, r2, r3, r4⟩ := h.rd
  obtain ⟨ls, l1, l2⟩ := h.L
  obtain ⟨rs, w1, w2⟩ := h.R
  have k : ∀ {i : Nat} {x w}, i ≠ 6 → a.all[i]? = some x → H x = some w → upd H a.B (.lst bs) x = some w := fun n1 hi hx => by
    rw [upd_ne (nd_ne h.nd hi (j := 6) rfl n1)]
    exact hx
  exact ⟨h.nd, ⟨dx, vp, k (i := 0) (by decide) rfl h1, dqt st h2 (tupO_pt _)⟩, ⟨dx2, vp2, hs2, k (i := 1) (by decide) rfl p1, dqt st p2 (tupO_pt _), k (i := 2) (by decide) rfl p3, dqst st p4 (tupOs_heads _)⟩, ⟨dx3, vp3, hs3, k (i := 3) (by decide) rfl r1, dqt st r2 (tupO_pt _), k (i := 4) (by decide) rfl r3, hdk_st st r4⟩,
    ⟨ls, k (i := 5) (by decide) rfl l1, dqst st l2 (tupOs_lns _)⟩, ⟨bs, upd_same, dqst st d (tupOs_wds _)⟩, ⟨rs, k (i := 7) (by decide) rfl w1, dqst st w2 (tupOs_heads _)⟩⟩
theorem ro_R {hs : List V} {r' : List (List Int)} (h : RoAt W H a s) (d : DqAll W.K H hs (r'.map headD)) : RoAt W (upd H a.R (.lst hs)) a ⟨s.pr, s.rd, s.line, s.back, r', s.came⟩ := by
  have st := ro_st1 (i := 7) (u := .lst hs) h rfl
  obtain ⟨dx, vp, h1, h2⟩ := h.ob
  obtain ⟨dx2, vp2, hs2, p1, p2, p3, p4⟩ := h.pr
  obtain ⟨dx3, vp3, hs3, r1, r2, r3, r4⟩ := h.rd
  obtain ⟨ls, l1, l2⟩ := h.L
  obtain ⟨bs, b1, b2⟩ := h.B
  have k : ∀ {i : Nat} {x w}, i ≠ 7 → a.all[i]? = some x → H x = some w → upd H a.R (.lst hs) x = some w := fun n1 hi hx => by
    rw [upd_ne (nd_ne h.nd hi (j := 7) rfl n1)]
    exact hx
  exact ⟨h.nd, ⟨dx, vp, k (i := 0) (by decide) rfl h1, dqt st h2 (tupO_pt _)⟩, ⟨dx2, vp2, hs2, k (i := 1) (by decide) rfl p1, dqt st p2 (tupO_pt _), k (i := 2) (by decide) rfl p3, dqst st p4 (tupOs_heads _)⟩, ⟨dx3, vp3, hs3, k (i := 3) (by decide) rfl r1, dqt st r2 (tupO_pt _), k (i := 4) (by decide) rfl r3, hdk_st st r4⟩,
    ⟨ls, k (i := 5) (by decide) rfl l1, dqst st l2 (tupOs_lns _)⟩, ⟨bs, k (i := 6) (by decide) rfl b1, dqst st b2 (tupOs_wds _)⟩, ⟨hs, upd_same, dqst st d (tupOs_heads _)⟩⟩
theorem w_roSetCame {c : Option Int} (h : RoAt W H a s) (q : ∀ H', Mo a.all H H' → RoAt W H' a ⟨s.pr, s.rd, s.line, s.back, s.row, c⟩ → k H') : SfOk (clsOf W.K "Road") "came_most" (oV c) k (.ref a.r) H := by
  obtain ⟨dx, vp, h1, h2⟩ := h.ob
  have st := ro_st1 (i := 0) (u := .ins (clsOf W.K "Road") dx (putF "came_most" (oV c) (roF vp a s.came))) h rfl
  obtain ⟨dx2, vp2, hs2, p1, p2, p3, p4⟩ := h.pr
  obtain ⟨dx3, vp3, hs3, r1, r2, r3, r4⟩ := h.rd
  obtain ⟨ls, l1, l2⟩ := h.L
  obtain ⟨bs, b1, b2⟩ := h.B
  obtain ⟨rs, w1, w2⟩ := h.R
  have k : ∀ {i : Nat} {x w}, i ≠ 0 → a.all[i]? = some x → H x = some w → upd H a.r (.ins (clsOf W.K "Road") dx (putF "came_most" (oV c) (roF vp a s.came))) x = some w := fun n1 hi hx => by
    rw [upd_ne (nd_ne h.nd hi (j := 0) rfl n1)]
    exact hx
  refine w_sfok h1 (by show 7 < 1000; decide) (q _ (mo_upd (List.mem_of_getElem? (i := 0) rfl)) ⟨h.nd, ⟨dx, vp, ?_, dqt st h2 (tupO_pt _)⟩, ⟨dx2, vp2, hs2, k (i := 1) (by decide) rfl p1, dqt st p2 (tupO_pt _), k (i := 2) (by decide) rfl p3, dqst st p4 (tupOs_heads _)⟩, ⟨dx3, vp3, hs3, k (i := 3) (by decide) rfl r1, dqt st r2 (tupO_pt _), k (i := 4) (by decide) rfl r3, hdk_st st r4⟩,
    ⟨ls, k (i := 5) (by decide) rfl l1, dqst st l2 (tupOs_lns _)⟩, ⟨bs, k (i := 6) (by decide) rfl b1, dqst st b2 (tupOs_wds _)⟩, ⟨rs, k (i := 7) (by decide) rfl w1, dqst st w2 (tupOs_heads _)⟩⟩)
  rw [upd_same]
  unfold roF
  rw [pf_miss (by decide +kernel), pf_miss (by decide +kernel), pf_miss (by decide +kernel), pf_miss (by decide +kernel), pf_miss (by decide +kernel), pf_miss (by decide +kernel), pf_hit]
theorem w_roPact (h : RoAt W H a s) (q : ∀ v, Dq W.K H v (ptD s.pr.P) → Q v H) : FdOk (clsOf W.K "Road") "pact" Q (.ref a.r) H := by
  obtain ⟨dx, vp, h1, h2⟩ := h.ob
  exact w_fdok h1 lk_hit (q vp h2)
theorem w_roOne (h : RoAt W H a s) (q : Q (.ref a.p) H) : FdOk (clsOf W.K "Road") "one_end" Q (.ref a.r) H := by
  obtain ⟨dx, vp, h1, h2⟩ := h.ob
  exact w_fdok h1 ((lk_miss (by decide +kernel)).trans lk_hit) q
theorem w_roOther (h : RoAt W H a s) (q : Q (.ref a.q) H) : FdOk (clsOf W.K "Road") "other_end" Q (.ref a.r) H := by
  obtain ⟨dx, vp, h1, h2⟩ := h.ob
  exact w_fdok h1 ((lk_miss (by decide +kernel)).trans ((lk_miss (by decide +kernel)).trans lk_hit)) q
theorem w_roLine (h : RoAt W H a s) (q : Q (.ref a.L) H) : FdOk (clsOf W.K "Road") "line" Q (.ref a.r) H := by
  obtain ⟨dx, vp, h1, h2⟩ := h.ob
  exact w_fdok h1 ((lk_miss (by decide +kernel)).trans ((lk_miss (by decide +kernel)).trans ((lk_miss (by decide +kernel)).trans lk_hit))) q
theorem w_roBack (h : RoAt W H a s) (q : Q (.ref a.B) H) : FdOk (clsOf W.K "Road") "back" Q (.ref a.r) H := by
  obtain ⟨dx, vp, h1, h2⟩ := h.ob
  exact w_fdok h1 ((lk_miss (by decide +kernel)).trans ((lk_miss (by decide +kernel)).trans ((lk_miss (by decide +kernel)).trans ((lk_miss (by decide +kernel)).trans lk_hit)))) q
theorem w_roRow (h : RoAt W H a s) (q : Q (.ref a.R) H) : FdOk (clsOf W.K "Road") "whole_row" Q (.ref a.r) H := by
  obtain ⟨dx, vp, h1, h2⟩ := h.ob
  exact w_fdok h1 ((lk_miss (by decide +kernel)).trans ((lk_miss (by decide +kernel)).trans ((lk_miss (by decide +kernel)).trans ((lk_miss (by decide +kernel)).trans ((lk_miss (by decide +kernel)).trans lk_hit))))) q
theorem w_roCame (h : RoAt W H a s) (q : Q (oV s.came) H) : FdOk (clsOf W.K "Road") "came_most" Q (.ref a.r) H := by
  obtain ⟨dx, vp, h1, h2⟩ := h.ob
  exact w_fdok h1 ((lk_miss (by decide +kernel)).trans ((lk_miss (by decide +kernel)).trans ((lk_miss (by decide +kernel)).trans ((lk_miss (by decide +kernel)).trans ((lk_miss (by decide +kernel)).trans ((lk_miss (by decide +kernel)).trans lk_hit)))))) q
def roNo (m : Str) : Bool := !(m == "pact") && (!(m == "one_end") && (!(m == "other_end") && (!(m == "line") && (!(m == "back") && (!(m == "whole_row") && !(m == "came_most"))))))
theorem w_mtRo {m : Str} {t : TA} {sp : Sp} {E : XK} {σ : L2.St} (h : RoAt W H a s) (n : roNo m = true) (q : t σ H fun vs H2 => sp (.ref a.r :: vs) H2 Q E) : MtOk (clsOf W.K "Road") m t sp E σ Q (.ref a.r) H := by
  obtain ⟨dx, vp, h1, h2⟩ := h.ob
  unfold roNo at n
  simp only [Bool.and_eq_true, Bool.not_eq_true'] at n
  obtain ⟨n1, n2, n3, n4, n5, n6, n7⟩ := n
  exact w_mtok h1 ((lk_miss n1).trans ((lk_miss n2).trans ((lk_miss n3).trans ((lk_miss n4).trans ((lk_miss n5).trans ((lk_miss n6).trans ((lk_miss n7).trans rfl))))))) q
end
/-! rows, cut at a place -/
theorem dqs_erase {K : PySem.W.Frag} {H : Hp} : ∀ {vs : List V} {ds : List PyData} (k : Nat), DqAll K H vs ds → DqAll K H (vs.eraseIdx k) (ds.eraseIdx k)
  | _, _, _, .nil => .nil
  | _, _, 0, .cons _ r => r
  | _, _, k + 1, .cons h r => .cons h (dqs_erase k r)
theorem map_erase {α β : Type} (f : α → β) : ∀ (l : List α) (k : Nat), (l.eraseIdx k).map f = (l.map f).eraseIdx k
  | [], _ => rfl
  | _ :: _, 0 => rfl
  | x :: r, k + 1 => by
    show f x :: (r.eraseIdx k).map f = f x :: (r.map f).eraseIdx k
    rw [map_erase f r k]
theorem w_popK {H : Hp} {Q : VK} {a : Addr} {xs : List V} {k : Nat} {y : V} (h : H a = some (.lst xs)) (hk : xs[k]? = some y) (hl : xs.length ≤ 1000000) (q : Q y (upd H a (.lst (xs.eraseIdx k)))) : rPopAt (.ref a) [.int (k : Int)] H Q := by
  have hk2 := (List.getElem?_eq_some_iff.mp hk).1
  refine ⟨a, xs, (k : Int), k, y, rfl, rfl, h, by omega, by omega, ?_, hk, q⟩
  unfold seqIndex?
  simp
  omega
/-! new roads -/
def Liv (A : List Addr) (H : Hp) : Prop := ∀ x ∈ A, ∃ u, H x = some u
theorem nd_snoc {A : List Addr} {H : Hp} {n : Addr} (nd : A.Nodup) (l : Liv A H) (h : H n = none) : (A ++ [n]).Nodup := by
  rw [List.nodup_append]
  exact ⟨nd, List.nodup_cons.mpr ⟨(fun z => nomatch z), List.nodup_nil⟩, fun x hx y hy z => by
    rw [List.mem_singleton.mp hy] at z
    obtain ⟨u, hu⟩ := l x hx
    rw [z, h] at hu
    cases hu⟩
theorem nd_snoc2 {A : List Addr} {H : Hp} {n m : Addr} (nd : A.Nodup) (l : Liv A H) (h : H n = none) (h2 : H m = none) (nm : n ≠ m) : (A ++ [n] ++ [m]).Nodup := by
  have a := nd_snoc nd l h
  rw [List.nodup_append]
  exact ⟨a, List.nodup_cons.mpr ⟨(fun z => nomatch z), List.nodup_nil⟩, fun x hx y hy z => by
    rw [List.mem_singleton.mp hy] at z
    rcases List.mem_append.mp hx with c | c
    · obtain ⟨u, hu⟩ := l x c
      rw [z, h2] at hu
      cases hu
    · exact nm ((List.mem_singleton.mp c).symm.trans z)⟩
theorem liv_same {A : List Addr} {H H' : Hp} (l : Liv A H) (e : Same H H') : Liv A H' := fun x hx => by
  obtain ⟨u, hu⟩ := l x hx
  exact ⟨u, e _ _ hu⟩
theorem liv_upd {A : List Addr} {H : Hp} {r : Addr} {w : HO} (l : Liv A H) : Liv A (upd H r w) := fun x hx => by
  by_cases c : x = r
  · rw [c, upd_same]
    exact ⟨w, rfl⟩
  · rw [upd_ne c]
    exact l x hx
theorem liv_add {A : List Addr} {H : Hp} {n : Addr} {u : HO} (l : Liv A H) (h : H n = some u) : Liv (A ++ [n]) H := fun x hx => by
  rcases List.mem_append.mp hx with c | c
  · exact l x c
  · rw [List.mem_singleton.mp c]
    exact ⟨u, h⟩
theorem pr_mo {W : Wd} {H H' : Hp} {A : List Addr} {p l : Addr} {s : PrS} (m : MutA A H) (n1 : p ∉ A) (n2 : l ∉ A) (e : Mo A H H') (h : PrAt W H p l s) : PrAt W H' p l s := by
  have st := mo_st m e
  obtain ⟨dx2, vp2, hs2, p1, p2, p3, p4⟩ := h
  exact ⟨dx2, vp2, hs2, e _ _ p1 n1, dqt st p2 (tupO_pt _), e _ _ p3 n2, dqst st p4 (tupOs_heads _)⟩
theorem rd_mo {W : Wd} {H H' : Hp} {A : List Addr} {p l : Addr} {s : RdS} (m : MutA A H) (n1 : p ∉ A) (n2 : l ∉ A) (e : Mo A H H') (h : RdAt W H p l s) : RdAt W H' p l s := by
  have st := mo_st m e
  obtain ⟨dx3, vp3, hs3, r1, r2, r3, r4⟩ := h
  exact ⟨dx3, vp3, hs3, e _ _ r1 n1, dqt st r2 (tupO_pt _), e _ _ r3 n2, hdk_st st r4⟩
theorem mut_one {H : Hp} {r C dx : Addr} {fs : List (Str × V)} (h : H r = some (.ins C dx fs)) : MutA [r] H := fun x hx => by
  rw [List.mem_singleton.mp hx]
  exact ⟨_, h, trivial⟩
theorem roF_mk {vp : V} {a : RoA} : putF "came_most" .non (putF "whole_row" (.ref a.R) (putF "back" (.ref a.B) (putF "line" (.ref a.L) (putF "other_end" (.ref a.q) (putF "one_end" (.ref a.p) (putF "pact" vp [])))))) = roF vp a none := by
  rw [show putF "pact" vp [] = ([("pact", vp)] : List (Str × V)) from rfl,
    show putF "one_end" (V.ref a.p) [("pact", vp)] = ([("pact", vp), ("one_end", V.ref a.p)] : List (Str × V)) from pf_m (by decide +kernel) rfl,
    show putF "other_end" (V.ref a.q) [("pact", vp), ("one_end", V.ref a.p)] = ([("pact", vp), ("one_end", V.ref a.p), ("other_end", V.ref a.q)] : List (Str × V)) from pf_m (by decide +kernel) (pf_m (by decide +kernel) rfl),
    show putF "line" (V.ref a.L) [("pact", vp), ("one_end", V.ref a.p), ("other_end", V.ref a.q)] = ([("pact", vp), ("one_end", V.ref a.p), ("other_end", V.ref a.q), ("line", V.ref a.L)] : List (Str × V)) from pf_m (by decide +kernel) (pf_m (by decide +kernel) (pf_m (by decide +kernel) rfl)),
    show putF "back" (V.ref a.B) [("pact", vp), ("one_end", V.ref a.p), ("other_end", V.ref a.q), ("line", V.ref a.L)] = ([("pact", vp), ("one_end", V.ref a.p), ("other_end", V.ref a.q), ("line", V.ref a.L), ("back", V.ref a.B)] : List (Str × V)) from pf_m (by decide +kernel) (pf_m (by decide +kernel) (pf_m (by decide +kernel) (pf_m (by decide +kernel) rfl))),
    show putF "whole_row" (V.ref a.R) [("pact", vp), ("one_end", V.ref a.p), ("other_end", V.ref a.q), ("line", V.ref a.L), ("back", V.ref a.B)] = ([("pact", vp), ("one_end", V.ref a.p), ("other_end", V.ref a.q), ("line", V.ref a.L), ("back", V.ref a.B), ("whole_row", V.ref a.R)] : List (Str × V)) from pf_m (by decide +kernel) (pf_m (by decide +kernel) (pf_m (by decide +kernel) (pf_m (by decide +kernel) (pf_m (by decide +kernel) rfl)))),
    show putF "came_most" V.non [("pact", vp), ("one_end", V.ref a.p), ("other_end", V.ref a.q), ("line", V.ref a.L), ("back", V.ref a.B), ("whole_row", V.ref a.R)] = ([("pact", vp), ("one_end", V.ref a.p), ("other_end", V.ref a.q), ("line", V.ref a.L), ("back", V.ref a.B), ("whole_row", V.ref a.R), ("came_most", V.non)] : List (Str × V)) from pf_m (by decide +kernel) (pf_m (by decide +kernel) (pf_m (by decide +kernel) (pf_m (by decide +kernel) (pf_m (by decide +kernel) (pf_m (by decide +kernel) rfl)))))]
  rfl
/-! deeds -/
inductive Dk where
  | come
  | copy
  | lose
  | word
  | echo
  | drop
def Dk.str : Dk → Str
  | .come => "come"
  | .copy => "copy"
  | .lose => "lose"
  | .word => "word"
  | .echo => "echo"
  | .drop => "drop"
def Dk.let : Dk → Bool
  | .come => true
  | .copy => true
  | .lose => true
  | _ => false
def Dk.arr : Dk → Bool
  | .come => true
  | .copy => true
  | _ => false
def Dk.hea : Dk → Bool
  | .word => true
  | .echo => true
  | _ => false
theorem dk_forget (k : Dk) : decide (k.str = "forget") = false := by cases k <;> decide +kernel
theorem dk_press (k : Dk) : decide (k.str = "press") = false := by cases k <;> decide +kernel
theorem dk_let (k : Dk) : ((["come", "copy", "lose"] : List Str).any fun y => decide (y = k.str)) = k.let := by cases k <;> decide +kernel
theorem dk_six (k : Dk) : ((["come", "copy", "lose", "word", "echo", "drop"] : List Str).any fun y => decide (y = k.str)) = true := by cases k <;> decide +kernel
theorem dk_arr (k : Dk) : ((["come", "copy"] : List Str).any fun y => decide (y = k.str)) = k.arr := by cases k <;> decide +kernel
theorem dk_hea (k : Dk) : ((["word", "echo"] : List Str).any fun y => decide (y = k.str)) = k.hea := by cases k <;> decide +kernel
theorem dk_come (k : Dk) : decide (k.str = "come") = (match k with | .come => true | _ => false) := by cases k <;> decide +kernel
theorem dk_echo (k : Dk) : decide (k.str = "echo") = (match k with | .echo => true | _ => false) := by cases k <;> decide +kernel
theorem dqs_strs {K : PySem.W.Frag} {H : Hp} : ∀ zs : List Str, DqAll K H (zs.map V.str) (zs.map PyData.str)
  | [] => .nil
  | _ :: r => .cons (.str _) (dqs_strs r)
theorem ktup_dq {K : PySem.W.Frag} {H : Hp} {a : Addr} {zs : List Str} (h : KTup K a (zs.map V.str)) : Dq K H (.ref a) (.tuple (zs.map PyData.str)) := .tup h.n (dqs_strs zs)
theorem dqs_str_of {K : PySem.W.Frag} {H : Hp} : ∀ {vs : List V} {zs : List Str}, DqAll K H vs (zs.map PyData.str) → vs = zs.map V.str
  | _, [], .nil => rfl
  | _, _ :: _, .cons h r => by
    rw [dq_str h, dqs_str_of r]
    rfl
theorem w_inQT {K : PySem.W.Frag} {H : Hp} {Q : VK} {v : V} {z : Str} {zs : List Str} (h : Dq K H v (.tuple (zs.map PyData.str))) (q : Q (.bl (zs.any fun y => decide (y = z))) H) : rInU K (.str z) v H Q := by
  obtain ⟨a, xs, rfl, hx, r⟩ := dq_tt h
  rw [dqs_str_of r] at hx
  exact w_inTs hx.t q
/-! frames with views: pots move, too -/
structure MoX (A : List Addr) (H H' : Hp) : Prop where
  keep : ∀ x u, H x = some u → noE u = true → x ∉ A → H' x = some u
  there : ∀ x u, H x = some u → x ∉ A → ∃ w, H' x = some w
section
variable {W : Wd} {A A' A2 : List Addr} {H H' H2 H0 : Hp} {c : Addr} {u : HO}
theorem MoX.refl : MoX A H H := ⟨fun _ _ h _ _ => h, fun _ u h _ => ⟨u, h⟩⟩
theorem Sx.mox (e : Sx H H') : MoX A H H' := ⟨fun x u h n _ => e.keep x u h n, fun x u h _ => e.there x u h⟩
theorem Same.mox (e : Same H H') : MoX A H H' := (Same.sx e).mox
theorem Mo.mox (e : Mo A H H') : MoX A H H' := ⟨fun x u h _ n => e x u h n, fun x u h n => ⟨u, e x u h n⟩⟩
theorem mox_sub (s : ∀ x ∈ A, x ∈ A') (e : MoX A H H') : MoX A' H H' := ⟨fun x u h n m => e.keep x u h n fun z => m (s x z), fun x u h m => e.there x u h fun z => m (s x z)⟩
theorem mox_trans (e : MoX A H H') (w : NewA A A' H) (e' : MoX A' H' H2) : MoX A H H2 := by
  have out : ∀ x u, H x = some u → x ∉ A → x ∉ A' := fun x u h n z => by
    rcases w x z with z | z
    · exact n z
    · rw [z] at h
      cases h
  refine ⟨fun x u h n m => e'.keep x u (e.keep x u h n m) n (out x u h m), fun x u h m => ?_⟩
  obtain ⟨v, hv⟩ := e.there x u h m
  exact e'.there x v hv (out x u h m)
theorem newX_trans (e : MoX A H H') (w : NewA A A' H) (w' : NewA A' A2 H') : NewA A A2 H := fun x h => by
  rcases w' x h with z | z
  · exact w x z
  · cases c : H x with
    | none => exact .inr rfl
    | some u =>
      by_cases m : x ∈ A
      · exact .inl m
      · obtain ⟨v, hv⟩ := e.there x u c m
        rw [hv] at z
        cases z
theorem mox_st (m : MutA A H) (e : MoX A H H') : St H H' := fun x u h t => e.keep x u h (tup_noE t) fun z => by
  obtain ⟨w, h2, mw⟩ := m x z
  rw [h] at h2
  rw [← Option.some.inj h2] at mw
  exact mut_noT mw t
theorem mox_sx (e0 : Sx H0 H) (n : ∀ x ∈ A, H0 x = none) (e : MoX A H H') (z : TbOk H0 H' := by walk_at "Znoc") : Sx H0 H' := by
  have ne : ∀ x u, H0 x = some u → x ∉ A := fun x u h z => by
    rw [n x z] at h
    cases h
  refine sx_mk (fun x u h hn => e.keep x u (e0.keep x u h hn) hn (ne x u h)) (fun x u h => ?_) z
  obtain ⟨w, hw⟩ := e0.there x u h
  exact e.there x w hw (ne x u h)
theorem newA_cons (w : NewA A A' H) : NewA (c :: A) (c :: A') H := fun x h => by
  rcases List.mem_cons.mp h with z | z
  · exact .inl (z ▸ List.mem_cons_self)
  · exact (w x z).imp (List.mem_cons_of_mem _) id
theorem mut_cons (m : MutA A H) (h : H c = some u) (hu : mutU u) : MutA (c :: A) H := fun x hx => by
  rcases List.mem_cons.mp hx with z | z
  · rw [z]
    exact ⟨u, h, hu⟩
  · exact m x z
end
/-- whether a letter may not come by now -/
def frmB : Option Nat → Bool
  | none => false
  | some _ => true
def lateC (c : Option Int) (lt n : Int) : Bool := match c with
  | none => false
  | some c => decide (lt < c - n)
def gapB (g : Option Int) (gp n : Int) (t : Option Nat) : Bool := match g with
  | none => false
  | some g => decide (g + gp + 1 < n) && frmB t
def beyB (s : RoS) (t : Option Nat) (n : Int) : Bool := lateC s.came s.pr.P.lt n || gapB s.rd.top s.pr.P.gp n t
/-! what is told, compared -/
theorem sok_twice : PyData.strOk ("twice" : Str) = true := by decide +kernel
theorem eqvR (x : Int) (hd : List Int) : PyData.eqv (tlD (.read x hd)) (tlD (.read x hd)) = true := by
  have e3 : PyData.eqv (headD hd) (headD hd) = true := by
    show PyData.eqv (.tuple (hd.map .int)) (.tuple (hd.map .int)) = _
    rw [PyData.eqv, eqvAll_ints]
    exact decide_eq_true rfl
  show PyData.eqv (.tuple [.str "read", .int x, headD hd]) (.tuple [.str "read", .int x, headD hd]) = true
  simp [PyData.eqv, PyData.eqvAll, e3]
theorem shpR (x : Int) (hd : List Int) : SeqAt.shaped (tlD (.read x hd)) = true := by
  have c : (headD hd).canLay0 = true := SeqAt.canLay_of_shaped (shaped_tints hd)
  have d := depth_head hd
  show SeqAt.shaped (.tuple [.str "read", .int x, headD hd]) = true
  unfold SeqAt.shaped
  rw [Bool.and_eq_true, decide_eq_true_iff]
  refine ⟨?_, ?_⟩
  · simp [PyData.canLay0, PyData.canLayAll0, sok_read, c]
  · unfold PyData.depth PyData.depthAll PyData.depthAll PyData.depthAll PyData.depthAll
    simp [PyData.depth]
    omega
theorem eqvT (x : Int) : PyData.eqv (tlD (.twice x)) (tlD (.twice x)) = true := by
  show PyData.eqv (.tuple [.str "twice", .int x]) (.tuple [.str "twice", .int x]) = true
  simp [PyData.eqv, PyData.eqvAll]
theorem shpT (x : Int) : SeqAt.shaped (tlD (.twice x)) = true := by
  show SeqAt.shaped (.tuple [.str "twice", .int x]) = true
  simp [sok_twice, SeqAt.shaped, PyData.canLay0, PyData.canLayAll0, PyData.depth, PyData.depthAll]
theorem newX_transC {A A' A2 : List Addr} {H H' : Hp} {c : Addr} {u : HO} (e : MoX (c :: A) H H') (hc : H' c = some u) (w : NewA A A' H) (w' : NewA A' A2 H') : NewA A A2 H := fun x h => by
  rcases w' x h with z | z
  · exact w x z
  · cases k : H x with
    | none => exact .inr rfl
    | some u =>
      by_cases m : x ∈ A
      · exact .inl m
      · obtain ⟨v, hv⟩ := e.there x u k fun y => by
          rcases List.mem_cons.mp y with y | y
          · rw [y, hc] at z
            cases z
          · exact m y
        rw [hv] at z
        cases z
/-- the word that goes back -/
def wrdO : Tld → Option Int
  | .twice n => some n
  | .read n _ => some n
  | _ => none
end Sh
/-! roads on which nothing is forgotten, and what comes is near enough -/
namespace Sh
open PySem PySem.Spec PyProof.Rows L2
/-- what a letter on the way leans on -/
def SurT (P : Pt) (past : List (List Int)) (C : List Int) (i : Nat) (hd : List Int) : Option Nat → Prop
  | none => True
  | some j => ∃ (f : Fm) (m lt : Int), P.fs[j]? = some f ∧ (m ∈ C ∨ (m = (i : Int) - 1 - P.sk ∧ 0 ≤ m)) ∧ m < (i : Int) ∧ (i : Int) - f.r ≤ m ∧ (i : Int) + P.lt - lt < p2 f.c ∧ (lt ≤ 0 ∨ lt ≤ (i : Int) - 1 - P.gp ∨ ∃ x ∈ C, lt ≤ x - P.lt) ∧ SuA P.s f hd (foP (past.take i) f.r.toNat)
def LetW (P : Pt) (n : Int) (z : Str) (t : Option Nat) (hd : List Int) : Prop := z = letT P t n hd ∧ AtOk P t ∧ OkHead P.s.fs hd
structure RoI (s : RoS) (C : List Int) : Prop where
  okp : OkPr s.pr
  okr : OkRd s.rd
  eP : s.rd.P = s.pr.P
  row : s.row = s.pr.past
  n9 : (s.pr.past.length : Int) ≤ p2 s.pr.P.n
  kp : KpI s.rd C
  ct : s.came = s.rd.top
  tp : ∀ g, s.rd.top = some g → g ∈ C ∧ ∀ x ∈ C, x ≤ g
  cb : ∀ x ∈ C, ∃ i : Nat, x = (i : Int) ∧ i < s.pr.past.length
  hds : ∀ h ∈ s.rd.held, ∃ i : Nat, h.1 = (i : Int) ∧ s.pr.past[i]? = some h.2
  hl : s.rd.held.length ≤ C.length
  back : ∀ o ∈ s.back, ∃ n, o = some n ∧ n ∈ C
  fr : s.pr.fresh = 0
  hb : s.pr.had = s.pr.base
  bc : ∀ m, s.pr.base = some m → m ∈ C
  line : ∀ x ∈ s.line, ∃ (i : Nat) (t : Option Nat) (hd : List Int), x.1 = (i : Int) ∧ s.pr.past[i]? = some hd ∧ LetW s.pr.P x.1 x.2 t hd ∧ SurT s.pr.P s.pr.past C i hd t
theorem surT_mono {P : Pt} {past : List (List Int)} {C C' : List Int} {i : Nat} {hd : List Int} {t : Option Nat} (sub : ∀ x ∈ C, x ∈ C') (h : SurT P past C i hd t) : SurT P past C' i hd t := by
  cases t with
  | none => trivial
  | some j =>
    obtain ⟨f, m, lt, h1, h2, h3, h4, h5, h6, h7⟩ := h
    refine ⟨f, m, lt, h1, h2.imp (sub m) id, h3, h4, h5, ?_, h7⟩
    rcases h6 with h6 | h6 | ⟨x, hx, h6⟩
    · exact .inl h6
    · exact .inr (.inl h6)
    · exact .inr (.inr ⟨x, sub x hx, h6⟩)
theorem surT_past {P : Pt} {past : List (List Int)} {C : List Int} {i : Nat} {hd h2 : List Int} {t : Option Nat} (hi : i ≤ past.length) (h : SurT P past C i hd t) : SurT P (past ++ [h2]) C i hd t := by
  cases t with
  | none => trivial
  | some j =>
    obtain ⟨f, m, lt, h1, h2, h3, h4, h5, h6, h7⟩ := h
    exact ⟨f, m, lt, h1, h2, h3, h4, h5, h6, by rw [List.take_append_of_le_length hi]; exact h7⟩
/-- what the presser takes leans on what came -/
theorem sur_press {s : PrS} {C : List Int} {hd : List Int} {us : List Nat} (ok : OkPr s) (fr : s.fresh = 0) (hb : s.had = s.base) (bc : ∀ m, s.base = some m → m ∈ C) (cb : ∀ x ∈ C, ∃ i : Nat, x = (i : Int) ∧ i < s.past.length) (hu : UseR s hd us) : SurT s.P s.past C s.past.length hd (cho s.P us) := by
  cases hc : cho s.P us with
  | none => trivial
  | some j =>
    have hj : j ∈ us := by
      rcases cho_in us none j hc with z | z
      · exact z
      · cases z
    have hjl := hu.mem hj
    have hf : s.P.fs[j]? = some s.P.fs[j] := List.getElem?_eq_getElem hjl
    obtain ⟨g, rfl, hg⟩ := hu
    obtain ⟨r, hr, e⟩ := hg j _ hf
    have hgj := (List.mem_filter.mp hj).2
    have er := e.mp hgj
    generalize s.P.fs[j] = f at hf hr
    subst er
    unfold HinR at hr
    have c1 : ¬ tnB s = true := fun c => by rw [if_pos c] at hr; cases hr
    rw [if_neg c1] at hr
    have c2 : ¬ shB s f.r = false := fun c => by rw [if_pos c] at hr; cases hr
    rw [if_neg c2] at hr
    have c3 : ¬ cntB s f.c = false := fun c => by rw [if_pos c] at hr; cases hr
    rw [if_neg c3] at hr
    obtain ⟨d, ed, hd'⟩ := hr
    injection ed with ed
    subst ed
    have hd' : SuA s.P.s f hd (foP s.past f.r.toNat) := hd'
    have sk0 := ok.ok.sk0
    have c3 : (s.past.length : Int) + s.P.lt - ltI s < p2 f.c := by
      unfold cntB at c3
      rw [decide_eq_false_iff_not] at c3
      exact Classical.not_not.mp c3
    have hlt : ltI s ≤ 0 ∨ ltI s ≤ (s.past.length : Int) - 1 - s.P.gp ∨ ∃ x ∈ C, ltI s ≤ x - s.P.lt := by
      have z : ltI s = 0 ∨ ltI s = (s.past.length : Int) - 1 - s.P.gp ∨ ∃ h, s.had = some h ∧ ltI s = h - s.P.lt := by
        unfold ltI maxI
        cases h1 : s.had with
        | none =>
          dsimp only
          by_cases c : (s.past.length : Int) - 1 - s.P.gp > 0
          · rw [if_pos c]
            exact .inr (.inl rfl)
          · rw [if_neg c]
            exact .inl rfl
        | some h =>
          dsimp only
          by_cases c : (s.past.length : Int) - 1 - s.P.gp > 0
          · rw [if_pos c]
            by_cases c2 : h - s.P.lt > (s.past.length : Int) - 1 - s.P.gp
            · rw [if_pos c2]
              exact .inr (.inr ⟨h, rfl, rfl⟩)
            · rw [if_neg c2]
              exact .inr (.inl rfl)
          · rw [if_neg c]
            by_cases c2 : h - s.P.lt > 0
            · rw [if_pos c2]
              exact .inr (.inr ⟨h, rfl, rfl⟩)
            · rw [if_neg c2]
              exact .inl rfl
      rcases z with z | z | ⟨h, h1, z⟩
      · exact .inl (by omega)
      · exact .inr (.inl (by omega))
      · exact .inr (.inr ⟨h, bc h (hb ▸ h1), by omega⟩)
    have hsh : ∃ m, shM s = some m ∧ (s.past.length : Int) - f.r ≤ m := by
      unfold shB at c2
      cases h1 : shM s with
      | none => rw [h1] at c2; exact (c2 rfl).elim
      | some m =>
        rw [h1] at c2
        refine ⟨m, rfl, ?_⟩
        have c2 : ¬ decide ((s.past.length : Int) - f.r ≤ m) = false := c2
        rw [decide_eq_false_iff_not] at c2
        exact Classical.not_not.mp c2
    obtain ⟨m, hm, hr⟩ := hsh
    have hm2 : m ∈ C ∨ (m = (s.past.length : Int) - 1 - s.P.sk ∧ 0 ≤ m) := by
      unfold shM at hm
      rw [fr] at hm
      cases h1 : s.base with
      | none =>
        rw [h1] at hm
        by_cases c : (s.past.length : Int) - 1 - s.P.sk < 0
        · rw [if_pos c] at hm
          cases hm
        · rw [if_neg c] at hm
          have hm : some ((s.past.length : Int) - 1 - s.P.sk) = some m := hm
          have := Option.some.inj hm
          exact .inr ⟨this.symm, by omega⟩
      | some b =>
        have hbC := bc b h1
        rw [h1] at hm
        by_cases c : (s.past.length : Int) - 1 - s.P.sk < 0
        · rw [if_pos c] at hm
          have hm : some b = some m := hm
          exact .inl (Option.some.inj hm ▸ hbC)
        · rw [if_neg c] at hm
          have hm : (if b < (s.past.length : Int) - 1 - s.P.sk then some ((s.past.length : Int) - 1 - s.P.sk) else some b) = some m := hm
          by_cases c2 : b < (s.past.length : Int) - 1 - s.P.sk
          · rw [if_pos c2] at hm
            have := Option.some.inj hm
            exact .inr ⟨this.symm, by omega⟩
          · rw [if_neg c2] at hm
            exact .inl (Option.some.inj hm ▸ hbC)
    have hml : m < (s.past.length : Int) := by
      rcases hm2 with z | ⟨z, _⟩
      · obtain ⟨i, rfl, hi⟩ := cb m z
        omega
      · omega
    exact ⟨f, m, ltI s, hf, hm2, hml, hr, c3, hlt, by rw [List.take_of_length_le (Nat.le_refl _)]; exact hd'⟩
theorem mod_win {n a M : Int} (h0 : a ≤ n) (h1 : n < a + M) : a + (n % M - a) % M = n := by
  have e : (n % M - a) % M = (n - a) % M := by
    rw [Int.sub_emod, Int.emod_emod_of_dvd n (Int.dvd_refl M), ← Int.sub_emod]
  rw [e, Int.emod_eq_of_lt (by omega) (by omega)]
  omega
section
variable {s : RoS} {C : List Int} {i : Nat} {z : Str} {t : Option Nat} {hd : List Int}
theorem ro_arr (I : RoI s C) (hi : s.pr.past[i]? = some hd) (hl : LetW s.pr.P (i : Int) z t hd) (hs : SurT s.pr.P s.pr.past C i hd t) (m1 : ∀ x ∈ C, x - s.pr.P.lt ≤ (i : Int)) (m2 : (i : Int) ≤ s.pr.P.sk ∨ ∃ x ∈ C, (i : Int) - 1 - s.pr.P.sk ≤ x ∧ x < (i : Int)) :
    (lateC s.came s.pr.P.lt i = false ∧ gapB s.rd.top s.pr.P.gp i t = false) ∧ ∀ r rd', ReadR s.rd t ((i : Int) % p2 (cntP s.pr.P t)) (((i : Int) + ckF 0 hd) % s.pr.P.s.m) hd r rd' → ((i : Int) ∈ C ∧ r = .twice i ∧ rd' = s.rd) ∨ ((i : Int) ∉ C ∧ r = .read i hd ∧ rd' = comeF (putH s.rd i hd) i) := by
  have okP := I.okp.ok
  have gp0 := okP.gp0
  have sk0 := okP.sk0
  have lt0 := okP.lt0
  have hil := (List.getElem?_eq_some_iff.mp hi).1
  have c0 : ∀ x ∈ C, 0 ≤ x := fun x hx => by
    obtain ⟨j, rfl, _⟩ := I.cb x hx
    omega
  refine ⟨⟨?_, ?_⟩, fun r rd' h => ?_⟩
  · unfold lateC
    rw [I.ct]
    cases hg : s.rd.top with
    | none => rfl
    | some g =>
      have := m1 g (I.tp g hg).1
      exact decide_eq_false (by omega)
  · unfold gapB
    cases hg : s.rd.top with
    | none => rfl
    | some g =>
      obtain ⟨g1, g2⟩ := I.tp g hg
      have g0 := c0 g g1
      have : ¬ g + s.pr.P.gp + 1 < (i : Int) := by
        rcases m2 with m2 | ⟨x, hx, m2, _⟩
        · omega
        · have := g2 x hx
          omega
      show (decide (g + s.pr.P.gp + 1 < (i : Int)) && frmB t) = false
      rw [decide_eq_false this]
      rfl
  · have key : ∀ j, t = some j → ∃ (f : Fm) (g b : Int) (fo : List Int), s.pr.P.fs[j]? = some f ∧ s.rd.top = some g ∧ (i : Int) < g - s.pr.P.lt + p2 f.c ∧ belF (keyH s.rd.held) (i : Int) = some b ∧ (i : Int) - b ≤ f.r ∧ hdV s.rd.held b = some fo ∧ SuP s.pr.P.s f hd ((i : Int) - b, fo) := fun j hj => by
      subst hj
      obtain ⟨f, m, lt, h1, h2, h3, h4, h5, h6, h7⟩ := hs
      have hw : ∃ x ∈ C, m ≤ x ∧ x < (i : Int) := by
        rcases h2 with h2 | ⟨h2, h2'⟩
        · exact ⟨m, h2, Int.le_refl _, h3⟩
        · rcases m2 with m2 | ⟨x, hx, m2, m2'⟩
          · omega
          · exact ⟨x, hx, by omega, m2'⟩
      obtain ⟨x, hx, x1, x2⟩ := hw
      cases hg : s.rd.top with
      | none =>
        rw [(I.kp.no hg).2] at hx
        cases hx
      | some g =>
        obtain ⟨g1, g2⟩ := I.tp g hg
        have g0 := c0 g g1
        have hgl : g - s.rd.P.lt ≤ (i : Int) := by rw [I.eP]; exact m1 g g1
        have win : lt ≤ g := by
          rcases h6 with h6 | h6 | ⟨y, hy, h6⟩
          · omega
          · rcases m2 with m2 | ⟨y, hy, m2, _⟩
            · omega
            · have := g2 y hy
              omega
          · have := g2 y hy
            omega
        have eb := bel_eq hgl (I.kp.kp g hg)
        rcases belF_spec C (i : Int) with ⟨_, b⟩ | ⟨b, a, b1, b2, b3⟩
        · exact (b x hx x2).elim
        · rw [a] at eb
          have bm := b3 x hx x2
          have bk := (belF_mem eb).1
          obtain ⟨h, hm, e⟩ := List.mem_map.mp bk
          obtain ⟨j2, e2, hp2⟩ := I.hds h hm
          have hV : hdV s.rd.held b = some h.2 := by rw [← e]; exact hdV_nd I.okr.nd hm
          refine ⟨f, g, b, h.2, h1, rfl, by omega, eb, by omega, hV, h7 _ ?_⟩
          have okf := okP.fk f (List.mem_of_getElem? h1)
          have r0 := okf.r0
          have hjb : (j2 : Int) = b := e2.symm.trans e
          have hji : j2 < i := by omega
          unfold foP
          refine List.mem_map.mpr ⟨i - j2 - 1, List.mem_range.mpr ?_, ?_⟩
          · rw [List.length_take]
            omega
          · rw [List.length_take, Nat.min_eq_left (by omega)]
            refine Prod.ext ?_ ?_
            · show ((i - j2 - 1 : Nat) : Int) + 1 = (i : Int) - b
              omega
            · show (s.pr.past.take i).getD (i - (i - j2 - 1 + 1)) [] = h.2
              rw [show i - (i - j2 - 1 + 1) = j2 by omega, List.getD_eq_getElem?_getD, List.getElem?_take_of_lt hji, hp2]
              rfl
    have eN : numR s.rd t ((i : Int) % p2 (cntP s.pr.P t)) = i := by
      cases t with
      | none =>
        show (i : Int) % p2 s.pr.P.n = i
        have := I.n9
        exact Int.emod_eq_of_lt (by omega) (by omega)
      | some j =>
        obtain ⟨f, g, b, fo, k1, k2, k3, k4, k5, k6, k7⟩ := key j rfl
        have ec : cntP s.pr.P (some j) = f.c := by
          show (match s.pr.P.fs[j]? with | some f => f.c | none => 0) = f.c
          rw [k1]
        show (match s.rd.top with | none => (0 : Int) | some g => (g - s.rd.P.lt) + ((i : Int) % p2 (cntP s.pr.P (some j)) - (g - s.rd.P.lt)) % p2 (cntP s.rd.P (some j))) = (i : Int)
        rw [k2, I.eP, ec]
        have := m1 g (I.tp g k2).1
        exact mod_win this k3
    have eL : lateB s.rd (i : Int) = false := by
      unfold lateB
      rw [decide_eq_false (by omega)]
      cases hg : s.rd.top with
      | none => rfl
      | some g =>
        have := m1 g (I.tp g hg).1
        rw [I.eP]
        exact decide_eq_false (by omega)
    unfold ReadR at h
    rw [eN, eL] at h
    rcases h with ⟨⟨tn, tt⟩, _⟩ | ⟨_, h⟩
    · cases t with
      | none => exact (tn rfl).elim
      | some j =>
        obtain ⟨f, g, b, fo, k1, k2, _⟩ := key j rfl
        rw [tt] at k2
        cases k2
    · have inK : hdV s.rd.held (i : Int) ≠ none ↔ (i : Int) ∈ C := by
        have e1 : hdV s.rd.held (i : Int) ≠ none ↔ (i : Int) ∈ keyH s.rd.held := by
          constructor
          · intro z
            by_cases w : (i : Int) ∈ keyH s.rd.held
            · exact w
            · exact (z (hdV_none.mpr w)).elim
          · exact fun w z => hdV_none.mp z w
        rw [e1]
        cases hg : s.rd.top with
        | none =>
          obtain ⟨a, b⟩ := I.kp.no hg
          rw [a, b]
          exact Iff.rfl
        | some g =>
          rw [I.kp.kp g hg (i : Int)]
          refine ⟨fun z => z.1, fun z => ⟨z, stay_iff.mpr (.inl ?_)⟩⟩
          rw [I.eP]
          exact m1 g (I.tp g hg).1
      rcases h with ⟨a, _⟩ | ⟨_, ⟨y, e⟩, b, c⟩ | ⟨_, e, h⟩
      · cases a
      · exact .inl ⟨inK.mp (by rw [e]; exact fun z => nomatch z), b, c⟩
      · have nC : (i : Int) ∉ C := fun w => inK.mpr w e
        have hdo : ∀ o, HdR s.rd t (i : Int) hd o → o = some hd := fun o ho => by
          cases t with
          | none => exact ho
          | some j =>
            obtain ⟨f, g, b, fo, k1, k2, k3, k4, k5, k6, k7⟩ := key j rfl
            obtain ⟨f', hf', ho⟩ := ho
            rw [I.eP, k1] at hf'
            obtain rfl := Option.some.inj hf'
            rw [k4] at ho
            obtain ⟨fo', h', e1, e2, op⟩ := ho.2 k5
            rw [k6] at e1
            obtain rfl := Option.some.inj e1
            rw [I.eP] at op
            have okf := okP.fk f (List.mem_of_getElem? k1)
            have ew : wsP s.pr.P (some j) = f.ws := by
              show (match s.pr.P.fs[j]? with | some f => f.ws | none => []) = _
              rw [k1]
            have op : OpN s.pr.P.s f fo ((i : Int) - b) (piecesT (triL s.pr.P.s.fs f.ws hd)) s.pr.P.s.fs.length h' := by
              have z : pcsP s.pr.P (some j) hd = piecesT (triL s.pr.P.s.fs f.ws hd) := by
                unfold pcsP
                rw [ew]
              rw [z] at op
              exact op
            have lfo : fo.length = s.pr.P.s.fs.length := by
              have := okHead_len (I.okr.hds _ (hdV_mem k6))
              rw [I.eP] at this
              exact this
            rw [e2, OpN.one okf.len lfo (Nat.le_refl _) op k7]
        rcases h with ⟨a, _⟩ | ⟨h', a, h⟩
        · exact nomatch hdo _ a
        · obtain rfl := Option.some.inj (hdo _ a)
          rw [I.eP] at h
          rcases h with ⟨a, _⟩ | ⟨_, b, c⟩
          · exact (a rfl).elim
          · exact .inr ⟨nC, b, c⟩
theorem kpL_dup {K C : List Int} {e n : Int} (hn : n ∈ C) (h : KpL K C e) : KpL K (C ++ [n]) e := by
  have mem : ∀ x, x ∈ C ++ [n] ↔ x ∈ C := fun x => by
    rw [List.mem_append, List.mem_singleton]
    exact ⟨fun z => z.elim id fun z => z ▸ hn, .inl⟩
  have eb : belF (C ++ [n]) e = belF C e := by
    rcases belF_spec C e with ⟨a, b⟩ | ⟨m, a, b, c, d⟩
    · rw [a]
      exact belF_no fun k hk => b k ((mem k).mp hk)
    · rw [a]
      exact belF_of ((mem m).mpr b) c fun k hk => d k ((mem k).mp hk)
  intro x
  rw [eb, mem]
  exact h x
theorem ro_next {rd' : RdS} {r : Tld} {line' : List (Int × Str)} (I : RoI s C) (hi : s.pr.past[i]? = some hd) (m1 : ∀ x ∈ C, x - s.pr.P.lt ≤ (i : Int)) (ok' : OkRd rd') (h : ((i : Int) ∈ C ∧ r = .twice i ∧ rd' = s.rd) ∨ ((i : Int) ∉ C ∧ r = .read i hd ∧ rd' = comeF (putH s.rd i hd) i)) (sub : ∀ x ∈ line', x ∈ s.line) : RoI ⟨s.pr, rd', line', s.back ++ [some (i : Int)], s.row, some (topF s.came i)⟩ (C ++ [(i : Int)]) := by
  have hil := (List.getElem?_eq_some_iff.mp hi).1
  have inc : ∀ x ∈ C, x ∈ C ++ [(i : Int)] := fun x hx => List.mem_append.mpr (.inl hx)
  have ieP : rd'.P = s.rd.P := by
    rcases h with ⟨_, _, e⟩ | ⟨_, _, e⟩
    · rw [e]
    · rw [e]; rfl
  have etop : rd'.top = some (topF s.rd.top i) := by
    rcases h with ⟨hc, _, e⟩ | ⟨_, _, e⟩
    · rw [e]
      cases hg : s.rd.top with
      | none =>
        rw [(I.kp.no hg).2] at hc
        cases hc
      | some g =>
        have := (I.tp g hg).2 _ hc
        show some g = some (if g < (i : Int) then (i : Int) else g)
        rw [if_neg (by omega)]
    · rw [e]; rfl
  have hlo : ∀ g, s.rd.top = some g → g - s.rd.P.lt ≤ (i : Int) := fun g hg => by
    rw [I.eP]
    exact m1 g (I.tp g hg).1
  refine ⟨I.okp, ok', ieP.trans I.eP, I.row, I.n9, ?_, ?_, fun g hg => ?_, fun x hx => ?_, fun x hx => ?_, ?_, fun o ho => ?_, I.fr, I.hb, fun m hm => inc m (I.bc m hm), fun x hx => ?_⟩
  · rcases h with ⟨hc, _, e⟩ | ⟨_, _, e⟩
    · rw [e]
      refine ⟨fun z => ?_, fun g hg => kpL_dup hc (I.kp.kp g hg)⟩
      rw [(I.kp.no z).2] at hc
      cases hc
    · rw [e]
      exact kpI_read I.kp hlo
  · show some (topF s.came i) = rd'.top
    rw [etop, I.ct]
  · have hg : rd'.top = some g := hg
    rw [etop] at hg
    obtain rfl := Option.some.inj hg
    unfold topF
    cases hg : s.rd.top with
    | none =>
      rw [(I.kp.no hg).2]
      exact ⟨List.mem_singleton.mpr rfl, fun x hx => by rw [List.mem_singleton.mp hx]; exact Int.le_refl _⟩
    | some g =>
      obtain ⟨g1, g2⟩ := I.tp g hg
      show (if g < (i : Int) then (i : Int) else g) ∈ _ ∧ ∀ x ∈ _, x ≤ (if g < (i : Int) then (i : Int) else g)
      refine ⟨?_, fun x hx => ?_⟩
      · split
        · exact List.mem_append.mpr (.inr (List.mem_singleton.mpr rfl))
        · exact inc g g1
      · rcases List.mem_append.mp hx with hx | hx
        · have := g2 x hx
          split <;> omega
        · rw [List.mem_singleton.mp hx]
          split <;> omega
  · rcases List.mem_append.mp hx with hx | hx
    · exact I.cb x hx
    · exact ⟨i, List.mem_singleton.mp hx, hil⟩
  · have hx : x ∈ rd'.held := hx
    rcases h with ⟨_, _, e⟩ | ⟨_, _, e⟩
    · rw [e] at hx
      exact I.hds x hx
    · rw [e] at hx
      have hx := (List.mem_filter.mp hx).1
      rcases List.mem_append.mp hx with hx | hx
      · exact I.hds x hx
      · rw [List.mem_singleton.mp hx]
        exact ⟨i, rfl, hi⟩
  · show rd'.held.length ≤ _
    rw [List.length_append]
    have := I.hl
    rcases h with ⟨_, _, e⟩ | ⟨_, _, e⟩
    · rw [e]
      exact Nat.le_trans this (Nat.le_succ _)
    · rw [e]
      refine Nat.le_trans come_len ?_
      show (s.rd.held ++ [((i : Int), hd)]).length ≤ _
      rw [List.length_append]
      exact Nat.succ_le_succ this
  · rcases List.mem_append.mp ho with ho | ho
    · obtain ⟨n, e, hn⟩ := I.back o ho
      exact ⟨n, e, inc n hn⟩
    · exact ⟨i, List.mem_singleton.mp ho, List.mem_append.mpr (.inr (List.mem_singleton.mpr rfl))⟩
  · obtain ⟨j, t, hd, e1, e2, e3, e4⟩ := I.line x (sub x hx)
    exact ⟨j, t, hd, e1, e2, e3, surT_mono inc e4⟩
end
theorem ro_cut {s : RoS} {C : List Int} {line' : List (Int × Str)} {back' : List (Option Int)} (I : RoI s C) (sub : ∀ x ∈ line', x ∈ s.line) (sub2 : ∀ x ∈ back', x ∈ s.back) : RoI ⟨s.pr, s.rd, line', back', s.row, s.came⟩ C :=
  ⟨I.okp, I.okr, I.eP, I.row, I.n9, I.kp, I.ct, I.tp, I.cb, I.hds, I.hl, fun o ho => I.back o (sub2 o ho), I.fr, I.hb, I.bc, fun x hx => I.line x (sub x hx)⟩
theorem ro_heard {s : RoS} {C : List Int} {back' : List (Option Int)} {x : Int} (I : RoI s C) (hx : x ∈ C) (ok : OkPr (heaP s.pr (some x))) (sub2 : ∀ x ∈ back', x ∈ s.back) : RoI ⟨heaP s.pr (some x), s.rd, s.line, back', s.row, s.came⟩ C := by
  obtain ⟨i, rfl, hi⟩ := I.cb x hx
  have e0 : s.pr.fresh ≤ (i : Int) := by rw [I.fr]; omega
  refine ⟨ok, I.okr, I.eP, I.row, I.n9, I.kp, I.ct, I.tp, I.cb, I.hds, I.hl, fun o ho => I.back o (sub2 o ho), I.fr, ?_, fun m hm => ?_, I.line⟩
  · show grt s.pr.had (some (i : Int)) = if s.pr.fresh ≤ (i : Int) then grt s.pr.base (some (i : Int)) else s.pr.base
    rw [if_pos e0, I.hb]
  · have hm : (if s.pr.fresh ≤ (i : Int) then grt s.pr.base (some (i : Int)) else s.pr.base) = some m := hm
    rw [if_pos e0] at hm
    cases hb : s.pr.base with
    | none =>
      rw [hb] at hm
      have hm : some (i : Int) = some m := hm
      rw [← Option.some.inj hm]
      exact hx
    | some b =>
      rw [hb] at hm
      have hm : (if b < (i : Int) then some (i : Int) else some b) = some m := hm
      split at hm
      · rw [← Option.some.inj hm]
        exact hx
      · rw [← Option.some.inj hm]
        exact I.bc b hb
theorem ro_press {s : RoS} {C : List Int} {hd : List Int} {us : List Nat} (I : RoI s C) (hu : UseR s.pr hd us) (oh : OkHead s.pr.P.s.fs hd) (ok : OkPr ⟨s.pr.P, s.pr.past ++ [hd], s.pr.had, s.pr.base, s.pr.fresh⟩) (hn : (s.pr.past.length : Int) < p2 s.pr.P.n) : RoI ⟨⟨s.pr.P, s.pr.past ++ [hd], s.pr.had, s.pr.base, s.pr.fresh⟩, s.rd, s.line ++ [((s.pr.past.length : Int), letT s.pr.P (cho s.pr.P us) s.pr.past.length hd)], s.back, s.row ++ [hd], s.came⟩ C := by
  have up : ∀ {i : Nat} {h : List Int}, s.pr.past[i]? = some h → (s.pr.past ++ [hd])[i]? = some h := fun {i h} e => by
    have := (List.getElem?_eq_some_iff.mp e).1
    rw [List.getElem?_append_left this]
    exact e
  refine ⟨ok, I.okr, I.eP, by show s.row ++ [hd] = s.pr.past ++ [hd]; rw [I.row], ?_, I.kp, I.ct, I.tp, fun x hx => ?_, fun h hh => ?_, I.hl, I.back, I.fr, I.hb, I.bc, fun x hx => ?_⟩
  · show (((s.pr.past ++ [hd]).length : Nat) : Int) ≤ _
    rw [List.length_append]
    show ((s.pr.past.length + 1 : Nat) : Int) ≤ p2 s.pr.P.n
    omega
  · obtain ⟨i, e, hi⟩ := I.cb x hx
    refine ⟨i, e, ?_⟩
    show i < (s.pr.past ++ [hd]).length
    rw [List.length_append]
    omega
  · obtain ⟨i, e, hi⟩ := I.hds h hh
    exact ⟨i, e, up hi⟩
  · rcases List.mem_append.mp hx with hx | hx
    · obtain ⟨i, t, h, e1, e2, e3, e4⟩ := I.line x hx
      have := (List.getElem?_eq_some_iff.mp e2).1
      exact ⟨i, t, h, e1, up e2, e3, surT_past (by omega) e4⟩
    · rw [List.mem_singleton.mp hx]
      refine ⟨s.pr.past.length, cho s.pr.P us, hd, rfl, ?_, ⟨rfl, cho_ok (s := s.pr) hu, oh⟩, surT_past (Nat.le_refl _) (sur_press I.okp I.fr I.hb I.bc I.cb hu)⟩
      show (s.pr.past ++ [hd])[s.pr.past.length]? = some hd
      rw [List.getElem?_append_right (Nat.le_refl _), Nat.sub_self]
      rfl
end Sh
/-! own exceptions: raised, let out, caught; calls where one is handled -/
namespace Sh
open PySem PySem.Spec PyProof.Rows L2
/-- what the text says of an exception class of its own -/
structure ExOk (K : PySem.W.Frag) (mg : Str → Option Value) (x : Str) : Prop where
  mg : mg x = some (.ref (clsOf K x))
  ex : ∃ bmB newId initId B, ExcBaseFacts B newId initId bmB ∧ PySem.W.excIn K (clsOf K x) bmB newId = true
  kp : PySem.W.keepIn K (.ref (clsOf K x)) = true
  su : PySem.W.subIn K (.ref (clsOf K x)) (.type "BaseException") = some true
  ty : PySem.W.typeIn K (.ref (clsOf K x)) = some (.type "type")
  te : PySem.W.exmOne K (.ref (clsOf K x)) (.ref (clsOf K x)) = some true
theorem ex_mk {K : PySem.W.Frag} {mg : Str → Option Value} {h : Heap} {x : Str} {C : Addr} {bmB : List Value} {B newId initId : String} (X : K.In h) (G : h.Ns mainGlobals mg) (a : PySem.W.nsIn K mainGlobals x = some (some (.ref C))) (F : ExcBaseFacts B newId initId bmB)
    (e : PySem.W.excIn K C bmB newId = true) (k : PySem.W.keepIn K (.ref C) = true) (s : PySem.W.subIn K (.ref C) (.type "BaseException") = some true) (t : PySem.W.typeIn K (.ref C) = some (.type "type")) (te : PySem.W.exmOne K (.ref C) (.ref C) = some true) : ExOk K mg x := by
  have z := clsOf_eq a
  exact ⟨by rw [z]; exact PySem.W.mg_of X G a, by rw [z]; exact ⟨_, _, _, _, F, e⟩, by rw [z]; exact k, by rw [z]; exact s, by rw [z]; exact t, by rw [z]; exact te⟩
/-- a clause that names c takes an own exception x -/
def TkOk (K : PySem.W.Frag) (x c : Str) : Prop := PySem.W.exmOne K (.ref (clsOf K x)) (.ref (clsOf K c)) = some true
/-- an instance of x is one of c (or isn't) -/
def IsOk (K : PySem.W.Frag) (x c : Str) (b : Bool) : Prop := PySem.W.kitOne K (.ref (clsOf K x)) (.ref (clsOf K c)) = some b
def CalMX (W : Wd) (mg : Str → Option Value) (base : Heap) (C : Addr) (m : Str) (k : Nat) (ps : List Str) (sp : Sp) : Prop :=
  ∃ f fd, Meth W.K C m f ∧ FnOk W.P W.w W.K mg base (L2N.CX W.P W.w) k f fd ps sp ∧ Binds W.K fd ps []
def CalX (W : Wd) (mg : Str → Option Value) (base : Heap) (x : Str) (k : Nat) (ps : List Str) (sp : Sp) : Prop :=
  ∃ f fd, mg x = some (.ref f) ∧ FnOk W.P W.w W.K mg base (L2N.CX W.P W.w) k f fd ps sp ∧ PySem.W.keepIn W.K (.ref f) = true ∧ Binds W.K fd ps []
/-- the same where an exception is handled -/
def CalMH (W : Wd) (mg : Str → Option Value) (base : Heap) (C : Addr) (m : Str) (k : Nat) (ps : List Str) (sp : Sp) : Prop :=
  ∃ f fd, Meth W.K C m f ∧ L2H.FnH W.P W.w W.K mg base CX0 k f fd ps sp ∧ Binds W.K fd ps []
def CalH (W : Wd) (mg : Str → Option Value) (base : Heap) (x : Str) (k : Nat) (ps : List Str) (sp : Sp) : Prop :=
  ∃ f fd, mg x = some (.ref f) ∧ L2H.FnH W.P W.w W.K mg base CX0 k f fd ps sp ∧ PySem.W.keepIn W.K (.ref f) = true ∧ Binds W.K fd ps []
theorem passN {X : Cx} : Passes (L2N.CX X.prog X.w) X E0 := fun _ _ _ _ _ _ _ ⟨_, _, _, _, _, _, _, _, _, _, _, _, z⟩ => z.elim
theorem takesN {X : Cx} : L2N.Takes X (fun _ _ _ _ => False) := fun _ _ ⟨_, _, _, _, _, _, _, _, _, _, _, _, _, _, _, _, z⟩ => z.elim
section
variable {P : Program} {w : World} {K : PySem.W.Frag} {mg : Str → Option Value} {base : Heap}
/-- a def that may raise, by its body -/
theorem okN {x qual : Str} {st : Stmt} {f : Addr} {fd : FuncData} {N ps : List Str} {k : Nat} {sp : Sp} (F : Fun K x qual st f fd) (S : FnScope N ps (defScope st)) (len : ∀ vs H Q E, sp vs H Q E → vs.length = ps.length)
    (bod : ∀ (cdv : Value) (A : Around) (outer : List Env) (s : Shared) (H : Hp) (vs : List V) (Q : VK) (E : XK), Room k (A.deeper (envOfC qual (defScope st) s.heap.objs.size f cdv)) → sp vs H Q E →
      ∃ t, PSs (cxOf (L2N.CX P w) P w K mg base N qual (defScope st) f cdv A outer s H E) (defBody st) t ∧ t { nx := fun _ H' => Q .non H', rt := Q } (start N vs) H) : FnOk P w K mg base (L2N.CX P w) (k + 1) f fd ps sp := by
  obtain ⟨_, _, _, _, _, _, cdv, _, _, rfl, lk, hcd⟩ := F.ex
  exact fn_of lk hcd S len fun A outer s H vs Q E r h => bod cdv A outer s H vs Q E r h
/-- a def where an exception is handled, by its body -/
theorem okH {x qual : Str} {st : Stmt} {f : Addr} {fd : FuncData} {N ps : List Str} {k : Nat} {sp : Sp} (F : Fun K x qual st f fd) (S : FnScope N ps (defScope st)) (len : ∀ vs H Q E, sp vs H Q E → vs.length = ps.length)
    (bod : ∀ (cdv : Value) (A : Around) (outer : List Env) (s : Shared) (H : Hp) (vs : List V) (Q : VK) (E : XK) (p : Addr × Obj), L2H.HotC (L2H.cxH CX0 P w K mg base N qual (defScope st) f cdv A outer s H E p).nox → L2H.RoomH k (A.deeper (envOfC qual (defScope st) s.heap.objs.size f cdv)) → sp vs H Q E →
      ∃ t, PSs (L2H.cxH CX0 P w K mg base N qual (defScope st) f cdv A outer s H E p).nox (defBody st) t ∧ t { nx := fun _ H' => Q .non H', rt := Q } (start N vs) H) : L2H.FnH P w K mg base CX0 (k + 1) f fd ps sp := by
  obtain ⟨_, _, _, _, _, _, cdv, _, _, rfl, lk, hcd⟩ := F.ex
  refine L2H.fn_ofH lk hcd S len fun A outer s H vs Q E p hot r h => ?_
  obtain ⟨t, ht, q⟩ := bod cdv A outer s H vs Q E p ⟨p, hot, List.mem_cons_self⟩ r h
  exact ⟨t, ht.nox, q⟩
end
theorem hot_su {X : Cx} {a : Addr} {oe : Obj} {cls : Value} {d : Option Addr} {pn : List (Addr × Obj)} (z : L2N.Zn cls d oe) (f : ∃ vs, oe.data = .fields vs) : L2H.HotC (X.suite a ((a, oe) :: pn)) := by
  obtain ⟨vs, f⟩ := f
  exact ⟨(a, oe), ⟨rfl, vs, f, z.2.2 vs f⟩, List.mem_cons_self⟩
theorem roomM {k : Nat} {A : Around} {h : Option Value} (r : Room k A) : L2H.RoomH k (A.mark h) := ⟨r.dp, r.un⟩
theorem un_of {k : Nat} {A : Around} (r : L2H.RoomH k A) : A.units + 64 < cLine := by have := r.un; omega
theorem passH {X : Cx} {σ : L2.St} : PassesAt CX0 X σ E0 := fun _ _ _ _ _ _ h => h.elim
def sRaise (C : Addr) (E : XK) : TS := fun _ _ H => E (.ref C) none H
theorem w_raise {C : Addr} {E : XK} {D : Ends} {σ : L2.St} {H : Hp} (h : E (.ref C) none H) : sRaise C E D σ H := h
section
variable {X : Cx} {E : XK} {x m : Str} {j : Nat} {p p2 pos pos2 : Pos}
theorem ps_rais (hs : X.calm = true) (tk : L2N.Takes X (fun cls d _ H => E cls d H)) (T : ExOk X.K X.mg x) (hg : Gl X x) (hdb : (x == ("__debug__" : Str)) = false := by decide) :
    PS X (.Raise (some (.Call (.Name x p) [.Constant (.str m) j p2] [] pos)) none pos2) (sRaise (clsOf X.K x) E) := by
  obtain ⟨_, _, _, _, F, e⟩ := T.ex
  exact L2N.ps_raise hs tk (L2N.pmk_own F e T.mg T.kp (raises_own T.su T.ty) hg hdb)
end
def sTry (K : PySem.W.Frag) (c : Value) (Wout : WX) (tb : WX → TS) (ts : TS) : TS := fun D σ H => tb (wMany K Wout D [(c, fun _ _ _ => ts)]) D σ H
def wNone : WX := fun _ _ _ _ => False
def wUp (E : XK) : WX := fun cls d _ H => E cls d H
theorem w_try {K : PySem.W.Frag} {c : Value} {Wout : WX} {tb : WX → TS} {ts : TS} {D : Ends} {σ : L2.St} {H : Hp} (h : tb (wMany K Wout D [(c, fun _ _ _ => ts)]) D σ H) : sTry K c Wout tb ts D σ H := h
/-- the own class's clause takes it -/
theorem w_took {K : PySem.W.Frag} {mg : Str → Option Value} {x : Str} {Wout : WX} {ts : TS} {D : Ends} {σ : L2.St} {H : Hp} {d : Option Addr} (T : ExOk K mg x) (h : ∀ a, H a = none → ts D σ H) :
    WE (wMany K Wout D [(.ref (clsOf K x), fun _ _ _ => ts)]) σ (.ref (clsOf K x)) d H := ⟨true, T.te, fun _ a ha => h a ha, fun z => nomatch z⟩
/-- a class above takes it -/
theorem w_took2 {K : PySem.W.Frag} {x c : Str} {Wout : WX} {ts : TS} {D : Ends} {σ : L2.St} {H : Hp} {d : Option Addr} (T : TkOk K x c) (h : ∀ a, H a = none → ts D σ H) :
    WE (wMany K Wout D [(.ref (clsOf K c), fun _ _ _ => ts)]) σ (.ref (clsOf K x)) d H := ⟨true, T, fun _ a ha => h a ha, fun z => nomatch z⟩
theorem ps_try1 {X : Cx} {x : Str} {c : Value} {body suite : List Stmt} {b₀ : Stmt} {np pos pos' : Pos} {tb : WX → TS} {ts : TS} {Wout : WX} (hs : X.stack = X.env :: X.outer) (hf : X.env.frame = some X.env.locals) (hc : Names X x c) (tk : L2N.Takes X Wout)
    (hb : ∀ (W : WX) (pn : List (Addr × Obj)) (xe : Value → Shared → Prop), L2N.Takes (X.tr pn xe) W → PassesOwn (model X.prog X.w) X.A X.env xe → PSs (X.tr pn xe) body (tb W))
    (hsu : ∀ (a : Addr) (oe : Obj) (cls : Value) (d : Option Addr) (pn : List (Addr × Obj)), L2N.Zn cls d oe → (∃ vs, oe.data = .fields vs) → PSs (X.suite a ((a, oe) :: pn)) (b₀ :: suite) ts) :
    PS X (.Try body [.ExceptHandler (some (.Name x np)) none (b₀ :: suite) pos'] [] [] pos) (sTry X.K c Wout tb ts) :=
  L2N.ps_try_many hs hf tk hb (.cons hc (fun a oe cls d pn z f => hsu a oe cls d pn z f) .nil)
/-- except x as n: the exception's object is free, its class is told -/
def sTryA (K : PySem.W.Frag) (c : Value) (i : Nat) (Wout : WX) (tb : WX → TS) (ts : Addr → Value → Option Addr → TS) : TS := fun D σ H => tb (wAs K c i ts Wout D) D σ H
theorem w_tryA {K : PySem.W.Frag} {c : Value} {i : Nat} {Wout : WX} {tb : WX → TS} {ts : Addr → Value → Option Addr → TS} {D : Ends} {σ : L2.St} {H : Hp} (h : tb (wAs K c i ts Wout D) D σ H) : sTryA K c i Wout tb ts D σ H := h
def tMethA (C : Addr) (m : Str) (sp : Sp) (E : L2.St → XK) (ta : TE) (t : TA) : TE := fun σ H Q => ta σ H fun x H1 => MtOk C m t sp (E σ) σ Q x H1
theorem w_methA {C : Addr} {m : Str} {sp : Sp} {E : L2.St → XK} {ta : TE} {t : TA} {σ : L2.St} {H : Hp} {Q : VK} (h : ta σ H fun x H1 => MtOk C m t sp (E σ) σ Q x H1) : tMethA C m sp E ta t σ H Q := h
theorem w_callS {sp : Sp} {E : L2.St → XK} {t : TA} {σ : L2.St} {H : Hp} {Q : VK} (h : t σ H fun vs H1 => sp vs H1 Q (E σ)) : tCallS sp E t σ H Q := h
section
variable {X : Cx} {CX : CXT} {k : Nat} {C f : Addr} {fd : FuncData} {ps : List Str} {sp : Sp} {E : L2.St → XK} {o e : Expr} {es : List Expr} {ta : TE} {t : TA} {m : Str} {apos pos : Pos}
/-- o.m(e, ..), what it lets out wished for at the caller's slots -/
theorem pe_methA {pl : Sem Bool} (he : PE X o ta) (c : Cls X.K C) (hm : Meth X.K C m f) (F : FnOk X.prog X.w X.K X.mg X.base CX k f fd ps sp) (hr : Room k X.A) (hb : Binds X.K fd ps []) (hx : ∀ σ, PassesAt CX X σ (E σ)) (ha : PA X (e :: es) t)
    (hst : starEach (e :: es) X.env = (false, eval e X.env) :: starEach es X.env := by rfl) (hpl : (backTo pos (starEach es X.env)).any (·.1) = false := by rfl)
    (ht : eval (.Call (.Attribute o m apos) (e :: es) [] pos) X.env = (do
      let ov ← eval o X.env
      standAt apos.atName
      let (f, first) ← holding [ov] (getMethod ov m pl)
      callWith pos f first (backTo pos (starEach (e :: es) X.env)) (backToKw pos (keywordEach [] X.env))) := by rfl) :
    PE X (.Call (.Attribute o m apos) (e :: es) [] pos) (tMethA C m sp E ta t) := by
  refine ⟨fun pins s σ H Q I h => ?_⟩
  refine PySem.W.methodCall_KW (pl := pl) (thn (he.run pins s σ H _ I h) fun u s1 ⟨x, H1, I1, rx, a, dx, fs, ex, ea, l, q⟩ => ?_) ht
  subst ex
  obtain rfl : u = Value.ref a := rx
  refine getmeth_ok I1 ea c hm l ?_
  refine PySem.W.callWith_K (first := [.ref a]) (h₀ := X.base) I.ok.mod.kin hm.kp (thn (ha.run pos pins s1 σ H1 _ I1 q) fun us s2 ⟨vs, H2, I2, r, q2⟩ => ⟨I2.kIn, ?_⟩) hst hpl
  exact run_fnS (us := .ref a :: us) (vs := .ref a :: vs) F hr hb (hx σ) I2 (.cons rfl r) q2
/-- o.m(), the same -/
theorem pe_methA0 {pl : Sem Bool} (he : PE X o ta) (c : Cls X.K C) (hm : Meth X.K C m f) (F : FnOk X.prog X.w X.K X.mg X.base CX k f fd ps sp) (hr : Room k X.A) (hb : Binds X.K fd ps []) (hx : ∀ σ, PassesAt CX X σ (E σ))
    (ht : eval (.Call (.Attribute o m apos) [] [] pos) X.env = (do
      let ov ← eval o X.env
      standAt apos.atName
      let (f, first) ← holding [ov] (getMethod ov m pl)
      callWith pos f first (backTo pos (starEach [] X.env)) (backToKw pos (keywordEach [] X.env))) := by rfl) :
    PE X (.Call (.Attribute o m apos) [] [] pos) (tMethA C m sp E ta tNil) := by
  refine ⟨fun pins s σ H Q I h => ?_⟩
  refine PySem.W.methodCall_KW (pl := pl) (thn (he.run pins s σ H _ I h) fun u s1 ⟨x, H1, I1, rx, a, dx, fs, ex, ea, l, q⟩ => ?_) ht
  subst ex
  obtain rfl : u = Value.ref a := rx
  refine getmeth_ok I1 ea c hm l ?_
  exact PySem.W.callWith_K0 (first := [.ref a]) I1.kIn hm.kp (run_fnS (us := [.ref a]) (vs := [.ref a]) F hr hb (hx σ) I1 (.cons rfl .nil) q)
/-- o.m(..) where an exception is handled -/
theorem pe_methHN {pl : Sem Bool} (he : PE X o ta) (c : Cls X.K C) (hm : Meth X.K C m f) (F : L2H.FnH X.prog X.w X.K X.mg X.base CX k f fd ps sp) (hr : L2H.RoomH k X.A) (hc : L2H.HotC X) (hb : Binds X.K fd ps []) (hx : ∀ σ, PassesAt CX X σ (E σ)) (ha : PA X (e :: es) t)
    (hst : starEach (e :: es) X.env = (false, eval e X.env) :: starEach es X.env := by rfl) (hpl : (backTo pos (starEach es X.env)).any (·.1) = false := by rfl)
    (ht : eval (.Call (.Attribute o m apos) (e :: es) [] pos) X.env = (do
      let ov ← eval o X.env
      standAt apos.atName
      let (f, first) ← holding [ov] (getMethod ov m pl)
      callWith pos f first (backTo pos (starEach (e :: es) X.env)) (backToKw pos (keywordEach [] X.env))) := by rfl) :
    PE X (.Call (.Attribute o m apos) (e :: es) [] pos) (tMethA C m sp E ta t) := L2H.pe_methH he c hm F hr hc hb hx ha hst hpl ht
theorem pe_methH0 {pl : Sem Bool} (he : PE X o ta) (c : Cls X.K C) (hm : Meth X.K C m f) (F : L2H.FnH X.prog X.w X.K X.mg X.base CX k f fd ps sp) (hr : L2H.RoomH k X.A) (hc : L2H.HotC X) (hb : Binds X.K fd ps []) (hx : ∀ σ, PassesAt CX X σ (E σ))
    (ht : eval (.Call (.Attribute o m apos) [] [] pos) X.env = (do
      let ov ← eval o X.env
      standAt apos.atName
      let (f, first) ← holding [ov] (getMethod ov m pl)
      callWith pos f first (backTo pos (starEach [] X.env)) (backToKw pos (keywordEach [] X.env))) := by rfl) :
    PE X (.Call (.Attribute o m apos) [] [] pos) (tMethA C m sp E ta tNil) := by
  refine ⟨fun pins s σ H Q I h => ?_⟩
  refine PySem.W.methodCall_KW (pl := pl) (thn (he.run pins s σ H _ I h) fun u s1 ⟨x, H1, I1, rx, a, dx, fs, ex, ea, l, q⟩ => ?_) ht
  subst ex
  obtain rfl : u = Value.ref a := rx
  refine getmeth_ok I1 ea c hm l ?_
  exact PySem.W.callWith_K0 (first := [.ref a]) I1.kIn hm.kp (L2H.run_fnH (us := [.ref a]) (vs := [.ref a]) F hr hc hb (hx σ) I1 (.cons rfl .nil) q)
end
end Sh
/-! roads on which all may be forgotten now and then -/
namespace Sh
open PySem PySem.Spec PyProof.Rows L2
theorem use_cho {s : PrS} {hd : List Int} {us : List Nat} {j : Nat} (hu : UseR s hd us) (hc : cho s.P us = some j) : ∃ f, s.P.fs[j]? = some f ∧ tnB s = false ∧ shB s f.r = true ∧ cntB s f.c = true ∧ SuA s.P.s f hd (foP s.past f.r.toNat) := by
  have hj : j ∈ us := by
    rcases cho_in us none j hc with z | z
    · exact z
    · cases z
  have hjl := hu.mem hj
  have hf : s.P.fs[j]? = some s.P.fs[j] := List.getElem?_eq_getElem hjl
  obtain ⟨g, rfl, hg⟩ := hu
  obtain ⟨r, hr, e⟩ := hg j _ hf
  have er := e.mp (List.mem_filter.mp hj).2
  generalize s.P.fs[j] = f at hf hr
  subst er
  unfold HinR at hr
  have c1 : ¬ tnB s = true := fun c => by rw [if_pos c] at hr; cases hr
  rw [if_neg c1] at hr
  have c2 : ¬ shB s f.r = false := fun c => by rw [if_pos c] at hr; cases hr
  rw [if_neg c2] at hr
  have c3 : ¬ cntB s f.c = false := fun c => by rw [if_pos c] at hr; cases hr
  rw [if_neg c3] at hr
  obtain ⟨d, ed, hd'⟩ := hr
  injection ed with ed
  subst ed
  exact ⟨f, hf, Bool.eq_false_iff.mpr c1, Bool.not_eq_false _ ▸ c2, Bool.not_eq_false _ ▸ c3, hd'⟩
/-- what a letter on the way leans on -/
def SurJ (P : Pt) (past : List (List Int)) (R : List Int) (i : Nat) (hd : List Int) : Option Nat → Prop
  | none => True
  | some j => ∃ (f : Fm) (lt : Int), P.fs[j]? = some f ∧ (i : Int) + P.lt - lt < p2 f.c ∧ (lt ≤ 0 ∨ lt ≤ (i : Int) - 1 - P.gp ∨ ∃ x ∈ R, lt ≤ x - P.lt) ∧ SuA P.s f hd (foP (past.take i) f.r.toNat)
structure RoJ (s : RoS) (R C : List Int) : Prop where
  okp : OkPr s.pr
  okr : OkRd s.rd
  eP : s.rd.P = s.pr.P
  row : s.row = s.pr.past
  n9 : (s.pr.past.length : Int) ≤ p2 s.pr.P.n
  cm : ∀ x ∈ R, ∃ c, s.came = some c ∧ x ≤ c
  tp : ∀ g, s.rd.top = some g → 0 ≤ g ∧ (∃ c, s.came = some c ∧ g ≤ c) ∧ ∀ x ∈ R, x - s.pr.P.lt ≤ g
  rb : ∀ x ∈ R, ∃ i : Nat, x = (i : Int) ∧ i < s.pr.past.length
  ky : ∀ h ∈ s.rd.held, h.1 ∈ C
  hds : ∀ h ∈ s.rd.held, ∃ i : Nat, h.1 = (i : Int) ∧ s.pr.past[i]? = some h.2
  hl : s.rd.held.length ≤ C.length
  CR : ∀ x ∈ C, x ∈ R
  back : ∀ o ∈ s.back, ∀ n, o = some n → n ∈ R
  had : ∀ m, s.pr.had = some m → m ∈ R
  line : ∀ x ∈ s.line, ∃ (i : Nat) (t : Option Nat) (hd : List Int), x.1 = (i : Int) ∧ s.pr.past[i]? = some hd ∧ LetW s.pr.P x.1 x.2 t hd ∧ SurJ s.pr.P s.pr.past R i hd t
  cl : ∀ c, s.came = some c → c < (s.pr.past.length : Int)
theorem surJ_mono {P : Pt} {past : List (List Int)} {R R' : List Int} {i : Nat} {hd : List Int} {t : Option Nat} (sub : ∀ x ∈ R, x ∈ R') (h : SurJ P past R i hd t) : SurJ P past R' i hd t := by
  cases t with
  | none => trivial
  | some j =>
    obtain ⟨f, lt, h1, h5, h6, h7⟩ := h
    refine ⟨f, lt, h1, h5, ?_, h7⟩
    rcases h6 with h6 | h6 | ⟨x, hx, h6⟩
    · exact .inl h6
    · exact .inr (.inl h6)
    · exact .inr (.inr ⟨x, sub x hx, h6⟩)
theorem surJ_past {P : Pt} {past : List (List Int)} {R : List Int} {i : Nat} {hd h2 : List Int} {t : Option Nat} (hi : i ≤ past.length) (h : SurJ P past R i hd t) : SurJ P (past ++ [h2]) R i hd t := by
  cases t with
  | none => trivial
  | some j =>
    obtain ⟨f, lt, h1, h5, h6, h7⟩ := h
    exact ⟨f, lt, h1, h5, h6, by rw [List.take_append_of_le_length hi]; exact h7⟩
theorem surJ_press {s : PrS} {R : List Int} {hd : List Int} {us : List Nat} (had : ∀ m, s.had = some m → m ∈ R) (hu : UseR s hd us) : SurJ s.P s.past R s.past.length hd (cho s.P us) := by
  cases hc : cho s.P us with
  | none => trivial
  | some j =>
    obtain ⟨f, hf, _, _, c3, hs⟩ := use_cho hu hc
    have c3 : (s.past.length : Int) + s.P.lt - ltI s < p2 f.c := by
      unfold cntB at c3
      exact decide_eq_true_iff.mp c3
    have z : ltI s = 0 ∨ ltI s = (s.past.length : Int) - 1 - s.P.gp ∨ ∃ h, s.had = some h ∧ ltI s = h - s.P.lt := by
      unfold ltI maxI
      cases h1 : s.had with
      | none =>
        dsimp only
        by_cases c : (s.past.length : Int) - 1 - s.P.gp > 0
        · rw [if_pos c]
          exact .inr (.inl rfl)
        · rw [if_neg c]
          exact .inl rfl
      | some h =>
        dsimp only
        by_cases c : (s.past.length : Int) - 1 - s.P.gp > 0
        · rw [if_pos c]
          by_cases c2 : h - s.P.lt > (s.past.length : Int) - 1 - s.P.gp
          · rw [if_pos c2]
            exact .inr (.inr ⟨h, rfl, rfl⟩)
          · rw [if_neg c2]
            exact .inr (.inl rfl)
        · rw [if_neg c]
          by_cases c2 : h - s.P.lt > 0
          · rw [if_pos c2]
            exact .inr (.inr ⟨h, rfl, rfl⟩)
          · rw [if_neg c2]
            exact .inl rfl
    refine ⟨f, ltI s, hf, c3, ?_, by rw [List.take_of_length_le (Nat.le_refl _)]; exact hs⟩
    rcases z with z | z | ⟨h, h1, z⟩
    · exact .inl (by omega)
    · exact .inr (.inl (by omega))
    · exact .inr (.inr ⟨h, had h h1, by omega⟩)
/-- no former is near enough -/
def FarJ (s : RoS) (i : Int) (t : Option Nat) : Prop := ∃ j f, t = some j ∧ s.pr.P.fs[j]? = some f ∧ (belF (keyH s.rd.held) i = none ∨ ∃ b, belF (keyH s.rd.held) i = some b ∧ f.r < i - b)
def numsJ : Tld → List Int
  | .read n _ => [n]
  | _ => []
/-- what a letter that comes is told -/
inductive ToldJ (s : RoS) (C : List Int) (i : Nat) (hd : List Int) (t : Option Nat) : Tld → RdS → Prop where
  | blank : t ≠ none → s.rd.top = none → ToldJ s C i hd t .blank s.rd
  | twice : ¬ (t ≠ none ∧ s.rd.top = none) → (i : Int) ∈ C → hdV s.rd.held i ≠ none → ToldJ s C i hd t (.twice i) s.rd
  | far : ¬ (t ≠ none ∧ s.rd.top = none) → FarJ s i t → ToldJ s C i hd t .far (comeF s.rd i)
  | read : ¬ (t ≠ none ∧ s.rd.top = none) → hdV s.rd.held i = none → ToldJ s C i hd t (.read i hd) (comeF (putH s.rd i hd) i)
section
variable {s : RoS} {R C : List Int} {i : Nat} {z : Str} {t : Option Nat} {hd : List Int}
theorem roj_arr (J : RoJ s R C) (hi : s.pr.past[i]? = some hd) (hs : SurJ s.pr.P s.pr.past R i hd t) (hb : beyB s t i = false) {r : Tld} {rd' : RdS} (h : ReadR s.rd t ((i : Int) % p2 (cntP s.pr.P t)) (((i : Int) + ckF 0 hd) % s.pr.P.s.m) hd r rd') : ToldJ s C i hd t r rd' := by
  have okP := J.okp.ok
  have gp0 := okP.gp0
  have lt0 := okP.lt0
  have hil := (List.getElem?_eq_some_iff.mp hi).1
  obtain ⟨hb1, hb2⟩ := Bool.or_eq_false_iff.mp (show (lateC s.came s.pr.P.lt i || gapB s.rd.top s.pr.P.gp i t) = false from hb)
  have gl : ∀ g, s.rd.top = some g → g - s.pr.P.lt ≤ (i : Int) := fun g hg => by
    obtain ⟨_, ⟨c, hc, h2⟩, _⟩ := J.tp g hg
    rw [hc] at hb1
    have := decide_eq_false_iff_not.mp (show decide (s.pr.P.lt < c - (i : Int)) = false from hb1)
    omega
  have key : ∀ j, t = some j → ∀ g, s.rd.top = some g → ∃ f : Fm, s.pr.P.fs[j]? = some f ∧ (i : Int) < g - s.pr.P.lt + p2 f.c ∧ SuA s.pr.P.s f hd (foP (s.pr.past.take i) f.r.toNat) := fun j hj g hg => by
    subst hj
    obtain ⟨f, lt, h1, h5, h6, h7⟩ := hs
    obtain ⟨g0, _, hR⟩ := J.tp g hg
    rw [hg] at hb2
    have hb2 : (decide (g + s.pr.P.gp + 1 < (i : Int)) && true) = false := hb2
    rw [Bool.and_true] at hb2
    have := decide_eq_false_iff_not.mp hb2
    have win : lt ≤ g := by
      rcases h6 with h6 | h6 | ⟨y, hy, h6⟩
      · omega
      · omega
      · have := hR y hy
        omega
    exact ⟨f, h1, by omega, h7⟩
  by_cases cb : t ≠ none ∧ s.rd.top = none
  · unfold ReadR at h
    rcases h with ⟨_, rfl, rfl⟩ | ⟨w, _⟩
    · exact .blank cb.1 cb.2
    · exact (w cb).elim
  have eN : numR s.rd t ((i : Int) % p2 (cntP s.pr.P t)) = i := by
    cases t with
    | none =>
      show (i : Int) % p2 s.pr.P.n = i
      have := J.n9
      exact Int.emod_eq_of_lt (by omega) (by omega)
    | some j =>
      cases hg : s.rd.top with
      | none => exact (cb ⟨(fun w => nomatch w), hg⟩).elim
      | some g =>
        obtain ⟨f, k1, k3, _⟩ := key j rfl g hg
        have ec : cntP s.pr.P (some j) = f.c := by
          show (match s.pr.P.fs[j]? with | some f => f.c | none => 0) = f.c
          rw [k1]
        show (match s.rd.top with | none => (0 : Int) | some g => (g - s.rd.P.lt) + ((i : Int) % p2 (cntP s.pr.P (some j)) - (g - s.rd.P.lt)) % p2 (cntP s.rd.P (some j))) = (i : Int)
        rw [hg, J.eP, ec]
        exact mod_win (gl g hg) k3
  have eL : lateB s.rd (i : Int) = false := by
    unfold lateB
    rw [decide_eq_false (by omega)]
    cases hg : s.rd.top with
    | none => rfl
    | some g =>
      have := gl g hg
      rw [J.eP]
      exact decide_eq_false (by omega)
  unfold ReadR at h
  rw [eN, eL] at h
  rcases h with ⟨w, _⟩ | ⟨_, ⟨w, _⟩ | ⟨_, ⟨y, e⟩, rfl, rfl⟩ | ⟨_, e, h⟩⟩
  · exact (cb w).elim
  · cases w
  · exact .twice cb (J.ky _ (hdV_mem e)) (by rw [e]; exact fun w => nomatch w)
  · have hdo : ∀ o, HdR s.rd t (i : Int) hd o → o = some hd ∨ (o = none ∧ FarJ s i t) := fun o ho => by
      cases t with
      | none => exact .inl ho
      | some j =>
        obtain ⟨f, hf, ho⟩ := ho
        rw [J.eP] at hf
        cases hg : s.rd.top with
        | none => exact (cb ⟨(fun w => nomatch w), hg⟩).elim
        | some g =>
        obtain ⟨f', k1, k3, h7⟩ := key j rfl g hg
        obtain rfl := Option.some.inj (hf.symm.trans k1)
        cases hbl : belF (keyH s.rd.held) (i : Int) with
        | none =>
          rw [hbl] at ho
          exact .inr ⟨ho, j, f, rfl, k1, .inl hbl⟩
        | some b =>
          rw [hbl] at ho
          by_cases far : f.r < (i : Int) - b
          · exact .inr ⟨ho.1 far, j, f, rfl, k1, .inr ⟨b, hbl, far⟩⟩
          · obtain ⟨fo, h', e1, e2, op⟩ := ho.2 (by omega)
            refine .inl ?_
            obtain ⟨bm, bi⟩ := belF_mem hbl
            obtain ⟨hh, hm, eh⟩ := List.mem_map.mp bm
            obtain ⟨j2, ej, hp2⟩ := J.hds hh hm
            have hV : hdV s.rd.held b = some hh.2 := by rw [← eh]; exact hdV_nd J.okr.nd hm
            obtain rfl := Option.some.inj (e1.symm.trans hV)
            have okf := okP.fk f (List.mem_of_getElem? k1)
            have r0 := okf.r0
            have hjb : (j2 : Int) = b := ej.symm.trans eh
            have hji : j2 < i := by omega
            have k7 : SuP s.pr.P.s f hd ((i : Int) - b, hh.2) := by
              refine h7 _ ?_
              unfold foP
              refine List.mem_map.mpr ⟨i - j2 - 1, List.mem_range.mpr ?_, ?_⟩
              · rw [List.length_take]
                omega
              · rw [List.length_take, Nat.min_eq_left (by omega)]
                refine Prod.ext ?_ ?_
                · show ((i - j2 - 1 : Nat) : Int) + 1 = (i : Int) - b
                  omega
                · show (s.pr.past.take i).getD (i - (i - j2 - 1 + 1)) [] = hh.2
                  rw [show i - (i - j2 - 1 + 1) = j2 by omega, List.getD_eq_getElem?_getD, List.getElem?_take_of_lt hji, hp2]
                  rfl
            rw [J.eP] at op
            have ew : wsP s.pr.P (some j) = f.ws := by
              show (match s.pr.P.fs[j]? with | some f => f.ws | none => []) = _
              rw [k1]
            have op : OpN s.pr.P.s f hh.2 ((i : Int) - b) (piecesT (triL s.pr.P.s.fs f.ws hd)) s.pr.P.s.fs.length h' := by
              have z : pcsP s.pr.P (some j) hd = piecesT (triL s.pr.P.s.fs f.ws hd) := by
                unfold pcsP
                rw [ew]
              rw [z] at op
              exact op
            have lfo : hh.2.length = s.pr.P.s.fs.length := by
              have := okHead_len (J.okr.hds _ (hdV_mem hV))
              rw [J.eP] at this
              exact this
            rw [e2, OpN.one okf.len lfo (Nat.le_refl _) op k7]
    rcases h with ⟨a, rfl, rfl⟩ | ⟨h', a, h⟩
    · rcases hdo _ a with w | ⟨_, w⟩
      · cases w
      · exact .far cb w
    · rcases hdo _ a with w | ⟨w, _⟩
      · obtain rfl := Option.some.inj w
        rw [J.eP] at h
        rcases h with ⟨a, _⟩ | ⟨_, rfl, rfl⟩
        · exact (a rfl).elim
        · exact .read cb e
      · cases w
theorem mem_come {s : RdS} {n : Int} {h : Int × List Int} (hm : h ∈ (comeF s n).held) : h ∈ s.held := (List.mem_filter.mp hm).1
theorem roj_next {r : Tld} {rd' : RdS} {line' : List (Int × Str)} (J : RoJ s R C) (hi : s.pr.past[i]? = some hd) (hb : beyB s t i = false) (ok' : OkRd rd') (h : ToldJ s C i hd t r rd') (sub : ∀ x ∈ line', x ∈ s.line) : RoJ ⟨s.pr, rd', line', s.back ++ [wrdO r], s.row, some (topF s.came i)⟩ (R ++ numsJ r) (C ++ numsJ r) := by
  have hil := (List.getElem?_eq_some_iff.mp hi).1
  have lt0 := J.okp.ok.lt0
  obtain ⟨hb1, _⟩ := Bool.or_eq_false_iff.mp (show (lateC s.came s.pr.P.lt i || gapB s.rd.top s.pr.P.gp i t) = false from hb)
  have inc : ∀ x ∈ R, x ∈ R ++ numsJ r := fun x hx => List.mem_append.mpr (.inl hx)
  have incC : ∀ x ∈ C, x ∈ C ++ numsJ r := fun x hx => List.mem_append.mpr (.inl hx)
  have nm : ∀ x ∈ numsJ r, x = (i : Int) := fun x hx => by
    cases h <;> first | (cases hx; done) | exact List.mem_singleton.mp hx
  have cmi : (∀ c, s.came = some c → c ≤ topF s.came i) ∧ (i : Int) ≤ topF s.came i := by
    cases hc : s.came with
    | none => exact ⟨(fun _ z => nomatch z), Int.le_refl _⟩
    | some c =>
      show (∀ c', some c = some c' → c' ≤ (if c < (i : Int) then (i : Int) else c)) ∧ (i : Int) ≤ (if c < (i : Int) then (i : Int) else c)
      refine ⟨fun c' e => ?_, ?_⟩
      · cases e
        split <;> omega
      · split <;> omega
  have cR : ∀ x ∈ R, x - s.pr.P.lt ≤ (i : Int) := fun x hx => by
    obtain ⟨c, hc, h2⟩ := J.cm x hx
    rw [hc] at hb1
    have := decide_eq_false_iff_not.mp (show decide (s.pr.P.lt < c - (i : Int)) = false from hb1)
    omega
  have ieP : rd'.P = s.rd.P := by cases h <;> rfl
  have tops : rd'.top = s.rd.top ∧ numsJ r = [] ∨ rd'.top = some (topF s.rd.top i) := by
    cases h with
    | blank _ _ => exact .inl ⟨rfl, rfl⟩
    | twice _ _ _ => exact .inl ⟨rfl, rfl⟩
    | far _ _ => exact .inr rfl
    | read _ _ => exact .inr rfl
  refine ⟨J.okp, ok', ieP.trans J.eP, J.row, J.n9, fun x hx => ?_, fun g hg => ?_, fun x hx => ?_, fun x hx => ?_, fun x hx => ?_, ?_, fun x hx => ?_, fun o ho n e => ?_, fun m hm => inc m (J.had m hm), fun x hx => ?_, fun c hc => ?_⟩
  · rcases List.mem_append.mp hx with hx | hx
    · obtain ⟨c, hc, h2⟩ := J.cm x hx
      exact ⟨_, rfl, Int.le_trans h2 (cmi.1 c hc)⟩
    · exact ⟨_, rfl, by rw [nm x hx]; exact cmi.2⟩
  · have hg : rd'.top = some g := hg
    rcases tops with ⟨e, e2⟩ | e
    · rw [e] at hg
      obtain ⟨g0, ⟨c, hc, h2⟩, h3⟩ := J.tp g hg
      refine ⟨g0, ⟨_, rfl, Int.le_trans h2 (cmi.1 c hc)⟩, fun x hx => ?_⟩
      rw [e2, List.append_nil] at hx
      exact h3 x hx
    · rw [e] at hg
      obtain rfl := Option.some.inj hg
      have hx' : ∀ x ∈ R ++ numsJ r, x - s.pr.P.lt ≤ (i : Int) := fun x hx => by
        rcases List.mem_append.mp hx with hx | hx
        · exact cR x hx
        · rw [nm x hx]
          omega
      have hle : (i : Int) ≤ topF s.rd.top i := by
        cases s.rd.top with
        | none => exact Int.le_refl _
        | some g =>
          show (i : Int) ≤ (if g < (i : Int) then (i : Int) else g)
          split <;> omega
      refine ⟨by omega, ⟨_, rfl, ?_⟩, fun x hx => Int.le_trans (hx' x hx) hle⟩
      cases hg : s.rd.top with
      | none => exact cmi.2
      | some g =>
        obtain ⟨_, ⟨c, hc, h2⟩, _⟩ := J.tp g hg
        have := cmi.1 c hc
        have := cmi.2
        show (if g < (i : Int) then (i : Int) else g) ≤ topF s.came i
        split <;> omega
  · rcases List.mem_append.mp hx with hx | hx
    · exact J.rb x hx
    · exact ⟨i, nm x hx, hil⟩
  · have hx : x ∈ rd'.held := hx
    cases h with
    | blank _ _ => exact incC _ (J.ky x hx)
    | twice _ _ _ => exact incC _ (J.ky x hx)
    | far _ _ => exact incC _ (J.ky x (mem_come hx))
    | read _ _ =>
      rcases List.mem_append.mp (show x ∈ s.rd.held ++ [((i : Int), hd)] from mem_come hx) with hx | hx
      · exact incC _ (J.ky x hx)
      · rw [List.mem_singleton.mp hx]
        exact List.mem_append.mpr (.inr (List.mem_singleton.mpr rfl))
  · have hx : x ∈ rd'.held := hx
    cases h with
    | blank _ _ => exact J.hds x hx
    | twice _ _ _ => exact J.hds x hx
    | far _ _ => exact J.hds x (mem_come hx)
    | read _ _ =>
      rcases List.mem_append.mp (show x ∈ s.rd.held ++ [((i : Int), hd)] from mem_come hx) with hx | hx
      · exact J.hds x hx
      · rw [List.mem_singleton.mp hx]
        exact ⟨i, rfl, hi⟩
  · show rd'.held.length ≤ _
    rw [List.length_append]
    have := J.hl
    cases h with
    | blank _ _ => exact Nat.le_trans this (Nat.le_add_right _ _)
    | twice _ _ _ => exact Nat.le_trans this (Nat.le_add_right _ _)
    | far _ _ => exact Nat.le_trans come_len (Nat.le_trans this (Nat.le_add_right _ _))
    | read _ _ =>
      refine Nat.le_trans come_len ?_
      show (s.rd.held ++ [((i : Int), hd)]).length ≤ _
      rw [List.length_append]
      exact Nat.succ_le_succ this
  · rcases List.mem_append.mp hx with hx | hx
    · exact inc x (J.CR x hx)
    · exact List.mem_append.mpr (.inr hx)
  · rcases List.mem_append.mp ho with ho | ho
    · exact inc n (J.back o ho n e)
    · have he : some n = wrdO r := e.symm.trans (List.mem_singleton.mp ho)
      clear ho
      cases h with
      | blank _ _ => exact nomatch he
      | twice _ hc _ =>
        rw [show n = (i : Int) from Option.some.inj he]
        exact inc _ (J.CR _ hc)
      | far _ _ => exact nomatch he
      | read _ _ =>
        rw [show n = (i : Int) from Option.some.inj he]
        exact List.mem_append.mpr (.inr (List.mem_singleton.mpr rfl))
  · obtain ⟨j, t, hd, e1, e2, e3, e4⟩ := J.line x (sub x hx)
    exact ⟨j, t, hd, e1, e2, e3, surJ_mono inc e4⟩
  · rw [← Option.some.inj hc]
    cases hc : s.came with
    | none => exact Int.ofNat_lt.mpr hil
    | some c =>
      have := J.cl c hc
      show (if c < (i : Int) then (i : Int) else c) < (s.pr.past.length : Int)
      split <;> omega
theorem roj_forget (J : RoJ s R C) : RoJ ⟨s.pr, ⟨s.rd.P, none, []⟩, s.line, s.back, s.row, s.came⟩ R [] :=
  ⟨J.okp, ⟨J.okr.ok, (fun _ h => nomatch h), List.nodup_nil⟩, J.eP, J.row, J.n9, J.cm, (fun _ z => nomatch z), J.rb, (fun _ h => nomatch h), (fun _ h => nomatch h), Nat.le_refl _, (fun _ h => nomatch h), J.back, J.had, J.line, J.cl⟩
theorem roj_cut {line' : List (Int × Str)} {back' : List (Option Int)} (J : RoJ s R C) (sub : ∀ x ∈ line', x ∈ s.line) (sub2 : ∀ x ∈ back', x ∈ s.back) : RoJ ⟨s.pr, s.rd, line', back', s.row, s.came⟩ R C :=
  ⟨J.okp, J.okr, J.eP, J.row, J.n9, J.cm, J.tp, J.rb, J.ky, J.hds, J.hl, J.CR, fun o ho => J.back o (sub2 o ho), J.had, fun x hx => J.line x (sub x hx), J.cl⟩
theorem roj_heard {back' : List (Option Int)} {o : Option Int} (J : RoJ s R C) (ho : ∀ n, o = some n → n ∈ R) (ok : OkPr (heaP s.pr o)) (sub2 : ∀ x ∈ back', x ∈ s.back) : RoJ ⟨heaP s.pr o, s.rd, s.line, back', s.row, s.came⟩ R C := by
  have eP : (heaP s.pr o).P = s.pr.P := by cases o <;> rfl
  have ep : (heaP s.pr o).past = s.pr.past := by cases o <;> rfl
  refine ⟨ok, J.okr, J.eP.trans eP.symm, J.row.trans ep.symm, ?_, J.cm, fun g hg => ?_, fun x hx => ?_, J.ky, fun h hh => ?_, J.hl, J.CR, fun o ho => J.back o (sub2 o ho), fun m hm => ?_, fun x hx => ?_, fun c hc => by show c < (((heaP s.pr o).past.length : Nat) : Int); rw [ep]; exact J.cl c hc⟩
  · show ((heaP s.pr o).past.length : Int) ≤ p2 (heaP s.pr o).P.n
    rw [eP, ep]
    exact J.n9
  · obtain ⟨a, b, c⟩ := J.tp g hg
    exact ⟨a, b, fun x hx => by show x - (heaP s.pr o).P.lt ≤ g; rw [eP]; exact c x hx⟩
  · show ∃ i : Nat, x = (i : Int) ∧ i < (heaP s.pr o).past.length
    rw [ep]
    exact J.rb x hx
  · show ∃ i : Nat, h.1 = (i : Int) ∧ (heaP s.pr o).past[i]? = some h.2
    rw [ep]
    exact J.hds h hh
  · have hm : (heaP s.pr o).had = some m := hm
    cases o with
    | none => exact J.had m hm
    | some n =>
      have hm : grt s.pr.had (some n) = some m := hm
      have hn := ho n rfl
      cases hh : s.pr.had with
      | none =>
        rw [hh] at hm
        have hm : some n = some m := hm
        rw [← Option.some.inj hm]
        exact hn
      | some b =>
        rw [hh] at hm
        have hm : (if b < n then some n else some b) = some m := hm
        split at hm
        · rw [← Option.some.inj hm]
          exact hn
        · rw [← Option.some.inj hm]
          exact J.had b hh
  · obtain ⟨i, t, hd, e1, e2, e3, e4⟩ := J.line x hx
    refine ⟨i, t, hd, e1, ?_, ?_, ?_⟩
    · show (heaP s.pr o).past[i]? = some hd
      rw [ep]
      exact e2
    · show LetW (heaP s.pr o).P x.1 x.2 t hd
      rw [eP]
      exact e3
    · show SurJ (heaP s.pr o).P (heaP s.pr o).past R i hd t
      rw [eP, ep]
      exact e4
theorem roj_press {us : List Nat} (J : RoJ s R C) (hu : UseR s.pr hd us) (oh : OkHead s.pr.P.s.fs hd) (ok : OkPr ⟨s.pr.P, s.pr.past ++ [hd], s.pr.had, s.pr.base, s.pr.fresh⟩) (hn : (s.pr.past.length : Int) < p2 s.pr.P.n) : RoJ ⟨⟨s.pr.P, s.pr.past ++ [hd], s.pr.had, s.pr.base, s.pr.fresh⟩, s.rd, s.line ++ [((s.pr.past.length : Int), letT s.pr.P (cho s.pr.P us) s.pr.past.length hd)], s.back, s.row ++ [hd], s.came⟩ R C := by
  have up : ∀ {i : Nat} {h : List Int}, s.pr.past[i]? = some h → (s.pr.past ++ [hd])[i]? = some h := fun {i h} e => by
    have := (List.getElem?_eq_some_iff.mp e).1
    rw [List.getElem?_append_left this]
    exact e
  refine ⟨ok, J.okr, J.eP, by show s.row ++ [hd] = s.pr.past ++ [hd]; rw [J.row], ?_, J.cm, J.tp, fun x hx => ?_, J.ky, fun h hh => ?_, J.hl, J.CR, J.back, J.had, fun x hx => ?_, fun c hc => ?_⟩
  · show (((s.pr.past ++ [hd]).length : Nat) : Int) ≤ _
    rw [List.length_append]
    show ((s.pr.past.length + 1 : Nat) : Int) ≤ p2 s.pr.P.n
    omega
  · obtain ⟨i, e, hi⟩ := J.rb x hx
    refine ⟨i, e, ?_⟩
    show i < (s.pr.past ++ [hd]).length
    rw [List.length_append]
    omega
  · obtain ⟨i, e, hi⟩ := J.hds h hh
    exact ⟨i, e, up hi⟩
  · rcases List.mem_append.mp hx with hx | hx
    · obtain ⟨i, t, h, e1, e2, e3, e4⟩ := J.line x hx
      have := (List.getElem?_eq_some_iff.mp e2).1
      exact ⟨i, t, h, e1, up e2, e3, surJ_past (by omega) e4⟩
    · rw [List.mem_singleton.mp hx]
      refine ⟨s.pr.past.length, cho s.pr.P us, hd, rfl, ?_, ⟨rfl, cho_ok (s := s.pr) hu, oh⟩, surJ_past (Nat.le_refl _) (surJ_press J.had hu)⟩
      show (s.pr.past ++ [hd])[s.pr.past.length]? = some hd
      rw [List.getElem?_append_right (Nat.le_refl _), Nat.sub_self]
      rfl
  · have := J.cl c hc
    show c < (((s.pr.past ++ [hd]).length : Nat) : Int)
    rw [List.length_append]
    show c < ((s.pr.past.length + 1 : Nat) : Int)
    omega
/-- a head is pressed -/
def prsS (s : RoS) (hd : List Int) (us : List Nat) : RoS := ⟨⟨s.pr.P, s.pr.past ++ [hd], s.pr.had, s.pr.base, s.pr.fresh⟩, s.rd, s.line ++ [((s.pr.past.length : Int), letT s.pr.P (cho s.pr.P us) s.pr.past.length hd)], s.back, s.row ++ [hd], s.came⟩
/-- a letter that comes and is told -/
def arrS (s : RoS) (r : Tld) (rd' : RdS) (i : Nat) : RoS := ⟨s.pr, rd', [], s.back ++ [wrdO r], s.row, some (topF s.came i)⟩
theorem prs_get : (prsS s hd us).pr.past[s.pr.past.length]? = some hd := by
  show (s.pr.past ++ [hd])[s.pr.past.length]? = some hd
  rw [List.getElem?_append_right (Nat.le_refl _), Nat.sub_self]
  rfl
theorem prs_late (J : RoJ s R C) : lateC (prsS s hd us).came (prsS s hd us).pr.P.lt (s.pr.past.length : Int) = false := by
  show lateC s.came s.pr.P.lt _ = false
  have := J.okp.ok.lt0
  cases hc : s.came with
  | none => rfl
  | some c =>
    have := J.cl c hc
    exact decide_eq_false (by omega)
theorem prs_bey (J : RoJ s R C) (h : ∀ g, s.rd.top = some g → t ≠ none → (s.pr.past.length : Int) ≤ g + s.pr.P.gp + 1) : beyB (prsS s hd us) t (s.pr.past.length : Int) = false := by
  unfold beyB
  rw [prs_late J, Bool.false_or]
  show gapB s.rd.top s.pr.P.gp _ t = false
  cases hg : s.rd.top with
  | none => rfl
  | some g =>
    cases t with
    | none => exact Bool.and_false _
    | some j =>
      have := h g hg (fun z => nomatch z)
      show (decide (g + s.pr.P.gp + 1 < (s.pr.past.length : Int)) && true) = false
      rw [Bool.and_true]
      exact decide_eq_false (by omega)
/-- no number that was pressed but now was told ahead -/
theorem prs_new (J : RoJ s R C) : ((s.pr.past.length : Nat) : Int) ∉ C := fun h => by
  obtain ⟨i, e, hi⟩ := J.rb _ (J.CR _ h)
  omega
theorem told_new {rd' : RdS} {r : Tld} (J : RoJ s R C) (h : ToldJ (prsS s hd us) C s.pr.past.length hd t r rd') :
    (r = .blank ∧ t ≠ none ∧ s.rd.top = none ∧ rd' = s.rd) ∨ (r = .far ∧ ¬ (t ≠ none ∧ s.rd.top = none) ∧ FarJ (prsS s hd us) s.pr.past.length t ∧ rd' = comeF s.rd s.pr.past.length) ∨ (r = .read s.pr.past.length hd ∧ ¬ (t ≠ none ∧ s.rd.top = none) ∧ rd' = comeF (putH s.rd s.pr.past.length hd) s.pr.past.length) := by
  cases h with
  | blank a b => exact .inl ⟨rfl, a, b, rfl⟩
  | twice _ a _ => exact (prs_new J a).elim
  | far a b => exact .inr (.inl ⟨rfl, a, b, rfl⟩)
  | read a _ => exact .inr (.inr ⟨rfl, a, rfl⟩)
theorem come_in {s : RdS} {n : Int} {h : Int × List Int} (lt0 : 0 ≤ s.P.lt) (hm : h ∈ s.held) (e : topF s.top n ≤ h.1) : h ∈ (comeF s n).held := by
  refine List.mem_filter.mpr ⟨hm, ?_⟩
  unfold stayB
  rw [decide_eq_true (by omega)]
  rfl
theorem prs_row (J : RoJ s R C) : ((s.row ++ [hd]).map headD)[s.pr.past.length]? = some (headD hd) := by
  rw [J.row, List.getElem?_map, show (s.pr.past ++ [hd])[s.pr.past.length]? = some hd from prs_get (us := [])]
  rfl
theorem atI_last {α : Type} {l : List α} {n : Nat} {y : α} (h : l[n]? = some y) (e : l.length = n + 1) : atI l (-1) = some y := by
  unfold atI ixN
  rw [if_neg (by omega), if_pos (by omega), show ((-1 : Int) + (l.length : Int)).toNat = n by omega]
  exact h
theorem numsJ_len (r : Tld) : (numsJ r).length ≤ 1 := by
  cases r <;> first | exact Nat.zero_le _ | exact Nat.le_refl _
/-- what is told of a letter that came, the newest one of all -/
theorem top_new {g n : Int} (h : g < n) : topF (some g) n = n := if_pos h
end
section
theorem shp_blank : SeqAt.shaped (tlD .blank) = true := by decide +kernel
theorem shp_far : SeqAt.shaped (tlD .far) = true := by decide +kernel
theorem eqv_br (n : Int) (hd : List Int) : PyData.eqv (tlD .blank) (tlD (.read n hd)) = false := by
  show PyData.eqv (.tuple [.str "not", .str "blank"]) (.tuple [.str "read", .int n, headD hd]) = false
  simp [PyData.eqv, PyData.eqvAll]
theorem eqv_fr (n : Int) (hd : List Int) : PyData.eqv (tlD .far) (tlD (.read n hd)) = false := by
  show PyData.eqv (.tuple [.str "not", .str "far"]) (.tuple [.str "read", .int n, headD hd]) = false
  simp [PyData.eqv, PyData.eqvAll]
theorem eqv_bb : PyData.eqv (tlD .blank) (tlD .blank) = true := by decide +kernel
theorem eqv_ff : PyData.eqv (tlD .far) (tlD .far) = true := by decide +kernel
/-- the state: the next head -/
def StJ (W : Wd) (H : Hp) (d : Addr) (hd : List Int) : Prop := ∃ hv, H d = some (.dK [(.inr "head", hv)]) ∧ Dq W.K H hv (headD hd)
section
variable {W : Wd} {H H' : Hp} {d : Addr} {hd : List Int}
theorem st_sx (e : Sx H H') (h : StJ W H d hd) : StJ W H' d hd := by
  obtain ⟨hv, h1, h2⟩ := h
  exact ⟨hv, e.keep _ _ h1 rfl, dqx e h2⟩
theorem st_mut (h : StJ W H d hd) : MutA [d] H := fun x hx => by
  obtain ⟨hv, h1, h2⟩ := h
  rw [List.mem_singleton.mp hx]
  exact ⟨_, h1, trivial⟩
theorem st_mox {A : List Addr} (m : MutA A H) (e : MoX A H H') (nd : d ∉ A) (h : StJ W H d hd) : StJ W H' d hd := by
  obtain ⟨hv, h1, h2⟩ := h
  exact ⟨hv, e.keep _ _ h1 rfl nd, dqt (mox_st m e) h2 (tupO_head _)⟩
theorem st_cons {A : List Addr} (m : MutA A H) (h : StJ W H d hd) : MutA (d :: A) H := by
  obtain ⟨hv, h1, _⟩ := h
  exact mut_cons m h1 trivial
theorem st_out {A A' : List Addr} (w : NewA A A' H) (h : StJ W H d hd) (n : d ∉ A) : d ∉ A' := by
  obtain ⟨hv, h1, _⟩ := h
  exact newA_out w h1 n
end
end
end Sh
/-! a dict keyed by forms: tuples within tuples -/
namespace Sh
open PySem PySem.Spec PyProof.Rows L2
/-- the object at a: a dict with these entries -/
def dnF (w : World) (a : Addr) (xs : List (NestedKey × Addr × Value)) : Heap → Prop := fun h => (a == sysModules) = false ∧ ∃ o es ep, h.get? a = some o ∧ o.ExactDict ∧ o.data = .dict es ep ∧ es.toList = xs.map fun x => (⟨x.1.hash w, .ref x.2.1, x.2.2⟩ : DictEntry)
def dnO (w : World) (a : Addr) (xs : List (NestedKey × Addr × Value)) : HO := .ext (dnF w a xs)
theorem dnO_ok {P : Program} {w : World} {H : Hp} {h : Heap} {a : Addr} {xs : List (NestedKey × Addr × Value)} (z : dnF w a xs h) : ObjOk P w H h a (dnO w a xs) := by
  obtain ⟨z0, o, es, ep, h1, h2⟩ := z
  exact ⟨⟨z0, o, es, ep, h1, h2⟩, ⟨o, h1⟩, fun _ _ y k => by
    obtain ⟨y0, o, es, ep, y1, y2⟩ := y
    exact ⟨y0, o, es, ep, k o y1, y2⟩⟩
mutual
theorem nested_of {h : Heap} : ∀ (k : NestedKey) (v : Value) (as : List Addr), Reads h v k.data as → NestedIs h k v
  | .none, _, _, r => by
    cases r
    exact .none
  | .num i, _, _, r => by
    cases r
    exact .int _ _
  | .text x, _, _, r => by
    cases r
    exact .text _ _
  | .tup ks, _, _, r => by
    unfold NestedKey.data at r
    cases r with
    | tuple h1 h2 h3 h4 => exact .tup h1 h2 h3 (nested_all ks _ _ h4)
theorem nested_all {h : Heap} : ∀ (ks : List NestedKey) (vs : List Value) (as : List Addr), ReadsAll h vs (NestedKey.datas ks) as → NestedAll h ks vs
  | [], _, _, r => by
    unfold NestedKey.datas at r
    cases r
    exact .nil
  | k :: ks, _, _, r => by
    unfold NestedKey.datas at r
    cases r with
    | cons r1 r2 => exact .cons (nested_of k _ _ r1) (nested_all ks _ _ r2)
end
/-- a dict keyed by forms stands at a -/
structure DnAt (K : PySem.W.Frag) (w : World) (H : Hp) (a : Addr) (xs : List (NestedKey × Addr × Value)) : Prop where
  at_ : H a = some (dnO w a xs) ∨ (xs = [] ∧ H a = some (.dK []))
  nd : (xs.map (·.1)).Nodup
  keys : ∀ x ∈ xs, Dq K H (.ref x.2.1) x.1.data ∧ x.1.depth ≤ 8
theorem dn_dict {X : Cx} {pins : List (Addr × Obj)} {σ : L2.St} {H : Hp} {s : Shared} {a : Addr} {xs : List (NestedKey × Addr × Value)} (I : Inv X pins σ H s) (d : DnAt X.K X.w H a xs) : (a == sysModules) = false ∧ s.heap.DictOfH (nestedKind X.prog X.w) a xs := by
  have hk : ∀ x ∈ xs, (nestedKind X.prog X.w).is s.heap x.1 x.2.1 := fun x hx => by
    obtain ⟨h1, h2⟩ := d.keys x hx
    obtain ⟨as, r⟩ := Dp.reads I _ _ (.ref x.2.1) (dq_dp h1) rfl
    exact ⟨nested_of _ _ _ r, h2⟩
  rcases d.at_ with e | ⟨rfl, e⟩
  · obtain ⟨⟨z0, o, es, ep, h1, h2, h3, h4⟩, _⟩ := (show ObjOk X.prog X.w H s.heap a (dnO X.w a xs) from I.hok a _ e)
    exact ⟨z0, o, es, ep, h1, h2, h3, h4, hk, d.nd⟩
  · obtain ⟨_, z0, vs, rel, o, es, ep, h1, h2, h3, _, h4, _⟩ := dk_of I.hok e
    cases rel
    have h5 : es.toList = [] := by
      generalize es.toList = l at h4
      cases h4
      rfl
    exact ⟨z0, o, es, ep, h1, h2, h3, h5, hk, d.nd⟩
/-- D[key] = True -/
def rSetN (K : PySem.W.Frag) (w : World) : TSet := fun o i v H Q => ∃ a b xs k, o = .ref a ∧ i = .ref b ∧ v = .bl true ∧ DnAt K w H a xs ∧ Dq K H (.ref b) (NestedKey.data k) ∧ k.depth ≤ 8 ∧ xs.length ≤ 1000 ∧ Q (upd H a (dnO w a (storedH xs k b (.bool true))))
theorem set_dn {X : Cx} (hu : X.A.units + 64 < cLine) : PSet X (rSetN X.K X.w) := by
  intro pins s σ H o i v ov iv u Q I r1 r2 r3 q
  obtain ⟨a, b, xs, k, rfl, rfl, rfl, d, hb, hk, hl, q⟩ := q
  cases r1
  cases r2
  cases r3
  obtain ⟨z0, dd⟩ := dn_dict I d
  obtain ⟨as, r⟩ := Dp.reads I _ _ (.ref b) (dq_dp hb) rfl
  refine wpAny_setItem_heap (knd := nestedKind X.prog X.w) (hsz := Nat.le_trans hl (by decide)) (show X.A.in1.units + 8 < cLine by show X.A.units + 1 + 8 < cLine; omega) (show (nestedKind X.prog X.w).is s.heap k b from ⟨nested_of _ _ _ r, hk⟩) dd fun h' dd' hs => ?_
  obtain ⟨o, es, ep, h1, h2, h3, h4, _, h5⟩ := dd'
  refine ⟨_, d_write I ?_ hs ⟨o, h1⟩ (dnO_ok ⟨z0, o, es, ep, h1, h2, h3, h4⟩), q⟩
  rcases d.at_ with e | ⟨_, e⟩
  · rw [e]
    exact True.intro
  · rw [e]
    exact True.intro
mutual
theorem nested_nil {h : Heap} : ∀ (k : NestedKey) (v : Value) (as : List Addr), Reads h v k.data as → as = []
  | .none, _, _, r => by
    cases r
    rfl
  | .num i, _, _, r => by
    cases r
    rfl
  | .text x, _, _, r => by
    cases r
    rfl
  | .tup ks, _, _, r => by
    unfold NestedKey.data at r
    cases r with
    | tuple h1 h2 h3 h4 => exact nested_nils ks _ _ h4
theorem nested_nils {h : Heap} : ∀ (ks : List NestedKey) (vs : List Value) (as : List Addr), ReadsAll h vs (NestedKey.datas ks) as → as = []
  | [], _, _, r => by
    unfold NestedKey.datas at r
    cases r
    rfl
  | k :: ks, _, _, r => by
    unfold NestedKey.datas at r
    cases r with
    | cons r1 r2 =>
      rw [nested_nil k _ _ r1, nested_nils ks _ _ r2]
      rfl
end
theorem each_map_eq {α β : Type} (f : β → α) : ∀ bs : List β, PySem.W.EachIs (fun a b => a = f b) (bs.map f) bs
  | [] => .nil
  | b :: bs => .cons rfl (each_map_eq f bs)
theorem each_eq_map {α β : Type} {f : β → α} : ∀ {as : List α} {bs : List β}, PySem.W.EachIs (fun a b => a = f b) as bs → as = bs.map f
  | _, _, .nil => rfl
  | _, _, .cons h r => by
    rw [h, each_eq_map r]
    rfl
theorem each_of_mem {α β : Type} {f : β → α} {R : α → β → Prop} : ∀ {bs : List β}, (∀ b ∈ bs, R (f b) b) → PySem.W.EachIs R (bs.map f) bs
  | [], _ => .nil
  | b :: bs, h => .cons (h b List.mem_cons_self) (each_of_mem fun c hc => h c (List.mem_cons_of_mem _ hc))
theorem vals_refs {β : Type} (f : β → Addr) : ∀ bs : List β, Vals (bs.map fun b => V.ref (f b)) (bs.map fun b => Value.ref (f b))
  | [] => .nil
  | b :: bs => .cons rfl (vals_refs f bs)
/-- sorted(D) of a dict keyed by forms -/
def rSortedN (K : PySem.W.Frag) (w : World) : List V → Hp → VK → Prop := fun vs H Q => ∃ (a : Addr) (xs : List (NestedKey × Addr × Value)), vs = [V.ref a] ∧ DnAt K w H a xs ∧ xs.length ≤ 1000 ∧ PySem.W.AllAlike (xs.map fun x => x.1.data) ∧ PySem.W.Sortable (xs.map fun x => x.1.data) ∧ (∀ x ∈ xs, x.1.data.depth ≤ 40) ∧
  ∀ p, H p = none → Q (.ref p) (upd H p (.lst ((xs.mergeSort (PySem.W.dataLe false fun x => x.1.data)).map fun x => V.ref x.2.1)))
theorem call_sortedN {X : Cx} (hc : X.calm = true) (hu : X.A.units + 64 < cLine) : CallR X (.builtin "sorted") (rSortedN X.K X.w) := by
  intro pins s σ H vs us Q I r q
  obtain ⟨a, xs, rfl, d, hl, al, so, dp, q⟩ := q
  rw [Vals.ref1 r]
  obtain ⟨z0, o, es, ep, h1, h2, h3, h4, hk, hn⟩ := dn_dict I d
  have sz : es.size = xs.length := by rw [← Array.length_toList, h4, List.length_map]
  have zl : xs.length ≤ sizeLine := Nat.le_trans hl (by decide)
  refine Calls.call_function_entry PyProof.Rows.kind_sorted PyProof.Rows.plain_sorted PyProof.Rows.entry_sorted (PyProof.Rows.args_sorted1 _) ?_
  unfold Builtin.«sorted»
  refine wpAny_bind (m := checkCount "sorted" 1 1 _) (wpAny_pure ?_)
  refine wpAny_bind (PySem.W.kdu_collect (A := X.A.in1) (PySem.KdlSrc.rawDict (es := es) (ep := ep) z0) (I.ok.hd hc) ⟨o, h1, h2, h3⟩ (by rw [sz]; exact zl) fun h' tk acc hk' hacc => ?_)
  have eacc : acc.toList = xs.map fun x => Value.ref x.2.1 := by
    refine List.ext_getElem? fun i => ?_
    have la : acc.size = es.size := hacc.1
    by_cases c : i < xs.length
    · have hi : i < acc.size := by omega
      have ha : acc[i]? = some acc[i] := Array.getElem?_eq_getElem hi
      obtain ⟨he, e⟩ := hacc.2 i _ ha
      have hx : xs[i]? = some xs[i] := List.getElem?_eq_getElem c
      have h5 : es.toList[i]? = some (entryOfKey (nestedKind X.prog X.w) xs[i]) := by rw [h4, List.getElem?_map, hx]; rfl
      rw [Array.getElem?_toList, Array.getElem?_eq_getElem he] at h5
      rw [Array.getElem?_toList, ha, e, Option.some.inj h5, List.getElem?_map, hx]
      rfl
    · rw [List.getElem?_eq_none (by rw [Array.length_toList]; omega), List.getElem?_eq_none (by rw [List.length_map]; omega)]
  have I1 : Inv X pins σ H { s with heap := h', toks := tk } := I.kept hk'
  refine wpAny_bind (wpAny_newList ?_ (by rw [Array.length_toList, hacc.1, sz]; exact zl))
  have hoL : (h'.push (seqObj "list" acc.toList.toArray 0)).get? h'.objs.size = some (seqObj "list" acc.toList.toArray 0) := Heap.get?_push_size _ rfl
  show wpAny _ _ _ _ _ { s with heap := h'.push (seqObj "list" acc.toList.toArray 0), toks := tk }
  refine wpAny_bind (wpAny_holding (PySem.W.list_sort_data (s := { s with heap := h'.push (seqObj "list" acc.toList.toArray 0), toks := tk }) (bs := xs) (R := fun v x => v = .ref x.2.1) (enc := fun x => x.1.data) hoL (by rw [eacc]; exact each_map_eq _ _) ?_ al so zl (fun x hx => ?_) fun out ho he => ?_))
  · rw [eacc]
    refine each_of_mem fun x hx => ?_
    obtain ⟨as, rr⟩ := Dp.reads I1 _ _ (.ref x.2.1) (dq_dp (d.keys x hx).1) rfl
    rw [nested_nil _ _ _ rr] at rr
    exact ⟨[], Reads.keeps (fun _ _ e => Heap.get?_push_of_some _ e) rr, fun z => nomatch z⟩
  · have := dp x hx
    show X.A.units + 1 + 1 + x.1.data.depth < cLine
    omega
  · have eo := each_eq_map he
    obtain ⟨e', he'⟩ := PyProof.Rows.sortedHeap_at (vs := acc.toList) (out := out.toArray) hoL
    refine wpAny_pure ⟨_, rfl, .ref h'.objs.size, upd H h'.objs.size (.lst ((xs.mergeSort (PySem.W.dataLe false fun x => x.1.data)).map fun x => V.ref x.2.1)), I1.laid (t' := tk) (fun b u e => ?_) (Nat.le_refl _)
      (show ObjOk X.prog X.w _ _ _ (.lst ((xs.mergeSort (PySem.W.dataLe false fun x => x.1.data)).map fun x => V.ref x.2.1)) from ⟨by rw [List.length_map, List.length_mergeSort]; exact zl, out, e', by rw [eo]; exact vals_refs _ _, he'⟩), rfl, q _ (I1.hok.fresh (Nat.le_refl _))⟩
    have hb : b < h'.objs.size := Heap.lt_size e
    rw [PyProof.Rows.sortedHeap_old (Nat.ne_of_lt hb) (by rw [size_push']; exact Nat.lt_succ_of_lt hb)]
    exact Heap.get?_push_of_some _ e
theorem plain_ints : ∀ ns : List Int, PyData.plainAll (ns.map .int) = true
  | [] => by simp [PyData.plainAll]
  | n :: ns => by
    have := plain_ints ns
    simp [PyData.plainAll, PyData.plain] at this ⊢
    exact this
theorem any_ints : ∀ ns : List Int, (ns.map PyData.int).any PyData.truthy = ns.any fun n => decide (n ≠ 0)
  | [] => rfl
  | n :: ns => by
    rw [List.map_cons, List.any_cons, List.any_cons, any_ints ns]
    congr 1
    show (n != 0) = decide (n ≠ 0)
    by_cases c : n = 0
    · subst c
      rfl
    · rw [decide_eq_true c]
      simpa using c
/-- any of a tuple of ints -/
def rAnyT (K : PySem.W.Frag) : List V → Hp → VK → Prop := fun vs H Q => ∃ (a : Addr) (ns : List Int), vs = [V.ref a] ∧ SqT K H a (ns.map V.int) ∧ Q (.bl (ns.any fun n => decide (n ≠ 0))) H
theorem call_anyT {X : Cx} (hc : X.calm = true) : CallR X (.builtin "any") (rAnyT X.K) := by
  intro pins s σ H vs us Q I r h
  obtain ⟨a, ns, rfl, hs, q⟩ := h
  obtain ⟨its, rv, hl, _⟩ := I.tuple hs
  rw [Vals.ref1 r]
  refine PySem.W.any_tuple_data (vs := its.toArray) (xs := ns.map PyData.int) (as := []) (I.ok.hd hc) hl (ints_readAll _ rv.ints) (plain_ints ns) (fun x hx => ?_) fun h' tk hk => ?_
  · obtain ⟨n, _, rfl⟩ := List.mem_map.mp hx
    trivial
  · rw [any_ints]
    exact ⟨.bl _, H, I.kept hk, rfl, q⟩
mutual
theorem tupO_key : ∀ k : NestedKey, tupO k.data
  | .none => by
    unfold NestedKey.data
    trivial
  | .num _ => by
    unfold NestedKey.data
    trivial
  | .text _ => by
    unfold NestedKey.data
    trivial
  | .tup ks => by
    unfold NestedKey.data
    exact tupOs_keys ks
theorem tupOs_keys : ∀ ks : List NestedKey, tupOs (NestedKey.datas ks)
  | [] => by
    unfold NestedKey.datas
    trivial
  | k :: ks => by
    unfold NestedKey.datas
    exact ⟨tupO_key k, tupOs_keys ks⟩
end
section
variable {K : PySem.W.Frag} {w : World} {H H' : Hp} {Q : VK} {a b : Addr} {xs : List (NestedKey × Addr × Value)} {k : NestedKey}
theorem dnAt_same (e : Same H H') (d : DnAt K w H a xs) : DnAt K w H' a xs :=
  ⟨d.at_.imp (fun z => e _ _ z) (fun z => ⟨z.1, e _ _ z.2⟩), d.nd, fun x hx => ⟨dq_mono e (d.keys x hx).1, (d.keys x hx).2⟩⟩
theorem dnAt_new (h : H a = some (.dK [])) : DnAt K w H a [] := ⟨.inr ⟨rfl, h⟩, List.nodup_nil, fun _ h => nomatch h⟩
/-- the keys behind a put -/
def insN (ks : List NestedKey) (k : NestedKey) : List NestedKey := if k ∈ ks then ks else ks ++ [k]
theorem atKey_mem {k : NestedKey} : ∀ {xs : List (NestedKey × Addr × Value)}, (atKey xs k).isSome = decide (k ∈ xs.map (·.1))
  | [] => rfl
  | x :: xs => by
    have ih : (atKey xs k).isSome = decide (k ∈ xs.map (·.1)) := atKey_mem
    unfold atKey at ih ⊢
    rw [List.find?_cons, List.map_cons]
    by_cases c : x.1 = k
    · rw [decide_eq_true c, decide_eq_true (by rw [← c]; exact List.mem_cons_self)]
      rfl
    · rw [decide_eq_false c]
      rw [Option.isSome_map] at ih ⊢
      rw [ih]
      refine decide_eq_decide.mpr ⟨fun h => List.mem_cons_of_mem _ h, fun h => ?_⟩
      rcases List.mem_cons.mp h with h | h
      · exact absurd h.symm c
      · exact h
theorem stored_keys {v : Value} : (storedH xs k b v).map (·.1) = insN (xs.map (·.1)) k := by
  have z := atKey_mem (k := k) (xs := xs)
  unfold insN
  by_cases c : k ∈ xs.map (·.1)
  · rw [decide_eq_true c] at z
    obtain ⟨p, hp⟩ := Option.isSome_iff_exists.mp z
    rw [if_pos c, storedH_old hp, keys_map_putAt]
  · rw [decide_eq_false c] at z
    have hn : atKey xs k = none := by
      cases h : atKey xs k with
      | none => rfl
      | some p => rw [h] at z; cases z
    rw [if_neg c, storedH_new hn, List.map_append]
    rfl
theorem dn_st {u : HO} (d : DnAt K w H a xs) : St H (upd H a u) := fun c z hc ht => by
  have n : c ≠ a := fun e => by
    rcases d.at_ with h | ⟨_, h⟩
    · rw [e, h] at hc
      rw [← Option.some.inj hc] at ht
      exact ht
    · rw [e, h] at hc
      rw [← Option.some.inj hc] at ht
      exact ht
  rw [upd_ne n]
  exact hc
/-- D[key] = True -/
theorem w_setN {kk : Hp → Prop} (d : DnAt K w H a xs) (hb : Dq K H (.ref b) k.data) (hk : k.depth ≤ 8) (hl : xs.length ≤ 1000) (q : ∀ xs' H', (∀ c u, H c = some u → c ≠ a → H' c = some u) → St H H' → DnAt K w H' a xs' → xs'.map (·.1) = insN (xs.map (·.1)) k → kk H') : rSetN K w (.ref a) (.ref b) (.bl true) H kk := by
  refine ⟨a, b, xs, k, rfl, rfl, rfl, d, hb, hk, hl, q (storedH xs k b (.bool true)) _ (fun c u hc n => by rw [upd_ne n]; exact hc) (dn_st d) ⟨.inl upd_same, ?_, fun x hx => ?_⟩ stored_keys⟩
  · rw [stored_keys]
    unfold insN
    split
    · exact d.nd
    · rename_i c
      exact List.nodup_append.mpr ⟨d.nd, List.pairwise_singleton _ _, fun y hy z hz e => c (by rw [← List.mem_singleton.mp hz, ← e]; exact hy)⟩
  · have old : ∀ x ∈ xs, Dq K (upd H a (dnO w a (storedH xs k b (.bool true)))) (.ref x.2.1) x.1.data ∧ x.1.depth ≤ 8 := fun x hx => ⟨dqt (dn_st d) (d.keys x hx).1 (tupO_key _), (d.keys x hx).2⟩
    unfold storedH at hx
    split at hx
    · obtain ⟨y, hy, rfl⟩ := List.mem_map.mp hx
      unfold putAt
      split
      · exact old y hy
      · exact old y hy
    · rcases List.mem_append.mp hx with hx | hx
      · exact old x hx
      · rw [List.mem_singleton.mp hx]
        exact ⟨dqt (dn_st d) hb (tupO_key _), hk⟩
theorem dqs_refs {H : Hp} : ∀ {ys : List (NestedKey × Addr × Value)}, (∀ x ∈ ys, Dq K H (.ref x.2.1) x.1.data) → DqAll K H (ys.map fun x => V.ref x.2.1) (ys.map fun x => x.1.data)
  | [], _ => .nil
  | y :: ys, h => .cons (h y List.mem_cons_self) (dqs_refs fun x hx => h x (List.mem_cons_of_mem _ hx))
/-- sorted(D): the keys as they rise -/
theorem w_sortedN (d : DnAt K w H a xs) (hl : xs.length ≤ 1000) (al : PySem.W.AllAlike ((xs.map (·.1)).map NestedKey.data)) (so : PySem.W.Sortable ((xs.map (·.1)).map NestedKey.data)) (dp : ∀ k ∈ xs.map (·.1), k.data.depth ≤ 40)
    (q : ∀ p vs H', H p = none → Same H H' → H' p = some (.lst vs) → DqAll K H' vs (((xs.map (·.1)).mergeSort (PySem.W.dataLe false NestedKey.data)).map NestedKey.data) → Q (.ref p) H') : rSortedN K w [.ref a] H Q := by
  rw [List.map_map] at al so
  refine ⟨a, xs, rfl, d, hl, al, so, fun x hx => dp _ (List.mem_map.mpr ⟨x, hx, rfl⟩), fun p hp => q p _ _ hp (same_new hp) upd_same ?_⟩
  have e : ((xs.map (·.1)).mergeSort (PySem.W.dataLe false NestedKey.data)) = (xs.mergeSort (PySem.W.dataLe false fun x => x.1.data)).map (·.1) := (List.map_mergeSort (f := fun x : NestedKey × Addr × Value => x.1) (r := PySem.W.dataLe false fun x : NestedKey × Addr × Value => x.1.data) (s := PySem.W.dataLe false NestedKey.data) (fun _ _ _ _ => rfl)).symm
  rw [e, List.map_map]
  exact dqs_refs fun x hx => dq_mono (same_new hp) (d.keys x (List.mem_mergeSort.mp hx)).1
end
end Sh
/-! what is due for heads: forms by offsets (k49) -/
namespace Sh
open PySem PySem.Spec PyProof.Rows L2
/-- l.insert(i, y) of a list that is the object itself -/
def rInsert : V → List V → Hp → VK → Prop := fun x vs H Q => ∃ (l : Addr) (xs : List V) (i : Int) (y : V), x = .ref l ∧ vs = [.int i, y] ∧ H l = some (.lst xs) ∧ xs.length < sizeLine ∧ 0 ≤ i ∧ i < 2 ^ 63 ∧ Q .non (upd H l (.lst (xs.take i.toNat ++ [y] ++ xs.drop i.toNat)))
theorem mt_insertM {X : Cx} : MtM X "list.insert" rInsert := mt_insert
theorem w_insert {H : Hp} {Q : VK} {l : Addr} {xs : List V} {i : Int} {y : V} (h : H l = some (.lst xs)) (hl : xs.length < 1000000) (i0 : 0 ≤ i) (i1 : i < 2 ^ 63) (q : Q .non (upd H l (.lst (xs.take i.toNat ++ [y] ++ xs.drop i.toNat)))) : rInsert (.ref l) [.int i, y] H Q := ⟨l, xs, i, y, rfl, rfl, h, Nat.lt_trans hl (by decide), i0, i1, q⟩
theorem w_anyT {K : PySem.W.Frag} {H : Hp} {Q : VK} {a : Addr} {ns : List Int} (h : SqT K H a (ns.map V.int)) (q : Q (.bl (ns.any fun n => decide (n ≠ 0))) H) : rAnyT K [.ref a] H Q := ⟨a, ns, rfl, h, q⟩
theorem w_slV {K : PySem.W.Frag} {H : Hp} {Q : VK} {a : Addr} {xs : List V} {lo hi : Option Int} (h : SqL K H a xs) (q : ∀ p H', H p = none → Same H H' → H' p = some (.lst (cutV xs lo hi)) → Q (.ref p) H') : rSlU K (.ref a) lo hi H Q :=
  .inr (.inr ⟨a, _, rfl, h, fun p hp => q p _ hp (same_new hp) upd_same⟩)
theorem get1 {α : Type} {x y : α} {j : Nat} (h : [x][j]? = some y) : j = 0 ∧ x = y := by
  cases j with
  | zero => exact ⟨rfl, Option.some.inj h⟩
  | succ j => cases h
theorem expK_take {fo hd : List Int} {m v r : Int} {fd : Fd} {p : Nat} (ok : OkFd p fd) (h : ExpK fo hd m v fd.kd r) : ExpK fo (hd.take p) m v fd.kd r := by
  have hk := ok.kd
  cases e : fd.kd with
  | wth k z =>
    rw [e] at h hk
    obtain ⟨x, y, h1, h2, h3⟩ := h
    obtain ⟨k0, k1, _, _⟩ := hk
    exact ⟨x, y, by rw [List.getElem?_take_of_lt (by omega)]; exact h1, h2, h3⟩
  | _ =>
    rw [e] at h
    exact h
/-- how far a value is from what a former head lets expect -/
def OffR (s : Shp) (hd : List Int) (p : Nat) (fo : Fo) (o : Int) : Prop := ∃ fd v0 v r, s.fs[p]? = some fd ∧ fo.2[p]? = some v0 ∧ hd[p]? = some v ∧ ExpK fo.2 (hd.take p) fo.1 v0 fd.kd r ∧ o = (v - r % p2 fd.br) % p2 fd.br
theorem OffR.one {s : Shp} {hd : List Int} {p : Nat} {fo : Fo} {o o' : Int} (h : OffR s hd p fo o) (h' : OffR s hd p fo o') : o = o' := by
  obtain ⟨fd, v0, v, r, h1, h2, h3, h4, rfl⟩ := h
  obtain ⟨fd', v0', v', r', g1, g2, g3, g4, rfl⟩ := h'
  obtain rfl := Option.some.inj (h1.symm.trans g1)
  obtain rfl := Option.some.inj (h2.symm.trans g2)
  obtain rfl := Option.some.inj (h3.symm.trans g3)
  rw [ExpK.one h4 g4]
def OffsR (s : Shp) (hd : List Int) (ps : List Fo) (p : Nat) (os : List Int) : Prop := os.length = ps.length ∧ ∀ (i : Nat) fo, ps[i]? = some fo → ∃ o, os[i]? = some o ∧ OffR s hd p fo o
theorem OffsR.one {s : Shp} {hd : List Int} {ps : List Fo} {p : Nat} {os os' : List Int} (h : OffsR s hd ps p os) (h' : OffsR s hd ps p os') : os = os' := by
  refine List.ext_getElem? fun i => ?_
  by_cases c : i < ps.length
  · obtain ⟨o, h1, h2⟩ := h.2 i _ (List.getElem?_eq_getElem c)
    obtain ⟨o', g1, g2⟩ := h'.2 i _ (List.getElem?_eq_getElem c)
    rw [h1, g1, h2.one g2]
  · rw [List.getElem?_eq_none (by have := h.1; omega), List.getElem?_eq_none (by have := h'.1; omega)]
theorem OffsR.bd {s : Shp} {hd : List Int} {ps : List Fo} {p : Nat} {os : List Int} {fd : Fd} (h : OffsR s hd ps p os) (hf : s.fs[p]? = some fd) : ∀ o ∈ os, 0 ≤ o ∧ o < p2 fd.br := fun o ho => by
  obtain ⟨i, hi⟩ := List.getElem?_of_mem ho
  have li := (List.getElem?_eq_some_iff.mp hi).1
  obtain ⟨o', g1, fd', v0, v, r, h1, _, _, _, rfl⟩ := h.2 i _ (List.getElem?_eq_getElem (show i < ps.length by have := h.1; omega))
  obtain rfl := Option.some.inj (hi.symm.trans g1)
  obtain rfl := Option.some.inj (hf.symm.trans h1)
  have pb := p2_pos fd.br
  exact ⟨Int.emod_nonneg _ (Int.ne_of_gt pb), Int.emod_lt_of_pos _ pb⟩
theorem OffsR.snoc {s : Shp} {hd : List Int} {ps : List Fo} {p i : Nat} {os : List Int} {fo : Fo} {o : Int} (h : OffsR s hd (ps.take i) p os) (hf : ps[i]? = some fo) (ho : OffR s hd p fo o) : OffsR s hd (ps.take (i + 1)) p (os ++ [o]) := by
  have li := (List.getElem?_eq_some_iff.mp hf).1
  have e : ps.take (i + 1) = ps.take i ++ [fo] := by
    rw [List.take_add_one, hf]
    rfl
  have l1 := h.1
  rw [List.length_take] at l1
  rw [e]
  refine ⟨by rw [List.length_append, List.length_append, h.1]; rfl, fun j f hj => ?_⟩
  by_cases c : j < (ps.take i).length
  · rw [List.getElem?_append_left c] at hj
    obtain ⟨o', g1, g2⟩ := h.2 j f hj
    have := (List.getElem?_eq_some_iff.mp g1).1
    exact ⟨o', by rw [List.getElem?_append_left this]; exact g1, g2⟩
  · rw [List.getElem?_append_right (by omega)] at hj
    obtain ⟨e1, e2⟩ := get1 hj
    rw [List.length_take] at e1 c
    refine ⟨o, ?_, by rw [← e2]; exact ho⟩
    rw [List.getElem?_append_right (by omega), show j - os.length = 0 by omega]
    rfl
theorem OffsR.nil {s : Shp} {hd : List Int} {ps : List Fo} {p : Nat} : OffsR s hd (ps.take 0) p [] := by
  rw [List.take_zero]
  exact ⟨rfl, fun i fo h => by cases h⟩
/-- the way that tells a value by its offsets -/
def WyO (br : Int) (os : List Int) (w : Wy) : Prop := ((∀ o ∈ os, o = 0) ∧ w = .keep) ∨ (¬(∀ o ∈ os, o = 0) ∧ ∃ wd bl, Tight br os wd bl ∧ w = if wd < br then .low wd bl else .whole)
theorem WyO.one {br : Int} {os : List Int} {w w' : Wy} (h : WyO br os w) (h' : WyO br os w') : w = w' := by
  rcases h with ⟨h1, rfl⟩ | ⟨h1, wd, bl, h2, rfl⟩
  · rcases h' with ⟨_, rfl⟩ | ⟨g1, _⟩
    · rfl
    · exact absurd h1 g1
  · rcases h' with ⟨g1, _⟩ | ⟨_, wd', bl', g2, rfl⟩
    · exact absurd g1 h1
    · obtain ⟨rfl, rfl⟩ := h2.one g2
      rfl
theorem WyO.ok {br : Int} {os : List Int} {w : Wy} (h : WyO br os w) (hb : ∀ o ∈ os, 0 ≤ o ∧ o < p2 br) : OkWy br w := by
  rcases h with ⟨_, rfl⟩ | ⟨h1, wd, bl, h2, rfl⟩
  · exact trivial
  · by_cases c : wd < br
    · rw [if_pos c]
      refine ⟨?_, Int.le_of_lt c, h2.b0, h2.win.1⟩
      by_cases c2 : 1 ≤ wd
      · exact c2
      · have e : wd = 0 := by have := h2.w0; omega
        have z := h2.win
        rw [e] at z
        have e1 : p2 0 = 1 := rfl
        have z0 := h2.b0
        have z1 := z.1
        refine absurd (fun o ho => ?_) h1
        have z2 := z.2 o ho
        obtain ⟨b0, b1⟩ := hb o ho
        rw [show o + bl = o by omega, Int.emod_eq_of_lt b0 b1] at z2
        omega
    · rw [if_neg c]
      exact trivial
def WayR (s : Shp) (hd : List Int) (ps : List Fo) (p : Nat) (w : Wy) : Prop := ∃ fd os, s.fs[p]? = some fd ∧ OffsR s hd ps p os ∧ WyO fd.br os w
theorem WayR.one {s : Shp} {hd : List Int} {ps : List Fo} {p : Nat} {w w' : Wy} (h : WayR s hd ps p w) (h' : WayR s hd ps p w') : w = w' := by
  obtain ⟨fd, os, h1, h2, h3⟩ := h
  obtain ⟨fd', os', g1, g2, g3⟩ := h'
  obtain rfl := Option.some.inj (h1.symm.trans g1)
  obtain rfl := h2.one g2
  exact h3.one g3
def WaysR (s : Shp) (hd : List Int) (ps : List Fo) (ws : List Wy) : Prop := ws.length = s.fs.length ∧ ∀ (p : Nat) w, ws[p]? = some w → WayR s hd ps p w
theorem WaysR.one {s : Shp} {hd : List Int} {ps : List Fo} {ws ws' : List Wy} (h : WaysR s hd ps ws) (h' : WaysR s hd ps ws') : ws = ws' := by
  refine List.ext_getElem? fun i => ?_
  by_cases c : i < ws.length
  · have c2 : i < ws'.length := by have := h.1; have := h'.1; omega
    rw [List.getElem?_eq_getElem c, List.getElem?_eq_getElem c2, (h.2 i _ (List.getElem?_eq_getElem c)).one (h'.2 i _ (List.getElem?_eq_getElem c2))]
  · rw [List.getElem?_eq_none (by omega), List.getElem?_eq_none (by have := h.1; have := h'.1; omega)]
theorem WaysR.okFm {s : Shp} {hd : List Int} {ps : List Fo} {f : Fm} (h : WaysR s hd ps f.ws) (r0 : 1 ≤ f.r) (r1 : f.r ≤ 40) (c0 : 1 ≤ f.c) (c1 : f.c ≤ 40) : OkFm s f := by
  refine ⟨r0, r1, c0, c1, h.1, fun i w fd hw hf => ?_⟩
  obtain ⟨fd', os, h1, h2, h3⟩ := h.2 i w hw
  obtain rfl := Option.some.inj (h1.symm.trans hf)
  exact h3.ok (h2.bd h1)
theorem WaysR.win {s : Shp} {hd : List Int} {ps : List Fo} {f : Fm} {fo : Fo} (ok : OkShp s) (h : WaysR s hd ps f.ws) (oh : OkHead s.fs hd) (hb : ∀ (j : Nat) fd x, s.fs[j]? = some fd → hd[j]? = some x → 0 ≤ x ∧ x < p2 fd.br) (hm : fo ∈ ps) : WinN s f fo.2 fo.1 s.fs.length hd := by
  have lh := okHead_len oh
  refine ⟨lh, fun j fd w v hj e1 e2 e3 => ?_⟩
  obtain ⟨x, hx⟩ : ∃ x, hd[j]? = some x := ⟨_, List.getElem?_eq_getElem (by omega)⟩
  obtain ⟨x0, x1⟩ := hb j fd x e1 hx
  refine ⟨x, hx, ?_⟩
  obtain ⟨fd', os, h1, h2, h3⟩ := h.2 j w e2
  obtain rfl := Option.some.inj (e1.symm.trans h1)
  obtain ⟨i, hi⟩ := List.getElem?_of_mem hm
  obtain ⟨o, ho, fd', v0, v', r, g1, g2, g3, g4, g5⟩ := h2.2 i fo hi
  obtain rfl := Option.some.inj (e1.symm.trans g1)
  obtain rfl := Option.some.inj (e3.symm.trans g2)
  obtain rfl := Option.some.inj (hx.symm.trans g3)
  have pb := p2_pos fd.br
  have hom := List.mem_of_getElem? ho
  have back : (r % p2 fd.br + o) % p2 fd.br = x := by
    rw [g5, Int.add_emod_emod, show r % p2 fd.br + (x - r % p2 fd.br) = x by omega]
    exact Int.emod_eq_of_lt x0 x1
  rcases h3 with ⟨z, rfl⟩ | ⟨_, wd, bl, z, rfl⟩
  · refine ⟨r, g4, ?_⟩
    rw [z o hom, Int.add_zero, Int.emod_emod_of_dvd _ (Int.dvd_refl _)] at back
    exact back.symm
  · by_cases c : wd < fd.br
    · rw [if_pos c]
      refine ⟨r, (o + bl) % p2 fd.br, g4, Int.emod_nonneg _ (Int.ne_of_gt pb), z.win.2 o hom, ?_⟩
      rw [Int.add_emod_emod, show r % p2 fd.br - bl + (o + bl) = r % p2 fd.br + o by omega]
      exact back.symm
    · rw [if_neg c]
      exact ⟨x0, x1⟩
theorem okHead_bd : ∀ {fs : List Fd} {hd : List Int}, OkHead fs hd → ∀ (j : Nat) fd x, fs[j]? = some fd → hd[j]? = some x → 0 ≤ x ∧ x < p2 fd.br
  | [], [], _, j, fd, x, h, _ => by simp at h
  | _ :: _, _ :: _, o, 0, fd, x, h, g => by
    obtain rfl := Option.some.inj h
    obtain rfl := Option.some.inj g
    exact o.1
  | _ :: _, _ :: _, o, j + 1, fd, x, h, g => okHead_bd o.2 j fd x h g
  | [], _ :: _, o, _, _, _, _, _ => o.elim
  | _ :: _, [], o, _, _, _, _, _ => o.elim
theorem WaysR.sure {s : Shp} {hd : List Int} {ps : List Fo} {f : Fm} (ok : OkShp s) (okf : OkFm s f) (h : WaysR s hd ps f.ws) (oh : OkHead s.fs hd) : SuA s f hd ps := fun fo hm =>
  op_win ok okf (h.win ok oh (okHead_bd oh) hm) (okHead_len oh) (List.take_of_length_le (Nat.le_of_eq (okHead_len oh)))
/-- the heads ahead of one within reach -/
def FrmsR (hs : List (List Int)) (k r : Int) (ps : List Fo) : Prop := (ps.length : Int) = (if k < r then k else r) ∧ ∀ (j : Nat) (p : Fo), ps[j]? = some p → p.1 = (j : Int) + 1 ∧ hs[(k - p.1).toNat]? = some p.2
theorem FrmsR.one {hs : List (List Int)} {k r : Int} {ps ps' : List Fo} (h : FrmsR hs k r ps) (h' : FrmsR hs k r ps') : ps = ps' := by
  have l : ps.length = ps'.length := by have := h.1; have := h'.1; omega
  refine List.ext_getElem? fun i => ?_
  by_cases c : i < ps.length
  · obtain ⟨a1, a2⟩ := h.2 i _ (List.getElem?_eq_getElem c)
    obtain ⟨b1, b2⟩ := h'.2 i _ (List.getElem?_eq_getElem (l ▸ c))
    have e1 := a1.trans b1.symm
    rw [e1, b2] at a2
    rw [List.getElem?_eq_getElem c, List.getElem?_eq_getElem (l ▸ c)]
    exact congrArg some (Prod.ext e1 (Option.some.inj a2).symm)
  · rw [List.getElem?_eq_none (by omega), List.getElem?_eq_none (by omega)]
theorem frms_ex {hs : List (List Int)} {k r : Int} (k0 : 0 ≤ k) (k1 : k < hs.length) (r0 : 0 ≤ r) : ∃ ps, FrmsR hs k r ps := by
  have hm : 0 ≤ (if k < r then k else r) ∧ (if k < r then k else r) ≤ k := by split <;> omega
  generalize hM : (if k < r then k else r) = M at hm
  have key : ∀ n : Nat, (n : Int) ≤ k → ∃ ps : List Fo, ps.length = n ∧ ∀ (j : Nat) (p : Fo), ps[j]? = some p → p.1 = (j : Int) + 1 ∧ hs[(k - p.1).toNat]? = some p.2 := fun n => by
    induction n with
    | zero => exact fun _ => ⟨[], rfl, fun j p h => by cases h⟩
    | succ n ih =>
      intro hn
      obtain ⟨ps, l, h⟩ := ih (by omega)
      obtain ⟨g, hg⟩ : ∃ g, hs[(k - ((n : Int) + 1)).toNat]? = some g := ⟨_, List.getElem?_eq_getElem (by omega)⟩
      refine ⟨ps ++ [((n : Int) + 1, g)], by rw [List.length_append, l]; rfl, fun j p hp => ?_⟩
      by_cases c : j < ps.length
      · rw [List.getElem?_append_left c] at hp
        exact h j p hp
      · rw [List.getElem?_append_right (by omega)] at hp
        obtain ⟨e1, e2⟩ := get1 hp
        rw [← e2]
        have : j = n := by omega
        subst this
        exact ⟨rfl, hg⟩
  obtain ⟨ps, l, h⟩ := key M.toNat (by omega)
  exact ⟨ps, by rw [hM, l]; omega, h⟩
/-- the forms due for the heads behind the first one -/
def FormsR (s : Shp) (hs : List (List Int)) (r c : Int) (n : Nat) (fs : List Fm) : Prop := fs.length = n ∧ ∀ (i : Nat) f, fs[i]? = some f → f.r = r ∧ f.c = c ∧ ∃ ps hd, FrmsR hs ((i : Int) + 1) r ps ∧ hs[i + 1]? = some hd ∧ WaysR s hd ps f.ws
theorem FormsR.one {s : Shp} {hs : List (List Int)} {r c : Int} {n : Nat} {fs fs' : List Fm} (h : FormsR s hs r c n fs) (h' : FormsR s hs r c n fs') : fs = fs' := by
  have l : fs.length = fs'.length := by have := h.1; have := h'.1; omega
  refine List.ext_getElem? fun i => ?_
  by_cases k : i < fs.length
  · obtain ⟨a1, a2, ps, hd, a3, a4, a5⟩ := h.2 i _ (List.getElem?_eq_getElem k)
    obtain ⟨b1, b2, ps', hd', b3, b4, b5⟩ := h'.2 i _ (List.getElem?_eq_getElem (l ▸ k))
    obtain rfl := a3.one b3
    obtain rfl := Option.some.inj (a4.symm.trans b4)
    have e := a5.one b5
    rw [List.getElem?_eq_getElem k, List.getElem?_eq_getElem (l ▸ k)]
    generalize fs[i] = x at *
    generalize fs'[i] = y at *
    obtain ⟨x1, x2, x3⟩ := x
    obtain ⟨y1, y2, y3⟩ := y
    have e1 : x1 = y1 := a1.trans b1.symm
    have e2 : x2 = y2 := a2.trans b2.symm
    have e3 : x3 = y3 := e
    rw [e1, e2, e3]
  · rw [List.getElem?_eq_none (by omega), List.getElem?_eq_none (by omega)]
theorem FormsR.nil {s : Shp} {hs : List (List Int)} {r c : Int} : FormsR s hs r c 0 [] := ⟨rfl, fun i f h => by cases h⟩
theorem FormsR.snoc {s : Shp} {hs : List (List Int)} {r c : Int} {n : Nat} {fs : List Fm} {ps : List Fo} {hd : List Int} {ws : List Wy} (h : FormsR s hs r c n fs) (h1 : FrmsR hs ((n : Int) + 1) r ps) (h2 : hs[n + 1]? = some hd) (h3 : WaysR s hd ps ws) : FormsR s hs r c (n + 1) (fs ++ [⟨r, c, ws⟩]) := by
  have l := h.1
  refine ⟨by rw [List.length_append, l]; rfl, fun i f hf => ?_⟩
  by_cases k : i < fs.length
  · rw [List.getElem?_append_left k] at hf
    exact h.2 i f hf
  · rw [List.getElem?_append_right (by omega)] at hf
    obtain ⟨e1, e2⟩ := get1 hf
    have : i = n := by omega
    subst this
    rw [← e2]
    exact ⟨rfl, rfl, ps, hd, h1, h2, h3⟩
/-! forms as keys -/
def wyK : Wy → NestedKey
  | .keep => .tup [.text "keep"]
  | .whole => .tup [.text "whole"]
  | .low w l => .tup [.text "low", .num w, .num l]
def fmK (f : Fm) : NestedKey := .tup [.num f.r, .num f.c, .tup (f.ws.map wyK)]
theorem wyK_data (w : Wy) : (wyK w).data = wyD w := by
  cases w <;> simp [wyK, wyD, NestedKey.data, NestedKey.datas]
theorem wysK_datas : ∀ ws : List Wy, NestedKey.datas (ws.map wyK) = ws.map wyD
  | [] => by simp [NestedKey.datas]
  | w :: ws => by
    rw [List.map_cons, List.map_cons, NestedKey.datas, wyK_data, wysK_datas ws]
theorem fmK_data (f : Fm) : (fmK f).data = fmD f := by
  unfold fmK fmD
  rw [NestedKey.data, NestedKey.datas, NestedKey.datas, NestedKey.datas, NestedKey.datas, NestedKey.data, NestedKey.data, NestedKey.data, wysK_datas]
theorem wyK_depth (w : Wy) : (wyK w).depth ≤ 1 := by
  cases w <;> simp [wyK, NestedKey.depth, NestedKey.depthAll]
theorem wysK_depth : ∀ ws : List Wy, NestedKey.depthAll (ws.map wyK) ≤ 1
  | [] => by simp [NestedKey.depthAll]
  | w :: ws => by
    rw [List.map_cons, NestedKey.depthAll]
    have := wyK_depth w
    have := wysK_depth ws
    omega
theorem fmK_depth (f : Fm) : (fmK f).depth ≤ 8 := by
  have := wysK_depth f.ws
  unfold fmK
  simp only [NestedKey.depth, NestedKey.depthAll]
  omega
theorem wyD_depth (w : Wy) : (wyD w).depth ≤ 3 := by
  cases w <;> simp [wyD, PyData.depth, PyData.depthAll]
theorem wysD_depth : ∀ ws : List Wy, PyData.depthAll (ws.map wyD) ≤ 3
  | [] => by simp [PyData.depthAll]
  | w :: ws => by
    rw [List.map_cons, PyData.depthAll]
    have := wyD_depth w
    have := wysD_depth ws
    omega
theorem fmD_depth (f : Fm) : (fmD f).depth ≤ 10 := by
  have := wysD_depth f.ws
  unfold fmD
  simp only [PyData.depth, PyData.depthAll]
  omega
theorem alike_wy (a b : Wy) : PySem.W.alike (wyD a) (wyD b) = true := by
  cases a <;> cases b <;> simp [wyD, PySem.W.alike, PySem.W.alikeAll]
theorem alike_wys : ∀ as bs : List Wy, PySem.W.alikeAll (as.map wyD) (bs.map wyD) = true
  | [], [] => by simp [PySem.W.alikeAll]
  | [], _ :: _ => by simp [PySem.W.alikeAll]
  | _ :: _, [] => by simp [PySem.W.alikeAll]
  | a :: as, b :: bs => by
    rw [List.map_cons, List.map_cons, PySem.W.alikeAll, alike_wy, alike_wys as bs]
    rfl
theorem alike_fm (f g : Fm) : PySem.W.alike (fmD f) (fmD g) = true := by
  unfold fmD
  simp [PySem.W.alike, PySem.W.alikeAll, alike_wys]
/-- the keys in the order in which they came first -/
def keysF (fs : List Fm) : List NestedKey := fs.foldl (fun ks f => insN ks (fmK f)) []
theorem keysF_snoc (fs : List Fm) (f : Fm) : keysF (fs ++ [f]) = insN (keysF fs) (fmK f) := by
  unfold keysF
  rw [List.foldl_append]
  rfl
theorem keys_of : ∀ (fs : List Fm) (gs0 : List Fm), ∃ gs : List Fm, fs.foldl (fun ks f => insN ks (fmK f)) (gs0.map fmK) = gs.map fmK ∧ (∀ g ∈ gs, g ∈ gs0 ∨ g ∈ fs) ∧ gs.length ≤ gs0.length + fs.length
  | [], gs0 => ⟨gs0, rfl, fun _ h => .inl h, Nat.le_refl _⟩
  | f :: fs, gs0 => by
    rw [List.foldl_cons]
    by_cases c : fmK f ∈ gs0.map fmK
    · obtain ⟨gs, e, m, l⟩ := keys_of fs gs0
      refine ⟨gs, ?_, fun g hg => (m g hg).imp id (List.mem_cons_of_mem _), by rw [List.length_cons]; omega⟩
      unfold insN
      rw [if_pos c]
      exact e
    · obtain ⟨gs, e, m, l⟩ := keys_of fs (gs0 ++ [f])
      rw [List.length_append] at l
      refine ⟨gs, ?_, fun g hg => ?_, by rw [List.length_cons]; simp only [List.length_cons, List.length_nil] at l; omega⟩
      · unfold insN at e ⊢
        rw [if_neg c]
        rw [List.map_append] at e
        exact e
      · rcases m g hg with h | h
        · rcases List.mem_append.mp h with h | h
          · exact .inl h
          · rw [List.mem_singleton.mp h]
            exact .inr List.mem_cons_self
        · exact .inr (List.mem_cons_of_mem _ h)
theorem keysF_of (fs : List Fm) : ∃ gs : List Fm, keysF fs = gs.map fmK ∧ (∀ g ∈ gs, g ∈ fs) ∧ gs.length ≤ fs.length := by
  obtain ⟨gs, e, m, l⟩ := keys_of fs []
  exact ⟨gs, e, fun g hg => (m g hg).resolve_left (fun h => nomatch h), by simpa using l⟩
/-- the rising tuple of unlike forms, as data -/
def riseF (fs : List Fm) : List PyData := ((keysF fs).mergeSort (PySem.W.dataLe false NestedKey.data)).map NestedKey.data
theorem keysF_datas (fs : List Fm) : ∃ gs : List Fm, (keysF fs).map NestedKey.data = gs.map fmD ∧ (∀ g ∈ gs, g ∈ fs) ∧ gs.length ≤ fs.length := by
  obtain ⟨gs, e, m, l⟩ := keysF_of fs
  refine ⟨gs, ?_, m, l⟩
  rw [e, List.map_map]
  exact List.map_congr_left fun g _ => fmK_data g
theorem keysF_alike (fs : List Fm) : PySem.W.AllAlike ((keysF fs).map NestedKey.data) := by
  obtain ⟨gs, e, _⟩ := keysF_datas fs
  rw [e]
  exact PySem.W.AllAlike.of alike_fm
theorem keysF_sortable (fs : List Fm) : PySem.W.Sortable ((keysF fs).map NestedKey.data) := by
  obtain ⟨gs, e, _⟩ := keysF_datas fs
  rw [e]
  exact PySem.W.Sortable.tuples fun f => ⟨_, _, rfl⟩
theorem keysF_mem {fs : List Fm} {k : NestedKey} (h : k ∈ keysF fs) : ∃ f ∈ fs, k = fmK f := by
  obtain ⟨gs, e, m, _⟩ := keysF_of fs
  rw [e] at h
  obtain ⟨f, hf, rfl⟩ := List.mem_map.mp h
  exact ⟨f, m f hf, rfl⟩
theorem keysF_depth {fs : List Fm} : ∀ k ∈ keysF fs, k.data.depth ≤ 40 := fun k hk => by
  obtain ⟨f, _, rfl⟩ := keysF_mem hk
  rw [fmK_data]
  exact Nat.le_trans (fmD_depth f) (by decide)
theorem riseF_mem {fs : List Fm} {d : PyData} (h : d ∈ riseF fs) : ∃ f ∈ fs, d = fmD f := by
  obtain ⟨k, hk, rfl⟩ := List.mem_map.mp h
  obtain ⟨f, hf, rfl⟩ := keysF_mem (List.mem_mergeSort.mp hk)
  exact ⟨f, hf, fmK_data f⟩
theorem keysF_len (fs : List Fm) : (keysF fs).length ≤ fs.length := by
  obtain ⟨gs, e, _, l⟩ := keysF_of fs
  rw [e, List.length_map]
  exact l
theorem riseF_len (fs : List Fm) : (riseF fs).length ≤ fs.length := by
  unfold riseF
  rw [List.length_map, List.length_mergeSort]
  exact keysF_len fs
theorem tupO_riseF (fs : List Fm) : tupOs (riseF fs) := tupOs_of fun d hd => by
  obtain ⟨f, _, rfl⟩ := riseF_mem hd
  exact tupO_fm f
theorem sok_wy : PyData.strOk ("keep" : Str) = true ∧ PyData.strOk ("whole" : Str) = true ∧ PyData.strOk ("low" : Str) = true := by decide +kernel
theorem lay_wy (w : Wy) : PyData.canLay0 (wyD w) = true := by
  obtain ⟨a, b, c⟩ := sok_wy
  cases w <;> simp [wyD, PyData.canLay0, PyData.canLayAll0, a, b, c]
theorem lay_fm (f : Fm) : PyData.canLay0 (fmD f) = true := by
  have a := canAll (f.ws.map wyD) fun d hd => by
    obtain ⟨w, _, rfl⟩ := List.mem_map.mp hd
    exact lay_wy w
  unfold fmD
  simp only [PyData.canLay0, PyData.canLayAll0, a]
  decide
theorem shp_riseF (fs : List Fm) : SeqAt.shaped (.tuple (riseF fs)) = true := by
  have a := canAll (riseF fs) fun d hd => by
    obtain ⟨f, _, rfl⟩ := riseF_mem hd
    exact lay_fm f
  have b := depAll (k := 10) (riseF fs) fun d hd => by
    obtain ⟨f, _, rfl⟩ := riseF_mem hd
    exact fmD_depth f
  show (PyData.canLay0 (.tuple (riseF fs)) && decide (PyData.depth (.tuple (riseF fs)) ≤ 64)) = true
  rw [Bool.and_eq_true]
  exact ⟨by simp only [PyData.canLay0]; exact a, decide_eq_true (by simp only [PyData.depth]; omega)⟩
theorem eqv_riseF (fs : List Fm) : PyData.eqv (.tuple (riseF fs)) (.tuple (riseF fs)) = true := SeqAt.eqv_refl _ (SeqAt.canLay_of_shaped (shp_riseF fs))
theorem pl_wy {n : Nat} (w : Wy) : PlD (n + 1) (wyD w) := by
  cases w with
  | keep => exact ⟨(show 1 ≤ 1000 by decide), fun d hd => by rw [List.mem_singleton.mp hd]; cases n <;> trivial⟩
  | whole => exact ⟨(show 1 ≤ 1000 by decide), fun d hd => by rw [List.mem_singleton.mp hd]; cases n <;> trivial⟩
  | low w l =>
    refine ⟨(show 3 ≤ 1000 by decide), fun d hd => ?_⟩
    simp only [List.mem_cons, List.not_mem_nil, or_false] at hd
    rcases hd with rfl | rfl | rfl <;> cases n <;> trivial
theorem pl_fm {n : Nat} (f : Fm) (h : f.ws.length ≤ 1000) : PlD (n + 3) (fmD f) := by
  refine ⟨(show 3 ≤ 1000 by decide), fun d hd => ?_⟩
  simp only [List.mem_cons, List.not_mem_nil, or_false] at hd
  rcases hd with rfl | rfl | rfl
  · trivial
  · trivial
  · refine ⟨by rw [List.length_map]; exact h, fun d hd => ?_⟩
    obtain ⟨w, _, rfl⟩ := List.mem_map.mp hd
    exact pl_wy w
theorem pl_riseF {fs : List Fm} (h : fs.length ≤ 1000) (hw : ∀ f ∈ fs, f.ws.length ≤ 1000) : PlD 6 (.tuple (riseF fs)) := by
  refine ⟨Nat.le_trans (riseF_len fs) h, fun d hd => ?_⟩
  obtain ⟨f, hf, rfl⟩ := riseF_mem hd
  exact pl_fm f (hw f hf)
/-! the tightest window by trial -/
def candL (P : Int) (os : List Int) : List Int := 0 :: os.map fun o => (0 - o) % P
theorem cand_mem {P c : Int} {os ys : List Int} (hp : ys.Perm (candL P os)) (h : c = 0 ∨ ∃ o ∈ os, c = (0 - o) % P) : c ∈ ys := by
  refine hp.mem_iff.mpr ?_
  rcases h with rfl | ⟨o, ho, rfl⟩
  · exact List.mem_cons_self
  · exact List.mem_cons_of_mem _ (List.mem_map.mpr ⟨o, ho, rfl⟩)
theorem cand_nn {w c : Int} {os ys : List Int} (hp : ys.Perm (candL (p2 w) os)) (h : c ∈ ys) : 0 ≤ c := by
  rcases List.mem_cons.mp (hp.mem_iff.mp h) with rfl | h
  · exact Int.le_refl _
  · obtain ⟨o, _, rfl⟩ := List.mem_map.mp h
    exact Int.emod_nonneg _ (Int.ne_of_gt (p2_pos w))
theorem tight_hit {br b : Int} {os ys : List Int} {i j : Nat} (hp : ys.Perm (candL (p2 br) os)) (hs : ys.Pairwise (· ≤ ·)) (hi : (i : Int) ≤ br) (h1 : ∀ w : Nat, w < i → ∀ c ∈ ys, ¬ InWin br os (w : Int) c) (h2 : ∀ c ∈ ys.take j, ¬ InWin br os (i : Int) c) (hb : ys[j]? = some b) (hin : InWin br os (i : Int) b) : Tight br os (i : Int) b := by
  refine tight_of (by omega) hi (cand_nn hp (List.mem_of_getElem? hb)) hin fun w c w0 w1 c0 hc hm => ?_
  have cm := cand_mem hp hm
  have e : w = ((w.toNat : Nat) : Int) := by omega
  rw [e] at hc
  refine ⟨?_, fun ew => ?_⟩
  · by_cases k : (i : Int) ≤ w
    · exact k
    · exact absurd hc (h1 w.toNat (by omega) c cm)
  · obtain ⟨l, hl⟩ := List.getElem?_of_mem cm
    by_cases k : l < j
    · have : w.toNat = i := by omega
      rw [this] at hc
      refine absurd hc (h2 c ?_)
      refine List.mem_of_getElem? (i := l) ?_
      rw [List.getElem?_take_of_lt k]
      exact hl
    · obtain ⟨l1, e1⟩ := List.getElem?_eq_some_iff.mp hb
      obtain ⟨l2, e2⟩ := List.getElem?_eq_some_iff.mp hl
      rw [← e1, ← e2]
      by_cases k2 : l = j
      · subst k2
        exact Int.le_refl _
      · exact List.pairwise_iff_getElem.mp hs j l l1 l2 (by omega)
theorem tight_miss {br : Int} {os ys : List Int} (hp : ys.Perm (candL (p2 br) os)) (b0 : 0 ≤ br) (h1 : ∀ w : Nat, w < br.toNat → ∀ c ∈ ys, ¬ InWin br os (w : Int) c) : Tight br os br 0 := by
  have pb := p2_pos br
  refine tight_of b0 (Int.le_refl _) (Int.le_refl _) ⟨pb, fun o _ => ?_⟩ fun w c w0 w1 c0 hc hm => ?_
  · exact Int.emod_lt_of_pos _ pb
  · have cm := cand_mem hp hm
    have e : w = ((w.toNat : Nat) : Int) := by omega
    rw [e] at hc
    refine ⟨?_, fun _ => c0⟩
    by_cases k : br ≤ w
    · exact k
    · exact absurd hc (h1 w.toNat (by omega) c cm)
end Sh
namespace Sh
open PySem PySem.Spec PyProof.Rows L2
open RZ
local macro_rules | `(tactic| walk_at "Zkt") => `(tactic| first | assumption | exact Same.refl _ | ((refine' Same.trans ?a ?b); (case b => assumption); walk_at "Zkt"))
local macro_rules | `(tactic| walk_at "Znum") => `(tactic| first | omega | decide +kernel | assumption | exact p2_pos _)
local macro_rules | `(tactic| walk_at "Zcmul") => `(tactic| first | exact .inr ⟨by decide, by decide⟩ | exact .inl ⟨by decide, by decide⟩ | exact .inl ⟨by omega, by omega⟩ | exact .inr ⟨by omega, by omega⟩)
local macro_rules | `(tactic| walk_at "Zs0") => `(tactic| first
  | with_reducible refine' w_seq ?_
  | with_reducible refine' w_asg ?_
  | ((with_reducible refine' w_var ?vv ?_); (case vv => exact rfl))
  | with_reducible refine' w_c ?_
  | with_reducible refine' w_gname ?_
  | with_reducible refine' w_op ?_
  | with_reducible refine' w_cons ?_
  | with_reducible refine' w_nil ?_
  | with_reducible refine' w_call ?_
  | with_reducible refine' w_cb ?_
  | with_reducible refine' w_test ?_
  | with_reducible refine' w_tB ?_
  | with_reducible refine' w_bl ?_
  | with_reducible refine' w_ret ?_
  | with_reducible refine' w_not ?_
  | with_reducible refine' w_and ?_
  | with_reducible refine' w_or ?_
  | with_reducible refine' w_andv ?_
  | with_reducible refine' w_orv ?_
  | with_reducible refine' w_notv ?_
  | with_reducible refine' w_chain ?_
  | with_reducible refine' w_tup ?_
  | with_reducible refine' w_lst ?_
  | with_reducible refine' w_un ?_
  | with_reducible refine' w_rU ?_
  | with_reducible refine' w_drop ?_
  | with_reducible refine' w_par ?_
  | with_reducible refine' w_two ?_
  | with_reducible refine' w_par3 ?_
  | with_reducible refine' w_three ?_
  | with_reducible refine' w_lenSetU ?_
  | with_reducible refine' w_next ?_
  | with_reducible refine' w_retn ?_
  | ((with_reducible refine' w_aug ?vv ?_); (case vv => exact rfl))
  | with_reducible refine' w_meth ?_
  | with_reducible refine' w_make ?_
  | with_reducible refine' w_fd ?_
  | with_reducible refine' w_sfd ?_
  | with_reducible refine' w_nn ?_)
local macro_rules | `(tactic| walk_at "Zs1") => `(tactic| first | walk_at "Zs0" | with_reducible refine' w_ifs ?_ | with_reducible refine' w_ife ?_)
local macro_rules | `(tactic| walk_at "Zs2") => `(tactic| first
  | with_reducible refine' w_add ?_
  | with_reducible refine' w_addN ?_
  | with_reducible refine' w_sub ?_
  | with_reducible refine' w_con ?_
  | with_reducible refine' w_lt ?_
  | with_reducible refine' w_le ?_
  | with_reducible refine' w_gt ?_
  | with_reducible refine' w_ge ?_
  | with_reducible refine' w_eqi ?_
  | with_reducible refine' w_nei ?_
  | with_reducible refine' w_eqs ?_
  | with_reducible refine' w_nes ?_
  | with_reducible refine' w_neb ?_
  | with_reducible refine' w_eqb ?_
  | ((with_reducible refine' w_lenQTm ?h ?_); (case h => walk_at "Zdq"))
  | ((with_reducible refine' w_lenQT ?h ?_); (case h => walk_at "Zdq"))
  | ((with_reducible refine' w_lenZT ?h ?_); (case h => walk_at "Zdz"))
  | with_reducible refine' w_min2 ?_
  | with_reducible refine' w_max2 ?_
  | with_reducible refine' w_max3 ?_
  | with_reducible refine' w_abs ?_
  | with_reducible refine' w_ipadd ?_
  | with_reducible refine' w_ipaddN ?_
  | ((with_reducible refine' w_mod ?a ?_); (case a => walk_at "Znum"))
  | ((with_reducible refine' w_mul ?a ?_); (case a => walk_at "Zcmul"))
  | ((with_reducible refine' w_mulN ?a ?_); (case a => walk_at "Zcmul"))
  | ((with_reducible refine' w_div1 ?a ?b ?_); (case a => walk_at "Znum"); (case b => walk_at "Znum"))
  | ((with_reducible refine' w_shl1 ?a ?b ?_); (case a => walk_at "Znum"); (case b => walk_at "Znum"))
  | with_reducible refine' w_intb ?_
  | with_reducible refine' w_inti ?_)
local macro_rules | `(tactic| walk_at "Zs3") => `(tactic| first
  | with_reducible refine' w_for ?_
  | with_reducible refine' w_irng1 ?_
  | with_reducible refine' w_irng2 ?_
  | ((with_reducible refine' w_rg1 ?a ?b ?_); (case a => walk_at "Znum"); (case b => walk_at "Znum"))
  | with_reducible refine' w_iany ?_
  | with_reducible refine' w_ienum ?_
  | with_reducible refine' w_izip ?_
  | with_reducible refine' w_izip3 ?_
  | with_reducible refine' w_N ?_
  | with_reducible refine' w_lc ?_
  | ((with_reducible refine' w_wp ?e ?_); (case e => exact rfl))
  | with_reducible refine' w_yes ?_
  | with_reducible refine' w_gsub ?_
  | ((with_reducible refine' w_new ?l ?_); (case l => (simp only [List.length_cons, List.length_nil]; decide)); intro p H' np e hp)
  | with_reducible refine' w_tupN ?_
  | with_reducible refine' w_tm ?_
  | with_reducible refine' w_lstRg ?_
  | with_reducible refine' w_dget ?_
  | with_reducible refine' w_isN ?_
  | with_reducible refine' w_isB ?_
  | with_reducible refine' w_notN ?_
  | with_reducible refine' w_notB ?_
  | with_reducible refine' w_pairs ?_
  | with_reducible refine' w_pnil ?_
  | ((with_reducible refine' w_dnewK ?_); intro p H' np e hp)
  | with_reducible refine' w_m1 ?_
  | with_reducible refine' w_isS ?_
  | with_reducible refine' w_joinRev ?_
  | ((with_reducible refine' w_newN ?l ?_); (case l => (simp only [List.length_cons, List.length_nil]; decide)); intro p H' np e hp)
  | with_reducible refine' w_gnil ?_
  | ((with_reducible refine' w_gtup ?h ?l ?_); (case h => first | assumption | exact SqT.of (by assumption) | exact SqN.t (SqN.of (by assumption)) | exact SqN.t (by assumption)); (case l => exact rfl))
  | with_reducible refine' w_sl ?_
  | with_reducible refine' w_nopart ?_
  | with_reducible refine' w_part ?_
  | with_reducible refine' w_ii ?_
  | with_reducible refine' w_bm ?_
  | with_reducible refine' w_gcons ?_
  | ((with_reducible refine' w_prPast ?h ?_); (case h => walk_at "Zpr"))
  | ((with_reducible refine' w_prHad ?h ?_); (case h => walk_at "Zpr"))
  | ((with_reducible refine' w_prBase ?h ?_); (case h => walk_at "Zpr"))
  | ((with_reducible refine' w_prFresh ?h ?_); (case h => walk_at "Zpr"))
  | ((with_reducible refine' w_prPact ?h ?_); (case h => walk_at "Zpr"); intro vP hvP)
  | ((with_reducible refine' w_mtPr ?h ?n ?_); (case h => walk_at "Zpr"); (case n => decide +kernel))
  | ((with_reducible refine' w_lenPast ?h ?_); (case h => walk_at "Zpr"))
  | ((with_reducible refine' w_tyPast ?h ?_); (case h => walk_at "Zpr"))
  | ((with_reducible refine' w_ptR ?h ?_); (case h => walk_at "Zdq"); intro xR hxR)
  | with_reducible refine' w_ikeys ?_
  | with_reducible refine' w_ckw ?_
  | with_reducible refine' w_din ?_
  | with_reducible refine' w_dpop1 ?_
  | ((with_reducible refine' w_rdHeld ?h ?_); (case h => walk_at "Zrd"))
  | ((with_reducible refine' w_rdTop ?h ?_); (case h => walk_at "Zrd"))
  | ((with_reducible refine' w_rdPact ?h ?_); (case h => walk_at "Zrd"); intro vP hvP)
  | ((with_reducible refine' w_mtRd ?h ?n ?_); (case h => walk_at "Zrd"); (case n => decide +kernel))
  | ((with_reducible refine' w_roPact ?h ?_); (case h => walk_at "Zro"); intro vP hvP)
  | ((with_reducible refine' w_roOne ?h ?_); (case h => walk_at "Zro"))
  | ((with_reducible refine' w_roOther ?h ?_); (case h => walk_at "Zro"))
  | ((with_reducible refine' w_roLine ?h ?_); (case h => walk_at "Zro"))
  | ((with_reducible refine' w_roBack ?h ?_); (case h => walk_at "Zro"))
  | ((with_reducible refine' w_roRow ?h ?_); (case h => walk_at "Zro"))
  | ((with_reducible refine' w_roCame ?h ?_); (case h => walk_at "Zro"))
  | ((with_reducible refine' w_mtRo ?h ?n ?_); (case h => walk_at "Zro"); (case n => decide +kernel))
  | ((with_reducible refine' w_rd0 ?h ?_); (case h => assumption))
  | ((with_reducible refine' w_rd1 ?h ?_); (case h => assumption))
  | ((with_reducible refine' w_rd2 ?h ?_); (case h => assumption))
  | ((with_reducible refine' w_rd3 ?h ?_); (case h => assumption)))
local macro_rules | `(tactic| walk_at "Zix") => `(tactic| first
  | ((with_reducible refine' w_ixl ?h ?e ?_); (case h => first | assumption | exact SqL.of (by assumption)); (case e => exact rfl))
  | ((with_reducible refine' w_ixt ?h ?e ?_); (case h => first | assumption | exact SqT.of (by assumption) | exact SqN.t (SqN.of (by assumption)) | exact SqN.t (by assumption)); (case e => exact rfl)))
local macro_rules | `(tactic| walk_at "Zite") => `(tactic| first
  | ((with_reducible refine' w_itet ?h ?_); (case h => first | exact rfl | exact decide_eq_true (by omega)))
  | ((with_reducible refine' w_itef ?h ?_); (case h => first | exact rfl | exact decide_eq_false (by omega))))
local macro_rules | `(tactic| walk_at "Zpot") => `(tactic| first | assumption | ((refine' pot_mono ?e ?h); (case h => assumption); (case e => walk_at "Zkt")))
local macro_rules | `(tactic| walk_at "Zdp") => `(tactic| first | assumption | exact Dp.int _ | exact Dp.str _ | exact Dp.bl _ | exact Dp.non | ((refine' dp_mono ?e ?h); (case h => assumption); (case e => walk_at "Zkt")) | ((refine' dq_dp ?q); (case q => walk_at "Zdq")))
local macro_rules | `(tactic| walk_at "Zdq") => `(tactic| first | assumption | exact Dq.int _ | exact Dq.str _ | exact Dq.bl _ | exact Dq.non | ((refine' dq_mono ?e ?h); (case h => assumption); (case e => walk_at "Zkt")) | ((refine' dq_mono ?e (dq_ofN ?h)); (case h => assumption); (case e => walk_at "Zkt")))
local macro_rules | `(tactic| walk_at "Zsql") => `(tactic| first | assumption | exact SqL.of (by assumption) | ((refine' Same.seq ?e (SqL.of ?h)); (case h => assumption); (case e => walk_at "Zkt")) | ((refine' Same.seq ?e ?h); (case h => assumption); (case e => walk_at "Zkt")) | ((refine' sx_l ?e (SqL.of ?h)); (case h => assumption); (case e => walk_at "Zkx")) | ((refine' sx_l ?e ?h); (case h => assumption); (case e => walk_at "Zkx")))
local macro_rules | `(tactic| walk_at "Zisi") => `(tactic| first | exact isI_nil | ((refine' isI_cons ?a ?b); (case a => first | exact trivial | omega | (dsimp only; omega)); (case b => walk_at "Zisi")))
local macro_rules | `(tactic| walk_at "Zlen") => `(tactic| (simp only [List.length_cons, List.length_nil]; omega))
local macro_rules | `(tactic| tbr_iter $P) => `(tactic| ((refine' w_ixI $P ?h ?h0 ?h1 ?hx ?_); (case h => walk_at "Zsql"); (case h0 => omega); (case h1 => walk_at "Zlen"); (case hx => walk_at "Zisi")))
local macro_rules | `(tactic| walk_at "Zc") => `(tactic| fail "no call")
local macro_rules | `(tactic| walk_at "Zs") => `(tactic| repeat (first | walk_at "Zs1" | walk_at "Zs2" | walk_at "Zs3" | walk_at "Zix" | walk_at "Zite" | walk_at "Zc"))
local macro_rules | `(tactic| walk_at "Zp") => `(tactic| repeat (first | walk_at "Zs0" | with_reducible refine' w_ife ?_ | walk_at "Zs2" | walk_at "Zs3" | walk_at "Zix" | walk_at "Zite" | walk_at "Zc"))
local macro_rules | `(tactic| walk_at "Zn") => `(tactic| repeat (first | walk_at "Zs1" | walk_at "Zs2" | walk_at "Zs3" | walk_at "Zite" | walk_at "Zc"))
local macro_rules | `(tactic| walk_at "Zkx") => `(tactic| first | assumption | exact Sx.refl _ | exact Same.sx (by assumption) | ((refine' Sx.trans ?a ?b); (case b => first | assumption | exact Same.sx (by assumption)); walk_at "Zkx"))
local macro_rules | `(tactic| walk_at "Zbox") => `(tactic| first | assumption | ((refine' box_mono ?e ?h); (case h => assumption); (case e => walk_at "Zkt")))
local macro_rules | `(tactic| walk_at "Zdx") => `(tactic| first | assumption | exact Dq.int _ | exact Dq.str _ | exact Dq.bl _ | exact Dq.non | ((refine' dqx ?e ?h); (case h => assumption); (case e => walk_at "Zkx")))
local macro_rules | `(tactic| walk_at "Zdz") => `(tactic| first | assumption | exact Dz.int _ | exact Dz.str _ | exact Dz.bl _ | exact Dz.non | ((refine' dz_mono ?e ?h); (case h => assumption); (case e => walk_at "Zkt")) | ((refine' dz_dq ?q); (case q => walk_at "Zdq")) | ((refine' dz_dp ?q); (case q => walk_at "Zdp")))
local macro_rules | `(tactic| walk_at "Zfr") => `(tactic| first | assumption | exact trivial | ((refine' none_sx ?e ?h); (case h => assumption); (case e => walk_at "Zkx")) | ((refine' pres_of ?e ?h); (case h => assumption); (case e => walk_at "Zkx")) | ((refine' And.intro ?l ?r); (case l => walk_at "Zfr"); (case r => walk_at "Zfr")))
local macro_rules | `(tactic| walk_at "Zdt") => `(tactic| first | exact Dz.int _ | exact Dz.str _ | exact Dz.bl _ | exact Dz.non | assumption | ((refine' dzx ?e ?h); (case h => assumption); (case e => walk_at "Zkx")) | ((refine' dzx ?e (dz_to ?h ?t)); (case h => assumption); (case t => first | assumption | exact trivial); (case e => walk_at "Zkx")) | ((refine' dz_tupx ?e ?h ?r); (case h => assumption); (case e => walk_at "Zkx"); (case r => walk_at "Zda")) | ((refine' dz_lstx ?p ?e ?h ?r); (case h => assumption); (case p => walk_at "Zfr"); (case e => walk_at "Zkx"); (case r => walk_at "Zda")) | ((refine' dz_dicx ?p ?e ?h); (case h => assumption); (case p => walk_at "Zfr"); (case e => walk_at "Zkx")))
local macro_rules | `(tactic| walk_at "Zda") => `(tactic| first | exact DzAll.nil | ((refine' DzAll.cons ?a ?b); (case a => walk_at "Zdt"); (case b => walk_at "Zda")) | ((refine' dzsx ?e ?h); (case h => assumption); (case e => walk_at "Zkx")) | ((refine' dzsx ?e (dzs_to ?h ?t)); (case h => assumption); (case t => assumption); (case e => walk_at "Zkx")))
local macro_rules | `(tactic| walk_at "Zq") => `(tactic| repeat (first | walk_at "Zs1" | walk_at "Zs2" | walk_at "Zs3" | walk_at "Zix" | walk_at "Zite"))
local macro_rules | `(tactic| walk_at "Zlen2") => `(tactic| exact Nat.le_of_ble_eq_true rfl)
local macro_rules | `(tactic| tbr_iter ($m, $hB)) => `(tactic| ((refine' bag_cat (m := $m) ?e $hB ?h ?r ?b ?l ?m ?q); (case e => walk_at "Zkx"); (case h => assumption); (case r => walk_at "Zda"); (case b => walk_at "Zbw"); (case l => first | walk_at "Zlen2" | (simp only [List.length_cons, List.length_nil]; omega)); (case m => first | walk_at "Zlen2" | omega)))
local macro_rules | `(tactic| tbr_iter ($m, $hB, $z)) => `(tactic| ((refine' bag_catF (m := $m) ?e $hB ?h ?r ?b ?l ?m ?q); (case e => walk_at "Zkx"); (case h => assumption); (case r => walk_at "Zda"); (case b => walk_at "Zbw"); (case l => first | walk_at "Zlen2" | (simp only [List.length_cons, List.length_nil]; omega)); (case m => first | walk_at "Zlen2" | omega)))
local macro_rules | `(tactic| walk_at "Zpr") => `(tactic| first | assumption | ((refine' pr_same ?e ?h); (case h => assumption); (case e => walk_at "Zkt")) | ((refine' pr_sx ?e ?h); (case h => assumption); (case e => walk_at "Zkx")))
local macro_rules | `(tactic| walk_at "Zv") => `(tactic| repeat (first | walk_at "Zs0" | with_reducible refine' w_ifs ?_ | walk_at "Zs2" | walk_at "Zs3" | walk_at "Zix" | walk_at "Zite" | walk_at "Zc"))
local macro_rules | `(tactic| walk_at "Zrd") => `(tactic| first | assumption | ((refine' rd_same ?e ?h); (case h => assumption); (case e => walk_at "Zkt")) | ((refine' rd_sx ?e ?h); (case h => assumption); (case e => walk_at "Zkx")))
local macro_rules | `(tactic| walk_at "Zro") => `(tactic| first | assumption | ((refine' ro_same ?e ?h); (case h => assumption); (case e => walk_at "Zkt")) | ((refine' ro_sx ?e ?h); (case h => assumption); (case e => walk_at "Zkx")))
local macro_rules | `(tactic| walk_at "Znoc") => `(tactic| first | exact trivial | exact noC (by assumption) rfl | exact noC upd_same rfl)
def topS (i : Nat) : Stmt := PySem.Challenge.pw_shorthead_k49_proposed.main.body.getD i (.Pass ⟨0, 0, 0, 0⟩)
abbrev s_bits_of : Stmt := topS 2
abbrev s_number_of : Stmt := topS 3
abbrev s_width_for : Stmt := topS 4
abbrev s_rest_of : Stmt := topS 6
abbrev s_windowed : Stmt := topS 7
abbrev s_around : Stmt := topS 8
abbrev s_arcs_of : Stmt := topS 9
abbrev s_tightest : Stmt := topS 10
abbrev s_gone_round : Stmt := topS 12
abbrev s_expected : Stmt := topS 13
abbrev s_width_of : Stmt := topS 15
abbrev s_pieces : Stmt := topS 16
abbrev s_value_opened : Stmt := topS 17
abbrev s_opened : Stmt := topS 18
abbrev s_sure : Stmt := topS 19
abbrev s_offsets_of : Stmt := topS 21
abbrev s_way_for : Stmt := topS 22
abbrev s_proposed : Stmt := topS 23
abbrev s__law_pot : Stmt := topS 25
abbrev s__law_pick : Stmt := topS 26
abbrev s__law_kind : Stmt := topS 27
abbrev s__law_shape : Stmt := topS 28
abbrev s__law_value : Stmt := topS 29
abbrev s__law_head : Stmt := topS 30
abbrev s__law_expected : Stmt := topS 31
abbrev s__law_gone : Stmt := topS 32
abbrev s__law_row : Stmt := topS 33
abbrev s__law_offsets : Stmt := topS 34
abbrev s__law_formers : Stmt := topS 35
abbrev s__law_same : Stmt := topS 36
abbrev s__law_tightest : Stmt := topS 37
abbrev s__law_ways : Stmt := topS 38
abbrev s__law_right : Stmt := topS 39
abbrev s_law : Stmt := topS 40
structure Bi (mg : Str → Option Value) : Prop where
  b_all : mg "all" = none
  b_any : mg "any" = none
  b_bool : mg "bool" = none
  b_divmod : mg "divmod" = none
  b_enumerate : mg "enumerate" = none
  b_int : mg "int" = none
  b_isinstance : mg "isinstance" = none
  b_len : mg "len" = none
  b_max : mg "max" = none
  b_min : mg "min" = none
  b_range : mg "range" = none
  b_reversed : mg "reversed" = none
  b_set : mg "set" = none
  b_sorted : mg "sorted" = none
  b_str : mg "str" = none
  b_tuple : mg "tuple" = none
  b_zip : mg "zip" = none
  c_SIGNS : ∃ u, mg "SIGNS" = some u ∧ RelV (.str "01") u
def sp_bits_of (W : Wd) : Sp := fun vs H Q _ => match vs with
  | [v_number, v_width] =>
  ∃ (n : Int) (w : Nat), v_number = .int n ∧ v_width = .int (w : Int) ∧ w ≤ 1000 ∧ ∀ H', Same H H' → Q (.str (bitsT n w)) H'
  | _ => False
abbrev N_bits_of : List Str := ["number", "width", "signs", "place", "last"]
theorem sc_bits_of : FnScope N_bits_of ["number", "width"] (defScope s_bits_of) := ⟨rfl, rfl, rfl, by decide +kernel, rfl, by decide +kernel, by decide +kernel⟩
theorem f_bits_of {W : Wd} {mg : Str → Option Value} {base : Heap} (B : Bi mg) {f : Addr} {fd : FuncData} (F : Fun W.K "bits_of" "bits_of" s_bits_of f fd)  : FnOk W.P W.w W.K mg base CX0 1 f fd ["number", "width"] (sp_bits_of W) := by
  obtain ⟨t_SIGNS, hc_SIGNS, rc_SIGNS⟩ := B.c_SIGNS
  have nd := sc_bits_of.nd
  have F0 : FnOk W.P W.w W.K mg base CX0 1 f fd ["number", "width"] (sp_bits_of W) := by
    refine F.ok sc_bits_of (fun vs H Q E h => ?_) (fun cdv A outer s H vs Q E hr h => ?_)
    · match vs, h with | [_, _], _ => rfl
    · match vs, h with
      | [v_number, v_width], h =>
        change sp_bits_of W [v_number, v_width] H Q E at h
        refine ⟨tSeq (tAsg (tLst (tNil)) (gName 2)) (tSeq (tFor (iRng1 (tCons (tVar 1) (tNil))) (gName 3) (tSeq (tAsg (tCB (rDivmod) (tCons (tVar 0) (tCons (tC (.int 2)) (tNil)))) (gTup W.K 2 (gCons (gName 0) (gCons (gName 4) (gNil))))) (tDrop (tBM W.K "list" rAppend (tVar 2) (tCons (tOp (rIxU W.K) (tC (.str "01")) (tVar 4)) (tNil)))))) (tRet (tJoinRev W.K (tC (.str "")) (tVar 2)))), pss_cons (ps_set (i := 2) nd rfl (.inl rfl) (pe_lst (pa_nil))) (pss_cons (ps_for PassesOwn.never rfl (pi_range1 (by rfl) B.b_range (pa_cons (pv 1) (pa_nil))) (pg_name (i := 3) nd rfl (by first | exact Or.inl rfl | exact Or.inr rfl)) (pss_cons (ps_asg (pe_callB call_divmodW (by rfl) B.b_divmod (by decide +kernel) (pa_cons (pv 0) (pa_cons (pe_int) (pa_nil)))) (pg_tup rfl (pgs_cons (pg_name (i := 0) nd rfl (by first | exact Or.inl rfl | exact Or.inr rfl)) (pgs_cons (pg_name (i := 4) nd rfl (by first | exact Or.inl rfl | exact Or.inr rfl)) (pgs_nil))))) (pss_one (ps_expr (pe_bm PySem.F.plainAttrs_list PySem.F.slot_list_append PySem.F.type_list_append mt_append (pv 2) (pa_cons (pe_ix u_ix (pe_glob (by rfl) hc_SIGNS rc_SIGNS) (pv 4) (fun _ _ => rfl)) (pa_nil))))))) (pss_one (ps_ret (pe_joinRev (by rfl) (by rfl) B.b_reversed (pe_str) (pv 2))))), ?_⟩
        clear hr
        rw [show L2.start N_bits_of [v_number, v_width] = [some v_number, some v_width, none, none, none] from rfl]
        obtain ⟨n, w, rfl, rfl, hw, q⟩ := h
        walk_at "Zs"
        rename_i p H1 np e1 h1
        refine forR0 (fun i σ' H' => (∃ y4 y5, σ' = [some (.int (n / 2 ^ i)), some (.int (w : Int)), some (.ref p), y4, y5]) ∧ Same H H' ∧ H' p = some (.lst ((lowB n i).map fun c => V.str ⟨#[c]⟩))) ⟨⟨_, _, by rw [Int.pow_zero, Int.ediv_one]; rfl⟩, e1, h1⟩ (fun i σ' H2 hi h => ?_) (fun σ' H2 h => ?_)
        · obtain ⟨⟨y4, y5, rfl⟩, e2, h2⟩ := h
          walk_at "Zs"
          refine w_divmod2 fun p3 H3 np3 e3 h3 => ?_
          walk_at "Zs"
          refine w_tyL (e3 _ _ h2) ?_
          walk_at "Zs"
          have h01 := sgn_01 n i
          refine w_ixs (by decide) (c := sgn n i) ?_ ?_
          · have hd : n / 2 ^ i % 2 = 0 ∨ n / 2 ^ i % 2 = 1 := by omega
            unfold sgn
            rcases hd with e | e <;> rw [e] <;> rfl
          walk_at "Zs"
          refine w_append (e3 _ _ h2) (by rw [List.length_map, lowB_len]; omega) ?_
          walk_at "Zs"
          have e : n / 2 ^ (i + 1) = n / 2 ^ i / 2 := by
            rw [Int.ediv_ediv_of_nonneg (Int.le_of_lt (Int.pow_pos (by decide))), Int.pow_succ]
          rw [e]
          refine ⟨⟨_, _, rfl⟩, same_mut (e2.trans e3) np, ?_⟩
          · rw [upd_same, lowB_snoc, List.map_append]
            rfl
        · obtain ⟨⟨y4, y5, rfl⟩, e2, h2⟩ := h
          walk_at "Zs"
          refine w_joinR (ys := (lowB n w).map fun c => (⟨#[c]⟩ : Str)) (SqL.of (by rw [h2, List.map_map]; rfl)) ?_ ?_
          · rw [List.map_map]
            have e : ((lowB n w).map ((fun y : Str => y.length) ∘ fun c => (⟨#[c]⟩ : Str))) = (lowB n w).map fun _ => 1 := rfl
            rw [e, List.length_map, lowB_len]
            have e2 : ∀ l : List Nat, (l.map fun _ => 1).sum = l.length := fun l => by
              induction l with
              | nil => rfl
              | cons c r ih => rw [List.map_cons, List.sum_cons, ih, List.length_cons, Nat.add_comm]
            rw [e2, lowB_len]
            show w + w * 0 ≤ _
            omega
          rw [join_ones]
          exact q _ e2
  exact F0
theorem c_bits_of {W : Wd} {mg : Str → Option Value} {base : Heap} (B : Bi mg) (S : Src W.K mg "bits_of" s_bits_of)  : Cal W mg base "bits_of" 1 ["number", "width"] (sp_bits_of W) := by
  obtain ⟨f, fd, g, F⟩ := S
  exact ⟨f, fd, g, f_bits_of B F , F.kp, (F.binds (ps := ["number", "width"]) fun _ _ _ _ _ _ us hl => match us, hl with | [_, _], _ => rfl)⟩
theorem go_bits_of {W : Wd} {H : Hp} {Q : VK} {E : XK} {n : Int} {w : Nat} (hw : w ≤ 1000) (q : ∀ H', Same H H' → Q (.str (bitsT n w)) H') : sp_bits_of W [.int n, .int (w : Int)] H Q E := ⟨n, w, rfl, rfl, hw, q⟩
def sp_number_of (W : Wd) : Sp := fun vs H Q _ => match vs with
  | [v_bits] =>
  ∃ z, v_bits = .str z ∧ (∀ c ∈ cz z, c = 48 ∨ c = 49) ∧ z.length ≤ 100000 ∧ Q (.int (numT z)) H
  | _ => False
abbrev N_number_of : List Str := ["bits", "number", "sign"]
theorem sc_number_of : FnScope N_number_of ["bits"] (defScope s_number_of) := ⟨rfl, rfl, rfl, by decide +kernel, rfl, by decide +kernel, by decide +kernel⟩
theorem f_number_of {W : Wd} {mg : Str → Option Value} {base : Heap} (B : Bi mg) {f : Addr} {fd : FuncData} (F : Fun W.K "number_of" "number_of" s_number_of f fd)  : FnOk W.P W.w W.K mg base CX0 1 f fd ["bits"] (sp_number_of W) := by
  obtain ⟨t_SIGNS, hc_SIGNS, rc_SIGNS⟩ := B.c_SIGNS
  have nd := sc_number_of.nd
  have F0 : FnOk W.P W.w W.K mg base CX0 1 f fd ["bits"] (sp_number_of W) := by
    refine F.ok sc_number_of (fun vs H Q E h => ?_) (fun cdv A outer s H vs Q E hr h => ?_)
    · match vs, h with | [_], _ => rfl
    · match vs, h with
      | [v_bits], h =>
        change sp_number_of W [v_bits] H Q E at h
        refine ⟨tSeq (tAsg (tC (.int 0)) (gName 1)) (tSeq (tFor (iAny W.K (tVar 0)) (gName 2) (tAsg (tOp (rAddN W.K) (tOp (rMulN W.K) (tC (.int 2)) (tVar 1)) (tM1 rIndexS (tC (.str "01")) (tVar 2))) (gName 1))) (tRet (tVar 1))), pss_cons (ps_set (i := 1) nd rfl (.inl rfl) (pe_int)) (pss_cons (ps_for PassesOwn.never rfl (pi_any (pv 0)) (pg_name (i := 2) nd rfl (by first | exact Or.inl rfl | exact Or.inr rfl)) (pss_one (ps_set (i := 1) nd rfl (.inl rfl) (pe_op u_addN (pe_op u_mulN (pe_int) (pv 1)) (pe_m1 PySem.F.slot_str_index PySem.F.type_str_index mt_indexS (pe_glob (by rfl) hc_SIGNS rc_SIGNS) (pv 2)))))) (pss_one (ps_ret (pv 1)))), ?_⟩
        clear hr
        rw [show L2.start N_number_of [v_bits] = [some v_bits, none, none] from rfl]
        obtain ⟨z, rfl, h01, hz, q⟩ := h
        walk_at "Zs"
        refine w_goS ?_
        refine forS (fun i σ' H' => (∃ y2, σ' = [some (.str z), some (.int (valL ((cz z).take i).reverse)), y2]) ∧ H' = H) ⟨⟨_, rfl⟩, rfl⟩ (fun i c σ' H1 hc h => ?_) (fun σ' H1 h => ?_)
        · obtain ⟨⟨y2, rfl⟩, rfl⟩ := h
          have hc01 := h01 c (List.mem_of_getElem? hc)
          walk_at "Zs"
          refine w_indexS (k := c - 48) ?_ ?_
          · rcases hc01 with rfl | rfl <;> exact ⟨[], by decide +kernel⟩
          walk_at "Zs"
          have e : valL ((cz z).take (i + 1)).reverse = 2 * valL ((cz z).take i).reverse + ((c - 48 : Nat) : Int) := by
            rw [List.take_add_one, hc]
            show valL (((cz z).take i) ++ [c]).reverse = _
            rw [List.reverse_append]
            show ((c : Int) - 48) + 2 * valL ((cz z).take i).reverse = _
            omega
          rw [e]
          exact ⟨⟨_, rfl⟩, rfl⟩
        · obtain ⟨⟨y2, rfl⟩, rfl⟩ := h
          walk_at "Zs"
          have e : valL ((cz z).take z.length).reverse = numT z := by
            rw [List.take_of_length_le (by rw [cz_len]; exact Nat.le_refl _)]
            rfl
          rw [e]
          exact q
  exact F0
theorem c_number_of {W : Wd} {mg : Str → Option Value} {base : Heap} (B : Bi mg) (S : Src W.K mg "number_of" s_number_of)  : Cal W mg base "number_of" 1 ["bits"] (sp_number_of W) := by
  obtain ⟨f, fd, g, F⟩ := S
  exact ⟨f, fd, g, f_number_of B F , F.kp, (F.binds (ps := ["bits"]) fun _ _ _ _ _ _ us hl => match us, hl with | [_], _ => rfl)⟩
theorem go_number_of {W : Wd} {H : Hp} {Q : VK} {E : XK} {z : Str} (h : ∀ c ∈ cz z, c = 48 ∨ c = 49) (hz : z.length ≤ 100000) (q : Q (.int (numT z)) H) : sp_number_of W [.str z] H Q E := ⟨z, rfl, h, hz, q⟩
def sp_width_for (W : Wd) : Sp := fun vs H Q _ => match vs with
  | [v_many] =>
  ∃ m : Int, v_many = .int m ∧ m ≤ 2 ^ 1000 ∧ ∀ n : Nat, IsW m n → Q (.int (n : Int)) H
  | _ => False
abbrev N_width_for : List Str := ["many", "width"]
theorem sc_width_for : FnScope N_width_for ["many"] (defScope s_width_for) := ⟨rfl, rfl, rfl, by decide +kernel, rfl, by decide +kernel, by decide +kernel⟩
theorem f_width_for {W : Wd} {mg : Str → Option Value} {base : Heap} (B : Bi mg) {f : Addr} {fd : FuncData} (F : Fun W.K "width_for" "width_for" s_width_for f fd)  : FnOk W.P W.w W.K mg base CX0 1 f fd ["many"] (sp_width_for W) := by
  have nd := sc_width_for.nd
  have F0 : FnOk W.P W.w W.K mg base CX0 1 f fd ["many"] (sp_width_for W) := by
    refine F.ok sc_width_for (fun vs H Q E h => ?_) (fun cdv A outer s H vs Q E hr h => ?_)
    · match vs, h with | [_], _ => rfl
    · match vs, h with
      | [v_many], h =>
        change sp_width_for W [v_many] H Q E at h
        refine ⟨tSeq (tAsg (tC (.int 0)) (gName 1)) (tSeq (tWhile (tTest (tOp (rLtU W.K) (tOp (rShlU) (tC (.int 1)) (tVar 1)) (tVar 0))) (tAug 1 (tC (.int 1)) (ipAddN W.K))) (tRet (tVar 1))), pss_cons (ps_set (i := 1) nd rfl (.inl rfl) (pe_int)) (pss_cons (ps_while PassesOwn.never (pt_cmpR u_lt (pe_op u_shl (pe_int) (pv 1)) (pv 0) (nomark _)) (pss_one (ps_aug (i := 1) nd rfl (.inl rfl) (pe_int) ip_addN))) (pss_one (ps_ret (pv 1)))), ?_⟩
        clear hr
        rw [show L2.start N_width_for [v_many] = [some v_many, none] from rfl]
        obtain ⟨m, rfl, hm, q⟩ := h
        walk_at "Zs"
        refine w_while (fun k σ' H' => ∃ n : Nat, σ' = [some (.int m), some (.int n)] ∧ H' = H ∧ (∀ u : Nat, u < n → (2 : Int) ^ u < m) ∧ k + n = 1001 ∧ n ≤ 1001) 1001 ⟨0, rfl, rfl, fun u hu => by omega, rfl, by omega⟩ ?_
        rintro k σ' H' ⟨n, rfl, rfl, hu, hk, hn⟩
        walk_at "Zs"
        refine w_dec (fun hlt => ?_) (fun hge => ?_)
        · have hlt2 : (2 : Int) ^ n < m := hlt
          have hn1 : n < 1000 := pow_lt_of (Int.lt_of_lt_of_le hlt2 hm)
          walk_at "Zs"
          refine ⟨k - 1, by omega, n + 1, rfl, rfl, fun u h1 => ?_, by omega, by omega⟩
          by_cases e : u = n
          · subst e
            exact hlt2
          · exact hu u (by omega)
        · walk_at "Zs"
          exact q n ⟨Int.not_lt.mp hge, hu⟩
  exact F0
theorem c_width_for {W : Wd} {mg : Str → Option Value} {base : Heap} (B : Bi mg) (S : Src W.K mg "width_for" s_width_for)  : Cal W mg base "width_for" 1 ["many"] (sp_width_for W) := by
  obtain ⟨f, fd, g, F⟩ := S
  exact ⟨f, fd, g, f_width_for B F , F.kp, (F.binds (ps := ["many"]) fun _ _ _ _ _ _ us hl => match us, hl with | [_], _ => rfl)⟩
theorem go_width_for {W : Wd} {H : Hp} {Q : VK} {E : XK} {m : Int} (hm : m ≤ 2 ^ 1000) (k : ∀ n : Nat, IsW m n → Q (.int (n : Int)) H) : sp_width_for W [.int m] H Q E := ⟨m, rfl, hm, k⟩
local macro_rules | `(tactic| walk_at "Zc") => `(tactic| ((with_reducible refine' go_width_for ?hm ?_); (case hm => first | exact Int.le_trans (b := 2 ^ 200) (by omega) (by decide))))
theorem mod_rest (n P : Int) : (n - n % P) % P = 0 := by
  have e : n - n % P = P * (n / P) := by
    have := Int.mul_ediv_add_emod n P
    omega
  rw [e]
  exact Int.mul_emod_right P _
def sp_rest_of (W : Wd) : Sp := fun vs H Q _ => match vs with
  | [v_number, v_width] =>
  ∃ n w : Int, v_number = .int n ∧ v_width = .int w ∧ 0 ≤ w ∧ w ≤ 1000000 ∧ Q (.int (n % p2 w)) H
  | _ => False
abbrev N_rest_of : List Str := ["number", "width"]
theorem sc_rest_of : FnScope N_rest_of ["number", "width"] (defScope s_rest_of) := ⟨rfl, rfl, rfl, by decide +kernel, rfl, by decide +kernel, by decide +kernel⟩
theorem f_rest_of {W : Wd} {mg : Str → Option Value} {base : Heap} (B : Bi mg) {f : Addr} {fd : FuncData} (F : Fun W.K "rest_of" "rest_of" s_rest_of f fd)  : FnOk W.P W.w W.K mg base CX0 1 f fd ["number", "width"] (sp_rest_of W) := by
  have nd := sc_rest_of.nd
  have F0 : FnOk W.P W.w W.K mg base CX0 1 f fd ["number", "width"] (sp_rest_of W) := by
    refine F.ok sc_rest_of (fun vs H Q E h => ?_) (fun cdv A outer s H vs Q E hr h => ?_)
    · match vs, h with | [_, _], _ => rfl
    · match vs, h with
      | [v_number, v_width], h =>
        change sp_rest_of W [v_number, v_width] H Q E at h
        refine ⟨tRet (tOp (rModU) (tVar 0) (tOp (rShlU) (tC (.int 1)) (tVar 1))), pss_one (ps_ret (pe_op u_mod (pv 0) (pe_op u_shl (pe_int) (pv 1)))), ?_⟩
        clear hr
        rw [show L2.start N_rest_of [v_number, v_width] = [some v_number, some v_width] from rfl]
        obtain ⟨n, w, rfl, rfl, h0, h1, q⟩ := h
        walk_at "Zs"
        exact q
  exact F0
theorem c_rest_of {W : Wd} {mg : Str → Option Value} {base : Heap} (B : Bi mg) (S : Src W.K mg "rest_of" s_rest_of)  : Cal W mg base "rest_of" 1 ["number", "width"] (sp_rest_of W) := by
  obtain ⟨f, fd, g, F⟩ := S
  exact ⟨f, fd, g, f_rest_of B F , F.kp, (F.binds (ps := ["number", "width"]) fun _ _ _ _ _ _ us hl => match us, hl with | [_, _], _ => rfl)⟩
theorem go_rest_of {W : Wd} {H : Hp} {Q : VK} {E : XK} {n w : Int} (h0 : 0 ≤ w) (h1 : w ≤ 1000000) (q : ∀ r, r = n % p2 w → 0 ≤ r → r < p2 w → (n - r) % p2 w = 0 → Q (.int r) H) : sp_rest_of W [.int n, .int w] H Q E :=
  ⟨n, w, rfl, rfl, h0, h1, q _ rfl (Int.emod_nonneg _ (Int.ne_of_gt (p2_pos w))) (Int.emod_lt_of_pos _ (p2_pos w)) (mod_rest _ _)⟩
local macro_rules | `(tactic| walk_at "Zc") => `(tactic| ((with_reducible refine' go_rest_of ?h0 ?h1 ?_); (case h0 => walk_at "Znum"); (case h1 => walk_at "Znum"); intro r e h0 h1 h2))
theorem win_rest (l r P : Int) : (l + (r - l) % P - r) % P = 0 := by
  have e : l + (r - l) % P - r = P * (-((r - l) / P)) := by
    have := Int.mul_ediv_add_emod (r - l) P
    rw [Int.mul_neg]
    omega
  rw [e]
  exact Int.mul_emod_right P _
def sp_windowed (W : Wd) : Sp := fun vs H Q _ => match vs with
  | [v_least, v_rest, v_width] =>
  ∃ l r w : Int, v_least = .int l ∧ v_rest = .int r ∧ v_width = .int w ∧ 0 ≤ w ∧ w ≤ 1000000 ∧ Q (.int (l + (r - l) % p2 w)) H
  | _ => False
abbrev N_windowed : List Str := ["least", "rest", "width"]
theorem sc_windowed : FnScope N_windowed ["least", "rest", "width"] (defScope s_windowed) := ⟨rfl, rfl, rfl, by decide +kernel, rfl, by decide +kernel, by decide +kernel⟩
theorem f_windowed {W : Wd} {mg : Str → Option Value} {base : Heap} (B : Bi mg) {f : Addr} {fd : FuncData} (F : Fun W.K "windowed" "windowed" s_windowed f fd) (C_rest_of : Cal W mg base "rest_of" 1 ["number", "width"] (sp_rest_of W)) : FnOk W.P W.w W.K mg base CX0 2 f fd ["least", "rest", "width"] (sp_windowed W) := by
  obtain ⟨a_rest_of, d_rest_of, g_rest_of, F_rest_of, k_rest_of, b_rest_of⟩ := C_rest_of
  have nd := sc_windowed.nd
  have F0 : FnOk W.P W.w W.K mg base CX0 2 f fd ["least", "rest", "width"] (sp_windowed W) := by
    refine F.ok sc_windowed (fun vs H Q E h => ?_) (fun cdv A outer s H vs Q E hr h => ?_)
    · match vs, h with | [_, _, _], _ => rfl
    · match vs, h with
      | [v_least, v_rest, v_width], h =>
        change sp_windowed W [v_least, v_rest, v_width] H Q E at h
        refine ⟨tRet (tOp (rAddN W.K) (tVar 0) (tCall (sp_rest_of W) [] E0 (tCons (tOp (rSubU) (tVar 1) (tVar 0)) (tCons (tVar 2) (tNil))))), pss_one (ps_ret (pe_op u_addN (pv 0) (pe_call F_rest_of (hr.mono (by decide)) (by rfl) g_rest_of k_rest_of b_rest_of .nil pass0 (pa_cons (pe_op u_sub (pv 1) (pv 0)) (pa_cons (pv 2) (pa_nil)))))), ?_⟩
        clear hr
        clear F_rest_of g_rest_of k_rest_of b_rest_of d_rest_of a_rest_of
        rw [show L2.start N_windowed [v_least, v_rest, v_width] = [some v_least, some v_rest, some v_width] from rfl]
        obtain ⟨l, r, w, rfl, rfl, rfl, h0, h1, q⟩ := h
        walk_at "Zs"
        rename_i m e m0 m1 m2
        subst e
        exact q
  exact F0
theorem c_windowed {W : Wd} {mg : Str → Option Value} {base : Heap} (B : Bi mg) (S : Src W.K mg "windowed" s_windowed) (C_rest_of : Cal W mg base "rest_of" 1 ["number", "width"] (sp_rest_of W)) : Cal W mg base "windowed" 2 ["least", "rest", "width"] (sp_windowed W) := by
  obtain ⟨f, fd, g, F⟩ := S
  exact ⟨f, fd, g, f_windowed B F C_rest_of, F.kp, (F.binds (ps := ["least", "rest", "width"]) fun _ _ _ _ _ _ us hl => match us, hl with | [_, _, _], _ => rfl)⟩
theorem go_windowed {W : Wd} {H : Hp} {Q : VK} {E : XK} {l r w : Int} (h0 : 0 ≤ w) (h1 : w ≤ 1000000) (q : ∀ f, f = l + (r - l) % p2 w → l ≤ f → f < l + p2 w → (f - r) % p2 w = 0 → Q (.int f) H) : sp_windowed W [.int l, .int r, .int w] H Q E := by
  have a := Int.emod_nonneg (r - l) (Int.ne_of_gt (p2_pos w))
  have b := Int.emod_lt_of_pos (r - l) (p2_pos w)
  exact ⟨l, r, w, rfl, rfl, rfl, h0, h1, q _ rfl (by omega) (by omega) (win_rest _ _ _)⟩
local macro_rules | `(tactic| walk_at "Zc") => `(tactic| ((with_reducible refine' go_windowed ?h0 ?h1 ?_); (case h0 => walk_at "Znum"); (case h1 => walk_at "Znum"); intro f e h0 h1 h2))
theorem p2_add {a b : Int} (ha : 0 ≤ a) (hb : 0 ≤ b) : p2 (a + b) = p2 a * p2 b := by
  have e : (a + b).toNat = a.toNat + b.toNat := by omega
  show (2 : Int) ^ (a + b).toNat = 2 ^ a.toNat * 2 ^ b.toNat
  rw [e, Int.pow_add]
theorem p2_dvd {a b : Int} (ha : 0 ≤ a) (hb : a ≤ b) : p2 a ∣ p2 b := by
  have e : p2 b = p2 a * p2 (b - a) := by
    rw [← p2_add ha (by omega)]
    congr 1
    omega
  exact ⟨_, e⟩
/-- what a base tells by a window that begins below ahead of it -/
def arnd (w base below rest wd : Int) : Int := (base - below + (rest - (base - below)) % p2 wd) % p2 w
theorem arnd_bd (w base below rest wd : Int) : 0 ≤ arnd w base below rest wd ∧ arnd w base below rest wd < p2 w :=
  ⟨Int.emod_nonneg _ (Int.ne_of_gt (p2_pos w)), Int.emod_lt_of_pos _ (p2_pos w)⟩
theorem arnd_rest {w base below rest wd : Int} (h0 : 0 ≤ wd) (h1 : wd ≤ w) : (arnd w base below rest wd - rest) % p2 wd = 0 := by
  obtain ⟨c, hc⟩ := p2_dvd h0 h1
  have a := Int.mul_ediv_add_emod (base - below + (rest - (base - below)) % p2 wd) (p2 w)
  have b := Int.mul_ediv_add_emod (rest - (base - below)) (p2 wd)
  have e : arnd w base below rest wd - rest = p2 wd * (-((rest - (base - below)) / p2 wd) - c * ((base - below + (rest - (base - below)) % p2 wd) / p2 w)) := by
    have z : p2 w * ((base - below + (rest - (base - below)) % p2 wd) / p2 w) = p2 wd * (c * ((base - below + (rest - (base - below)) % p2 wd) / p2 w)) := by rw [hc, Int.mul_assoc]
    show (base - below + (rest - (base - below)) % p2 wd) % p2 w - rest = _
    rw [Int.mul_sub, Int.mul_neg]
    omega
  rw [e]
  exact Int.mul_emod_right _ _
theorem p2_mono {a b : Int} (h1 : a ≤ b) : p2 a ≤ p2 b := p2_le h1
theorem arnd_win {w base below rest wd : Int} (h1 : wd ≤ w) : (arnd w base below rest wd - base + below) % p2 w = (rest - (base - below)) % p2 wd := by
  have a := Int.mul_ediv_add_emod (base - below + (rest - (base - below)) % p2 wd) (p2 w)
  have b0 := Int.emod_nonneg (rest - (base - below)) (Int.ne_of_gt (p2_pos wd))
  have b1 := Int.emod_lt_of_pos (rest - (base - below)) (p2_pos wd)
  have b2 := p2_mono h1
  have e : arnd w base below rest wd - base + below = (rest - (base - below)) % p2 wd + p2 w * (-((base - below + (rest - (base - below)) % p2 wd) / p2 w)) := by
    show (base - below + (rest - (base - below)) % p2 wd) % p2 w - base + below = _
    rw [Int.mul_neg]
    omega
  rw [e, Int.add_mul_emod_self_left]
  exact Int.emod_eq_of_lt b0 (by omega)
theorem arnd_self {w base below rest wd : Int} (hr : rest = base % p2 wd) (h0 : 0 ≤ below) (h1 : below < p2 wd) (h2 : 0 ≤ base) (h3 : base < p2 w) : arnd w base below rest wd = base := by
  have b := Int.mul_ediv_add_emod base (p2 wd)
  have e : rest - (base - below) = below + p2 wd * (-(base / p2 wd)) := by
    rw [Int.mul_neg]
    omega
  have e2 : (rest - (base - below)) % p2 wd = below := by
    rw [e, Int.add_mul_emod_self_left]
    exact Int.emod_eq_of_lt h0 h1
  unfold arnd
  rw [e2]
  have e3 : base - below + below = base := by omega
  rw [e3]
  exact Int.emod_eq_of_lt h2 h3
def sp_around (W : Wd) : Sp := fun vs H Q _ => match vs with
  | [v_w, v_base, v_below, v_rest, v_width] =>
  ∃ w base below rest wd : Int, v_w = .int w ∧ v_base = .int base ∧ v_below = .int below ∧ v_rest = .int rest ∧ v_width = .int wd ∧ 0 ≤ wd ∧ 0 ≤ w ∧ wd ≤ 1000000 ∧ w ≤ 1000000 ∧ Q (.int (arnd w base below rest wd)) H
  | _ => False
abbrev N_around : List Str := ["w", "base", "below", "rest", "width"]
theorem sc_around : FnScope N_around ["w", "base", "below", "rest", "width"] (defScope s_around) := ⟨rfl, rfl, rfl, by decide +kernel, rfl, by decide +kernel, by decide +kernel⟩
theorem f_around {W : Wd} {mg : Str → Option Value} {base : Heap} (B : Bi mg) {f : Addr} {fd : FuncData} (F : Fun W.K "around" "around" s_around f fd) (C_windowed : Cal W mg base "windowed" 2 ["least", "rest", "width"] (sp_windowed W)) (C_rest_of : Cal W mg base "rest_of" 1 ["number", "width"] (sp_rest_of W)) : FnOk W.P W.w W.K mg base CX0 3 f fd ["w", "base", "below", "rest", "width"] (sp_around W) := by
  obtain ⟨a_windowed, d_windowed, g_windowed, F_windowed, k_windowed, b_windowed⟩ := C_windowed
  obtain ⟨a_rest_of, d_rest_of, g_rest_of, F_rest_of, k_rest_of, b_rest_of⟩ := C_rest_of
  have nd := sc_around.nd
  have F0 : FnOk W.P W.w W.K mg base CX0 3 f fd ["w", "base", "below", "rest", "width"] (sp_around W) := by
    refine F.ok sc_around (fun vs H Q E h => ?_) (fun cdv A outer s H vs Q E hr h => ?_)
    · match vs, h with | [_, _, _, _, _], _ => rfl
    · match vs, h with
      | [v_w, v_base, v_below, v_rest, v_width], h =>
        change sp_around W [v_w, v_base, v_below, v_rest, v_width] H Q E at h
        refine ⟨tRet (tCall (sp_rest_of W) [] E0 (tCons (tCall (sp_windowed W) [] E0 (tCons (tOp (rSubU) (tVar 1) (tVar 2)) (tCons (tVar 3) (tCons (tVar 4) (tNil))))) (tCons (tVar 0) (tNil)))), pss_one (ps_ret (pe_call F_rest_of (hr.mono (by decide)) (by rfl) g_rest_of k_rest_of b_rest_of .nil pass0 (pa_cons (pe_call F_windowed (hr.mono (by decide)) (by rfl) g_windowed k_windowed b_windowed .nil pass0 (pa_cons (pe_op u_sub (pv 1) (pv 2)) (pa_cons (pv 3) (pa_cons (pv 4) (pa_nil))))) (pa_cons (pv 0) (pa_nil))))), ?_⟩
        clear hr
        clear F_windowed g_windowed k_windowed b_windowed d_windowed a_windowed
        clear F_rest_of g_rest_of k_rest_of b_rest_of d_rest_of a_rest_of
        rw [show L2.start N_around [v_w, v_base, v_below, v_rest, v_width] = [some v_w, some v_base, some v_below, some v_rest, some v_width] from rfl]
        obtain ⟨w, base, below, rest, wd, rfl, rfl, rfl, rfl, rfl, h0, h1, h2, h3, q⟩ := h
        walk_at "Zs"
        rename_i f e _ _ _ r e2 _ _ _
        subst e
        subst e2
        exact q
  exact F0
theorem c_around {W : Wd} {mg : Str → Option Value} {base : Heap} (B : Bi mg) (S : Src W.K mg "around" s_around) (C_windowed : Cal W mg base "windowed" 2 ["least", "rest", "width"] (sp_windowed W)) (C_rest_of : Cal W mg base "rest_of" 1 ["number", "width"] (sp_rest_of W)) : Cal W mg base "around" 3 ["w", "base", "below", "rest", "width"] (sp_around W) := by
  obtain ⟨f, fd, g, F⟩ := S
  exact ⟨f, fd, g, f_around B F C_windowed C_rest_of, F.kp, (F.binds (ps := ["w", "base", "below", "rest", "width"]) fun _ _ _ _ _ _ us hl => match us, hl with | [_, _, _, _, _], _ => rfl)⟩
theorem go_around {W : Wd} {H : Hp} {Q : VK} {E : XK} {w base below rest wd : Int} (h0 : 0 ≤ wd) (h1 : 0 ≤ w) (h2 : wd ≤ 1000000) (h3 : w ≤ 1000000) (q : ∀ f, f = arnd w base below rest wd → 0 ≤ f → f < p2 w → Q (.int f) H) : sp_around W [.int w, .int base, .int below, .int rest, .int wd] H Q E :=
  ⟨w, base, below, rest, wd, rfl, rfl, rfl, rfl, rfl, h0, h1, h2, h3, q _ rfl (arnd_bd _ _ _ _ _).1 (arnd_bd _ _ _ _ _).2⟩
local macro_rules | `(tactic| walk_at "Zc") => `(tactic| ((with_reducible refine' go_around ?h0 ?h1 ?h2 ?h3 ?_); (case h0 => walk_at "Znum"); (case h1 => walk_at "Znum"); (case h2 => walk_at "Znum"); (case h3 => walk_at "Znum"); intro f e h0 h1))
/-- the arcs between neighbouring points: where each begins below, how long it is -/
def gapsL (P : Int) (ps : List Int) : List (Int × Int) := (ps.zip (ps.drop 1)).map fun ab => (P - ab.2, P - ab.2 + ab.1)
def arcD (a : Int × Int) : PyData := .tuple [.int a.1, .int a.2]
structure PtsOk (P : Int) (os ps : List Int) : Prop where
  up : ps.Pairwise (· < ·)
  mem : ∀ k, k ∈ ps ↔ k = 0 ∨ ∃ o ∈ os, o % P = k
  len : ps.length ≤ os.length + 1
theorem gaps_get {P : Int} {ps : List Int} {i : Nat} {a b : Int} (h : ps[i]? = some a) (h' : (ps.drop 1)[i]? = some b) : (gapsL P ps)[i]? = some (P - b, P - b + a) := by
  unfold gapsL
  rw [List.getElem?_map]
  have e : (ps.zip (ps.drop 1))[i]? = some (a, b) := List.getElem?_zip_eq_some.mpr ⟨h, h'⟩
  rw [e]
  rfl
theorem gaps_len {P : Int} {ps : List Int} : (gapsL P ps).length = min ps.length (ps.length - 1) := by
  unfold gapsL
  rw [List.length_map, List.length_zip, List.length_drop]
theorem gaps_mem {P c L : Int} {ps : List Int} (h : (c, L) ∈ gapsL P ps) : ∃ i a b, ps[i]? = some a ∧ ps[i + 1]? = some b ∧ c = P - b ∧ L = P - b + a := by
  obtain ⟨i, hi⟩ := List.getElem?_of_mem h
  unfold gapsL at hi
  rw [List.getElem?_map] at hi
  cases e : (ps.zip (ps.drop 1))[i]? with
  | none => rw [e] at hi; cases hi
  | some ab =>
    rw [e] at hi
    obtain ⟨a, b⟩ := ab
    obtain ⟨h1, h2⟩ := List.getElem?_zip_eq_some.mp e
    have hi2 := Option.some.inj hi
    rw [List.getElem?_drop, Nat.add_comm] at h2
    exact ⟨i, a, b, h1, h2, (congrArg Prod.fst hi2).symm, (congrArg Prod.snd hi2).symm⟩
/-- each arc begins at an offset's place, and is as long as the farthest offset from there -/
structure ArcsOk (P : Int) (os : List Int) (arcs : List (Int × Int)) : Prop where
  a1 : ∀ c L, (c, L) ∈ arcs → 0 ≤ c ∧ c ≤ L ∧ L < P ∧ (∀ o ∈ os, (o + c) % P ≤ L) ∧ (L = c ∨ ∃ o ∈ os, (o + c) % P = L)
  a2 : ∃ L, (0, L) ∈ arcs
  a3 : ∀ o ∈ os, ∃ L, ((0 - o) % P, L) ∈ arcs
  len : arcs.length ≤ os.length + 1
theorem arcs_ok {P z : Int} {os ps : List Int} (hP : 0 < P) (h : PtsOk P os ps) (hz : ps.getLast? = some z) : ArcsOk P os ((0, z) :: gapsL P ps) := by
  have rg : ∀ k ∈ ps, 0 ≤ k ∧ k < P := fun k hk => by
    rcases (h.mem k).mp hk with rfl | ⟨o, _, rfl⟩
    · exact ⟨Int.le_refl _, hP⟩
    · exact ⟨Int.emod_nonneg _ (Int.ne_of_gt hP), Int.emod_lt_of_pos _ hP⟩
  have up : ∀ {i j : Nat} {a b : Int}, ps[i]? = some a → ps[j]? = some b → i < j → a < b := fun {i j a b} h1 h2 hij => by
    obtain ⟨l1, e1⟩ := List.getElem?_eq_some_iff.mp h1
    obtain ⟨l2, e2⟩ := List.getElem?_eq_some_iff.mp h2
    rw [← e1, ← e2]
    exact List.pairwise_iff_getElem.mp h.up i j l1 l2 hij
  have m0 : (0 : Int) ∈ ps := (h.mem 0).mpr (.inl rfl)
  have l0 : 0 < ps.length := List.length_pos_of_mem m0
  have g0 : ps[0]? = some 0 := by
    obtain ⟨i, hi⟩ := List.getElem?_of_mem m0
    by_cases c : i = 0
    · rw [c] at hi
      exact hi
    · have e : ps[0]? = some ps[0] := List.getElem?_eq_getElem l0
      have z1 := up e hi (by omega)
      have z2 := (rg ps[0] (List.getElem_mem l0)).1
      omega
  have last : ∀ k ∈ ps, k ≤ z := fun k hk => by
    obtain ⟨i, hi⟩ := List.getElem?_of_mem hk
    have li := (List.getElem?_eq_some_iff.mp hi).1
    rw [List.getLast?_eq_getElem?] at hz
    by_cases c : i = ps.length - 1
    · rw [c, hz] at hi
      have e := Option.some.inj hi
      omega
    · exact Int.le_of_lt (up hi hz (by omega))
  have zm : z ∈ ps := List.mem_of_getLast? hz
  have inp : ∀ o ∈ os, o % P ∈ ps := fun o ho => (h.mem _).mpr (.inr ⟨o, ho, rfl⟩)
  have sh : ∀ o c : Int, (o + c) % P = (o % P + c) % P := fun o c => by rw [Int.emod_add_emod]
  refine ⟨fun c L hm => ?_, ⟨z, List.mem_cons_self⟩, fun o ho => ?_, ?_⟩
  · rcases List.mem_cons.mp hm with e | hm
    · obtain ⟨rfl, rfl⟩ : c = 0 ∧ L = z := ⟨congrArg Prod.fst e, congrArg Prod.snd e⟩
      refine ⟨Int.le_refl _, (rg _ zm).1, (rg _ zm).2, fun o ho => ?_, ?_⟩
      · have z1 := last _ (inp o ho)
        rw [show o + 0 = o by omega]
        exact z1
      · rcases (h.mem _).mp zm with e0 | ⟨o, ho, e0⟩
        · exact .inl e0
        · refine .inr ⟨o, ho, ?_⟩
          rw [show o + 0 = o by omega]
          exact e0
    · obtain ⟨i, a, b, ha, hb, rfl, rfl⟩ := gaps_mem hm
      have am := rg a (List.mem_of_getElem? ha)
      have bm := rg b (List.mem_of_getElem? hb)
      have ab := up ha hb (Nat.lt_succ_self i)
      refine ⟨by omega, by omega, by omega, fun o ho => ?_, ?_⟩
      · rw [sh]
        obtain ⟨j, hj⟩ := List.getElem?_of_mem (inp o ho)
        have om := rg _ (inp o ho)
        generalize o % P = p at hj om
        by_cases c : j ≤ i
        · have pa : p ≤ a := by
            by_cases c2 : j = i
            · rw [c2, ha] at hj
              have e := Option.some.inj hj
              omega
            · exact Int.le_of_lt (up hj ha (by omega))
          rw [Int.emod_eq_of_lt (by omega) (by omega)]
          omega
        · have pb : b ≤ p := by
            by_cases c2 : j = i + 1
            · rw [c2, hb] at hj
              have e := Option.some.inj hj
              omega
            · exact Int.le_of_lt (up hb hj (by omega))
          rw [show p + (P - b) = (p - b) + P * 1 by omega, Int.add_mul_emod_self_left, Int.emod_eq_of_lt (by omega) (by omega)]
          omega
      · rcases (h.mem a).mp (List.mem_of_getElem? ha) with e0 | ⟨o, ho, e0⟩
        · exact .inl (by omega)
        · refine .inr ⟨o, ho, ?_⟩
          rw [sh, e0, Int.emod_eq_of_lt (by omega) (by omega)]
          omega
  · have om := rg _ (inp o ho)
    obtain ⟨j, hj⟩ := List.getElem?_of_mem (inp o ho)
    have e1 := Int.mul_ediv_add_emod o P
    by_cases c : j = 0
    · rw [c, g0] at hj
      have e0 := Option.some.inj hj
      refine ⟨z, ?_⟩
      have e2 : (0 - o) % P = 0 := by
        have e3 : 0 - o = P * (-(o / P)) := by
          rw [Int.mul_neg]
          omega
        rw [e3]
        exact Int.mul_emod_right _ _
      rw [e2]
      exact List.mem_cons_self
    · have lj := (List.getElem?_eq_some_iff.mp hj).1
      obtain ⟨a, ha⟩ : ∃ a, ps[j - 1]? = some a := ⟨_, List.getElem?_eq_getElem (by omega)⟩
      have e0 : 0 < o % P := by
        have := up g0 hj (by omega)
        exact this
      have hd : (ps.drop 1)[j - 1]? = some (o % P) := by
        rw [List.getElem?_drop, show 1 + (j - 1) = j by omega]
        exact hj
      refine ⟨P - o % P + a, List.mem_cons_of_mem _ ?_⟩
      have e2 : (0 - o) % P = P - o % P := by
        have e3 : 0 - o = (P - o % P) + P * (-(o / P) - 1) := by
          rw [Int.mul_sub, Int.mul_neg]
          omega
        rw [e3, Int.add_mul_emod_self_left, Int.emod_eq_of_lt (by omega) (by omega)]
      rw [e2]
      exact List.mem_of_getElem? (gaps_get ha hd)
  · rw [List.length_cons, gaps_len]
    have := h.len
    omega
def sp_arcs_of (W : Wd) : Sp := fun vs H Q _ => match vs with
  | [v_w, v_offsets] =>
  ∃ (w : Int) (os : List Int), v_w = .int w ∧ Dq W.K H v_offsets (.tuple (os.map .int)) ∧ os.length ≤ 50 ∧ 0 ≤ w ∧ w ≤ 1000 ∧
    ∀ (arcs : List (Int × Int)) v H', Same H H' → ArcsOk (p2 w) os arcs → Dq W.K H' v (.list (arcs.map arcD)) → Q v H'
  | _ => False
abbrev N_arcs_of : List Str := ["w", "offsets", "size", "points", "arcs", "one", "following", "offset"]
theorem sc_arcs_of : FnScope N_arcs_of ["w", "offsets"] (defScope s_arcs_of) := ⟨rfl, rfl, rfl, by decide +kernel, rfl, by decide +kernel, by decide +kernel⟩
theorem f_arcs_of {W : Wd} {mg : Str → Option Value} {base : Heap} (B : Bi mg) {f : Addr} {fd : FuncData} (F : Fun W.K "arcs_of" "arcs_of" s_arcs_of f fd) (C_rest_of : Cal W mg base "rest_of" 1 ["number", "width"] (sp_rest_of W)) : FnOk W.P W.w W.K mg base CX0 2 f fd ["w", "offsets"] (sp_arcs_of W) := by
  obtain ⟨a_rest_of, d_rest_of, g_rest_of, F_rest_of, k_rest_of, b_rest_of⟩ := C_rest_of
  have nd := sc_arcs_of.nd
  have F0 : FnOk W.P W.w W.K mg base CX0 2 f fd ["w", "offsets"] (sp_arcs_of W) := by
    refine F.ok sc_arcs_of (fun vs H Q E h => ?_) (fun cdv A outer s H vs Q E hr h => ?_)
    · match vs, h with | [_, _], _ => rfl
    · match vs, h with
      | [v_w, v_offsets], h =>
        change sp_arcs_of W [v_w, v_offsets] H Q E at h
        refine ⟨tSeq (tAsg (tOp (rShlU) (tC (.int 1)) (tVar 0)) (gName 2)) (tSeq (tAsg (tCB (rSortedSet W.w) (tCons (tCB (rSetL W.K W.w) (tCons (tOp (rAddN W.K) (tLst (tCons (tC (.int 0)) (tNil))) (tLc (iAny W.K (tVar 1)) (gName 7) (tYes) (tCall (sp_rest_of W) [] E0 (tCons (tVar 7) (tCons (tVar 0) (tNil)))) [7])) (tNil))) (tNil))) (gName 3)) (tSeq (tAsg (tLst (tCons (tTupN (tCons (tC (.int 0)) (tCons (tOp (rIxU W.K) (tVar 3) (tUn (rU fun i => .int (-i)) (tC (.int 1)))) (tNil)))) (tNil))) (gName 4)) (tSeq (tFor (iZipA W.K (tCons (tVar 3) (tCons (tSl (rSlU W.K) (tVar 3) (tPart (tC (.int 1))) (tNoPart)) (tNil)))) (gTup W.K 2 (gCons (gName 5) (gCons (gName 6) (gNil)))) (tDrop (tBM W.K "list" rAppend (tVar 4) (tCons (tTupN (tCons (tOp (rSubU) (tVar 2) (tVar 6)) (tCons (tOp (rAddN W.K) (tOp (rSubU) (tVar 2) (tVar 6)) (tVar 5)) (tNil)))) (tNil))))) (tRet (tVar 4))))), pss_cons (ps_set (i := 2) nd rfl (.inl rfl) (pe_op u_shl (pe_int) (pv 0))) (pss_cons (ps_set (i := 3) nd rfl (.inl rfl) (pe_callB (cr_sortedSet (by rfl)) (by rfl) B.b_sorted (by decide +kernel) (pa_cons (pe_callTy (call_setL (by rfl)) (by rfl) B.b_set (by decide +kernel) (pa_cons (pe_op u_addN (pe_lst (pa_cons (pe_int) (pa_nil))) (pe_lc (own := [("offset", 7)]) rfl nd (pi_any (pv 1)) (blkOk_by (own := [("offset", 7)]) (N := N_arcs_of) (sc := defScope s_arcs_of) (by decide +kernel)) (fun _ _ _ _ _ => pg_name (i := 7) nd rfl (by first | exact Or.inl rfl | exact Or.inr rfl)) (fun _ _ _ _ _ => pts_nil) (fun _ _ _ _ _ => pe_call F_rest_of (hr.mono (by decide)) (by rfl) g_rest_of k_rest_of b_rest_of .nil pass0 (pa_cons (pv 7) (pa_cons (pv 0) (pa_nil)))))) (pa_nil))) (pa_nil)))) (pss_cons (ps_set (i := 4) nd rfl (.inl rfl) (pe_lst (pa_cons (pe_tupN (pa_cons (pe_int) (pa_cons (pe_ix u_ix (pv 3) (pe_un un_neg (pe_int)) (fun _ _ => rfl)) (pa_nil)))) (pa_nil)))) (pss_cons (ps_for PassesOwn.never rfl (pi_zipA (by rfl) B.b_zip (pa_cons (pv 3) (pa_cons (pe_slice u_sl (pv 3) (po_some (pe_int)) (po_none)) (pa_nil)))) (pg_tup rfl (pgs_cons (pg_name (i := 5) nd rfl (by first | exact Or.inl rfl | exact Or.inr rfl)) (pgs_cons (pg_name (i := 6) nd rfl (by first | exact Or.inl rfl | exact Or.inr rfl)) (pgs_nil)))) (pss_one (ps_expr (pe_bm PySem.F.plainAttrs_list PySem.F.slot_list_append PySem.F.type_list_append mt_append (pv 4) (pa_cons (pe_tupN (pa_cons (pe_op u_sub (pv 2) (pv 6)) (pa_cons (pe_op u_addN (pe_op u_sub (pv 2) (pv 6)) (pv 5)) (pa_nil)))) (pa_nil)))))) (pss_one (ps_ret (pv 4)))))), ?_⟩
        clear hr
        clear F_rest_of g_rest_of k_rest_of b_rest_of d_rest_of a_rest_of
        rw [show L2.start N_arcs_of [v_w, v_offsets] = [some v_w, some v_offsets, none, none, none, none, none, none] from rfl]
        obtain ⟨w, os, rfl, ho, hl, w0, w1, q⟩ := h
        obtain ⟨a, rfl, ha⟩ := dq_ti ho
        walk_at "Zs"
        rename_i p1 G1 np1 f1 h1
        have ha1 := same_t f1 ha.t
        refine w_goT ha1 ?_
        refine lcT ha1 (fun i acc _ => acc = (os.take i).map fun o => V.int (o % p2 w)) stb_pure (by rw [List.length_map]; omega) (fun i acc H' e => by rw [e, List.length_map, List.length_take]; omega) (fun H' _ => rfl) (fun i x acc H' hx e1 ea k k' hk hk' => ?_) fun D acc H2 hD e2 hD' ea => ?_
        · obtain ⟨b, eb, rfl⟩ : ∃ b, os[i]? = some b ∧ V.int b = x := by
            rw [List.getElem?_map] at hx
            cases e : os[i]? with
            | none => rw [e] at hx; cases hx
            | some b => rw [e] at hx; exact ⟨b, rfl, Option.some.inj hx⟩
          walk_at "Zs"
          rename_i r er _ _ _
          refine hk _ _ (Same.refl _) ?_
          rw [List.take_add_one, eb, List.map_append, ea, er]
          rfl
        · rw [List.length_map, List.take_length] at ea
          refine w_catL (e2 _ _ h1) hD' (by rw [ea, List.length_map]; simp only [List.length_cons, List.length_nil]; omega) fun p3 H3 np3 e3 h3 => ?_
          have h3b : H3 p3 = some (.lst ((0 :: os.map (· % p2 w)).map V.int)) := by
            rw [h3, ea, List.map_cons, List.map_map]
            rfl
          walk_at "Zs"
          refine w_setL (SqL.of h3b) (by rw [List.length_cons, List.length_map]; omega) fun p4 c H4 np4 e4 hc h4 => ?_
          rw [List.length_cons, List.length_map] at hc
          walk_at "Zs"
          refine w_sortedSet h4 (by omega) fun ps p5 H5 up mem len np5 e5 h5 => ?_
          walk_at "Zs"
          have m0 : (0 : Int) ∈ ps := (mem 0).mpr (decide_eq_true List.mem_cons_self)
          have lp : 0 < ps.length := List.length_pos_of_mem m0
          have hpts : PtsOk (p2 w) os ps := ⟨up, fun k => by
            rw [mem k, decide_eq_true_iff, List.mem_cons, List.mem_map], by omega⟩
          obtain ⟨z, hz⟩ : ∃ z, ps.getLast? = some z := ⟨_, List.getLast?_eq_some_getLast (List.ne_nil_of_length_pos lp)⟩
          have hat : atI (ps.map V.int) (-1) = some (.int z) := by
            rw [atI_map]
            have e : atI ps (-1) = ps.getLast? := by
              unfold atI ixN
              rw [if_neg (by decide), if_pos (by omega), List.getLast?_eq_getElem?]
              show ps[((-1 : Int) + ps.length).toNat]? = _
              rw [show ((-1 : Int) + ps.length).toNat = ps.length - 1 by omega]
            rw [e, hz]
            rfl
          have hok := arcs_ok (p2_pos w) hpts hz
          refine w_ixl (SqL.of h5) hat ?_
          walk_at "Zs"
          rename_i p6 H6 np6 e6 h6 p7 H7 np7 e7 h7
          have S7 : Same H H7 := by walk_at "Zkt"
          refine .inr (.inr ⟨p5, ps.map V.int, rfl, SqL.of (e7 _ _ (e6 _ _ h5)), fun p8 np8 => ?_⟩)
          have e8 : Same H7 (upd H7 p8 (.lst (cutV (ps.map V.int) (some 1) none))) := same_new np8
          have h8 : upd H7 p8 (.lst (cutV (ps.map V.int) (some 1) none)) p8 = some (.lst ((ps.drop 1).map V.int)) := by
            rw [upd_same]
            have e : cutV (ps.map V.int) (some 1) none = (ps.drop 1).map V.int := by
              show cutD (ps.map V.int) (some 1) none = _
              rw [cutD_from (by decide) (by rw [List.length_map]; omega), List.map_drop]
              rfl
            rw [e]
          generalize upd H7 p8 (.lst (cutV (ps.map V.int) (some 1) none)) = H8 at e8 h8
          walk_at "Zs"
          have h58 : H8 p5 = some (.lst (ps.map V.int)) := e8 _ _ (e7 _ _ (e6 _ _ h5))
          have h78 : H8 p7 = some (.lst [.ref p6]) := e8 _ _ h7
          have n7 : H p7 = none := none_of (by walk_at "Zkt") np7
          have ne5 : p5 ≠ p7 := fun z => by
            have z2 := e6 _ _ h5
            rw [z, np7] at z2
            cases z2
          have n8 : p8 ≠ p7 := fun z => by rw [z, h7] at np8; cases np8
          refine w_goZL (SqL.of h58) (SqL.of h8) ?_
          refine forZL (fun i σ' H' => (∃ y5 y6 y7, σ' = [some (.int w), some (.ref a), some (.int (p2 w)), some (.ref p5), some (.ref p7), y5, y6, y7]) ∧ Same H H' ∧ H' p5 = some (.lst (ps.map V.int)) ∧ H' p8 = some (.lst ((ps.drop 1).map V.int)) ∧ ∃ vs, H' p7 = some (.lst vs) ∧ DqAll W.K H' vs (((0, z) :: (gapsL (p2 w) ps).take i).map arcD)) ⟨⟨_, _, _, rfl⟩, S7.trans e8, h58, h8, _, h78, dqs_one (dq_mono (e7.trans e8) (dq_ofN (ns := [0, z]) h6))⟩ (fun i σ' H' h => ⟨SqL.of h.2.2.1, SqL.of h.2.2.2.1⟩) (fun i x y σ' H9 hx hy h H10 e10 => ?_) (fun σ' H9 h => ?_)
          · obtain ⟨⟨y5, y6, y7, rfl⟩, S9, h5', h8', vs, h7', hd⟩ := h
            obtain ⟨xa, hxa, rfl⟩ := ints_at hx
            obtain ⟨xb, hxb, rfl⟩ := ints_at hy
            have hg := gaps_get (P := p2 w) hxa hxb
            have hli := (List.getElem?_eq_some_iff.mp hxa).1
            walk_at "Zs"
            refine w_tyL (e10 _ _ h7') ?_
            walk_at "Zs"
            rename_i p11 H11 np11 e11 h11
            have h7b := e11 _ _ (e10 _ _ h7')
            have hvl := dqs_len hd
            rw [List.length_map, List.length_cons, List.length_take] at hvl
            refine w_append h7b (by omega) ?_
            walk_at "Zs"
            refine ⟨⟨_, _, _, rfl⟩, same_mut ((S9.trans e10).trans e11) n7, ?_, ?_, vs ++ [.ref p11], upd_same, ?_⟩
            · rw [upd_ne ne5]
              exact e11 _ _ (e10 _ _ h5')
            · rw [upd_ne n8]
              exact e11 _ _ (e10 _ _ h8')
            · rw [List.take_add_one, hg, ← List.cons_append, List.map_append]
              refine dqs_app (dqs_lst h7b (dqs_mono (e10.trans e11) hd) (tupOs_of fun d hd => ?_)) (dqs_one (dq_lst h7b (dq_ofN (ns := [p2 w - xb, p2 w - xb + xa]) h11) ⟨trivial, trivial, trivial⟩))
              obtain ⟨n, _, rfl⟩ := List.mem_map.mp hd
              exact ⟨trivial, trivial, trivial⟩
          · obtain ⟨⟨y5, y6, y7, rfl⟩, S9, h5', h8', vs, h7', hd⟩ := h
            walk_at "Zs"
            refine q ((0, z) :: gapsL (p2 w) ps) _ _ S9 hok (dq_newl h7' ?_)
            rw [List.take_of_length_le (by rw [gaps_len, List.length_map, List.length_map, List.length_drop]; exact Nat.le_refl _)] at hd
            exact hd
  exact F0
theorem c_arcs_of {W : Wd} {mg : Str → Option Value} {base : Heap} (B : Bi mg) (S : Src W.K mg "arcs_of" s_arcs_of) (C_rest_of : Cal W mg base "rest_of" 1 ["number", "width"] (sp_rest_of W)) : Cal W mg base "arcs_of" 2 ["w", "offsets"] (sp_arcs_of W) := by
  obtain ⟨f, fd, g, F⟩ := S
  exact ⟨f, fd, g, f_arcs_of B F C_rest_of, F.kp, (F.binds (ps := ["w", "offsets"]) fun _ _ _ _ _ _ us hl => match us, hl with | [_, _], _ => rfl)⟩
theorem go_arcs_of {W : Wd} {H : Hp} {Q : VK} {E : XK} {x : V} {w : Int} {os : List Int} (ho : Dq W.K H x (.tuple (os.map .int))) (hl : os.length ≤ 50) (w0 : 0 ≤ w) (w1 : w ≤ 1000)
    (q : ∀ (arcs : List (Int × Int)) v H', Same H H' → ArcsOk (p2 w) os arcs → Dq W.K H' v (.list (arcs.map arcD)) → Q v H') : sp_arcs_of W [.int w, x] H Q E := ⟨w, os, rfl, ho, hl, w0, w1, q⟩
/-- the least width, reckoned -/
def wf (m : Int) : Nat := if m ≤ 1 then 0 else (m - 1).toNat.log2 + 1
theorem wf_is (m : Int) : IsW m (wf m) := by
  unfold wf
  by_cases h : m ≤ 1
  · rw [if_pos h]
    exact ⟨by rw [Int.pow_zero]; exact h, fun u hu => absurd hu (Nat.not_lt_zero _)⟩
  · rw [if_neg h]
    have e : (((m - 1).toNat : Nat) : Int) = m - 1 := by omega
    refine ⟨?_, fun u hu => ?_⟩
    · have z := @Nat.lt_log2_self (m - 1).toNat
      have z2 : (((m - 1).toNat : Nat) : Int) < ((2 ^ ((m - 1).toNat.log2 + 1) : Nat) : Int) := Int.ofNat_lt.mpr z
      rw [Int.natCast_pow] at z2
      show m ≤ (2 : Int) ^ ((m - 1).toNat.log2 + 1)
      have z3 : (((2 : Nat) : Int)) ^ ((m - 1).toNat.log2 + 1) = (2 : Int) ^ ((m - 1).toNat.log2 + 1) := rfl
      omega
    · have z := Nat.log2_self_le (n := (m - 1).toNat) (by omega)
      have z1 : (2 : Nat) ^ u ≤ 2 ^ (m - 1).toNat.log2 := Nat.pow_le_pow_right (by decide) (by omega)
      have z2 : ((2 ^ u : Nat) : Int) ≤ (((m - 1).toNat : Nat) : Int) := Int.ofNat_le.mpr (Nat.le_trans z1 z)
      rw [Int.natCast_pow] at z2
      have z3 : (((2 : Nat) : Int)) ^ u = (2 : Int) ^ u := rfl
      omega
theorem wf_le {m w : Int} (h0 : 0 ≤ w) (h : m ≤ p2 w) : (wf m : Int) ≤ w := by
  by_cases c : (wf m : Int) ≤ w
  · exact c
  · have z := (wf_is m).2 w.toNat (by omega)
    unfold p2 at h
    omega
theorem wf_ge {m w : Int} (h : (wf m : Int) ≤ w) : m ≤ p2 w := by
  have z := (wf_is m).1
  have z2 := p2_le h
  have e : p2 (wf m : Int) = 2 ^ wf m := rfl
  omega
/-- the arcs tell the least window -/
theorem arcs_tight {w wd bl : Int} {os : List Int} {arcs : List (Int × Int)} (h0 : 0 ≤ w) (h : ArcsOk (p2 w) os arcs) (h1 : ∃ a ∈ arcs, (wf (a.2 + 1) : Int) = wd) (h2 : ∀ a ∈ arcs, wd ≤ (wf (a.2 + 1) : Int))
    (h3 : ∃ a ∈ arcs, (wf (a.2 + 1) : Int) ≤ wd ∧ a.1 = bl) (h4 : ∀ a ∈ arcs, (wf (a.2 + 1) : Int) ≤ wd → bl ≤ a.1) : Tight w os wd bl := by
  obtain ⟨L0, m0⟩ := h.a2
  have z0 := h.a1 0 L0 m0
  have zw := wf_le h0 (show L0 + 1 ≤ p2 w by omega)
  have hw : wd ≤ w := Int.le_trans (h2 _ m0) zw
  have hd0 : 0 ≤ wd := by
    obtain ⟨a, _, e⟩ := h1
    omega
  obtain ⟨⟨c, L⟩, ha, hb, hc⟩ := h3
  have z1 := h.a1 c L ha
  have hc2 : c = bl := hc
  have hb2 := wf_ge hb
  have hb3 : L + 1 ≤ p2 wd := hb2
  refine tight_of hd0 hw (by omega) ⟨by omega, fun o ho => ?_⟩ fun wd' x w0 w1 x0 hx hc => ?_
  · have z := z1.2.2.2.1 o ho
    rw [← hc2]
    omega
  · obtain ⟨L', hm⟩ : ∃ L', (x, L') ∈ arcs := by
      rcases hc with rfl | ⟨o, ho, rfl⟩
      · exact h.a2
      · exact h.a3 o ho
    have y := h.a1 x L' hm
    have y2 : L' + 1 ≤ p2 wd' := by
      have q1 := hx.1
      rcases y.2.2.2.2 with e | ⟨o, ho, e⟩
      · omega
      · have q2 := hx.2 o ho
        omega
    have y3 := wf_le w0 y2
    have y4 := h2 _ hm
    refine ⟨Int.le_trans y4 y3, fun e => ?_⟩
    have y5 := h4 _ hm (by rw [e] at y3; exact y3)
    exact y5
def sp_tightest (W : Wd) : Sp := fun vs H Q _ => match vs with
  | [v_w, v_offsets] =>
  ∃ (w : Int) (os : List Int), v_w = .int w ∧ Dq W.K H v_offsets (.tuple (os.map .int)) ∧ os.length ≤ 50 ∧ 0 ≤ w ∧ w ≤ 100 ∧
    ∀ (wd bl : Int) v H', Same H H' → Tight w os wd bl → Dq W.K H' v (.tuple [.int wd, .int bl]) → Q v H'
  | _ => False
abbrev N_tightest : List Str := ["w", "offsets", "arcs", "width", "below", "long"]
theorem sc_tightest : FnScope N_tightest ["w", "offsets"] (defScope s_tightest) := ⟨rfl, rfl, rfl, by decide +kernel, rfl, by decide +kernel, by decide +kernel⟩
theorem f_tightest {W : Wd} {mg : Str → Option Value} {base : Heap} (B : Bi mg) {f : Addr} {fd : FuncData} (F : Fun W.K "tightest" "tightest" s_tightest f fd) (C_width_for : Cal W mg base "width_for" 1 ["many"] (sp_width_for W)) (C_arcs_of : Cal W mg base "arcs_of" 2 ["w", "offsets"] (sp_arcs_of W)) : FnOk W.P W.w W.K mg base CX0 3 f fd ["w", "offsets"] (sp_tightest W) := by
  obtain ⟨a_width_for, d_width_for, g_width_for, F_width_for, k_width_for, b_width_for⟩ := C_width_for
  obtain ⟨a_arcs_of, d_arcs_of, g_arcs_of, F_arcs_of, k_arcs_of, b_arcs_of⟩ := C_arcs_of
  have nd := sc_tightest.nd
  have F0 : FnOk W.P W.w W.K mg base CX0 3 f fd ["w", "offsets"] (sp_tightest W) := by
    refine F.ok sc_tightest (fun vs H Q E h => ?_) (fun cdv A outer s H vs Q E hr h => ?_)
    · match vs, h with | [_, _], _ => rfl
    · match vs, h with
      | [v_w, v_offsets], h =>
        change sp_tightest W [v_w, v_offsets] H Q E at h
        refine ⟨tSeq (tAsg (tCall (sp_arcs_of W) [] E0 (tCons (tVar 0) (tCons (tVar 1) (tNil)))) (gName 2)) (tSeq (tAsg (tCB (rMin W.K) (tCons (tLc (iAny W.K (tVar 2)) (gTup W.K 2 (gCons (gName 4) (gCons (gName 5) (gNil)))) (tYes) (tCall (sp_width_for W) [] E0 (tCons (tOp (rAddN W.K) (tVar 5) (tC (.int 1))) (tNil))) [4, 5]) (tNil))) (gName 3)) (tRet (tTupN (tCons (tVar 3) (tCons (tCB (rMin W.K) (tCons (tLc (iAny W.K (tVar 2)) (gTup W.K 2 (gCons (gName 4) (gCons (gName 5) (gNil)))) (tTest (tOp (rLeU) (tCall (sp_width_for W) [] E0 (tCons (tOp (rAddN W.K) (tVar 5) (tC (.int 1))) (tNil))) (tVar 3))) (tVar 4) [4, 5]) (tNil))) (tNil)))))), pss_cons (ps_set (i := 2) nd rfl (.inl rfl) (pe_call F_arcs_of (hr.mono (by decide)) (by rfl) g_arcs_of k_arcs_of b_arcs_of .nil pass0 (pa_cons (pv 0) (pa_cons (pv 1) (pa_nil))))) (pss_cons (ps_set (i := 3) nd rfl (.inr rfl) (pe_callB (cr_min rfl) (by rfl) B.b_min (by decide +kernel) (pa_cons (pe_lc (own := [("below", 4), ("long", 5)]) rfl nd (pi_any (pv 2)) (blkOk_by (own := [("below", 4), ("long", 5)]) (N := N_tightest) (sc := defScope s_tightest) (by decide +kernel)) (fun _ _ _ _ _ => pg_tup rfl (pgs_cons (pg_name (i := 4) nd rfl (by first | exact Or.inl rfl | exact Or.inr rfl)) (pgs_cons (pg_name (i := 5) nd rfl (by first | exact Or.inl rfl | exact Or.inr rfl)) (pgs_nil)))) (fun _ _ _ _ _ => pts_nil) (fun _ _ _ _ _ => pe_call F_width_for (hr.mono (by decide)) (by rfl) g_width_for k_width_for b_width_for .nil pass0 (pa_cons (pe_op u_addN (pv 5) (pe_int)) (pa_nil)))) (pa_nil)))) (pss_one (ps_ret (pe_tupN (pa_cons (pv 3) (pa_cons (pe_callB (cr_min rfl) (by rfl) B.b_min (by decide +kernel) (pa_cons (pe_lc (own := [("below", 4), ("long", 5)]) rfl nd (pi_any (pv 2)) (blkOk_by (own := [("below", 4), ("long", 5)]) (N := N_tightest) (sc := defScope s_tightest) (by decide +kernel)) (fun _ _ _ _ _ => pg_tup rfl (pgs_cons (pg_name (i := 4) nd rfl (by first | exact Or.inl rfl | exact Or.inr rfl)) (pgs_cons (pg_name (i := 5) nd rfl (by first | exact Or.inl rfl | exact Or.inr rfl)) (pgs_nil)))) (fun _ _ _ _ _ => pts_one (pt_cmpR u_le (pe_call F_width_for (hr.mono (by decide)) (by rfl) g_width_for k_width_for b_width_for .nil pass0 (pa_cons (pe_op u_addN (pv 5) (pe_int)) (pa_nil))) (pv 3) (nomark _))) (fun _ _ _ _ _ => pv 4)) (pa_nil))) (pa_nil))))))), ?_⟩
        clear hr
        clear F_width_for g_width_for k_width_for b_width_for d_width_for a_width_for
        clear F_arcs_of g_arcs_of k_arcs_of b_arcs_of d_arcs_of a_arcs_of
        rw [show L2.start N_tightest [v_w, v_offsets] = [some v_w, some v_offsets, none, none, none, none] from rfl]
        obtain ⟨w, os, rfl, ho, hl, w0, w1, q⟩ := h
        walk_at "Zs"
        refine go_arcs_of ho hl w0 (by omega) fun arcs va H1 e1 hok hva => ?_
        walk_at "Zs"
        obtain ⟨a, xs, rfl, hxs, hds⟩ := dq_ll hva
        have hxl := dqs_len hds
        rw [List.length_map] at hxl
        have hal := hok.len
        have pw : p2 w ≤ 2 ^ 100 := p2_le (show w ≤ 100 by omega)
        have hL : ∀ c L, (c, L) ∈ arcs → L + 1 ≤ 2 ^ 1000 := fun c L hm => by
          have z := hok.a1 c L hm
          exact Int.le_trans (show L + 1 ≤ 2 ^ 100 by omega) (by decide)
        refine w_goL hxs ?_
        refine lcL hxs (fun i acc _ => acc = (arcs.take i).map fun b => V.int (wf (b.2 + 1) : Nat)) stb_pure (by omega) (fun i acc H' e => by rw [e, List.length_map, List.length_take]; omega) (fun H' _ => rfl) (fun i x acc H' hx e2 ea k k' hk hk' => ?_) fun D acc H2 hD e2 hD' ea => ?_
        · obtain ⟨d, hd, hxd⟩ := dqs_get2 hds hx
          obtain ⟨⟨c, L⟩, hcl, rfl⟩ := map_at hd
          obtain ⟨t, rfl, ht⟩ := dq_ti (ns := [c, L]) hxd
          refine w_gtup (xs := [.int c, .int L]) (same_n e2 ht).t rfl ?_
          walk_at "Zs"
          refine go_width_for (hL c L (List.mem_of_getElem? hcl)) fun n hn => ?_
          refine hk _ _ (Same.refl _) ?_
          rw [List.take_add_one, hcl, List.map_append, ea, isW_one hn (wf_is _)]
          rfl
        rw [List.take_of_length_le (by omega)] at ea
        walk_at "Zs"
        obtain ⟨L0, m0⟩ := hok.a2
        refine w_min (ns := arcs.map fun b => (wf (b.2 + 1) : Int)) (SqL.of (by rw [hD', ea, List.map_map]; rfl)) (by rw [List.length_map]; exact List.length_pos_of_mem m0) fun wd hwd hle => ?_
        walk_at "Zs"
        have hxs2 := e2.seq hxs
        refine w_goL hxs2 ?_
        refine lcL hxs2 (fun i acc _ => acc = ((arcs.take i).filter fun b => decide ((wf (b.2 + 1) : Int) ≤ wd)).map fun b => V.int b.1) stb_pure (by omega) (fun i acc H' e => by rw [e, List.length_map]; exact Nat.le_trans (List.length_filter_le _ _) (by rw [List.length_take]; omega)) (fun H' _ => rfl) (fun i x acc H' hx e3 ea k k' hk hk' => ?_) fun D2 acc2 H3 hD2 e3 hD2' ea2 => ?_
        · obtain ⟨d, hd, hxd⟩ := dqs_get2 hds hx
          obtain ⟨⟨c, L⟩, hcl, rfl⟩ := map_at hd
          obtain ⟨t, rfl, ht⟩ := dq_ti (ns := [c, L]) hxd
          refine w_gtup (xs := [.int c, .int L]) (same_n (e2.trans e3) ht).t rfl ?_
          walk_at "Zs"
          refine go_width_for (hL c L (List.mem_of_getElem? hcl)) fun n hn => ?_
          have et : arcs.take (i + 1) = arcs.take i ++ [(c, L)] := by rw [List.take_add_one, hcl]; rfl
          obtain rfl := isW_one hn (wf_is _)
          walk_at "Zs"
          refine w_dec (fun hc => ?_) (fun hc => ?_)
          · walk_at "Zs"
            refine hk _ _ (Same.refl _) ?_
            rw [et, List.filter_append, List.map_append, ea]
            simp [hc]
          · walk_at "Zs"
            refine hk' _ (Same.refl _) ?_
            rw [et, List.filter_append, List.map_append, ea]
            simp [hc]
        rw [List.take_of_length_le (by omega)] at ea2
        walk_at "Zs"
        obtain ⟨⟨c1, L1⟩, hm1, he1⟩ := List.mem_map.mp hwd
        have hf1 : ((c1, L1) : Int × Int) ∈ arcs.filter fun b => decide ((wf (b.2 + 1) : Int) ≤ wd) := List.mem_filter.mpr ⟨hm1, decide_eq_true (Int.le_of_eq he1)⟩
        refine w_min (ns := (arcs.filter fun b => decide ((wf (b.2 + 1) : Int) ≤ wd)).map fun b => b.1) (SqL.of (by rw [hD2', ea2, List.map_map]; rfl)) (by rw [List.length_map]; exact List.length_pos_of_mem hf1) fun bl hbl hle2 => ?_
        walk_at "Zs"
        rename_i p5 H5 np5 e5 h5
        refine q wd bl _ _ (by walk_at "Zkt") ?_ (dq_ofN (ns := [wd, bl]) h5)
        obtain ⟨⟨c2, L2⟩, hm2, he2⟩ := List.mem_map.mp hbl
        have hf2 := List.mem_filter.mp hm2
        refine arcs_tight w0 hok ⟨_, hm1, he1⟩ (fun a ha => hle _ (List.mem_map.mpr ⟨a, ha, rfl⟩)) ⟨_, hf2.1, of_decide_eq_true hf2.2, he2⟩ fun a ha hw => hle2 _ (List.mem_map.mpr ⟨a, List.mem_filter.mpr ⟨ha, decide_eq_true hw⟩, rfl⟩)
  exact F0
theorem c_tightest {W : Wd} {mg : Str → Option Value} {base : Heap} (B : Bi mg) (S : Src W.K mg "tightest" s_tightest) (C_width_for : Cal W mg base "width_for" 1 ["many"] (sp_width_for W)) (C_arcs_of : Cal W mg base "arcs_of" 2 ["w", "offsets"] (sp_arcs_of W)) : Cal W mg base "tightest" 3 ["w", "offsets"] (sp_tightest W) := by
  obtain ⟨f, fd, g, F⟩ := S
  exact ⟨f, fd, g, f_tightest B F C_width_for C_arcs_of, F.kp, (F.binds (ps := ["w", "offsets"]) fun _ _ _ _ _ _ us hl => match us, hl with | [_, _], _ => rfl)⟩
theorem go_tightest {W : Wd} {H : Hp} {Q : VK} {E : XK} {x : V} {w : Int} {os : List Int} (ho : Dq W.K H x (.tuple (os.map .int))) (hl : os.length ≤ 50) (w0 : 0 ≤ w) (w1 : w ≤ 100)
    (q : ∀ (wd bl : Int) v H', Same H H' → Tight w os wd bl → Dq W.K H' v (.tuple [.int wd, .int bl]) → Q v H') : sp_tightest W [.int w, x] H Q E := ⟨w, os, rfl, ho, hl, w0, w1, q⟩
def sp_gone_round (W : Wd) : Sp := fun vs H Q _ => match vs with
  | [v_row, v_value, v_more] =>
  ∃ (ns : List Int) (v m : Int), Dq W.K H v_row (.tuple (ns.map .int)) ∧ v_value = .int v ∧ v_more = .int m ∧ ∀ r : Int, GoneR ns v m r → Q (.int r) H
  | _ => False
abbrev N_gone_round : List Str := ["row", "value", "more"]
theorem sc_gone_round : FnScope N_gone_round ["row", "value", "more"] (defScope s_gone_round) := ⟨rfl, rfl, rfl, by decide +kernel, rfl, by decide +kernel, by decide +kernel⟩
theorem f_gone_round {W : Wd} {mg : Str → Option Value} {base : Heap} (B : Bi mg) {f : Addr} {fd : FuncData} (F : Fun W.K "gone_round" "gone_round" s_gone_round f fd)  : FnOk W.P W.w W.K mg base CX0 1 f fd ["row", "value", "more"] (sp_gone_round W) := by
  have nd := sc_gone_round.nd
  have F0 : FnOk W.P W.w W.K mg base CX0 1 f fd ["row", "value", "more"] (sp_gone_round W) := by
    refine F.ok sc_gone_round (fun vs H Q E h => ?_) (fun cdv A outer s H vs Q E hr h => ?_)
    · match vs, h with | [_, _, _], _ => rfl
    · match vs, h with
      | [v_row, v_value, v_more], h =>
        change sp_gone_round W [v_row, v_value, v_more] H Q E at h
        refine ⟨tSeq (tIfS (tTest (tOp (rNotInU W.K) (tVar 1) (tVar 0))) (tRet (tVar 1)) (tNext)) (tRet (tOp (rIxU W.K) (tVar 0) (tOp (rModU) (tOp (rAddN W.K) (tTM W.K (rIndexT W.K) (tVar 0) (tCons (tVar 1) (tNil))) (tVar 2)) (tCB (rLenU W.K) (tCons (tVar 0) (tNil)))))), pss_cons (ps_if (pt_cmpR (u_notin hr.units) (pv 1) (pv 0) (by rfl)) (pss_one (ps_ret (pv 1))) (pss_nil)) (pss_one (ps_ret (pe_ix u_ix (pv 0) (pe_op u_mod (pe_op u_addN (pe_tm PySem.F.slot_tuple_index PySem.F.type_tuple_index mt_indexT (pv 0) (pa_cons (pv 1) (pa_nil))) (pv 2)) (pe_callB u_len (by rfl) B.b_len (by decide +kernel) (pa_cons (pv 0) (pa_nil)))) (fun _ _ => rfl)))), ?_⟩
        clear hr
        rw [show L2.start N_gone_round [v_row, v_value, v_more] = [some v_row, some v_value, some v_more] from rfl]
        obtain ⟨ns, v, m, hr, rfl, rfl, q⟩ := h
        obtain ⟨a, rfl, ha⟩ := dq_ti hr
        walk_at "Zs"
        refine w_ninT ha.t ?_
        walk_at "Zs"
        refine w_dec (fun hin => ?_) (fun hno => ?_)
        · walk_at "Zs"
          refine w_tyQT hr ?_
          walk_at "Zs"
          have hl : 0 < ns.length := List.length_pos_of_mem hin
          refine w_indexT ha.t hin ?_
          walk_at "Zs"
          have h0 := Int.emod_nonneg (((ns.idxOf v : Nat) : Int) + m) (show ((ns.length : Nat) : Int) ≠ 0 by omega)
          have h1 := Int.emod_lt_of_pos (((ns.idxOf v : Nat) : Int) + m) (show 0 < ((ns.length : Nat) : Int) by omega)
          refine w_ixMi hr h0 h1 fun r er => ?_
          exact q r ⟨fun z => absurd hin z, fun _ => er⟩
        · walk_at "Zs"
          exact q v ⟨fun _ => rfl, fun z => absurd z hno⟩
  exact F0
theorem c_gone_round {W : Wd} {mg : Str → Option Value} {base : Heap} (B : Bi mg) (S : Src W.K mg "gone_round" s_gone_round)  : Cal W mg base "gone_round" 1 ["row", "value", "more"] (sp_gone_round W) := by
  obtain ⟨f, fd, g, F⟩ := S
  exact ⟨f, fd, g, f_gone_round B F , F.kp, (F.binds (ps := ["row", "value", "more"]) fun _ _ _ _ _ _ us hl => match us, hl with | [_, _, _], _ => rfl)⟩
theorem go_gone_round {W : Wd} {H : Hp} {Q : VK} {E : XK} {x : V} {ns : List Int} {v m : Int} (hr : Dq W.K H x (.tuple (ns.map .int))) (q : ∀ r : Int, GoneR ns v m r → Q (.int r) H) : sp_gone_round W [x, .int v, .int m] H Q E := ⟨ns, v, m, hr, rfl, rfl, q⟩
def sp_expected (W : Wd) : Sp := fun vs H Q _ => match vs with
  | [v_shape, v_place, v_former, v_ahead, v_more] =>
  ∃ (d : PyData) (fs : List Fd) (p : Nat) (f : Fd) (fo ah : List Int) (v more : Int), Dq W.K H v_shape (.tuple [.tuple (fs.map fdD), d]) ∧ v_place = .int p ∧ fs[p]? = some f ∧ OkFd p f ∧ Dq W.K H v_former (.tuple (fo.map .int)) ∧ fo[p]? = some v ∧ p < fo.length ∧ Dq W.K H v_ahead (.tuple (ah.map .int)) ∧ p ≤ ah.length ∧ v_more = .int more ∧ -1000000 ≤ more ∧ more ≤ 1000000 ∧
    ∀ (r : Int) H', Same H H' → ExpK fo ah more v f.kd r → Q (.int (r % p2 f.br)) H'
  | _ => False
abbrev N_expected : List Str := ["shape", "place", "former", "ahead", "more", "name", "breadth", "kind", "value"]
theorem sc_expected : FnScope N_expected ["shape", "place", "former", "ahead", "more"] (defScope s_expected) := ⟨rfl, rfl, rfl, by decide +kernel, rfl, by decide +kernel, by decide +kernel⟩
theorem f_expected {W : Wd} {mg : Str → Option Value} {base : Heap} (B : Bi mg) {f : Addr} {fd : FuncData} (F : Fun W.K "expected" "expected" s_expected f fd) (C_rest_of : Cal W mg base "rest_of" 1 ["number", "width"] (sp_rest_of W)) (C_gone_round : Cal W mg base "gone_round" 1 ["row", "value", "more"] (sp_gone_round W)) : FnOk W.P W.w W.K mg base CX0 2 f fd ["shape", "place", "former", "ahead", "more"] (sp_expected W) := by
  obtain ⟨a_rest_of, d_rest_of, g_rest_of, F_rest_of, k_rest_of, b_rest_of⟩ := C_rest_of
  obtain ⟨a_gone_round, d_gone_round, g_gone_round, F_gone_round, k_gone_round, b_gone_round⟩ := C_gone_round
  have nd := sc_expected.nd
  have F0 : FnOk W.P W.w W.K mg base CX0 2 f fd ["shape", "place", "former", "ahead", "more"] (sp_expected W) := by
    refine F.ok sc_expected (fun vs H Q E h => ?_) (fun cdv A outer s H vs Q E hr h => ?_)
    · match vs, h with | [_, _, _, _, _], _ => rfl
    · match vs, h with
      | [v_shape, v_place, v_former, v_ahead, v_more], h =>
        change sp_expected W [v_shape, v_place, v_former, v_ahead, v_more] H Q E at h
        refine ⟨tSeq (tAsg (tOp (rIxU W.K) (tOp (rIxU W.K) (tVar 0) (tC (.int 0))) (tVar 1)) (gTup W.K 3 (gCons (gName 5) (gCons (gName 6) (gCons (gName 7) (gNil)))))) (tSeq (tAsg (tOp (rIxU W.K) (tVar 2) (tVar 1)) (gName 8)) (tSeq (tIfS (tTest (tOp (rEqU W.K) (tOp (rIxU W.K) (tVar 7) (tC (.int 0))) (tC (.str "step")))) (tAug 8 (tOp (rMulN W.K) (tVar 4) (tOp (rIxU W.K) (tVar 7) (tC (.int 1)))) (ipAddN W.K)) (tIfS (tTest (tOp (rEqU W.K) (tOp (rIxU W.K) (tVar 7) (tC (.int 0))) (tC (.str "turn")))) (tAsg (tCall (sp_gone_round W) [] E0 (tCons (tOp (rIxU W.K) (tVar 7) (tC (.int 1))) (tCons (tVar 8) (tCons (tVar 4) (tNil))))) (gName 8)) (tIfS (tTest (tOp (rEqU W.K) (tOp (rIxU W.K) (tVar 7) (tC (.int 0))) (tC (.str "with")))) (tAug 8 (tOp (rMulN W.K) (tOp (rIxU W.K) (tVar 7) (tC (.int 2))) (tOp (rSubU) (tOp (rIxU W.K) (tVar 3) (tOp (rIxU W.K) (tVar 7) (tC (.int 1)))) (tOp (rIxU W.K) (tVar 2) (tOp (rIxU W.K) (tVar 7) (tC (.int 1)))))) (ipAddN W.K)) (tNext)))) (tRet (tCall (sp_rest_of W) [] E0 (tCons (tVar 8) (tCons (tVar 6) (tNil))))))), pss_cons (ps_asg (pe_ix u_ix (pe_ix u_ix (pv 0) (pe_int) (fun _ _ => rfl)) (pv 1) (fun _ _ => rfl)) (pg_tup rfl (pgs_cons (pg_name (i := 5) nd rfl (by first | exact Or.inl rfl | exact Or.inr rfl)) (pgs_cons (pg_name (i := 6) nd rfl (by first | exact Or.inl rfl | exact Or.inr rfl)) (pgs_cons (pg_name (i := 7) nd rfl (by first | exact Or.inl rfl | exact Or.inr rfl)) (pgs_nil)))))) (pss_cons (ps_set (i := 8) nd rfl (.inl rfl) (pe_ix u_ix (pv 2) (pv 1) (fun _ _ => rfl))) (pss_cons (ps_if (pt_cmpR (u_eq hr.units) (pe_ix u_ix (pv 7) (pe_int) (fun _ _ => rfl)) (pe_str) (nomark _)) (pss_one (ps_aug (i := 8) nd rfl (.inl rfl) (pe_op u_mulN (pv 4) (pe_ix u_ix (pv 7) (pe_int) (fun _ _ => rfl))) ip_addN)) (pss_one (ps_if (pt_cmpR (u_eq hr.units) (pe_ix u_ix (pv 7) (pe_int) (fun _ _ => rfl)) (pe_str) (nomark _)) (pss_one (ps_set (i := 8) nd rfl (.inl rfl) (pe_call F_gone_round (hr.mono (by decide)) (by rfl) g_gone_round k_gone_round b_gone_round .nil pass0 (pa_cons (pe_ix u_ix (pv 7) (pe_int) (fun _ _ => rfl)) (pa_cons (pv 8) (pa_cons (pv 4) (pa_nil))))))) (pss_one (ps_if (pt_cmpR (u_eq hr.units) (pe_ix u_ix (pv 7) (pe_int) (fun _ _ => rfl)) (pe_str) (nomark _)) (pss_one (ps_aug (i := 8) nd rfl (.inl rfl) (pe_op u_mulN (pe_ix u_ix (pv 7) (pe_int) (fun _ _ => rfl)) (pe_op u_sub (pe_ix u_ix (pv 3) (pe_ix u_ix (pv 7) (pe_int) (fun _ _ => rfl)) (fun _ _ => rfl)) (pe_ix u_ix (pv 2) (pe_ix u_ix (pv 7) (pe_int) (fun _ _ => rfl)) (fun _ _ => rfl)))) ip_addN)) (pss_nil)))))) (pss_one (ps_ret (pe_call F_rest_of (hr.mono (by decide)) (by rfl) g_rest_of k_rest_of b_rest_of .nil pass0 (pa_cons (pv 8) (pa_cons (pv 6) (pa_nil)))))))), ?_⟩
        clear hr
        clear F_rest_of g_rest_of k_rest_of b_rest_of d_rest_of a_rest_of
        clear F_gone_round g_gone_round k_gone_round b_gone_round d_gone_round a_gone_round
        rw [show L2.start N_expected [v_shape, v_place, v_former, v_ahead, v_more] = [some v_shape, some v_place, some v_former, some v_ahead, some v_more, none, none, none, none] from rfl]
        obtain ⟨d, fs, p, f, fo, ah, v, more, hs, rfl, hf, ok, hfo, hv, hpl, hah, hal, rfl, hm0, hm1, q⟩ := h
        have b0 := ok.b0
        have b1 := ok.b1
        have hk := ok.kd
        have hp := (List.getElem?_eq_some_iff.mp hf).1
        walk_at "Zs"
        refine w_ixQT hs rfl fun x1 hx1 => ?_
        walk_at "Zs"
        refine w_ixM hx1 (by omega) (by omega) fun f2 x2 hf2 hx2 => ?_
        rw [Int.toNat_natCast] at hf2
        obtain rfl := Option.some.inj (hf.symm.trans hf2)
        obtain ⟨a, xs, rfl, ha, hxs⟩ := dq_tt hx2
        cases hxs with
        | cons g1 hxs => cases hxs with
        | cons g2 hxs => cases hxs with
        | cons g3 hxs =>
          cases hxs
          obtain rfl := dq_str g1
          obtain rfl := dq_int g2
          walk_at "Zs"
          refine w_ixMi hfo (by omega) (by omega) fun v2 hv2 => ?_
          rw [Int.toNat_natCast] at hv2
          obtain rfl := Option.some.inj (hv.symm.trans hv2)
          walk_at "Zs"
          cases hkd : f.kd with
          | still =>
            rw [hkd] at g3 q
            refine w_ixQTs g3 rfl ?_
            walk_at "Zs"
            refine w_ixQTs g3 rfl ?_
            walk_at "Zs"
            refine w_ixQTs g3 rfl ?_
            walk_at "Zs"
            rename_i r e _ _ _
            rw [e]
            exact q v H (Same.refl _) rfl
          | drawn =>
            rw [hkd] at g3 q
            refine w_ixQTs g3 rfl ?_
            walk_at "Zs"
            refine w_ixQTs g3 rfl ?_
            walk_at "Zs"
            refine w_ixQTs g3 rfl ?_
            walk_at "Zs"
            rename_i r e _ _ _
            rw [e]
            exact q v H (Same.refl _) rfl
          | step n =>
            rw [hkd] at g3 q
            refine w_ixQTs g3 rfl ?_
            walk_at "Zs"
            refine w_ixQTi g3 rfl ?_
            walk_at "Zs"
            rename_i r e _ _ _
            rw [e]
            exact q _ H (Same.refl _) rfl
          | turn ns =>
            rw [hkd] at g3 q
            refine w_ixQTs g3 rfl ?_
            walk_at "Zs"
            refine w_ixQTs g3 rfl ?_
            walk_at "Zs"
            refine w_ixQT g3 rfl fun x4 hx4 => ?_
            walk_at "Zs"
            refine go_gone_round hx4 fun r0 hr0 => ?_
            walk_at "Zs"
            rename_i r e _ _ _
            rw [e]
            exact q _ H (Same.refl _) hr0
          | wth pp bb =>
            rw [hkd] at g3 q hk
            obtain ⟨k0, k1, k2, k3⟩ := hk
            refine w_ixQTs g3 rfl ?_
            walk_at "Zs"
            refine w_ixQTs g3 rfl ?_
            walk_at "Zs"
            refine w_ixQTs g3 rfl ?_
            walk_at "Zs"
            refine w_ixQTi g3 rfl ?_
            walk_at "Zs"
            refine w_ixQTi g3 rfl ?_
            walk_at "Zs"
            refine w_ixMi hah k0 (by omega) fun x hx => ?_
            walk_at "Zs"
            refine w_ixQTi g3 rfl ?_
            walk_at "Zs"
            refine w_ixMi hfo k0 (by omega) fun y hy => ?_
            walk_at "Zs"
            rename_i r e _ _ _
            rw [e]
            exact q _ H (Same.refl _) ⟨x, y, hx, hy, rfl⟩
  exact F0
theorem c_expected {W : Wd} {mg : Str → Option Value} {base : Heap} (B : Bi mg) (S : Src W.K mg "expected" s_expected) (C_rest_of : Cal W mg base "rest_of" 1 ["number", "width"] (sp_rest_of W)) (C_gone_round : Cal W mg base "gone_round" 1 ["row", "value", "more"] (sp_gone_round W)) : Cal W mg base "expected" 2 ["shape", "place", "former", "ahead", "more"] (sp_expected W) := by
  obtain ⟨f, fd, g, F⟩ := S
  exact ⟨f, fd, g, f_expected B F C_rest_of C_gone_round, F.kp, (F.binds (ps := ["shape", "place", "former", "ahead", "more"]) fun _ _ _ _ _ _ us hl => match us, hl with | [_, _, _, _, _], _ => rfl)⟩
theorem go_expected {W : Wd} {H : Hp} {Q : VK} {E : XK} {vs vf va : V} {s : Shp} {p : Nat} {f : Fd} {fo ah : List Int} {v more : Int} (hs : Dq W.K H vs (shD s)) (ok : OkShp s) (hf : s.fs[p]? = some f) (hfo : Dq W.K H vf (.tuple (fo.map .int))) (hv : fo[p]? = some v) (hah : Dq W.K H va (.tuple (ah.map .int))) (hal : p ≤ ah.length) (h0 : -1000000 ≤ more) (h1 : more ≤ 1000000)
    (q : ∀ (r : Int) H', Same H H' → ExpK fo ah more v f.kd r → Q (.int (r % p2 f.br)) H') : sp_expected W [vs, .int (p : Int), vf, va, .int more] H Q E :=
  ⟨_, s.fs, p, f, fo, ah, v, more, hs, rfl, hf, ok.fd p f hf, hfo, hv, (List.getElem?_eq_some_iff.mp hv).1, hah, hal, rfl, h0, h1, q⟩
def sp_width_of (W : Wd) : Sp := fun vs H Q _ => match vs with
  | [v_field, v_way] =>
  ∃ (f : Fd) (w : Wy), Dq W.K H v_field (fdD f) ∧ 0 ≤ f.br ∧ Dq W.K H v_way (wyD w) ∧ OkWy f.br w ∧ Q (.int ((wW f w : Nat) : Int)) H
  | _ => False
abbrev N_width_of : List Str := ["field", "way"]
theorem sc_width_of : FnScope N_width_of ["field", "way"] (defScope s_width_of) := ⟨rfl, rfl, rfl, by decide +kernel, rfl, by decide +kernel, by decide +kernel⟩
theorem f_width_of {W : Wd} {mg : Str → Option Value} {base : Heap} (B : Bi mg) {f : Addr} {fd : FuncData} (F : Fun W.K "width_of" "width_of" s_width_of f fd)  : FnOk W.P W.w W.K mg base CX0 1 f fd ["field", "way"] (sp_width_of W) := by
  have nd := sc_width_of.nd
  have F0 : FnOk W.P W.w W.K mg base CX0 1 f fd ["field", "way"] (sp_width_of W) := by
    refine F.ok sc_width_of (fun vs H Q E h => ?_) (fun cdv A outer s H vs Q E hr h => ?_)
    · match vs, h with | [_, _], _ => rfl
    · match vs, h with
      | [v_field, v_way], h =>
        change sp_width_of W [v_field, v_way] H Q E at h
        refine ⟨tSeq (tIfS (tTest (tOp (rEqU W.K) (tOp (rIxU W.K) (tVar 1) (tC (.int 0))) (tC (.str "keep")))) (tRet (tC (.int 0))) (tNext)) (tSeq (tIfS (tTest (tOp (rEqU W.K) (tOp (rIxU W.K) (tVar 1) (tC (.int 0))) (tC (.str "low")))) (tRet (tOp (rIxU W.K) (tVar 1) (tC (.int 1)))) (tNext)) (tRet (tOp (rIxU W.K) (tVar 0) (tC (.int 1))))), pss_cons (ps_if (pt_cmpR (u_eq hr.units) (pe_ix u_ix (pv 1) (pe_int) (fun _ _ => rfl)) (pe_str) (nomark _)) (pss_one (ps_ret (pe_int))) (pss_nil)) (pss_cons (ps_if (pt_cmpR (u_eq hr.units) (pe_ix u_ix (pv 1) (pe_int) (fun _ _ => rfl)) (pe_str) (nomark _)) (pss_one (ps_ret (pe_ix u_ix (pv 1) (pe_int) (fun _ _ => rfl)))) (pss_nil)) (pss_one (ps_ret (pe_ix u_ix (pv 0) (pe_int) (fun _ _ => rfl))))), ?_⟩
        clear hr
        rw [show L2.start N_width_of [v_field, v_way] = [some v_field, some v_way] from rfl]
        obtain ⟨f, w, hf, hb, hw, ok, q⟩ := h
        cases w with
        | keep =>
          walk_at "Zs"
          refine w_ixQTs hw rfl ?_
          walk_at "Zs"
          exact q
        | whole =>
          walk_at "Zs"
          refine w_ixQTs hw rfl ?_
          walk_at "Zs"
          refine w_ixQTs hw rfl ?_
          walk_at "Zs"
          refine w_ixQTi hf (n := f.br) rfl ?_
          have e : ((wW f .whole : Nat) : Int) = f.br := by
            show ((f.br.toNat : Nat) : Int) = f.br
            omega
          rw [e] at q
          exact q
        | low w l =>
          walk_at "Zs"
          refine w_ixQTs hw rfl ?_
          walk_at "Zs"
          refine w_ixQTs hw rfl ?_
          walk_at "Zs"
          refine w_ixQTi hw (n := w) rfl ?_
          have w0 := ok.1
          have e : ((wW f (.low w l) : Nat) : Int) = w := by
            show ((w.toNat : Nat) : Int) = w
            omega
          rw [e] at q
          exact q
  exact F0
theorem c_width_of {W : Wd} {mg : Str → Option Value} {base : Heap} (B : Bi mg) (S : Src W.K mg "width_of" s_width_of)  : Cal W mg base "width_of" 1 ["field", "way"] (sp_width_of W) := by
  obtain ⟨f, fd, g, F⟩ := S
  exact ⟨f, fd, g, f_width_of B F , F.kp, (F.binds (ps := ["field", "way"]) fun _ _ _ _ _ _ us hl => match us, hl with | [_, _], _ => rfl)⟩
theorem go_width_of {W : Wd} {H : Hp} {Q : VK} {E : XK} {x y : V} {f : Fd} {w : Wy} (hf : Dq W.K H x (fdD f)) (hb : 0 ≤ f.br) (hw : Dq W.K H y (wyD w)) (ok : OkWy f.br w) (q : Q (.int ((wW f w : Nat) : Int)) H) : sp_width_of W [x, y] H Q E := ⟨f, w, hf, hb, hw, ok, q⟩
def sp_pieces (W : Wd) : Sp := fun vs H Q _ => match vs with
  | [v_shape, v_form, v_head] =>
  ∃ (s : Shp) (f : Fm) (hd : List Int), Dq W.K H v_shape (shD s) ∧ OkShp s ∧ Dq W.K H v_form (fmD f) ∧ OkFm s f ∧ Dq W.K H v_head (.tuple (hd.map .int)) ∧ hd.length = s.fs.length ∧ ∀ H', Same H H' → Q (.str (piecesT (triL s.fs f.ws hd))) H'
  | _ => False
abbrev N_pieces : List Str := ["shape", "form", "head", "told", "field", "way", "value", "width"]
theorem sc_pieces : FnScope N_pieces ["shape", "form", "head"] (defScope s_pieces) := ⟨rfl, rfl, rfl, by decide +kernel, rfl, by decide +kernel, by decide +kernel⟩
theorem f_pieces {W : Wd} {mg : Str → Option Value} {base : Heap} (B : Bi mg) {f : Addr} {fd : FuncData} (F : Fun W.K "pieces" "pieces" s_pieces f fd) (C_rest_of : Cal W mg base "rest_of" 1 ["number", "width"] (sp_rest_of W)) (C_bits_of : Cal W mg base "bits_of" 1 ["number", "width"] (sp_bits_of W)) (C_width_of : Cal W mg base "width_of" 1 ["field", "way"] (sp_width_of W)) : FnOk W.P W.w W.K mg base CX0 2 f fd ["shape", "form", "head"] (sp_pieces W) := by
  obtain ⟨a_rest_of, d_rest_of, g_rest_of, F_rest_of, k_rest_of, b_rest_of⟩ := C_rest_of
  obtain ⟨a_bits_of, d_bits_of, g_bits_of, F_bits_of, k_bits_of, b_bits_of⟩ := C_bits_of
  obtain ⟨a_width_of, d_width_of, g_width_of, F_width_of, k_width_of, b_width_of⟩ := C_width_of
  have nd := sc_pieces.nd
  have F0 : FnOk W.P W.w W.K mg base CX0 2 f fd ["shape", "form", "head"] (sp_pieces W) := by
    refine F.ok sc_pieces (fun vs H Q E h => ?_) (fun cdv A outer s H vs Q E hr h => ?_)
    · match vs, h with | [_, _, _], _ => rfl
    · match vs, h with
      | [v_shape, v_form, v_head], h =>
        change sp_pieces W [v_shape, v_form, v_head] H Q E at h
        refine ⟨tSeq (tAsg (tC (.str "")) (gName 3)) (tSeq (tFor (iZip3 W.K (tCons (tOp (rIxU W.K) (tVar 0) (tC (.int 0))) (tCons (tOp (rIxU W.K) (tVar 1) (tC (.int 2))) (tCons (tVar 2) (tNil))))) (gTup W.K 3 (gCons (gName 4) (gCons (gName 5) (gCons (gName 6) (gNil))))) (tSeq (tAsg (tCall (sp_width_of W) [] E0 (tCons (tVar 4) (tCons (tVar 5) (tNil)))) (gName 7)) (tAug 3 (tCall (sp_bits_of W) [] E0 (tCons (tCall (sp_rest_of W) [] E0 (tCons (tVar 6) (tCons (tVar 7) (tNil)))) (tCons (tVar 7) (tNil)))) (ipAddN W.K)))) (tRet (tVar 3))), pss_cons (ps_set (i := 3) nd rfl (.inl rfl) (pe_str)) (pss_cons (ps_for PassesOwn.never rfl (pi_zip3 (by rfl) B.b_zip (pa_cons (pe_ix u_ix (pv 0) (pe_int) (fun _ _ => rfl)) (pa_cons (pe_ix u_ix (pv 1) (pe_int) (fun _ _ => rfl)) (pa_cons (pv 2) (pa_nil))))) (pg_tup rfl (pgs_cons (pg_name (i := 4) nd rfl (by first | exact Or.inl rfl | exact Or.inr rfl)) (pgs_cons (pg_name (i := 5) nd rfl (by first | exact Or.inl rfl | exact Or.inr rfl)) (pgs_cons (pg_name (i := 6) nd rfl (by first | exact Or.inl rfl | exact Or.inr rfl)) (pgs_nil))))) (pss_cons (ps_set (i := 7) nd rfl (.inl rfl) (pe_call F_width_of (hr.mono (by decide)) (by rfl) g_width_of k_width_of b_width_of .nil pass0 (pa_cons (pv 4) (pa_cons (pv 5) (pa_nil))))) (pss_one (ps_aug (i := 3) nd rfl (.inl rfl) (pe_call F_bits_of (hr.mono (by decide)) (by rfl) g_bits_of k_bits_of b_bits_of .nil pass0 (pa_cons (pe_call F_rest_of (hr.mono (by decide)) (by rfl) g_rest_of k_rest_of b_rest_of .nil pass0 (pa_cons (pv 6) (pa_cons (pv 7) (pa_nil)))) (pa_cons (pv 7) (pa_nil)))) ip_addN)))) (pss_one (ps_ret (pv 3)))), ?_⟩
        clear hr
        clear F_rest_of g_rest_of k_rest_of b_rest_of d_rest_of a_rest_of
        clear F_bits_of g_bits_of k_bits_of b_bits_of d_bits_of a_bits_of
        clear F_width_of g_width_of k_width_of b_width_of d_width_of a_width_of
        rw [show L2.start N_pieces [v_shape, v_form, v_head] = [some v_shape, some v_form, some v_head, none, none, none, none, none] from rfl]
        obtain ⟨s, f, hd, hs, ok, hf, okf, hh, lh, q⟩ := h
        have l1 := ok.l1
        have lw := okf.len
        walk_at "Zs"
        refine w_ixQT hs (d := .tuple (s.fs.map fdD)) rfl fun x1 h1 => ?_
        walk_at "Zs"
        refine w_ixQT hf (d := .tuple (f.ws.map wyD)) rfl fun x2 h2 => ?_
        walk_at "Zs"
        obtain ⟨a, xs, rfl, hxs, hds⟩ := dq_tt h1
        obtain ⟨b, ys, rfl, hys, hes⟩ := dq_tt h2
        obtain ⟨c, rfl, hzs⟩ := dq_ti hh
        have lx := dqs_len hds
        have ly := dqs_len hes
        rw [List.length_map] at lx ly
        have w40 : ∀ t ∈ triL s.fs f.ws hd, wW t.1 t.2.1 ≤ 40 := fun t ht => by
          obtain ⟨i, hi⟩ := List.getElem?_of_mem ht
          obtain ⟨e1, e2⟩ := List.getElem?_zip_eq_some.mp hi
          obtain ⟨e3, _⟩ := List.getElem?_zip_eq_some.mp e2
          have o := ok.fd i _ e1
          have z := wW_le (okf.ok i _ _ e3 e1) (by have := o.b0; omega)
          have := o.b1
          omega
        refine w_goZ3 hxs.t hys.t hzs.t ?_
        refine forZ3 (by omega) (by rw [List.length_map]; omega) (fun i σ' H' => (∃ y4 y5 y6 y7, σ' = [some v_shape, some v_form, some (.ref c), some (.str (piecesT ((triL s.fs f.ws hd).take i))), y4, y5, y6, y7]) ∧ Same H H') ⟨⟨_, _, _, _, rfl⟩, Same.refl _⟩ (fun i σ' H' h => ⟨same_t h.2 hxs.t, same_t h.2 hys.t, same_t h.2 hzs.t⟩) (fun i x y z σ' H1 hx hy hz h H2 e2 => ?_) (fun σ' H1 h => ?_)
        · obtain ⟨⟨y4, y5, y6, y7, rfl⟩, e1⟩ := h
          obtain ⟨df, hdf, hxd⟩ := dqs_get2 hds hx
          obtain ⟨fd, hfd, rfl⟩ := map_at hdf
          obtain ⟨dw, hdw, hyd⟩ := dqs_get2 hes hy
          obtain ⟨wy, hwy, rfl⟩ := map_at hdw
          obtain ⟨v, hv, rfl⟩ := ints_at hz
          have okw := okf.ok i wy fd hwy hfd
          have okd := ok.fd i fd hfd
          have b0 := okd.b0
          have b1 := okd.b1
          have wl := wW_le okw (by omega)
          have ht := tri_get hfd hwy hv
          have lt : (piecesT ((triL s.fs f.ws hd).take i)).length ≤ 480 := by
            rw [pieces_len]
            have z := triW_le ((triL s.fs f.ws hd).take i) fun t h => w40 t (List.mem_of_mem_take h)
            rw [List.length_take, tri_len (by omega) (by omega)] at z
            omega
          walk_at "Zs"
          refine go_width_of (dq_mono (e1.trans e2) hxd) (by omega) (dq_mono (e1.trans e2) hyd) okw ?_
          walk_at "Zs"
          rename_i r er r0 r1 r2
          refine go_bits_of (by omega) fun H3 e3 => ?_
          walk_at "Zs"
          refine w_ipaddS (Nat.le_trans (m := 600) (by rw [len_bitsT]; omega) (by decide)) ?_
          walk_at "Zs"
          have e : piecesT ((triL s.fs f.ws hd).take (i + 1)) = piecesT ((triL s.fs f.ws hd).take i) ++ bitsT r (wW fd wy) := by
            rw [List.take_add_one, ht, er]
            exact pieces_snoc _ _
          rw [e]
          refine ⟨⟨_, _, _, _, rfl⟩, ?_⟩
          walk_at "Zkt"
        · obtain ⟨⟨y4, y5, y6, y7, rfl⟩, e1⟩ := h
          walk_at "Zs"
          rw [List.take_of_length_le (by rw [tri_len (by omega) (by omega)]; omega)]
          exact q _ e1
  exact F0
theorem c_pieces {W : Wd} {mg : Str → Option Value} {base : Heap} (B : Bi mg) (S : Src W.K mg "pieces" s_pieces) (C_rest_of : Cal W mg base "rest_of" 1 ["number", "width"] (sp_rest_of W)) (C_bits_of : Cal W mg base "bits_of" 1 ["number", "width"] (sp_bits_of W)) (C_width_of : Cal W mg base "width_of" 1 ["field", "way"] (sp_width_of W)) : Cal W mg base "pieces" 2 ["shape", "form", "head"] (sp_pieces W) := by
  obtain ⟨f, fd, g, F⟩ := S
  exact ⟨f, fd, g, f_pieces B F C_rest_of C_bits_of C_width_of, F.kp, (F.binds (ps := ["shape", "form", "head"]) fun _ _ _ _ _ _ us hl => match us, hl with | [_, _, _], _ => rfl)⟩
theorem go_pieces {W : Wd} {H : Hp} {Q : VK} {E : XK} {x y z : V} {s : Shp} {f : Fm} {hd : List Int} (hs : Dq W.K H x (shD s)) (ok : OkShp s) (hf : Dq W.K H y (fmD f)) (okf : OkFm s f) (hh : Dq W.K H z (.tuple (hd.map .int))) (lh : hd.length = s.fs.length) (q : ∀ H', Same H H' → Q (.str (piecesT (triL s.fs f.ws hd))) H') : sp_pieces W [x, y, z] H Q E := ⟨s, f, hd, hs, ok, hf, okf, hh, lh, q⟩
def sp_value_opened (W : Wd) : Sp := fun vs H Q _ => match vs with
  | [v_shape, v_form, v_place, v_told, v_former, v_ahead, v_more] =>
  ∃ (s : Shp) (f : Fm) (p : Nat) (fd : Fd) (w : Wy) (z : Str) (fo ah : List Int) (v m : Int), Dq W.K H v_shape (shD s) ∧ OkShp s ∧ Dq W.K H v_form (fmD f) ∧ OkFm s f ∧ v_place = .int p ∧ s.fs[p]? = some fd ∧ f.ws[p]? = some w ∧ v_told = .str z ∧ (∀ c ∈ cz z, c = 48 ∨ c = 49) ∧ z.length ≤ 1000 ∧
    Dq W.K H v_former (.tuple (fo.map .int)) ∧ fo[p]? = some v ∧ Dq W.K H v_ahead (.tuple (ah.map .int)) ∧ p ≤ ah.length ∧ v_more = .int m ∧ -1000000 ≤ m ∧ m ≤ 1000000 ∧ ∀ (x : Int) H', Same H H' → VO fo ah m v fd (numT z) w x → Q (.int x) H'
  | _ => False
abbrev N_value_opened : List Str := ["shape", "form", "place", "told", "former", "ahead", "more", "way", "looked_for"]
theorem sc_value_opened : FnScope N_value_opened ["shape", "form", "place", "told", "former", "ahead", "more"] (defScope s_value_opened) := ⟨rfl, rfl, rfl, by decide +kernel, rfl, by decide +kernel, by decide +kernel⟩
theorem f_value_opened {W : Wd} {mg : Str → Option Value} {base : Heap} (B : Bi mg) {f : Addr} {fd : FuncData} (F : Fun W.K "value_opened" "value_opened" s_value_opened f fd) (C_number_of : Cal W mg base "number_of" 1 ["bits"] (sp_number_of W)) (C_around : Cal W mg base "around" 3 ["w", "base", "below", "rest", "width"] (sp_around W)) (C_expected : Cal W mg base "expected" 2 ["shape", "place", "former", "ahead", "more"] (sp_expected W)) : FnOk W.P W.w W.K mg base CX0 4 f fd ["shape", "form", "place", "told", "former", "ahead", "more"] (sp_value_opened W) := by
  obtain ⟨a_number_of, d_number_of, g_number_of, F_number_of, k_number_of, b_number_of⟩ := C_number_of
  obtain ⟨a_around, d_around, g_around, F_around, k_around, b_around⟩ := C_around
  obtain ⟨a_expected, d_expected, g_expected, F_expected, k_expected, b_expected⟩ := C_expected
  have nd := sc_value_opened.nd
  have F0 : FnOk W.P W.w W.K mg base CX0 4 f fd ["shape", "form", "place", "told", "former", "ahead", "more"] (sp_value_opened W) := by
    refine F.ok sc_value_opened (fun vs H Q E h => ?_) (fun cdv A outer s H vs Q E hr h => ?_)
    · match vs, h with | [_, _, _, _, _, _, _], _ => rfl
    · match vs, h with
      | [v_shape, v_form, v_place, v_told, v_former, v_ahead, v_more], h =>
        change sp_value_opened W [v_shape, v_form, v_place, v_told, v_former, v_ahead, v_more] H Q E at h
        refine ⟨tSeq (tAsg (tOp (rIxU W.K) (tOp (rIxU W.K) (tVar 1) (tC (.int 2))) (tVar 2)) (gName 7)) (tSeq (tIfS (tTest (tOp (rEqU W.K) (tOp (rIxU W.K) (tVar 7) (tC (.int 0))) (tC (.str "whole")))) (tRet (tCall (sp_number_of W) [] E0 (tCons (tVar 3) (tNil)))) (tNext)) (tSeq (tAsg (tCall (sp_expected W) [] E0 (tCons (tVar 0) (tCons (tVar 2) (tCons (tVar 4) (tCons (tVar 5) (tCons (tVar 6) (tNil))))))) (gName 8)) (tSeq (tIfS (tTest (tOp (rEqU W.K) (tOp (rIxU W.K) (tVar 7) (tC (.int 0))) (tC (.str "keep")))) (tRet (tVar 8)) (tNext)) (tRet (tCall (sp_around W) [] E0 (tCons (tOp (rIxU W.K) (tOp (rIxU W.K) (tOp (rIxU W.K) (tVar 0) (tC (.int 0))) (tVar 2)) (tC (.int 1))) (tCons (tVar 8) (tCons (tOp (rIxU W.K) (tVar 7) (tC (.int 2))) (tCons (tCall (sp_number_of W) [] E0 (tCons (tVar 3) (tNil))) (tCons (tOp (rIxU W.K) (tVar 7) (tC (.int 1))) (tNil))))))))))), pss_cons (ps_set (i := 7) nd rfl (.inl rfl) (pe_ix u_ix (pe_ix u_ix (pv 1) (pe_int) (fun _ _ => rfl)) (pv 2) (fun _ _ => rfl))) (pss_cons (ps_if (pt_cmpR (u_eq hr.units) (pe_ix u_ix (pv 7) (pe_int) (fun _ _ => rfl)) (pe_str) (nomark _)) (pss_one (ps_ret (pe_call F_number_of (hr.mono (by decide)) (by rfl) g_number_of k_number_of b_number_of .nil pass0 (pa_cons (pv 3) (pa_nil))))) (pss_nil)) (pss_cons (ps_set (i := 8) nd rfl (.inl rfl) (pe_call F_expected (hr.mono (by decide)) (by rfl) g_expected k_expected b_expected .nil pass0 (pa_cons (pv 0) (pa_cons (pv 2) (pa_cons (pv 4) (pa_cons (pv 5) (pa_cons (pv 6) (pa_nil)))))))) (pss_cons (ps_if (pt_cmpR (u_eq hr.units) (pe_ix u_ix (pv 7) (pe_int) (fun _ _ => rfl)) (pe_str) (nomark _)) (pss_one (ps_ret (pv 8))) (pss_nil)) (pss_one (ps_ret (pe_call F_around (hr.mono (by decide)) (by rfl) g_around k_around b_around .nil pass0 (pa_cons (pe_ix u_ix (pe_ix u_ix (pe_ix u_ix (pv 0) (pe_int) (fun _ _ => rfl)) (pv 2) (fun _ _ => rfl)) (pe_int) (fun _ _ => rfl)) (pa_cons (pv 8) (pa_cons (pe_ix u_ix (pv 7) (pe_int) (fun _ _ => rfl)) (pa_cons (pe_call F_number_of (hr.mono (by decide)) (by rfl) g_number_of k_number_of b_number_of .nil pass0 (pa_cons (pv 3) (pa_nil))) (pa_cons (pe_ix u_ix (pv 7) (pe_int) (fun _ _ => rfl)) (pa_nil)))))))))))), ?_⟩
        clear hr
        clear F_number_of g_number_of k_number_of b_number_of d_number_of a_number_of
        clear F_around g_around k_around b_around d_around a_around
        clear F_expected g_expected k_expected b_expected d_expected a_expected
        rw [show L2.start N_value_opened [v_shape, v_form, v_place, v_told, v_former, v_ahead, v_more] = [some v_shape, some v_form, some v_place, some v_told, some v_former, some v_ahead, some v_more, none, none] from rfl]
        obtain ⟨s, f, p, fd, w, z, fo, ah, v, m, hs, ok, hf, okf, rfl, hfd, hw, rfl, h01, hz, hfo, hv, hah, lah, rfl, m0, m1, q⟩ := h
        have okd := ok.fd p fd hfd
        have b0 := okd.b0
        have b1 := okd.b1
        have okw := okf.ok p w fd hw hfd
        have lp := (List.getElem?_eq_some_iff.mp hfd).1
        have lpw := (List.getElem?_eq_some_iff.mp hw).1
        walk_at "Zs"
        refine w_ixQT hf (d := .tuple (f.ws.map wyD)) rfl fun x1 h1 => ?_
        walk_at "Zs"
        refine w_ixM h1 (by omega) (by omega) fun w' x2 hw' h2 => ?_
        rw [Int.toNat_natCast, hw] at hw'
        obtain rfl := Option.some.inj hw'
        walk_at "Zs"
        cases w with
        | whole =>
          refine w_ixQTs h2 rfl ?_
          walk_at "Zs"
          refine go_number_of h01 (by omega) ?_
          exact q _ _ (Same.refl _) rfl
        | keep =>
          refine w_ixQTs h2 rfl ?_
          walk_at "Zs"
          refine go_expected hs ok hfd hfo hv hah lah m0 m1 fun r H1 e1 hr => ?_
          walk_at "Zs"
          refine w_ixQTs (dq_mono e1 h2) rfl ?_
          walk_at "Zs"
          exact q _ _ e1 ⟨r, hr, rfl⟩
        | low wd bl =>
          obtain ⟨k0, k1, k2, k3⟩ := okw
          refine w_ixQTs h2 rfl ?_
          walk_at "Zs"
          refine go_expected hs ok hfd hfo hv hah lah m0 m1 fun r H1 e1 hr => ?_
          walk_at "Zs"
          refine w_ixQTs (dq_mono e1 h2) rfl ?_
          walk_at "Zs"
          refine w_ixQT (dq_mono e1 hs) (d := .tuple (s.fs.map fdD)) rfl fun x3 h3 => ?_
          walk_at "Zs"
          refine w_ixM h3 (by omega) (by omega) fun fd' x4 hfd' h4 => ?_
          rw [Int.toNat_natCast, hfd] at hfd'
          obtain rfl := Option.some.inj hfd'
          walk_at "Zs"
          refine w_ixQTi h4 (n := fd.br) rfl ?_
          walk_at "Zs"
          refine w_ixQTi (dq_mono e1 h2) (n := bl) rfl ?_
          walk_at "Zs"
          refine go_number_of h01 (by omega) ?_
          walk_at "Zs"
          refine w_ixQTi (dq_mono e1 h2) (n := wd) rfl ?_
          walk_at "Zs"
          rename_i y ey y0 y1
          exact q _ _ e1 ⟨r, hr, ey⟩
  exact F0
theorem c_value_opened {W : Wd} {mg : Str → Option Value} {base : Heap} (B : Bi mg) (S : Src W.K mg "value_opened" s_value_opened) (C_number_of : Cal W mg base "number_of" 1 ["bits"] (sp_number_of W)) (C_around : Cal W mg base "around" 3 ["w", "base", "below", "rest", "width"] (sp_around W)) (C_expected : Cal W mg base "expected" 2 ["shape", "place", "former", "ahead", "more"] (sp_expected W)) : Cal W mg base "value_opened" 4 ["shape", "form", "place", "told", "former", "ahead", "more"] (sp_value_opened W) := by
  obtain ⟨f, fd, g, F⟩ := S
  exact ⟨f, fd, g, f_value_opened B F C_number_of C_around C_expected, F.kp, (F.binds (ps := ["shape", "form", "place", "told", "former", "ahead", "more"]) fun _ _ _ _ _ _ us hl => match us, hl with | [_, _, _, _, _, _, _], _ => rfl)⟩
theorem go_value_opened {W : Wd} {H : Hp} {Q : VK} {E : XK} {vs vf vfo va : V} {s : Shp} {f : Fm} {p : Nat} {fd : Fd} {w : Wy} {z : Str} {fo ah : List Int} {v m : Int} (hs : Dq W.K H vs (shD s)) (ok : OkShp s) (hf : Dq W.K H vf (fmD f)) (okf : OkFm s f) (hfd : s.fs[p]? = some fd) (hw : f.ws[p]? = some w) (h01 : ∀ c ∈ cz z, c = 48 ∨ c = 49) (hz : z.length ≤ 1000)
    (hfo : Dq W.K H vfo (.tuple (fo.map .int))) (hv : fo[p]? = some v) (hah : Dq W.K H va (.tuple (ah.map .int))) (lah : p ≤ ah.length) (m0 : -1000000 ≤ m) (m1 : m ≤ 1000000) (q : ∀ (x : Int) H', Same H H' → VO fo ah m v fd (numT z) w x → Q (.int x) H') : sp_value_opened W [vs, vf, .int (p : Int), .str z, vfo, va, .int m] H Q E :=
  ⟨s, f, p, fd, w, z, fo, ah, v, m, hs, ok, hf, okf, rfl, hfd, hw, rfl, h01, hz, hfo, hv, hah, lah, rfl, m0, m1, q⟩
def sp_opened (W : Wd) : Sp := fun vs H Q _ => match vs with
  | [v_shape, v_form, v_bits, v_former, v_more] =>
  ∃ (s : Shp) (f : Fm) (z : Str) (fo : List Int) (m : Int), Dq W.K H v_shape (shD s) ∧ OkShp s ∧ Dq W.K H v_form (fmD f) ∧ OkFm s f ∧ v_bits = .str z ∧ (∀ c ∈ cz z, c = 48 ∨ c = 49) ∧ z.length = atW s.fs f.ws s.fs.length ∧ z.length ≤ 1000 ∧ Dq W.K H v_former (.tuple (fo.map .int)) ∧ fo.length = s.fs.length ∧ v_more = .int m ∧ -1000000 ≤ m ∧ m ≤ 1000000 ∧
    ∀ (hd : List Int) v H', Same H H' → OpN s f fo m z s.fs.length hd → Dq W.K H' v (.tuple (hd.map .int)) → Q v H'
  | _ => False
abbrev N_opened : List Str := ["shape", "form", "bits", "former", "more", "head", "at", "place", "field", "width", "value"]
theorem sc_opened : FnScope N_opened ["shape", "form", "bits", "former", "more"] (defScope s_opened) := ⟨rfl, rfl, rfl, by decide +kernel, rfl, by decide +kernel, by decide +kernel⟩
theorem f_opened {W : Wd} {mg : Str → Option Value} {base : Heap} (B : Bi mg) {f : Addr} {fd : FuncData} (F : Fun W.K "opened" "opened" s_opened f fd) (C_value_opened : Cal W mg base "value_opened" 4 ["shape", "form", "place", "told", "former", "ahead", "more"] (sp_value_opened W)) (C_width_of : Cal W mg base "width_of" 1 ["field", "way"] (sp_width_of W)) : FnOk W.P W.w W.K mg base CX0 5 f fd ["shape", "form", "bits", "former", "more"] (sp_opened W) := by
  obtain ⟨a_value_opened, d_value_opened, g_value_opened, F_value_opened, k_value_opened, b_value_opened⟩ := C_value_opened
  obtain ⟨a_width_of, d_width_of, g_width_of, F_width_of, k_width_of, b_width_of⟩ := C_width_of
  have nd := sc_opened.nd
  have F0 : FnOk W.P W.w W.K mg base CX0 5 f fd ["shape", "form", "bits", "former", "more"] (sp_opened W) := by
    refine F.ok sc_opened (fun vs H Q E h => ?_) (fun cdv A outer s H vs Q E hr h => ?_)
    · match vs, h with | [_, _, _, _, _], _ => rfl
    · match vs, h with
      | [v_shape, v_form, v_bits, v_former, v_more], h =>
        change sp_opened W [v_shape, v_form, v_bits, v_former, v_more] H Q E at h
        refine ⟨tSeq (tAsg (tTupN (tNil)) (gName 5)) (tSeq (tAsg (tC (.int 0)) (gName 6)) (tSeq (tFor (iEnumU W.K (tCons (tOp (rIxU W.K) (tVar 0) (tC (.int 0))) (tNil))) (gTup W.K 2 (gCons (gName 7) (gCons (gName 8) (gNil)))) (tSeq (tAsg (tCall (sp_width_of W) [] E0 (tCons (tVar 8) (tCons (tOp (rIxU W.K) (tOp (rIxU W.K) (tVar 1) (tC (.int 2))) (tVar 7)) (tNil)))) (gName 9)) (tSeq (tAsg (tCall (sp_value_opened W) [] E0 (tCons (tVar 0) (tCons (tVar 1) (tCons (tVar 7) (tCons (tSl (rSlU W.K) (tVar 2) (tPart (tVar 6)) (tPart (tOp (rAddN W.K) (tVar 6) (tVar 9)))) (tCons (tVar 3) (tCons (tVar 5) (tCons (tVar 4) (tNil))))))))) (gName 10)) (tSeq (tAsg (tOp (rAddN W.K) (tVar 5) (tTupN (tCons (tVar 10) (tNil)))) (gName 5)) (tAug 6 (tVar 9) (ipAddN W.K)))))) (tRet (tVar 5)))), pss_cons (ps_set (i := 5) nd rfl (.inl rfl) (pe_tupN (pa_nil))) (pss_cons (ps_set (i := 6) nd rfl (.inl rfl) (pe_int)) (pss_cons (ps_for PassesOwn.never rfl (pi_enumU (by rfl) B.b_enumerate (pa_cons (pe_ix u_ix (pv 0) (pe_int) (fun _ _ => rfl)) (pa_nil))) (pg_tup rfl (pgs_cons (pg_name (i := 7) nd rfl (by first | exact Or.inl rfl | exact Or.inr rfl)) (pgs_cons (pg_name (i := 8) nd rfl (by first | exact Or.inl rfl | exact Or.inr rfl)) (pgs_nil)))) (pss_cons (ps_set (i := 9) nd rfl (.inl rfl) (pe_call F_width_of (hr.mono (by decide)) (by rfl) g_width_of k_width_of b_width_of .nil pass0 (pa_cons (pv 8) (pa_cons (pe_ix u_ix (pe_ix u_ix (pv 1) (pe_int) (fun _ _ => rfl)) (pv 7) (fun _ _ => rfl)) (pa_nil))))) (pss_cons (ps_set (i := 10) nd rfl (.inl rfl) (pe_call F_value_opened (hr.mono (by decide)) (by rfl) g_value_opened k_value_opened b_value_opened .nil pass0 (pa_cons (pv 0) (pa_cons (pv 1) (pa_cons (pv 7) (pa_cons (pe_slice u_sl (pv 2) (po_some (pv 6)) (po_some (pe_op u_addN (pv 6) (pv 9)))) (pa_cons (pv 3) (pa_cons (pv 5) (pa_cons (pv 4) (pa_nil)))))))))) (pss_cons (ps_set (i := 5) nd rfl (.inl rfl) (pe_op u_addN (pv 5) (pe_tupN (pa_cons (pv 10) (pa_nil))))) (pss_one (ps_aug (i := 6) nd rfl (.inl rfl) (pv 9) ip_addN)))))) (pss_one (ps_ret (pv 5))))), ?_⟩
        clear hr
        clear F_value_opened g_value_opened k_value_opened b_value_opened d_value_opened a_value_opened
        clear F_width_of g_width_of k_width_of b_width_of d_width_of a_width_of
        rw [show L2.start N_opened [v_shape, v_form, v_bits, v_former, v_more] = [some v_shape, some v_form, some v_bits, some v_former, some v_more, none, none, none, none, none, none] from rfl]
        obtain ⟨s, f, z, fo, m, hs, ok, hf, okf, rfl, h01, hzl, hz, hfo, lfo, rfl, m0, m1, q⟩ := h
        have l1 := ok.l1
        have lw := okf.len
        have line : (1000 : Nat) ≤ sizeLine := by decide
        walk_at "Zs"
        rename_i p0 G0 np0 f0 g0
        refine w_ixQT (dq_mono f0 hs) (d := .tuple (s.fs.map fdD)) rfl fun x1 h1 => ?_
        walk_at "Zs"
        obtain ⟨a, xs, rfl, hxs, hds⟩ := dq_tt h1
        have hxl := dqs_len hds
        rw [List.length_map] at hxl
        refine w_goET hxs.t ?_
        refine forET2 (xs := xs) (fun i σ' H' => (∃ (v : V) (hd : List Int), (∃ y7 y8 y9 y10, σ' = [some v_shape, some v_form, some (.str z), some v_former, some (.int m), some v, some (.int ((atW s.fs f.ws i : Nat) : Int)), y7, y8, y9, y10]) ∧ Dq W.K H' v (.tuple (hd.map .int)) ∧ OpN s f fo m z i hd) ∧ Same G0 H') ⟨⟨.ref p0, [], ⟨_, _, _, _, rfl⟩, dq_ofN (ns := []) g0, OpN.nil⟩, Same.refl _⟩ (fun i σ' H' h => same_t h.2 hxs.t) (fun i x σ' H1 hx h H2 e2 => ?_) (fun σ' H1 h => ?_)
        · obtain ⟨⟨v, hd, ⟨y7, y8, y9, y10, rfl⟩, hhd, op⟩, e1⟩ := h
          obtain ⟨df, hdf, hxd⟩ := dqs_get2 hds hx
          obtain ⟨fd, hfd, rfl⟩ := map_at hdf
          have okd := ok.fd i fd hfd
          have b0 := okd.b0
          have b1 := okd.b1
          have hi := (List.getElem?_eq_some_iff.mp hfd).1
          obtain ⟨w, hw⟩ : ∃ w, f.ws[i]? = some w := ⟨_, List.getElem?_eq_getElem (by omega)⟩
          obtain ⟨v0, hv0⟩ : ∃ v0, fo[i]? = some v0 := ⟨_, List.getElem?_eq_getElem (by omega)⟩
          have okw := okf.ok i w fd hw hfd
          have es := atW_succ hfd hw
          have hm := atW_mono s.fs f.ws (show i + 1 ≤ s.fs.length by omega)
          have e12 : Same G0 H2 := e1.trans e2
          have S2 : Same H H2 := f0.trans e12
          have ci : i < s.fs.length := hi
          walk_at "Zs"
          refine w_ixQT (dq_mono S2 hf) (d := .tuple (f.ws.map wyD)) rfl fun x2 h2 => ?_
          walk_at "Zs"
          refine w_ixM h2 (by omega) (by omega) fun w' x3 hw' h3 => ?_
          rw [Int.toNat_natCast, hw] at hw'
          obtain rfl := Option.some.inj hw'
          walk_at "Zs"
          refine go_width_of (dq_mono e12 hxd) (by omega) h3 okw ?_
          walk_at "Zs"
          refine w_slS (by omega) ?_
          have ecut : cz (cutS z (some ((atW s.fs f.ws i : Nat) : Int)) (some (((atW s.fs f.ws i : Nat) : Int) + ((wW fd w : Nat) : Int)))) = sliceN z (atW s.fs f.ws i) (wW fd w) := by
            rw [cz_cut, cutD_mid (by omega) (by omega) (by rw [cz_len]; omega)]
            unfold sliceN
            congr 1
            omega
          have enum := num_slice ecut
          have s01 : ∀ c ∈ cz (cutS z (some ((atW s.fs f.ws i : Nat) : Int)) (some (((atW s.fs f.ws i : Nat) : Int) + ((wW fd w : Nat) : Int)))), c = 48 ∨ c = 49 := by
            rw [ecut]
            exact slice_01 h01
          have slen : (cutS z (some ((atW s.fs f.ws i : Nat) : Int)) (some (((atW s.fs f.ws i : Nat) : Int) + ((wW fd w : Nat) : Int)))).length ≤ 1000 := by
            rw [← cz_len, ecut, slice_len (by omega)]
            omega
          walk_at "Zs"
          refine go_value_opened (dq_mono S2 hs) ok (dq_mono S2 hf) okf hfd hw s01 slen (dq_mono S2 hfo) hv0 (dq_mono e2 hhd) (by rw [op.1]; omega) m0 m1 fun x4 H3 e3 hvo => ?_
          rw [enum] at hvo
          walk_at "Zs"
          rename_i p5 H4 np5 e4 h5
          refine w_catQT (dq_mono (e2.trans (e3.trans e4)) hhd) (dq_ofN (ns := [x4]) h5) (by rw [List.length_map, List.length_map, op.1]; exact Nat.le_trans (m := 100) (by simp only [List.length_cons, List.length_nil]; omega) (by decide)) fun u H5 e5 hu => ?_
          walk_at "Zs"
          rw [← List.map_append] at hu
          rw [es]
          refine ⟨⟨u, hd ++ [x4], ⟨_, _, _, _, rfl⟩, hu, op.snoc hfd hw hv0 hvo⟩, ?_⟩
          walk_at "Zkt"
        · obtain ⟨⟨v, hd, ⟨y7, y8, y9, y10, rfl⟩, hhd, op⟩, e1⟩ := h
          walk_at "Zs"
          rw [hxl] at op
          exact q hd v _ (f0.trans e1) op hhd
  exact F0
theorem c_opened {W : Wd} {mg : Str → Option Value} {base : Heap} (B : Bi mg) (S : Src W.K mg "opened" s_opened) (C_value_opened : Cal W mg base "value_opened" 4 ["shape", "form", "place", "told", "former", "ahead", "more"] (sp_value_opened W)) (C_width_of : Cal W mg base "width_of" 1 ["field", "way"] (sp_width_of W)) : Cal W mg base "opened" 5 ["shape", "form", "bits", "former", "more"] (sp_opened W) := by
  obtain ⟨f, fd, g, F⟩ := S
  exact ⟨f, fd, g, f_opened B F C_value_opened C_width_of, F.kp, (F.binds (ps := ["shape", "form", "bits", "former", "more"]) fun _ _ _ _ _ _ us hl => match us, hl with | [_, _, _, _, _], _ => rfl)⟩
theorem go_opened {W : Wd} {H : Hp} {Q : VK} {E : XK} {vs vf vfo : V} {s : Shp} {f : Fm} {z : Str} {fo : List Int} {m : Int} (hs : Dq W.K H vs (shD s)) (ok : OkShp s) (hf : Dq W.K H vf (fmD f)) (okf : OkFm s f) (h01 : ∀ c ∈ cz z, c = 48 ∨ c = 49) (hzl : z.length = atW s.fs f.ws s.fs.length) (hz : z.length ≤ 1000) (hfo : Dq W.K H vfo (.tuple (fo.map .int))) (lfo : fo.length = s.fs.length) (m0 : -1000000 ≤ m) (m1 : m ≤ 1000000)
    (q : ∀ (hd : List Int) v H', Same H H' → OpN s f fo m z s.fs.length hd → Dq W.K H' v (.tuple (hd.map .int)) → Q v H') : sp_opened W [vs, vf, .str z, vfo, .int m] H Q E :=
  ⟨s, f, z, fo, m, hs, ok, hf, okf, rfl, h01, hzl, hz, hfo, lfo, rfl, m0, m1, q⟩
def sp_sure (W : Wd) : Sp := fun vs H Q _ => match vs with
  | [v_shape, v_form, v_head, v_formers] =>
  ∃ (s : Shp) (f : Fm) (hd : List Int) (ps : List Fo), Dq W.K H v_shape (shD s) ∧ OkShp s ∧ Dq W.K H v_form (fmD f) ∧ OkFm s f ∧ Dq W.K H v_head (headD hd) ∧ hd.length = s.fs.length ∧ Dq W.K H v_formers (fosD ps) ∧ (∀ p ∈ ps, OkFo s p) ∧ ps.length ≤ 1000 ∧ ∀ b H', Same H H' → (b = true ↔ SuA s f hd ps) → Q (.bl b) H'
  | _ => False
abbrev N_sure : List Str := ["shape", "form", "head", "formers", "bits", "more", "former"]
theorem sc_sure : FnScope N_sure ["shape", "form", "head", "formers"] (defScope s_sure) := ⟨rfl, rfl, rfl, by decide +kernel, rfl, by decide +kernel, by decide +kernel⟩
theorem f_sure {W : Wd} {mg : Str → Option Value} {base : Heap} (B : Bi mg) {f : Addr} {fd : FuncData} (F : Fun W.K "sure" "sure" s_sure f fd) (C_opened : Cal W mg base "opened" 5 ["shape", "form", "bits", "former", "more"] (sp_opened W)) (C_pieces : Cal W mg base "pieces" 2 ["shape", "form", "head"] (sp_pieces W)) : FnOk W.P W.w W.K mg base CX0 6 f fd ["shape", "form", "head", "formers"] (sp_sure W) := by
  obtain ⟨a_opened, d_opened, g_opened, F_opened, k_opened, b_opened⟩ := C_opened
  obtain ⟨a_pieces, d_pieces, g_pieces, F_pieces, k_pieces, b_pieces⟩ := C_pieces
  have nd := sc_sure.nd
  have F0 : FnOk W.P W.w W.K mg base CX0 6 f fd ["shape", "form", "head", "formers"] (sp_sure W) := by
    refine F.ok sc_sure (fun vs H Q E h => ?_) (fun cdv A outer s H vs Q E hr h => ?_)
    · match vs, h with | [_, _, _, _], _ => rfl
    · match vs, h with
      | [v_shape, v_form, v_head, v_formers], h =>
        change sp_sure W [v_shape, v_form, v_head, v_formers] H Q E at h
        refine ⟨tSeq (tAsg (tCall (sp_pieces W) [] E0 (tCons (tVar 0) (tCons (tVar 1) (tCons (tVar 2) (tNil))))) (gName 4)) (tRet (tCB (rAll W.K) (tCons (tLc (iAny W.K (tVar 3)) (gTup W.K 2 (gCons (gName 5) (gCons (gName 6) (gNil)))) (tYes) (tOp (rEqU W.K) (tCall (sp_opened W) [] E0 (tCons (tVar 0) (tCons (tVar 1) (tCons (tVar 4) (tCons (tVar 6) (tCons (tVar 5) (tNil))))))) (tVar 2)) [5, 6]) (tNil)))), pss_cons (ps_set (i := 4) nd rfl (.inr rfl) (pe_call F_pieces (hr.mono (by decide)) (by rfl) g_pieces k_pieces b_pieces .nil pass0 (pa_cons (pv 0) (pa_cons (pv 1) (pa_cons (pv 2) (pa_nil)))))) (pss_one (ps_ret (pe_callB (cr_all rfl) (by rfl) B.b_all (by decide +kernel) (pa_cons (pe_lc (own := [("more", 5), ("former", 6)]) rfl nd (pi_any (pv 3)) (blkOk_by (own := [("more", 5), ("former", 6)]) (N := N_sure) (sc := defScope s_sure) (by decide +kernel)) (fun _ _ _ _ _ => pg_tup rfl (pgs_cons (pg_name (i := 5) nd rfl (by first | exact Or.inl rfl | exact Or.inr rfl)) (pgs_cons (pg_name (i := 6) nd rfl (by first | exact Or.inl rfl | exact Or.inr rfl)) (pgs_nil)))) (fun _ _ _ _ _ => pts_nil) (fun _ _ _ _ _ => pe_cmpR (u_eq hr.units) (pe_call F_opened (hr.mono (by decide)) (by rfl) g_opened k_opened b_opened .nil pass0 (pa_cons (pv 0) (pa_cons (pv 1) (pa_cons (pv 4) (pa_cons (pv 6) (pa_cons (pv 5) (pa_nil))))))) (pv 2) (nomark _))) (pa_nil))))), ?_⟩
        clear hr
        clear F_opened g_opened k_opened b_opened d_opened a_opened
        clear F_pieces g_pieces k_pieces b_pieces d_pieces a_pieces
        rw [show L2.start N_sure [v_shape, v_form, v_head, v_formers] = [some v_shape, some v_form, some v_head, some v_formers, none, none, none] from rfl]
        obtain ⟨s, f, hd, ps, hs, ok, hf, okf, hh, lh, hps, okp, lps, q⟩ := h
        have at0 := atW_le ok okf
        walk_at "Zs"
        refine go_pieces hs ok hf okf hh lh fun H1 e1 => ?_
        have lz : (piecesT (triL s.fs f.ws hd)).length = atW s.fs f.ws s.fs.length := by rw [pieces_len, atW_all okf.len lh]
        have z01 := pieces_01 (triL s.fs f.ws hd)
        obtain ⟨a, xs, rfl, hxs, hds⟩ := dq_tt hps
        have lxs := dqs_len hds
        rw [List.length_map] at lxs
        walk_at "Zs"
        refine w_goT (same_t e1 hxs.t) ?_
        refine lcT (same_t e1 hxs.t) (fun j acc _ => ∃ bs : List Bool, acc = bs.map V.bl ∧ bs.length = j ∧ (bs.all id = true ↔ SuA s f hd (ps.take j))) stb_pure (by omega) (fun j acc H' ⟨bs, h1, h2, _⟩ => by rw [h1, List.length_map, h2]; exact Nat.le_refl _) (fun H' _ => ⟨[], rfl, rfl, by rw [List.take_zero]; exact ⟨fun _ => suA_nil, fun _ => rfl⟩⟩) (fun j x acc H' hx e2 ⟨bs, h1, h2, h3⟩ k k' hk hk' => ?_) fun D acc H' hD e2 hD' ⟨bs, h1, h2, h3⟩ => ?_
        · obtain ⟨d, hd1, hxd⟩ := dqs_get2 hds hx
          obtain ⟨p, hp, rfl⟩ := map_at hd1
          have okp' := okp p (List.mem_of_getElem? hp)
          have hxd' := dq_mono (e1.trans e2) hxd
          obtain ⟨b, x1, y1, rfl, hb, hx1, hy1⟩ := dq_t2 hxd'
          obtain rfl := dq_int hx1
          walk_at "Zs"
          have e12 := e1.trans e2
          refine go_opened (dq_mono e12 hs) ok (dq_mono e12 hf) okf z01 lz (by omega) hy1 okp'.1 (by have := okp'.2; omega) (by have := okp'.2; omega) fun o ov H3 e3 op hov => ?_
          walk_at "Zs"
          refine w_eqH hov (dq_mono (e12.trans e3) hh) ?_
          walk_at "Zs"
          exact hk _ _ e3 ⟨bs ++ [decide (o = hd)], by rw [h1, List.map_append]; rfl, by rw [List.length_append, h2]; rfl, suA_snoc okf.len okp'.1 h3 hp op⟩
        · walk_at "Zs"
          refine w_all (bs := bs) (SqL.of (by rw [hD', h1])) ?_
          rw [List.take_of_length_le (by omega)] at h3
          exact q _ _ (e1.trans e2) h3
  exact F0
theorem c_sure {W : Wd} {mg : Str → Option Value} {base : Heap} (B : Bi mg) (S : Src W.K mg "sure" s_sure) (C_opened : Cal W mg base "opened" 5 ["shape", "form", "bits", "former", "more"] (sp_opened W)) (C_pieces : Cal W mg base "pieces" 2 ["shape", "form", "head"] (sp_pieces W)) : Cal W mg base "sure" 6 ["shape", "form", "head", "formers"] (sp_sure W) := by
  obtain ⟨f, fd, g, F⟩ := S
  exact ⟨f, fd, g, f_sure B F C_opened C_pieces, F.kp, (F.binds (ps := ["shape", "form", "head", "formers"]) fun _ _ _ _ _ _ us hl => match us, hl with | [_, _, _, _], _ => rfl)⟩
theorem go_sure {W : Wd} {H : Hp} {Q : VK} {E : XK} {vs vf vh vp : V} {s : Shp} {f : Fm} {hd : List Int} {ps : List Fo} (hs : Dq W.K H vs (shD s)) (ok : OkShp s) (hf : Dq W.K H vf (fmD f)) (okf : OkFm s f) (hh : Dq W.K H vh (headD hd)) (lh : hd.length = s.fs.length) (hps : Dq W.K H vp (fosD ps)) (okp : ∀ p ∈ ps, OkFo s p) (lps : ps.length ≤ 1000) (q : ∀ b H', Same H H' → (b = true ↔ SuA s f hd ps) → Q (.bl b) H') : sp_sure W [vs, vf, vh, vp] H Q E := ⟨s, f, hd, ps, hs, ok, hf, okf, hh, lh, hps, okp, lps, q⟩
def sp_offsets_of (W : Wd) : Sp := fun vs H Q _ => match vs with
  | [v_shape, v_heads, v_number, v_reach, v_place] =>
  ∃ (s : Shp) (hs : List (List Int)) (k r : Int) (p : Nat) (ps : List Fo) (hd : List Int), Dq W.K H v_shape (shD s) ∧ OkShp s ∧ Dq W.K H v_heads (.list (hs.map headD)) ∧ HeadsOk s hs ∧ v_number = .int k ∧ 0 ≤ k ∧ k < hs.length ∧ v_reach = .int r ∧ 1 ≤ r ∧ r ≤ 100 ∧ v_place = .int (p : Int) ∧ p < s.fs.length ∧ FrmsR hs k r ps ∧ hs[k.toNat]? = some hd ∧ ∀ (os : List Int) v H', Same H H' → Dq W.K H' v (.tuple (os.map .int)) → OffsR s hd ps p os → Q v H'
  | _ => False
abbrev N_offsets_of : List Str := ["shape", "heads", "number", "reach", "place", "breadth", "head", "found", "more", "looked_for"]
theorem sc_offsets_of : FnScope N_offsets_of ["shape", "heads", "number", "reach", "place"] (defScope s_offsets_of) := ⟨rfl, rfl, rfl, by decide +kernel, rfl, by decide +kernel, by decide +kernel⟩
theorem f_offsets_of {W : Wd} {mg : Str → Option Value} {base : Heap} (B : Bi mg) {f : Addr} {fd : FuncData} (F : Fun W.K "offsets_of" "offsets_of" s_offsets_of f fd) (C_rest_of : Cal W mg base "rest_of" 1 ["number", "width"] (sp_rest_of W)) (C_expected : Cal W mg base "expected" 2 ["shape", "place", "former", "ahead", "more"] (sp_expected W)) : FnOk W.P W.w W.K mg base CX0 3 f fd ["shape", "heads", "number", "reach", "place"] (sp_offsets_of W) := by
  obtain ⟨a_rest_of, d_rest_of, g_rest_of, F_rest_of, k_rest_of, b_rest_of⟩ := C_rest_of
  obtain ⟨a_expected, d_expected, g_expected, F_expected, k_expected, b_expected⟩ := C_expected
  have nd := sc_offsets_of.nd
  have F0 : FnOk W.P W.w W.K mg base CX0 3 f fd ["shape", "heads", "number", "reach", "place"] (sp_offsets_of W) := by
    refine F.ok sc_offsets_of (fun vs H Q E h => ?_) (fun cdv A outer s H vs Q E hr h => ?_)
    · match vs, h with | [_, _, _, _, _], _ => rfl
    · match vs, h with
      | [v_shape, v_heads, v_number, v_reach, v_place], h =>
        change sp_offsets_of W [v_shape, v_heads, v_number, v_reach, v_place] H Q E at h
        refine ⟨tSeq (tAsg (tOp (rIxU W.K) (tOp (rIxU W.K) (tOp (rIxU W.K) (tVar 0) (tC (.int 0))) (tVar 4)) (tC (.int 1))) (gName 5)) (tSeq (tAsg (tOp (rIxU W.K) (tVar 1) (tVar 2)) (gName 6)) (tSeq (tAsg (tLst (tNil)) (gName 7)) (tSeq (tFor (iRng2 (tCons (tC (.int 1)) (tCons (tOp (rAddN W.K) (tCB (rMin2) (tCons (tVar 3) (tCons (tVar 2) (tNil)))) (tC (.int 1))) (tNil)))) (gName 8) (tSeq (tAsg (tCall (sp_expected W) [] E0 (tCons (tVar 0) (tCons (tVar 4) (tCons (tOp (rIxU W.K) (tVar 1) (tOp (rSubU) (tVar 2) (tVar 8))) (tCons (tSl (rSlU W.K) (tVar 6) (tNoPart) (tPart (tVar 4))) (tCons (tVar 8) (tNil))))))) (gName 9)) (tDrop (tBM W.K "list" rAppend (tVar 7) (tCons (tCall (sp_rest_of W) [] E0 (tCons (tOp (rSubU) (tOp (rIxU W.K) (tVar 6) (tVar 4)) (tVar 9)) (tCons (tVar 5) (tNil)))) (tNil)))))) (tRet (tCB (rTupleOfN W.K) (tCons (tVar 7) (tNil))))))), pss_cons (ps_set (i := 5) nd rfl (.inl rfl) (pe_ix u_ix (pe_ix u_ix (pe_ix u_ix (pv 0) (pe_int) (fun _ _ => rfl)) (pv 4) (fun _ _ => rfl)) (pe_int) (fun _ _ => rfl))) (pss_cons (ps_set (i := 6) nd rfl (.inl rfl) (pe_ix u_ix (pv 1) (pv 2) (fun _ _ => rfl))) (pss_cons (ps_set (i := 7) nd rfl (.inl rfl) (pe_lst (pa_nil))) (pss_cons (ps_for PassesOwn.never rfl (pi_range2 (by rfl) B.b_range (pa_cons (pe_int) (pa_cons (pe_op u_addN (pe_callB (call_min2 rfl) (by rfl) B.b_min (by decide +kernel) (pa_cons (pv 3) (pa_cons (pv 2) (pa_nil)))) (pe_int)) (pa_nil)))) (pg_name (i := 8) nd rfl (by first | exact Or.inl rfl | exact Or.inr rfl)) (pss_cons (ps_set (i := 9) nd rfl (.inl rfl) (pe_call F_expected (hr.mono (by decide)) (by rfl) g_expected k_expected b_expected .nil pass0 (pa_cons (pv 0) (pa_cons (pv 4) (pa_cons (pe_ix u_ix (pv 1) (pe_op u_sub (pv 2) (pv 8)) (fun _ _ => rfl)) (pa_cons (pe_slice u_sl (pv 6) (po_none) (po_some (pv 4))) (pa_cons (pv 8) (pa_nil)))))))) (pss_one (ps_expr (pe_bm PySem.F.plainAttrs_list PySem.F.slot_list_append PySem.F.type_list_append mt_append (pv 7) (pa_cons (pe_call F_rest_of (hr.mono (by decide)) (by rfl) g_rest_of k_rest_of b_rest_of .nil pass0 (pa_cons (pe_op u_sub (pe_ix u_ix (pv 6) (pv 4) (fun _ _ => rfl)) (pv 9)) (pa_cons (pv 5) (pa_nil)))) (pa_nil))))))) (pss_one (ps_ret (pe_callTy call_tuple_ofN (by rfl) B.b_tuple (by decide +kernel) (pa_cons (pv 7) (pa_nil)))))))), ?_⟩
        clear hr
        clear F_rest_of g_rest_of k_rest_of b_rest_of d_rest_of a_rest_of
        clear F_expected g_expected k_expected b_expected d_expected a_expected
        rw [show L2.start N_offsets_of [v_shape, v_heads, v_number, v_reach, v_place] = [some v_shape, some v_heads, some v_number, some v_reach, some v_place, none, none, none, none, none] from rfl]
        obtain ⟨s, hs, k, r, p, ps, hd, hsh, ok, hhs, okh, rfl, k0, k1, rfl, r0, r1, rfl, hp, hps, hhd, q⟩ := h
        have l1 := ok.l1
        obtain ⟨fd, hfd⟩ : ∃ fd, s.fs[p]? = some fd := ⟨_, List.getElem?_eq_getElem hp⟩
        have okd := ok.fd p fd hfd
        have b0 := okd.b0
        have b1 := okd.b1
        have oh := okh hd (List.mem_of_getElem? hhd)
        have lhd := okHead_len oh
        walk_at "Zs"
        refine w_ixQT hsh (d := .tuple (s.fs.map fdD)) rfl fun x1 h1 => ?_
        walk_at "Zs"
        refine w_ixM h1 (by omega) (by omega) fun fd' x2 hfd' h2 => ?_
        rw [Int.toNat_natCast, hfd] at hfd'
        obtain rfl := Option.some.inj hfd'
        walk_at "Zs"
        refine w_ixQTi h2 (n := fd.br) rfl ?_
        walk_at "Zs"
        refine w_ixLM hhs k0 k1 fun g gx hg hgx => ?_
        obtain rfl := Option.some.inj (hhd.symm.trans hg)
        walk_at "Zs"
        rename_i D G1 nD f1 hD1
        have hM := hps.1
        generalize hM' : (if k < r then k else r) = M at hM
        have hM2 : 0 ≤ M ∧ M ≤ 100 ∧ M ≤ k := by rw [← hM']; split <;> omega
        refine w_rg2 (by omega) ?_
        have hm3 : (M + 1 - 1).toNat = ps.length := by omega
        rw [hm3]
        refine forR (fun i σ' H' => (∃ y8 y9, σ' = [some v_shape, some v_heads, some (.int k), some (.int r), some (.int (p : Int)), some (.int fd.br), some gx, some (.ref D), y8, y9]) ∧ (∃ os : List Int, H' D = some (.lst (os.map V.int)) ∧ OffsR s hd (ps.take i) p os) ∧ Same H H') ⟨⟨_, _, rfl⟩, ⟨[], hD1, OffsR.nil⟩, f1⟩ (fun i σ' H2 hi h => ?_) (fun σ' H2 h => ?_)
        · obtain ⟨⟨y8, y9, rfl⟩, ⟨os, hD, ho⟩, e2⟩ := h
          obtain ⟨fo, hfo⟩ : ∃ fo, ps[i]? = some fo := ⟨_, List.getElem?_eq_getElem hi⟩
          obtain ⟨m1, m2⟩ := hps.2 i fo hfo
          have lo := ho.1
          rw [List.length_take] at lo
          walk_at "Zs"
          refine w_ixLM (dq_mono e2 hhs) (by omega) (by omega) fun g2 gx2 hg2 hgx2 => ?_
          have eg : g2 = fo.2 := by
            rw [show k - (1 + (i : Int)) = k - fo.1 by omega, m2] at hg2
            exact (Option.some.inj hg2).symm
          subst eg
          have og := okh _ (List.mem_of_getElem? m2)
          have lg := okHead_len og
          obtain ⟨v0, hv0⟩ : ∃ v0, fo.2[p]? = some v0 := ⟨_, List.getElem?_eq_getElem (by omega)⟩
          walk_at "Zs"
          refine w_slM (dq_mono e2 hgx) fun x3 H3 e3 h3 => ?_
          rw [cutD_to (by omega) (by omega), Int.toNat_natCast] at h3
          walk_at "Zs"
          refine go_expected (dq_mono (e2.trans e3) hsh) ok hfd (dq_mono e3 hgx2) hv0 h3 (by rw [List.length_take]; omega) (by omega) (by omega) fun r0 H4 e4 hr0 => ?_
          walk_at "Zs"
          have hD4 := e4 _ _ (e3 _ _ hD)
          refine w_tyL hD4 ?_
          walk_at "Zs"
          refine w_ixMi (dq_mono (e2.trans (e3.trans e4)) hgx) (by omega) (by omega) fun n hn => ?_
          rw [Int.toNat_natCast] at hn
          walk_at "Zs"
          rename_i o eo o0 o1 o2
          refine w_append hD4 (by rw [List.length_map]; omega) ?_
          walk_at "Zs"
          refine ⟨⟨_, _, rfl⟩, ⟨os ++ [o], by rw [upd_same, List.map_append]; rfl, ho.snoc hfo ⟨fd, v0, n, r0, hfd, hv0, hn, ?_, eo⟩⟩, same_mut (e2.trans (e3.trans e4)) nD⟩
          rw [m1, Int.add_comm]
          exact hr0
        · obtain ⟨⟨y8, y9, rfl⟩, ⟨os, hD, ho⟩, e2⟩ := h
          rw [List.take_length] at ho
          walk_at "Zs"
          refine w_tupleN (SqL.of hD) fun p2 H3 n2 e3 g3 => ?_
          exact q os _ _ (e2.trans e3) (dq_ofN g3) ho
  exact F0
theorem c_offsets_of {W : Wd} {mg : Str → Option Value} {base : Heap} (B : Bi mg) (S : Src W.K mg "offsets_of" s_offsets_of) (C_rest_of : Cal W mg base "rest_of" 1 ["number", "width"] (sp_rest_of W)) (C_expected : Cal W mg base "expected" 2 ["shape", "place", "former", "ahead", "more"] (sp_expected W)) : Cal W mg base "offsets_of" 3 ["shape", "heads", "number", "reach", "place"] (sp_offsets_of W) := by
  obtain ⟨f, fd, g, F⟩ := S
  exact ⟨f, fd, g, f_offsets_of B F C_rest_of C_expected, F.kp, (F.binds (ps := ["shape", "heads", "number", "reach", "place"]) fun _ _ _ _ _ _ us hl => match us, hl with | [_, _, _, _, _], _ => rfl)⟩
theorem go_offsets_of {W : Wd} {H : Hp} {Q : VK} {E : XK} {vs vh : V} {s : Shp} {hs : List (List Int)} {k r : Int} {p : Nat} {ps : List Fo} {hd : List Int} (hsh : Dq W.K H vs (shD s)) (ok : OkShp s) (hhs : Dq W.K H vh (.list (hs.map headD))) (okh : HeadsOk s hs) (k0 : 0 ≤ k) (k1 : k < hs.length) (r0 : 1 ≤ r) (r1 : r ≤ 100) (hp : p < s.fs.length) (hps : FrmsR hs k r ps) (hhd : hs[k.toNat]? = some hd) (q : ∀ (os : List Int) v H', Same H H' → Dq W.K H' v (.tuple (os.map .int)) → OffsR s hd ps p os → Q v H') : sp_offsets_of W [vs, vh, .int k, .int r, .int (p : Int)] H Q E := ⟨s, hs, k, r, p, ps, hd, hsh, ok, hhs, okh, rfl, k0, k1, rfl, r0, r1, rfl, hp, hps, hhd, q⟩
def sp_way_for (W : Wd) : Sp := fun vs H Q _ => match vs with
  | [v_breadth, v_offsets] =>
  ∃ (br : Int) (os : List Int), v_breadth = .int br ∧ Dq W.K H v_offsets (.tuple (os.map .int)) ∧ os.length ≤ 50 ∧ 0 ≤ br ∧ br ≤ 100 ∧ ∀ w v H', Same H H' → Dq W.K H' v (wyD w) → WyO br os w → Q v H'
  | _ => False
abbrev N_way_for : List Str := ["breadth", "offsets", "width", "below"]
theorem sc_way_for : FnScope N_way_for ["breadth", "offsets"] (defScope s_way_for) := ⟨rfl, rfl, rfl, by decide +kernel, rfl, by decide +kernel, by decide +kernel⟩
theorem f_way_for {W : Wd} {mg : Str → Option Value} {base : Heap} (B : Bi mg) {f : Addr} {fd : FuncData} (F : Fun W.K "way_for" "way_for" s_way_for f fd) (C_tightest : Cal W mg base "tightest" 3 ["w", "offsets"] (sp_tightest W)) : FnOk W.P W.w W.K mg base CX0 4 f fd ["breadth", "offsets"] (sp_way_for W) := by
  obtain ⟨a_tightest, d_tightest, g_tightest, F_tightest, k_tightest, b_tightest⟩ := C_tightest
  have nd := sc_way_for.nd
  have F0 : FnOk W.P W.w W.K mg base CX0 4 f fd ["breadth", "offsets"] (sp_way_for W) := by
    refine F.ok sc_way_for (fun vs H Q E h => ?_) (fun cdv A outer s H vs Q E hr h => ?_)
    · match vs, h with | [_, _], _ => rfl
    · match vs, h with
      | [v_breadth, v_offsets], h =>
        change sp_way_for W [v_breadth, v_offsets] H Q E at h
        refine ⟨tSeq (tIfS (tNot (tB (tCB (rAnyT W.K) (tCons (tVar 1) (tNil))))) (tRet (tTupN (tCons (tC (.str "keep")) (tNil)))) (tNext)) (tSeq (tAsg (tCall (sp_tightest W) [] E0 (tCons (tVar 0) (tCons (tVar 1) (tNil)))) (gTup W.K 2 (gCons (gName 2) (gCons (gName 3) (gNil))))) (tSeq (tIfS (tTest (tOp (rLtU W.K) (tVar 2) (tVar 0))) (tRet (tTupN (tCons (tC (.str "low")) (tCons (tVar 2) (tCons (tVar 3) (tNil)))))) (tNext)) (tRet (tTupN (tCons (tC (.str "whole")) (tNil)))))), pss_cons (ps_if (pt_not (pt_val (pe_callB (call_anyT rfl) (by rfl) B.b_any (by decide +kernel) (pa_cons (pv 1) (pa_nil))))) (pss_one (ps_ret (pe_tupN (pa_cons (pe_str) (pa_nil))))) (pss_nil)) (pss_cons (ps_asg (pe_call F_tightest (hr.mono (by decide)) (by rfl) g_tightest k_tightest b_tightest .nil pass0 (pa_cons (pv 0) (pa_cons (pv 1) (pa_nil)))) (pg_tup rfl (pgs_cons (pg_name (i := 2) nd rfl (by first | exact Or.inl rfl | exact Or.inr rfl)) (pgs_cons (pg_name (i := 3) nd rfl (by first | exact Or.inl rfl | exact Or.inr rfl)) (pgs_nil))))) (pss_cons (ps_if (pt_cmpR u_lt (pv 2) (pv 0) (nomark _)) (pss_one (ps_ret (pe_tupN (pa_cons (pe_str) (pa_cons (pv 2) (pa_cons (pv 3) (pa_nil))))))) (pss_nil)) (pss_one (ps_ret (pe_tupN (pa_cons (pe_str) (pa_nil))))))), ?_⟩
        clear hr
        clear F_tightest g_tightest k_tightest b_tightest d_tightest a_tightest
        rw [show L2.start N_way_for [v_breadth, v_offsets] = [some v_breadth, some v_offsets, none, none] from rfl]
        obtain ⟨br, os, rfl, ho, hl, b0, b1, q⟩ := h
        obtain ⟨a, rfl, ha⟩ := dq_ti ho
        walk_at "Zs"
        refine w_anyT ha.t ?_
        by_cases c : ∀ o ∈ os, o = 0
        · have e : (os.any fun n => decide (n ≠ 0)) = false := by
            rw [List.any_eq_false]
            intro o hm
            rw [c o hm]
            decide
          rw [e]
          walk_at "Zs"
          rename_i p1 H1 n1 e1 h1
          exact q .keep _ _ e1 (dq_new h1 (dqs_one (.str _))) (.inl ⟨c, rfl⟩)
        · have e : (os.any fun n => decide (n ≠ 0)) = true := by
            rw [List.any_eq_true]
            refine Classical.byContradiction fun z => c fun o hm => ?_
            refine Classical.byContradiction fun z2 => z ⟨o, hm, decide_eq_true z2⟩
          rw [e]
          walk_at "Zs"
          refine go_tightest ho hl b0 b1 fun wd bl v H1 e1 ht hv => ?_
          obtain ⟨t, rfl, htn⟩ := dq_ti (ns := [wd, bl]) hv
          have ht2 : SqN W.K H1 t [.int wd, .int bl] := htn
          clear htn
          walk_at "Zs"
          refine w_dec (fun hc => ?_) (fun hc => ?_)
          · walk_at "Zs"
            rename_i p2 H2 n2 e2 h2
            refine q (.low wd bl) _ _ (e1.trans e2) (dq_new h2 (.cons (.str _) (dqs_two (.int _) (.int _)))) (.inr ⟨c, wd, bl, ht, by rw [if_pos hc]⟩)
          · walk_at "Zs"
            rename_i p2 H2 n2 e2 h2
            refine q .whole _ _ (e1.trans e2) (dq_new h2 (dqs_one (.str _))) (.inr ⟨c, wd, bl, ht, by rw [if_neg hc]⟩)
  exact F0
theorem c_way_for {W : Wd} {mg : Str → Option Value} {base : Heap} (B : Bi mg) (S : Src W.K mg "way_for" s_way_for) (C_tightest : Cal W mg base "tightest" 3 ["w", "offsets"] (sp_tightest W)) : Cal W mg base "way_for" 4 ["breadth", "offsets"] (sp_way_for W) := by
  obtain ⟨f, fd, g, F⟩ := S
  exact ⟨f, fd, g, f_way_for B F C_tightest, F.kp, (F.binds (ps := ["breadth", "offsets"]) fun _ _ _ _ _ _ us hl => match us, hl with | [_, _], _ => rfl)⟩
theorem go_way_for {W : Wd} {H : Hp} {Q : VK} {E : XK} {x : V} {br : Int} {os : List Int} (ho : Dq W.K H x (.tuple (os.map .int))) (hl : os.length ≤ 50) (b0 : 0 ≤ br) (b1 : br ≤ 100) (q : ∀ w v H', Same H H' → Dq W.K H' v (wyD w) → WyO br os w → Q v H') : sp_way_for W [.int br, x] H Q E := ⟨br, os, rfl, ho, hl, b0, b1, q⟩
def sp_proposed (W : Wd) : Sp := fun vs H Q _ => match vs with
  | [v_shape, v_heads, v_reach, v_count] =>
  ∃ (s : Shp) (hs : List (List Int)) (r c : Int), Dq W.K H v_shape (shD s) ∧ OkShp s ∧ Dq W.K H v_heads (.list (hs.map headD)) ∧ HeadsOk s hs ∧ hs.length ≤ 100 ∧ v_reach = .int r ∧ 1 ≤ r ∧ r ≤ 40 ∧ v_count = .int c ∧ 1 ≤ c ∧ c ≤ 40 ∧ ∀ fs v H', Same H H' → FormsR s hs r c (hs.length - 1) fs → Dq W.K H' v (.tuple (riseF fs)) → Q v H'
  | _ => False
abbrev N_proposed : List Str := ["shape", "heads", "reach", "count", "found", "number", "ways", "place", "field"]
theorem sc_proposed : FnScope N_proposed ["shape", "heads", "reach", "count"] (defScope s_proposed) := ⟨rfl, rfl, rfl, by decide +kernel, rfl, by decide +kernel, by decide +kernel⟩
theorem f_proposed {W : Wd} {mg : Str → Option Value} {base : Heap} (B : Bi mg) {f : Addr} {fd : FuncData} (F : Fun W.K "proposed" "proposed" s_proposed f fd) (C_offsets_of : Cal W mg base "offsets_of" 3 ["shape", "heads", "number", "reach", "place"] (sp_offsets_of W)) (C_way_for : Cal W mg base "way_for" 4 ["breadth", "offsets"] (sp_way_for W)) : FnOk W.P W.w W.K mg base CX0 5 f fd ["shape", "heads", "reach", "count"] (sp_proposed W) := by
  obtain ⟨a_offsets_of, d_offsets_of, g_offsets_of, F_offsets_of, k_offsets_of, b_offsets_of⟩ := C_offsets_of
  obtain ⟨a_way_for, d_way_for, g_way_for, F_way_for, k_way_for, b_way_for⟩ := C_way_for
  have nd := sc_proposed.nd
  have F0 : FnOk W.P W.w W.K mg base CX0 5 f fd ["shape", "heads", "reach", "count"] (sp_proposed W) := by
    refine F.ok sc_proposed (fun vs H Q E h => ?_) (fun cdv A outer s H vs Q E hr h => ?_)
    · match vs, h with | [_, _, _, _], _ => rfl
    · match vs, h with
      | [v_shape, v_heads, v_reach, v_count], h =>
        change sp_proposed W [v_shape, v_heads, v_reach, v_count] H Q E at h
        refine ⟨tSeq (tAsg (tDNewK) (gName 4)) (tSeq (tFor (iRng2 (tCons (tC (.int 1)) (tCons (tCB (rLenU W.K) (tCons (tVar 1) (tNil))) (tNil)))) (gName 5) (tSeq (tAsg (tLst (tNil)) (gName 6)) (tSeq (tFor (iEnumU W.K (tCons (tOp (rIxU W.K) (tVar 0) (tC (.int 0))) (tNil))) (gTup W.K 2 (gCons (gName 7) (gCons (gName 8) (gNil)))) (tDrop (tBM W.K "list" rAppend (tVar 6) (tCons (tCall (sp_way_for W) [] E0 (tCons (tOp (rIxU W.K) (tVar 8) (tC (.int 1))) (tCons (tCall (sp_offsets_of W) [] E0 (tCons (tVar 0) (tCons (tVar 1) (tCons (tVar 5) (tCons (tVar 2) (tCons (tVar 7) (tNil))))))) (tNil)))) (tNil))))) (tAsg (tC (.bl true)) (gSub (tVar 4) (tTupN (tCons (tVar 2) (tCons (tVar 3) (tCons (tCB (rTupleOfN W.K) (tCons (tVar 6) (tNil))) (tNil))))) (rSetN W.K W.w)))))) (tRet (tCB (rTupleOfN W.K) (tCons (tCB (rSortedN W.K W.w) (tCons (tVar 4) (tNil))) (tNil))))), pss_cons (ps_set (i := 4) nd rfl (.inl rfl) (pe_dnewK)) (pss_cons (ps_for PassesOwn.never rfl (pi_range2 (by rfl) B.b_range (pa_cons (pe_int) (pa_cons (pe_callB u_len (by rfl) B.b_len (by decide +kernel) (pa_cons (pv 1) (pa_nil))) (pa_nil)))) (pg_name (i := 5) nd rfl (by first | exact Or.inl rfl | exact Or.inr rfl)) (pss_cons (ps_set (i := 6) nd rfl (.inl rfl) (pe_lst (pa_nil))) (pss_cons (ps_for PassesOwn.never rfl (pi_enumU (by rfl) B.b_enumerate (pa_cons (pe_ix u_ix (pv 0) (pe_int) (fun _ _ => rfl)) (pa_nil))) (pg_tup rfl (pgs_cons (pg_name (i := 7) nd rfl (by first | exact Or.inl rfl | exact Or.inr rfl)) (pgs_cons (pg_name (i := 8) nd rfl (by first | exact Or.inl rfl | exact Or.inr rfl)) (pgs_nil)))) (pss_one (ps_expr (pe_bm PySem.F.plainAttrs_list PySem.F.slot_list_append PySem.F.type_list_append mt_append (pv 6) (pa_cons (pe_call F_way_for (hr.mono (by decide)) (by rfl) g_way_for k_way_for b_way_for .nil pass0 (pa_cons (pe_ix u_ix (pv 8) (pe_int) (fun _ _ => rfl)) (pa_cons (pe_call F_offsets_of (hr.mono (by decide)) (by rfl) g_offsets_of k_offsets_of b_offsets_of .nil pass0 (pa_cons (pv 0) (pa_cons (pv 1) (pa_cons (pv 5) (pa_cons (pv 2) (pa_cons (pv 7) (pa_nil))))))) (pa_nil)))) (pa_nil)))))) (pss_one (ps_asg (pe_bl) (pg_sub (pv 4) (pe_tupN (pa_cons (pv 2) (pa_cons (pv 3) (pa_cons (pe_callTy call_tuple_ofN (by rfl) B.b_tuple (by decide +kernel) (pa_cons (pv 6) (pa_nil))) (pa_nil))))) (set_dn hr.units))))))) (pss_one (ps_ret (pe_callTy call_tuple_ofN (by rfl) B.b_tuple (by decide +kernel) (pa_cons (pe_callB (call_sortedN rfl hr.units) (by rfl) B.b_sorted (by decide +kernel) (pa_cons (pv 4) (pa_nil))) (pa_nil)))))), ?_⟩
        clear hr
        clear F_offsets_of g_offsets_of k_offsets_of b_offsets_of d_offsets_of a_offsets_of
        clear F_way_for g_way_for k_way_for b_way_for d_way_for a_way_for
        rw [show L2.start N_proposed [v_shape, v_heads, v_reach, v_count] = [some v_shape, some v_heads, some v_reach, some v_count, none, none, none, none, none] from rfl]
        obtain ⟨s, hs, r, c, hsh, ok, hhs, okh, lh, rfl, r0, r1, rfl, c0, c1, q⟩ := h
        have l1 := ok.l1
        walk_at "Zs"
        rename_i D G1 nD f1 hD1
        refine w_lenQLm (dq_mono f1 hhs) ?_
        walk_at "Zs"
        refine w_rg2 (by omega) ?_
        have hm3 : ((hs.length : Int) - 1).toNat = hs.length - 1 := by omega
        rw [hm3]
        refine forR (fun i σ' H' => (∃ y5 y6 y7 y8, σ' = [some v_shape, some v_heads, some (.int r), some (.int c), some (.ref D), y5, y6, y7, y8]) ∧ (∃ fs xs, DnAt W.K W.w H' D xs ∧ xs.map (·.1) = keysF fs ∧ FormsR s hs r c i fs) ∧ Same H H') ⟨⟨_, _, _, _, rfl⟩, ⟨[], [], dnAt_new hD1, rfl, FormsR.nil⟩, f1⟩ (fun i σ' H2 hi h => ?_) (fun σ' H2 h => ?_)
        · obtain ⟨⟨y5, y6, y7, y8, rfl⟩, ⟨fs, xs, hD, hks, hfs⟩, e2⟩ := h
          obtain ⟨ps, hps⟩ := frms_ex (hs := hs) (k := 1 + (i : Int)) (r := r) (by omega) (by omega) (by omega)
          obtain ⟨hd, hhd⟩ : ∃ hd, hs[(1 + (i : Int)).toNat]? = some hd := ⟨_, List.getElem?_eq_getElem (by omega)⟩
          have lps : ps.length ≤ 40 := by
            have := hps.1
            split at this <;> omega
          walk_at "Zs"
          rename_i L G3 nL f3 hL1
          refine w_ixQTx hsh (Same.sx (e2.trans f3)) (d := .tuple (s.fs.map fdD)) rfl fun x1 h1 => ?_
          walk_at "Zs"
          obtain ⟨a, ys, rfl, hys, hds⟩ := dq_tt h1
          have lys := dqs_len hds
          rw [List.length_map] at lys
          refine w_goET (same_t (e2.trans f3) hys.t) ?_
          refine forET2 (xs := ys) (fun j σ' H' => (∃ y7 y8, σ' = [some v_shape, some v_heads, some (.int r), some (.int c), some (.ref D), some (.int (1 + (i : Int))), some (.ref L), y7, y8]) ∧ (∃ (ws : List Wy) (vs : List V), H' L = some (.lst vs) ∧ DqAll W.K H' vs (ws.map wyD) ∧ ws.length = j ∧ ∀ (p : Nat) w, ws[p]? = some w → WayR s hd ps p w) ∧ Same H2 H') ⟨⟨_, _, rfl⟩, ⟨[], [], hL1, .nil, rfl, fun p w h => by cases h⟩, f3⟩ (fun j σ' H' h => same_t (e2.trans h.2.2) hys.t) (fun j x σ' H4 hx h H5 e5 => ?_) (fun σ' H4 h => ?_)
          · obtain ⟨⟨y7, y8, rfl⟩, ⟨ws, vs, hL, hws, lws, hway⟩, e4⟩ := h
            obtain ⟨d, hd1, hxd⟩ := dqs_get2 hds hx
            obtain ⟨fd, hfd, rfl⟩ := map_at hd1
            have okd := ok.fd j fd hfd
            have b0 := okd.b0
            have b1 := okd.b1
            have hj := (List.getElem?_eq_some_iff.mp hfd).1
            have lvs := dqs_len hws
            rw [List.length_map] at lvs
            have e05 := e2.trans (e4.trans e5)
            walk_at "Zs"
            have hL5 := e5 _ _ hL
            refine w_tyL hL5 ?_
            walk_at "Zs"
            refine w_ixQTi (dq_mono e05 hxd) (n := fd.br) rfl ?_
            walk_at "Zs"
            refine go_offsets_of (dq_mono e05 hsh) ok (dq_mono e05 hhs) okh (by omega) (by omega) r0 (by omega) hj hps hhd fun os ov H6 e6 hov hos => ?_
            walk_at "Zs"
            refine go_way_for hov (by have := hos.1; omega) (by omega) (by omega) fun w wv H7 e7 hwv hwo => ?_
            walk_at "Zs"
            have hL7 := e7 _ _ (e6 _ _ hL5)
            refine w_append hL7 (by omega) ?_
            walk_at "Zs"
            refine ⟨⟨_, _, rfl⟩, ⟨ws ++ [w], vs ++ [wv], upd_same, ?_, by rw [List.length_append, lws]; rfl, fun p w' hw' => ?_⟩, same_mut (e4.trans (e5.trans (e6.trans e7))) nL⟩
            · rw [List.map_append]
              refine dqs_lst hL7 (dqs_app (dqs_mono (e5.trans (e6.trans e7)) hws) (dqs_one hwv)) ?_
              rw [← List.map_append]
              exact tupO_wys _
            · by_cases k : p < ws.length
              · rw [List.getElem?_append_left k] at hw'
                exact hway p w' hw'
              · rw [List.getElem?_append_right (by omega)] at hw'
                obtain ⟨z1, z2⟩ := get1 hw'
                have : p = j := by omega
                subst this
                rw [← z2]
                exact ⟨fd, os, hfd, hos, hwo⟩
          · obtain ⟨⟨y7, y8, rfl⟩, ⟨ws, vs, hL, hws, lws, hway⟩, e4⟩ := h
            rw [lys] at lws
            walk_at "Zs"
            refine w_tupleN (SqL.of hL) fun p6 H6 n6 e6 g6 => ?_
            walk_at "Zs"
            rename_i p7 H7 n7 e7 g7
            have hf : Dq W.K H7 (.ref p7) (fmK ⟨r, c, ws⟩).data := by
              rw [fmK_data]
              exact dq_new g7 (.cons (.int _) (dqs_two (.int _) (dq_mono e7 (dq_new g6 (dqs_mono e6 hws)))))
            have lx : xs.length ≤ 100 := by
              have z := congrArg List.length hks
              rw [List.length_map] at z
              have := keysF_len fs
              have := hfs.1
              omega
            refine w_setN (dnAt_same (e4.trans (e6.trans e7)) hD) hf (fmK_depth _) (by omega) fun xs' H8 keep st d' hk' => ?_
            walk_at "Zs"
            refine ⟨⟨_, _, _, _, rfl⟩, ⟨fs ++ [⟨r, c, ws⟩], xs', d', ?_, hfs.snoc (by rw [Int.add_comm]; exact hps) (by rw [← hhd]; congr 1; omega) ⟨lws, hway⟩⟩, fun a u ha => keep a u (e7 _ _ (e6 _ _ (e4 _ _ (e2 _ _ ha)))) (ne_of_none ha nD)⟩
            rw [hk', hks, keysF_snoc]
        · obtain ⟨⟨y5, y6, y7, y8, rfl⟩, ⟨fs, xs, hD, hks, hfs⟩, e2⟩ := h
          have lx : xs.length ≤ 100 := by
            have z := congrArg List.length hks
            rw [List.length_map] at z
            have := keysF_len fs
            have := hfs.1
            omega
          walk_at "Zs"
          refine w_sortedN hD (by omega) (by rw [hks]; exact keysF_alike fs) (by rw [hks]; exact keysF_sortable fs) (by rw [hks]; exact keysF_depth) fun p vs H3 n3 e3 h3 hvs => ?_
          walk_at "Zs"
          refine w_tupleN (SqL.of h3) fun p4 H4 n4 e4 g4 => ?_
          walk_at "Zs"
          refine q fs _ _ (e2.trans (e3.trans e4)) hfs (dq_new g4 (dqs_mono e4 ?_))
          rw [hks] at hvs
          exact hvs
  exact F0
theorem c_proposed {W : Wd} {mg : Str → Option Value} {base : Heap} (B : Bi mg) (S : Src W.K mg "proposed" s_proposed) (C_offsets_of : Cal W mg base "offsets_of" 3 ["shape", "heads", "number", "reach", "place"] (sp_offsets_of W)) (C_way_for : Cal W mg base "way_for" 4 ["breadth", "offsets"] (sp_way_for W)) : Cal W mg base "proposed" 5 ["shape", "heads", "reach", "count"] (sp_proposed W) := by
  obtain ⟨f, fd, g, F⟩ := S
  exact ⟨f, fd, g, f_proposed B F C_offsets_of C_way_for, F.kp, (F.binds (ps := ["shape", "heads", "reach", "count"]) fun _ _ _ _ _ _ us hl => match us, hl with | [_, _, _, _], _ => rfl)⟩
theorem go_proposed {W : Wd} {H : Hp} {Q : VK} {E : XK} {vs vh : V} {s : Shp} {hs : List (List Int)} {r c : Int} (hsh : Dq W.K H vs (shD s)) (ok : OkShp s) (hhs : Dq W.K H vh (.list (hs.map headD))) (okh : HeadsOk s hs) (lh : hs.length ≤ 100) (r0 : 1 ≤ r) (r1 : r ≤ 40) (c0 : 1 ≤ c) (c1 : c ≤ 40) (q : ∀ fs v H', Same H H' → FormsR s hs r c (hs.length - 1) fs → Dq W.K H' v (.tuple (riseF fs)) → Q v H') : sp_proposed W [vs, vh, .int r, .int c] H Q E := ⟨s, hs, r, c, hsh, ok, hhs, okh, lh, rfl, r0, r1, rfl, c0, c1, q⟩
def sp__law_pot (W : Wd) : Sp := fun vs H Q _ => match vs with
  | [v_script] =>
  ∃ (a : Addr) (ns : List Int), v_script = .ref a ∧ SqL W.K H a (ns.map V.int) ∧ ns.length ≤ 63 ∧ ∀ v H', Same H H' → BoxAt W true 0 H' v → Q v H'
  | _ => False
def sp0__law_pot (W : Wd) : Sp := fun vs H Q _ => match vs with
  | [v_script] =>
  ∃ (a : Addr) (ns : List Int), v_script = .ref a ∧ SqL W.K H a (ns.map V.int) ∧ ns.length ≤ 63 ∧ ∀ (p o : Addr) (s : Int) (ms : List Int) H', Same H H' → p ≠ o → H p = none → H o = none → H' p = some (.dK (boxKV true o 0 s 0)) → H' o = some (.lst (ms.map V.int)) → (∀ x ∈ ms, 0 ≤ x) → 0 ≤ s → s < 2305843009213693952 → Q (.ref p) H'
  | _ => False
abbrev N__law_pot : List Str := ["_law_script", "_law_far", "_law_seed", "_law_own", "_law_cell"]
theorem sc__law_pot : FnScope N__law_pot ["_law_script"] (defScope s__law_pot) := ⟨rfl, rfl, rfl, by decide +kernel, rfl, by decide +kernel, by decide +kernel⟩
theorem f__law_pot {W : Wd} {mg : Str → Option Value} {base : Heap} (B : Bi mg) {f : Addr} {fd : FuncData} (F : Fun W.K "_law_pot" "_law_pot" s__law_pot f fd)  : FnOk W.P W.w W.K mg base CX0 1 f fd ["_law_script"] (sp__law_pot W) := by
  have nd := sc__law_pot.nd
  have F0 : FnOk W.P W.w W.K mg base CX0 1 f fd ["_law_script"] (sp0__law_pot W) := by
    refine F.ok sc__law_pot (fun vs H Q E h => ?_) (fun cdv A outer s H vs Q E hr h => ?_)
    · match vs, h with | [_], _ => rfl
    · match vs, h with
      | [v_script], h =>
        change sp0__law_pot W [v_script] H Q E at h
        refine ⟨tSeq (tAsg (tC (.int farN)) (gName 1)) (tSeq (tAsg (tC (.int 5)) (gName 2)) (tSeq (tAsg (tLst (tNil)) (gName 3)) (tSeq (tFor (iAny W.K (tSl (rSlU W.K) (tVar 0) (tNoPart) (tPart (tC (.int 64))))) (gName 4) (tSeq (tAsg (tOp (rModU) (tOp (rAddN W.K) (tOp (rAddN W.K) (tOp (rMulN W.K) (tVar 2) (tC (.int 69069))) (tOp (rModU) (tVar 4) (tC (.int 2305843009213693951)))) (tC (.int 17))) (tC (.int 2305843009213693951))) (gName 2)) (tIfS (tTest (tOp (rGeU) (tVar 4) (tOp (rCon 10 18 1000000000000000000) (tC (.int 10)) (tC (.int 18))))) (tDrop (tBM W.K "list" rAppend (tVar 3) (tCons (tOp (rModU) (tVar 4) (tVar 1)) (tNil)))) (tNext)))) (tRet (tDisp [(tC (.str "own"), tVar 3), (tC (.str "left"), tC (.int 0)), (tC (.str "seed"), tVar 2), (tC (.str "turn"), tC (.int 0))]))))), pss_cons (ps_set (i := 1) nd rfl (.inl rfl) (pe_far (by rfl) B.b_int)) (pss_cons (ps_set (i := 2) nd rfl (.inl rfl) (pe_int)) (pss_cons (ps_set (i := 3) nd rfl (.inl rfl) (pe_lst (pa_nil))) (pss_cons (ps_for PassesOwn.never rfl (pi_any (pe_slice u_sl (pv 0) (po_none) (po_some (pe_int)))) (pg_name (i := 4) nd rfl (by first | exact Or.inl rfl | exact Or.inr rfl)) (pss_cons (ps_set (i := 2) nd rfl (.inl rfl) (pe_op u_mod (pe_op u_addN (pe_op u_addN (pe_op u_mulN (pv 2) (pe_int)) (pe_op u_mod (pv 4) (pe_int))) (pe_int)) (pe_int))) (pss_one (ps_if (pt_cmpR u_ge (pv 4) (pe_op (u_powc ⟨by decide, by decide, by decide⟩ (by decide +kernel)) pe_int pe_int) (nomark _)) (pss_one (ps_expr (pe_bm PySem.F.plainAttrs_list PySem.F.slot_list_append PySem.F.type_list_append mt_append (pv 3) (pa_cons (pe_op u_mod (pv 4) (pv 1)) (pa_nil))))) (pss_nil))))) (pss_one (ps_ret (pe_disp (pps_cons (pe_str) (pv 3) (pps_cons (pe_str) (pe_int) (pps_cons (pe_str) (pv 2) (pps_cons (pe_str) (pe_int) (pps_nil))))) (by rfl) (by rfl) (fun z => by cases z) (by decide))))))), ?_⟩
        clear hr
        rw [show L2.start N__law_pot [v_script] = [some v_script, none, none, none, none] from rfl]
        obtain ⟨a, ns, rfl, hS, hl, q⟩ := h
        walk_at "Zs"
        rename_i p1 H1 np1 e1 h1
        refine w_slLi (e1.seq hS) fun p2 H2 np2 e2 h2 => ?_
        have hcl : (cutD ns none (some 64)).length ≤ 63 := Nat.le_trans cutD_len hl
        generalize cutD ns none (some 64) = cs at h2 hcl
        refine w_goL (SqL.of h2) ?_
        have n12 : p2 ≠ p1 := fun z => by rw [z, h1] at np2; cases np2
        have fp := far_pos
        refine forL (fun i σ' H' => (∃ s y4, σ' = [some (.ref a), some (.int farN), some (.int s), some (.ref p1), y4] ∧ 0 ≤ s ∧ s < 2305843009213693952) ∧ Same H H' ∧ H' p2 = some (.lst (cs.map V.int)) ∧ ∃ ms : List Int, H' p1 = some (.lst (ms.map V.int)) ∧ ms.length ≤ i ∧ ∀ x ∈ ms, 0 ≤ x) ⟨⟨5, _, rfl, by decide, by decide⟩, e1.trans e2, h2, [], e2 _ _ h1, Nat.le_refl _, fun _ h => nomatch h⟩ (fun i σ' H' _ h => SqL.of h.2.2.1) (fun i x σ' H3 hx h => ?_) (fun σ' H3 h => ?_)
        · obtain ⟨⟨s, y4, rfl, s0, s1⟩, e3, h3, ms, h4, hm, hn⟩ := h
          obtain ⟨c, hc, rfl⟩ := ints_at hx
          have hi := (List.getElem?_eq_some_iff.mp hc).1
          walk_at "Zs"
          refine w_dec (fun hb => ?_) (fun hb => ?_)
          · walk_at "Zs"
            refine w_tyL h4 ?_
            walk_at "Zs"
            refine w_append h4 (by rw [List.length_map]; omega) ?_
            walk_at "Zs"
            refine ⟨⟨_, _, rfl, by omega, by omega⟩, same_mut e3 np1, ?_, ms ++ [c % farN], ?_, by rw [List.length_append, List.length_singleton]; omega, fun x hx => ?_⟩
            · rw [upd_ne n12]
              exact h3
            · rw [upd_same, List.map_append]
              rfl
            · rcases List.mem_append.mp hx with hx | hx
              · exact hn x hx
              · rw [List.mem_singleton.mp hx]
                exact Int.emod_nonneg _ (Int.ne_of_gt fp)
          · walk_at "Zs"
            exact ⟨⟨_, _, rfl, by omega, by omega⟩, e3, h3, ms, h4, by omega, hn⟩
        · obtain ⟨⟨s, y4, rfl, s0, s1⟩, e3, h3, ms, h4, hm, hn⟩ := h
          walk_at "Zs"
          refine w_disp fun p np => ?_
          walk_at "Zs"
          refine w_DB4 upd_same ?_
          have npo : p ≠ p1 := fun z => by rw [z, h4] at np; cases np
          refine q p p1 s ms _ (same_mut (same_mut e3 (none_of e3 np)) (none_of e3 np)) npo (none_of e3 np) np1 upd_same ?_ hn s0 (by omega)
          rw [upd_ne (Ne.symm npo), upd_ne (Ne.symm npo)]
          exact h4
  refine fn_seal2 F0 (fun vs H Q E h => ?_) fun vs H Q E h => ?_
  · match vs, h with | [_], _ => rfl
  · match vs, h with
    | [v1], h =>
      obtain ⟨a, ns, rfl, hS, hl, q⟩ := h
      refine ⟨a, ns, rfl, hS, hl, fun p o s ms H' e hpo np no hp ho hm s0 s1 => ?_⟩
      refine ⟨p, o, BoxU true o 0, OwnU, _, _, hpo, box_flat, own_flat, ⟨0, s, 0, rfl, Int.le_refl _, s0, s1, Int.le_refl _, Int.le_refl _⟩, ⟨ms, rfl, hm⟩, hp, ho, ?_⟩
      have n1 : upd (upd H' p (vw W (BoxU true o 0) p)) o (vw W OwnU o) p = some (vw W (BoxU true o 0) p) := by rw [upd_ne hpo, upd_same]
      refine q _ _ (same_mut (same_mut e np) no) ⟨p, o, 0, rfl, hpo, Int.le_refl _, n1, upd_same⟩
theorem c__law_pot {W : Wd} {mg : Str → Option Value} {base : Heap} (B : Bi mg) (S : Src W.K mg "_law_pot" s__law_pot)  : Cal W mg base "_law_pot" 1 ["_law_script"] (sp__law_pot W) := by
  obtain ⟨f, fd, g, F⟩ := S
  exact ⟨f, fd, g, f__law_pot B F , F.kp, (F.binds (ps := ["_law_script"]) fun _ _ _ _ _ _ us hl => match us, hl with | [_], _ => rfl)⟩
theorem go__law_pot {W : Wd} {H : Hp} {Q : VK} {E : XK} {a : Addr} {ns : List Int} (hS : SqL W.K H a (ns.map V.int)) (hl : ns.length ≤ 63) (q : ∀ v H', Same H H' → BoxAt W true 0 H' v → Q v H') : sp__law_pot W [.ref a] H Q E := ⟨a, ns, rfl, hS, hl, q⟩
def sp__law_pick (W : Wd) : Sp := fun vs H Q _ => match vs with
  | [v_pot_here, v_many] =>
  ∃ m n : Int, BoxAt W true n H v_pot_here ∧ v_many = .int m ∧ 0 < m ∧ m < 1267650600228229401496703205376 ∧ n ≤ 1000000000 ∧ ∀ (d : Int) H', Sx H H' → 0 ≤ d → d < m → BoxAt W true (n + 1) H' v_pot_here → Q (.int d) H'
  | _ => False
def sp0__law_pick (W : Wd) : Sp := fun vs H Q _ => match vs with
  | [v_pot_here, v_many] =>
  ∃ (p o : Addr) (ns : List Int) (l s t m : Int), v_pot_here = .ref p ∧ v_many = .int m ∧ p ≠ o ∧ H p = some (.dK (boxKV true o l s t)) ∧ H o = some (.lst (ns.map V.int)) ∧ (∀ x ∈ ns, 0 ≤ x) ∧ 0 ≤ l ∧ 0 ≤ s ∧ s < 2305843009213693952 ∧ 0 ≤ t ∧ t ≤ 1000000000 ∧ 0 < m ∧ m < 1267650600228229401496703205376 ∧
    ∀ (d t' l' : Int) (ms : List Int) H', (∀ b u, b ≠ p → b ≠ o → H b = some u → H' b = some u) → H' p = some (.dK (boxKV true o l' s t')) → 0 ≤ l' → H' o = some (.lst (ms.map V.int)) → (∀ x ∈ ms, 0 ≤ x) → 0 ≤ t' → t' ≤ t + 1 → 0 ≤ d → d < m → Q (.int d) H'
  | _ => False
abbrev N__law_pick : List Str := ["_law_pot_here", "_law_many", "_law_digit", "_law_turn", "_law_mixed"]
theorem sc__law_pick : FnScope N__law_pick ["_law_pot_here", "_law_many"] (defScope s__law_pick) := ⟨rfl, rfl, rfl, by decide +kernel, rfl, by decide +kernel, by decide +kernel⟩
theorem f__law_pick {W : Wd} {mg : Str → Option Value} {base : Heap} (B : Bi mg) {f : Addr} {fd : FuncData} (F : Fun W.K "_law_pick" "_law_pick" s__law_pick f fd)  : FnOk W.P W.w W.K mg base CX0 1 f fd ["_law_pot_here", "_law_many"] (sp__law_pick W) := by
  have nd := sc__law_pick.nd
  have F0 : FnOk W.P W.w W.K mg base CX0 1 f fd ["_law_pot_here", "_law_many"] (sp0__law_pick W) := by
    refine F.ok sc__law_pick (fun vs H Q E h => ?_) (fun cdv A outer s H vs Q E hr h => ?_)
    · match vs, h with | [_, _], _ => rfl
    · match vs, h with
      | [v_pot_here, v_many], h =>
        change sp0__law_pick W [v_pot_here, v_many] H Q E at h
        refine ⟨tSeq (tIfS (tAnd (tTest (tOp (rEqU W.K) (tDGet (tVar 0) (tC (.str "left"))) (tC (.int 0)))) (tTest (tOp (rNeU W.K) (tDGet (tVar 0) (tC (.str "own"))) (tLst (tNil))))) (tAsg (tBM W.K "list" rPopAt (tDGet (tVar 0) (tC (.str "own"))) (tCons (tC (.int 0)) (tNil))) (gSub (tVar 0) (tC (.str "left")) rSetU)) (tNext)) (tSeq (tIfS (tTest (tOp (rGtU) (tDGet (tVar 0) (tC (.str "left"))) (tC (.int 0)))) (tSeq (tAsg (tOp (rModU) (tDGet (tVar 0) (tC (.str "left"))) (tVar 1)) (gName 2)) (tSeq (tAsg (tOp (rDivU) (tDGet (tVar 0) (tC (.str "left"))) (tVar 1)) (gSub (tVar 0) (tC (.str "left")) rSetU)) (tRet (tVar 2)))) (tNext)) (tSeq (tAsg (tOp (rAddN W.K) (tDGet (tVar 0) (tC (.str "turn"))) (tC (.int 1))) (gSub (tVar 0) (tC (.str "turn")) rSetU)) (tSeq (tAsg (tDGet (tVar 0) (tC (.str "turn"))) (gName 3)) (tSeq (tAsg (tOp (rAddN W.K) (tOp (rAddN W.K) (tDGet (tVar 0) (tC (.str "seed"))) (tOp (rMulN W.K) (tOp (rMulN W.K) (tVar 3) (tVar 3)) (tC (.int 65537)))) (tOp (rMulN W.K) (tVar 3) (tC (.int 7919)))) (gName 4)) (tSeq (tAsg (tOp (rModU) (tOp (rMulN W.K) (tVar 4) (tC (.int 48271))) (tC (.int 2305843009213693921))) (gName 4)) (tSeq (tAsg (tOp (rModU) (tOp (rMulN W.K) (tVar 4) (tOp (rAddN W.K) (tOp (rModU) (tVar 4) (tC (.int 1000003))) (tC (.int 69621)))) (tC (.int 2305843009213693907))) (gName 4)) (tRet (tOp (rModU) (tOp (rDivU) (tVar 4) (tC (.int 65537))) (tVar 1))))))))), pss_cons (ps_if (PW.pt (pw_and (pt_cmpR (u_eq hr.units) (pe_dgetU hr.units (pv 0) (pe_str) (fun _ _ => rfl)) (pe_int) (nomark _)) (pw_and1 (pt_cmpR (u_ne hr.units) (pe_dgetU hr.units (pv 0) (pe_str) (fun _ _ => rfl)) (pe_lst (pa_nil)) (nomark _))))) (pss_one (ps_asg (pe_bm PySem.F.plainAttrs_list PySem.F.slot_list_pop PySem.F.type_list_pop mt_popAt (pe_dgetU hr.units (pv 0) (pe_str) (fun _ _ => rfl)) (pa_cons (pe_int) (pa_nil))) (pg_sub (pv 0) (pe_str) (u_set hr.units)))) (pss_nil)) (pss_cons (ps_if (pt_cmpR u_gt (pe_dgetU hr.units (pv 0) (pe_str) (fun _ _ => rfl)) (pe_int) (nomark _)) (pss_cons (ps_set (i := 2) nd rfl (.inl rfl) (pe_op u_mod (pe_dgetU hr.units (pv 0) (pe_str) (fun _ _ => rfl)) (pv 1))) (pss_cons (ps_asg (pe_op u_div (pe_dgetU hr.units (pv 0) (pe_str) (fun _ _ => rfl)) (pv 1)) (pg_sub (pv 0) (pe_str) (u_set hr.units))) (pss_one (ps_ret (pv 2))))) (pss_nil)) (pss_cons (ps_asg (pe_op u_addN (pe_dgetU hr.units (pv 0) (pe_str) (fun _ _ => rfl)) (pe_int)) (pg_sub (pv 0) (pe_str) (u_set hr.units))) (pss_cons (ps_set (i := 3) nd rfl (.inl rfl) (pe_dgetU hr.units (pv 0) (pe_str) (fun _ _ => rfl))) (pss_cons (ps_set (i := 4) nd rfl (.inl rfl) (pe_op u_addN (pe_op u_addN (pe_dgetU hr.units (pv 0) (pe_str) (fun _ _ => rfl)) (pe_op u_mulN (pe_op u_mulN (pv 3) (pv 3)) (pe_int))) (pe_op u_mulN (pv 3) (pe_int)))) (pss_cons (ps_set (i := 4) nd rfl (.inl rfl) (pe_op u_mod (pe_op u_mulN (pv 4) (pe_int)) (pe_int))) (pss_cons (ps_set (i := 4) nd rfl (.inl rfl) (pe_op u_mod (pe_op u_mulN (pv 4) (pe_op u_addN (pe_op u_mod (pv 4) (pe_int)) (pe_int))) (pe_int))) (pss_one (ps_ret (pe_op u_mod (pe_op u_div (pv 4) (pe_int)) (pv 1)))))))))), ?_⟩
        clear hr
        rw [show L2.start N__law_pick [v_pot_here, v_many] = [some v_pot_here, some v_many, none, none, none] from rfl]
        obtain ⟨p, o, ns, l, s, t, m, rfl, rfl, hpo, hp, ho, hn, l0, s0, s1, t0, t1, m0, m1, q⟩ := h
        walk_at "Zp"
        refine w_cut (fun σ' H' => (∃ y2 y3 y4, σ' = [some (.ref p), some (.int m), y2, y3, y4]) ∧ (∀ b u, b ≠ p → b ≠ o → H b = some u → H' b = some u) ∧ ∃ (l' : Int) (ms : List Int), H' p = some (.dK (boxKV true o l' s t)) ∧ 0 ≤ l' ∧ H' o = some (.lst (ms.map V.int)) ∧ ∀ x ∈ ms, 0 ≤ x) (fun σ' H1 h => ?_) (fun nx' hnx => ?_)
        · obtain ⟨⟨y2, y3, y4, rfl⟩, hk1, l', ms, hp1, l0', ho1, hn1⟩ := h
          walk_at "Zs"
          refine w_dgs hp1 rfl ?_
          walk_at "Zs"
          refine w_dec (fun hl => ?_) (fun hl => ?_)
          · walk_at "Zs"
            refine w_dgs hp1 rfl ?_
            walk_at "Zs"
            refine w_dgs hp1 rfl ?_
            walk_at "Zs"
            refine w_dputs hp1 (show 4 < 1000 by decide) ?_
            walk_at "Zs"
            refine q _ t (l' / m) ms _ (fun b u b1 b2 e => ?_) (by rw [upd_same]; rfl) (Int.ediv_nonneg l0' (by omega)) ?_ hn1 t0 (by omega) (Int.emod_nonneg _ (by omega)) (Int.emod_lt_of_pos _ m0)
            · rw [upd_ne b1]
              exact hk1 b u b1 b2 e
            · rw [upd_ne (Ne.symm hpo)]
              exact ho1
          · walk_at "Zs"
            refine w_dgs hp1 rfl ?_
            walk_at "Zs"
            refine w_dputs hp1 (show 4 < 1000 by decide) ?_
            have hp3 : upd H1 p (.dK (putK (boxKV true o l' s t) (.inr "turn") (.int (t + 1)))) p = some (.dK (boxKV true o l' s (t + 1))) := by
              rw [upd_same]
              rfl
            have ho3 : upd H1 p (.dK (putK (boxKV true o l' s t) (.inr "turn") (.int (t + 1)))) o = some (.lst (ms.map V.int)) := by
              rw [upd_ne (Ne.symm hpo)]
              exact ho1
            have hk3 : ∀ b u, b ≠ p → b ≠ o → H b = some u → upd H1 p (.dK (putK (boxKV true o l' s t) (.inr "turn") (.int (t + 1)))) b = some u := fun b u b1 b2 e => by
              rw [upd_ne b1]
              exact hk1 b u b1 b2 e
            generalize upd H1 p (.dK (putK (boxKV true o l' s t) (.inr "turn") (.int (t + 1)))) = H3 at hp3 ho3 hk3
            walk_at "Zs"
            refine w_dgs hp3 rfl ?_
            walk_at "Zs"
            refine w_dgs hp3 rfl ?_
            walk_at "Zs"
            exact q _ (t + 1) l' ms _ hk3 hp3 l0' ho3 hn1 (by omega) (by omega) (Int.emod_nonneg _ (by omega)) (Int.emod_lt_of_pos _ m0)
        walk_at "Zs"
        refine w_dgs hp rfl ?_
        walk_at "Zs"
        refine w_dec (fun hl => ?_) (fun hl => ?_)
        · walk_at "Zs"
          refine w_dgs hp rfl ?_
          walk_at "Zs"
          rename_i q2 H2 nq2 e2 h2
          refine w_neNil (ns := ns) (SqL.of (e2 _ _ ho)) (SqL.of h2) ?_
          have hp2 := e2 _ _ hp
          have ho2 := e2 _ _ ho
          cases ns with
          | nil =>
            walk_at "Zs"
            exact hnx _ _ ⟨⟨_, _, _, rfl⟩, fun b u _ _ e => e2 _ _ e, l, [], hp2, l0, ho2, hn⟩
          | cons y r =>
            walk_at "Zs"
            refine w_dgs hp2 rfl ?_
            refine w_tyL ho2 ?_
            walk_at "Zs"
            refine w_pop0 ho2 ?_
            have hp3 : upd H2 o (.lst (r.map V.int)) p = some (.dK (boxKV true o l s t)) := by
              rw [upd_ne hpo]
              exact hp2
            walk_at "Zs"
            refine w_dputs hp3 (show 4 < 1000 by decide) ?_
            walk_at "Zs"
            refine hnx _ _ ⟨⟨_, _, _, rfl⟩, fun b u b1 b2 e => ?_, y, r, (by rw [upd_same]; rfl), hn y List.mem_cons_self, ?_, fun x hx => hn x (List.mem_cons_of_mem _ hx)⟩
            · rw [upd_ne b1, upd_ne b2]
              exact e2 _ _ e
            · rw [upd_ne (Ne.symm hpo), upd_same]
        · walk_at "Zs"
          exact hnx _ _ ⟨⟨_, _, _, rfl⟩, fun b u _ _ e => e, l, ns, hp, l0, ho, hn⟩
  refine fn_view2 F0 (fun vs H Q E h => ?_) fun vs H Q E h => ?_
  · match vs, h with | [_, _], _ => rfl
  · match vs, h with
    | [v1, v2], h =>
      obtain ⟨m, n, ⟨p, o, k, rfl, hpo, hk, hp, ho⟩, rfl, m0, m1, n1, q⟩ := h
      refine ⟨p, o, BoxU true o k, OwnU, BoxU true o (k + 1), OwnU, hpo, box_flat, own_flat, hp, ho, fun u u2 hu hu2 => ?_⟩
      obtain ⟨l, s, t, rfl, l0, s0, s1, t0, t1⟩ := hu
      obtain ⟨ns, rfl, hn⟩ := hu2
      have hp1 : upd (upd H p (.dK (boxKV true o l s t))) o (.lst (ns.map V.int)) p = some (.dK (boxKV true o l s t)) := by rw [upd_ne hpo, upd_same]
      refine ⟨p, o, ns, l, s, t, m, rfl, rfl, hpo, hp1, upd_same, hn, l0, s0, s1, t0, by omega, m0, m1, fun d t' l' ms H' hkeep hp' l0' ho' hm t0' t1' d0 d1 => ?_⟩
      refine ⟨_, _, ⟨l', s, t', rfl, l0', s0, s1, t0', by omega⟩, ⟨ms, rfl, hm⟩, hp', ho', ?_⟩
      have n1 : upd (upd H' p (vw W (BoxU true o (k + 1)) p)) o (vw W OwnU o) p = some (vw W (BoxU true o (k + 1)) p) := by rw [upd_ne hpo, upd_same]
      refine q d _ ⟨fun b u e hne => ?_, fun b u e => ?_⟩ d0 d1 ⟨p, o, k + 1, rfl, hpo, by omega, n1, upd_same⟩
      · have b1 : b ≠ p := fun z => by
          rw [z, hp] at e
          cases e
          cases hne
        have b2 : b ≠ o := fun z => by
          rw [z, ho] at e
          cases e
          cases hne
        rw [upd_ne b2, upd_ne b1]
        refine hkeep b u b1 b2 ?_
        rw [upd_ne b2, upd_ne b1]
        exact e
      · by_cases b2 : b = o
        · rw [b2]
          exact ⟨_, upd_same⟩
        · by_cases b1 : b = p
          · rw [b1]
            exact ⟨_, n1⟩
          · refine ⟨u, ?_⟩
            rw [upd_ne b2, upd_ne b1]
            refine hkeep b u b1 b2 ?_
            rw [upd_ne b2, upd_ne b1]
            exact e
theorem c__law_pick {W : Wd} {mg : Str → Option Value} {base : Heap} (B : Bi mg) (S : Src W.K mg "_law_pick" s__law_pick)  : Cal W mg base "_law_pick" 1 ["_law_pot_here", "_law_many"] (sp__law_pick W) := by
  obtain ⟨f, fd, g, F⟩ := S
  exact ⟨f, fd, g, f__law_pick B F , F.kp, (F.binds (ps := ["_law_pot_here", "_law_many"]) fun _ _ _ _ _ _ us hl => match us, hl with | [_, _], _ => rfl)⟩
theorem go__law_pick {W : Wd} {H : Hp} {Q : VK} {E : XK} {v : V} {m n : Int} (hb : BoxAt W true n H v) (m0 : 0 < m) (m1 : m < 1267650600228229401496703205376) (hn : n ≤ 1000000000) (q : ∀ (d : Int) H', Sx H H' → 0 ≤ d → d < m → BoxAt W true (n + 1) H' v → Q (.int d) H') : sp__law_pick W [v, .int m] H Q E := ⟨m, n, hb, rfl, m0, m1, hn, q⟩
local macro_rules | `(tactic| walk_at "Zc") => `(tactic| ((with_reducible refine' go__law_pick ?hp ?h0 ?h1 ?hn ?_); (case hp => walk_at "Zbox"); (case h0 => walk_at "Znum"); (case h1 => walk_at "Znum"); (case hn => walk_at "Znum"); intro d H' e h0 h1 hb))
def sp__law_kind (W : Wd) : Sp := fun vs H Q _ => match vs with
  | [v_pot_here, v_place, v_breadth] =>
  ∃ (pl : Nat) (b n : Int), BoxAt W true n H v_pot_here ∧ v_place = .int pl ∧ pl ≤ 11 ∧ v_breadth = .int b ∧ 1 ≤ b ∧ b ≤ 40 ∧ n ≤ 999999900 ∧ ∀ (k : Kd) v H', Sx H H' → BoxAt W true (n + 10) H' v_pot_here → Dq W.K H' v (kdD k) → OkKd pl b k → Q v H'
  | _ => False
abbrev N__law_kind : List Str := ["_law_pot_here", "_law_place", "_law_breadth", "_law_power", "_law_way", "_law_odd", "_law_first", "_law_many", "_law_k"]
theorem sc__law_kind : FnScope N__law_kind ["_law_pot_here", "_law_place", "_law_breadth"] (defScope s__law_kind) := ⟨rfl, rfl, rfl, by decide +kernel, rfl, by decide +kernel, by decide +kernel⟩
theorem f__law_kind {W : Wd} {mg : Str → Option Value} {base : Heap} (B : Bi mg) {f : Addr} {fd : FuncData} (F : Fun W.K "_law_kind" "_law_kind" s__law_kind f fd) (C__law_pick : Cal W mg base "_law_pick" 1 ["_law_pot_here", "_law_many"] (sp__law_pick W)) : FnOk W.P W.w W.K mg base CX0 2 f fd ["_law_pot_here", "_law_place", "_law_breadth"] (sp__law_kind W) := by
  obtain ⟨a__law_pick, d__law_pick, g__law_pick, F__law_pick, k__law_pick, b__law_pick⟩ := C__law_pick
  have nd := sc__law_kind.nd
  have F0 : FnOk W.P W.w W.K mg base CX0 2 f fd ["_law_pot_here", "_law_place", "_law_breadth"] (sp__law_kind W) := by
    refine F.ok sc__law_kind (fun vs H Q E h => ?_) (fun cdv A outer s H vs Q E hr h => ?_)
    · match vs, h with | [_, _, _], _ => rfl
    · match vs, h with
      | [v_pot_here, v_place, v_breadth], h =>
        change sp__law_kind W [v_pot_here, v_place, v_breadth] H Q E at h
        refine ⟨tSeq (tAsg (tOp (rShlU) (tC (.int 1)) (tVar 2)) (gName 3)) (tSeq (tAsg (tCall (sp__law_pick W) [] E0 (tCons (tVar 0) (tCons (tC (.int 8)) (tNil)))) (gName 4)) (tSeq (tIfS (tTest (tOp (rLtU W.K) (tVar 4) (tC (.int 3)))) (tRet (tTupN (tCons (tC (.str "step")) (tCons (tOp (rIxU W.K) (tLst (tCons (tCall (sp__law_pick W) [] E0 (tCons (tVar 0) (tCons (tCB (rMin2) (tCons (tVar 3) (tCons (tC (.int 9)) (tNil)))) (tNil)))) (tCons (tCall (sp__law_pick W) [] E0 (tCons (tVar 0) (tCons (tVar 3) (tNil)))) (tNil)))) (tCall (sp__law_pick W) [] E0 (tCons (tVar 0) (tCons (tC (.int 2)) (tNil))))) (tNil))))) (tNext)) (tSeq (tIfS (tTest (tOp (rEqU W.K) (tVar 4) (tC (.int 3)))) (tSeq (tAsg (tOp (rAddN W.K) (tC (.int 1)) (tOp (rMulN W.K) (tC (.int 2)) (tCall (sp__law_pick W) [] E0 (tCons (tVar 0) (tCons (tC (.int 20)) (tNil)))))) (gName 5)) (tSeq (tAsg (tCall (sp__law_pick W) [] E0 (tCons (tVar 0) (tCons (tVar 3) (tNil)))) (gName 6)) (tSeq (tAsg (tCB (rMin2) (tCons (tVar 3) (tCons (tOp (rAddN W.K) (tC (.int 2)) (tCall (sp__law_pick W) [] E0 (tCons (tVar 0) (tCons (tC (.int 11)) (tNil))))) (tNil)))) (gName 7)) (tRet (tTupN (tCons (tC (.str "turn")) (tCons (tCB (rTupleOfN W.K) (tCons (tLc (iRng1 (tCons (tVar 7) (tNil))) (gName 8) (tYes) (tOp (rModU) (tOp (rAddN W.K) (tVar 6) (tOp (rMulN W.K) (tVar 8) (tVar 5))) (tVar 3)) [8]) (tNil))) (tNil)))))))) (tNext)) (tSeq (tIfS (tAnd (tTest (tOp (rLtU W.K) (tVar 4) (tC (.int 6)))) (tTest (tOp (rGtU) (tVar 1) (tC (.int 0))))) (tRet (tTupN (tCons (tC (.str "with")) (tCons (tCall (sp__law_pick W) [] E0 (tCons (tVar 0) (tCons (tVar 1) (tNil)))) (tCons (tOp (rIxU W.K) (tLst (tCons (tC (.int 1)) (tCons (tOp (rSubU) (tCall (sp__law_pick W) [] E0 (tCons (tVar 0) (tCons (tC (.int 199)) (tNil)))) (tC (.int 99))) (tNil)))) (tCall (sp__law_pick W) [] E0 (tCons (tVar 0) (tCons (tC (.int 2)) (tNil))))) (tNil)))))) (tNext)) (tRet (tOp (rIxU W.K) (tLst (tCons (tTupN (tCons (tC (.str "still")) (tNil))) (tCons (tTupN (tCons (tC (.str "drawn")) (tNil))) (tNil)))) (tCall (sp__law_pick W) [] E0 (tCons (tVar 0) (tCons (tC (.int 2)) (tNil)))))))))), pss_cons (ps_set (i := 3) nd rfl (.inr rfl) (pe_op u_shl (pe_int) (pv 2))) (pss_cons (ps_set (i := 4) nd rfl (.inl rfl) (pe_call F__law_pick (hr.mono (by decide)) (by rfl) g__law_pick k__law_pick b__law_pick .nil pass0 (pa_cons (pv 0) (pa_cons (pe_int) (pa_nil))))) (pss_cons (ps_if (pt_cmpR u_lt (pv 4) (pe_int) (nomark _)) (pss_one (ps_ret (pe_tupN (pa_cons (pe_str) (pa_cons (pe_ix u_ix (pe_lst (pa_cons (pe_call F__law_pick (hr.mono (by decide)) (by rfl) g__law_pick k__law_pick b__law_pick .nil pass0 (pa_cons (pv 0) (pa_cons (pe_callB (call_min2 rfl) (by rfl) B.b_min (by decide +kernel) (pa_cons (pv 3) (pa_cons (pe_int) (pa_nil)))) (pa_nil)))) (pa_cons (pe_call F__law_pick (hr.mono (by decide)) (by rfl) g__law_pick k__law_pick b__law_pick .nil pass0 (pa_cons (pv 0) (pa_cons (pv 3) (pa_nil)))) (pa_nil)))) (pe_call F__law_pick (hr.mono (by decide)) (by rfl) g__law_pick k__law_pick b__law_pick .nil pass0 (pa_cons (pv 0) (pa_cons (pe_int) (pa_nil)))) (fun _ _ => rfl)) (pa_nil)))))) (pss_nil)) (pss_cons (ps_if (pt_cmpR (u_eq hr.units) (pv 4) (pe_int) (nomark _)) (pss_cons (ps_set (i := 5) nd rfl (.inr rfl) (pe_op u_addN (pe_int) (pe_op u_mulN (pe_int) (pe_call F__law_pick (hr.mono (by decide)) (by rfl) g__law_pick k__law_pick b__law_pick .nil pass0 (pa_cons (pv 0) (pa_cons (pe_int) (pa_nil))))))) (pss_cons (ps_set (i := 6) nd rfl (.inr rfl) (pe_call F__law_pick (hr.mono (by decide)) (by rfl) g__law_pick k__law_pick b__law_pick .nil pass0 (pa_cons (pv 0) (pa_cons (pv 3) (pa_nil))))) (pss_cons (ps_set (i := 7) nd rfl (.inl rfl) (pe_callB (call_min2 rfl) (by rfl) B.b_min (by decide +kernel) (pa_cons (pv 3) (pa_cons (pe_op u_addN (pe_int) (pe_call F__law_pick (hr.mono (by decide)) (by rfl) g__law_pick k__law_pick b__law_pick .nil pass0 (pa_cons (pv 0) (pa_cons (pe_int) (pa_nil))))) (pa_nil))))) (pss_one (ps_ret (pe_tupN (pa_cons (pe_str) (pa_cons (pe_callTy call_tuple_ofN (by rfl) B.b_tuple (by decide +kernel) (pa_cons (pe_lc (own := [("_law_k", 8)]) rfl nd (pi_range1 (by rfl) B.b_range (pa_cons (pv 7) (pa_nil))) (blkOk_by (own := [("_law_k", 8)]) (N := N__law_kind) (sc := defScope s__law_kind) (by decide +kernel)) (fun _ _ _ _ _ => pg_name (i := 8) nd rfl (by first | exact Or.inl rfl | exact Or.inr rfl)) (fun _ _ _ _ _ => pts_nil) (fun _ _ _ _ _ => pe_op u_mod (pe_op u_addN (pv 6) (pe_op u_mulN (pv 8) (pv 5))) (pv 3))) (pa_nil))) (pa_nil))))))))) (pss_nil)) (pss_cons (ps_if (PW.pt (pw_and (pt_cmpR u_lt (pv 4) (pe_int) (nomark _)) (pw_and1 (pt_cmpR u_gt (pv 1) (pe_int) (nomark _))))) (pss_one (ps_ret (pe_tupN (pa_cons (pe_str) (pa_cons (pe_call F__law_pick (hr.mono (by decide)) (by rfl) g__law_pick k__law_pick b__law_pick .nil pass0 (pa_cons (pv 0) (pa_cons (pv 1) (pa_nil)))) (pa_cons (pe_ix u_ix (pe_lst (pa_cons (pe_int) (pa_cons (pe_op u_sub (pe_call F__law_pick (hr.mono (by decide)) (by rfl) g__law_pick k__law_pick b__law_pick .nil pass0 (pa_cons (pv 0) (pa_cons (pe_int) (pa_nil)))) (pe_int)) (pa_nil)))) (pe_call F__law_pick (hr.mono (by decide)) (by rfl) g__law_pick k__law_pick b__law_pick .nil pass0 (pa_cons (pv 0) (pa_cons (pe_int) (pa_nil)))) (fun _ _ => rfl)) (pa_nil))))))) (pss_nil)) (pss_one (ps_ret (pe_ix u_ix (pe_lst (pa_cons (pe_tupN (pa_cons (pe_str) (pa_nil))) (pa_cons (pe_tupN (pa_cons (pe_str) (pa_nil))) (pa_nil)))) (pe_call F__law_pick (hr.mono (by decide)) (by rfl) g__law_pick k__law_pick b__law_pick .nil pass0 (pa_cons (pv 0) (pa_cons (pe_int) (pa_nil)))) (fun _ _ => rfl)))))))), ?_⟩
        clear hr
        clear F__law_pick g__law_pick k__law_pick b__law_pick d__law_pick a__law_pick
        rw [show L2.start N__law_kind [v_pot_here, v_place, v_breadth] = [some v_pot_here, some v_place, some v_breadth, none, none, none, none, none, none] from rfl]
        obtain ⟨pl, b, n, hp, rfl, hpl, rfl, hb0, hb1, hn, q⟩ := h
        have pb := p2_pos b
        have pb2 : 2 ≤ p2 b := p2_le (m := 1) hb0
        have pbl : p2 b < 1267650600228229401496703205376 := Int.lt_of_le_of_lt (p2_le (show b ≤ 40 by omega)) (by decide +kernel)
        walk_at "Zs"
        rename_i way G1 f1 h1 h1' b1
        refine w_dec (fun c1 => ?_) (fun c1 => ?_)
        · walk_at "Zs"
          have hm : 0 < (if 9 < p2 b then 9 else p2 b) ∧ (if 9 < p2 b then 9 else p2 b) ≤ p2 b := by split <;> omega
          generalize (if 9 < p2 b then 9 else p2 b) = m at hm
          walk_at "Zs"
          tbr_iter (fun n => 0 ≤ n ∧ n < p2 b)
          intro x hx
          rename_i b9
          walk_at "Zs"
          rename_i p5 G5 np5 f5 h5
          refine q (.step x) _ _ ?_ (box_mono f5 (box_le (by omega) b9)) (dq_new h5 (dqs_two (.str _) (.int x))) hx
          walk_at "Zkx"
        · walk_at "Zs"
          refine w_dec (fun c2 => ?_) (fun c2 => ?_)
          · walk_at "Zs"
            rename_i d2 G2 f2 h2 h2' b2 fst G3 f3 h3 h3' b3 d4 G4 f4 h4 h4' b4
            have hm : 2 ≤ (if 2 + d4 < p2 b then 2 + d4 else p2 b) ∧ (if 2 + d4 < p2 b then 2 + d4 else p2 b) ≤ p2 b ∧ (if 2 + d4 < p2 b then 2 + d4 else p2 b) ≤ 12 := by split <;> omega
            generalize (if 2 + d4 < p2 b then 2 + d4 else p2 b) = m at hm
            walk_at "Zs"
            refine lcR (n := m.toNat) (fun i acc _ => ∃ ns : List Int, acc = ns.map V.int ∧ ns.length = i ∧ ns.Nodup ∧ ∀ n ∈ ns, ∃ j : Int, 0 ≤ j ∧ j < i ∧ n = (fst + (1 + 2 * d2) * j) % p2 b) stb_pure (by omega) (fun i acc _ h => ?_) (fun _ _ => ⟨[], rfl, rfl, .nil, fun _ h => nomatch h⟩) (fun i acc H' hi e6 ea k k' hk hk' => ?_) fun D acc H6 hD e6 hD' ea => ?_
            · obtain ⟨ns, rfl, h, _⟩ := h
              rw [List.length_map, h]
              exact Nat.le_refl _
            · obtain ⟨ns, rfl, hl, hn', hj⟩ := ea
              walk_at "Zs"
              rw [Int.mul_comm]
              refine hk _ _ (Same.refl _) ⟨ns ++ [_], by rw [List.map_append]; rfl, by rw [List.length_append, hl]; rfl, ?_, fun n hn2 => ?_⟩
              · rw [List.nodup_append]
                refine ⟨hn', by simp, fun y hy w hw e => ?_⟩
                rw [List.mem_singleton.mp hw] at e
                obtain ⟨j, j0, j1, ej⟩ := hj y hy
                rw [ej] at e
                exact turn_neF (by omega) j0 j1 (by omega) e
              · rcases List.mem_append.mp hn2 with hn2 | hn2
                · obtain ⟨j, j0, j1, ej⟩ := hj n hn2
                  exact ⟨j, j0, by omega, ej⟩
                · rw [List.mem_singleton.mp hn2]
                  exact ⟨i, by omega, by omega, rfl⟩
            · obtain ⟨ns, rfl, hl, hn', hj⟩ := ea
              walk_at "Zs"
              refine w_tupleN (SqL.of hD') fun p H7 np e7 hT => ?_
              walk_at "Zs"
              rename_i p8 G8 np8 f8 h8
              refine q (.turn ns) _ _ ?_ (box_mono (e6.trans (e7.trans f8)) (box_le (by omega) b4)) (dq_new h8 (dqs_two (.str _) (dq_mono f8 (dq_ofN hT)))) ⟨by omega, by omega, fun n hn2 => ?_, hn'⟩
              · walk_at "Zkx"
              · obtain ⟨j, _, _, rfl⟩ := hj n hn2
                exact ⟨Int.emod_nonneg _ (by omega), Int.emod_lt_of_pos _ pb⟩
          · walk_at "Zs"
            refine w_dec (fun c3 => ?_) (fun c3 => ?_)
            · walk_at "Zs"
              refine w_dec (fun c4 => ?_) (fun c4 => ?_)
              · walk_at "Zs"
                rename_i pp G5 f5 h5 h5' b5 y6 G6 f6 h6 h6' b6 p7 G7 np7 f7 h7 y8 G8 f8 h8 h8' b8
                tbr_iter (fun n => -99 ≤ n ∧ n ≤ 99)
                intro x hx
                walk_at "Zs"
                rename_i p9 G9 np9 f9 h9
                refine q (.wth pp x) _ _ ?_ (box_mono f9 (box_le (by omega) b8)) (dq_new h9 (.cons (.str _) (dqs_two (.int _) (.int x)))) ⟨h5, h5', hx⟩
                walk_at "Zkx"
              · walk_at "Zs"
                rename_i p2 G2 np2 f2 h2 p3 G3 np3 f3 h3 p4 G4 np4 f4 h4 d G5 f5 d0 d1 b5
                rcases (show d = 0 ∨ d = 1 by omega) with rfl | rfl
                · refine w_ixl (SqL.of (f5.keep _ _ h4 rfl)) rfl ?_
                  refine q .still _ _ ?_ (box_le (by omega) b5) (dqx f5 (dq_mono (f3.trans f4) (dq_new h2 (dqs_one (.str _))))) trivial
                  walk_at "Zkx"
                · refine w_ixl (SqL.of (f5.keep _ _ h4 rfl)) rfl ?_
                  refine q .drawn _ _ ?_ (box_le (by omega) b5) (dqx f5 (dq_mono f4 (dq_new h3 (dqs_one (.str _))))) trivial
                  walk_at "Zkx"
            · walk_at "Zs"
              rename_i p2 G2 np2 f2 h2 p3 G3 np3 f3 h3 p4 G4 np4 f4 h4 d G5 f5 d0 d1 b5
              rcases (show d = 0 ∨ d = 1 by omega) with rfl | rfl
              · refine w_ixl (SqL.of (f5.keep _ _ h4 rfl)) rfl ?_
                refine q .still _ _ ?_ (box_le (by omega) b5) (dqx f5 (dq_mono (f3.trans f4) (dq_new h2 (dqs_one (.str _))))) trivial
                walk_at "Zkx"
              · refine w_ixl (SqL.of (f5.keep _ _ h4 rfl)) rfl ?_
                refine q .drawn _ _ ?_ (box_le (by omega) b5) (dqx f5 (dq_mono f4 (dq_new h3 (dqs_one (.str _))))) trivial
                walk_at "Zkx"
  exact F0
theorem c__law_kind {W : Wd} {mg : Str → Option Value} {base : Heap} (B : Bi mg) (S : Src W.K mg "_law_kind" s__law_kind) (C__law_pick : Cal W mg base "_law_pick" 1 ["_law_pot_here", "_law_many"] (sp__law_pick W)) : Cal W mg base "_law_kind" 2 ["_law_pot_here", "_law_place", "_law_breadth"] (sp__law_kind W) := by
  obtain ⟨f, fd, g, F⟩ := S
  exact ⟨f, fd, g, f__law_kind B F C__law_pick, F.kp, (F.binds (ps := ["_law_pot_here", "_law_place", "_law_breadth"]) fun _ _ _ _ _ _ us hl => match us, hl with | [_, _, _], _ => rfl)⟩
theorem go__law_kind {W : Wd} {H : Hp} {Q : VK} {E : XK} {v : V} {pl : Nat} {b n : Int} (hp : BoxAt W true n H v) (hpl : pl ≤ 11) (h0 : 1 ≤ b) (h1 : b ≤ 40) (hn : n ≤ 999999900) (q : ∀ (k : Kd) u H', Sx H H' → BoxAt W true (n + 10) H' v → Dq W.K H' u (kdD k) → OkKd pl b k → Q u H') : sp__law_kind W [v, .int (pl : Int), .int b] H Q E := ⟨pl, b, n, hp, rfl, hpl, rfl, h0, h1, hn, q⟩
theorem af_at : ∀ n : Fin 12, atI (("abcdefghijkl" : Str).cps.toList) ((n.val : Nat) : Int) = some (97 + n.val) := by decide +kernel
theorem nm_mul {c : Nat} {k : Int} (h0 : 97 ≤ c) (h1 : c ≤ 122) (k0 : 1 ≤ k) (k1 : k ≤ 8) : OkNm (Txt.mul ⟨#[c]⟩ k) ∧ (cz (Txt.mul ⟨#[c]⟩ k)).head? = some c := by
  have e : cz (Txt.mul ⟨#[c]⟩ k) = List.replicate k.toNat c := by
    rw [cz_mul]
    show (List.replicate k.toNat [c]).flatten = _
    induction k.toNat with
    | zero => rfl
    | succ n ih => rw [List.replicate_succ, List.flatten_cons, ih, List.replicate_succ]; rfl
  have l : (Txt.mul ⟨#[c]⟩ k).length = k.toNat := by rw [← cz_len, e, List.length_replicate]
  refine ⟨⟨by omega, by omega, fun x hx => ?_⟩, ?_⟩
  · rw [show (Txt.mul ⟨#[c]⟩ k).cps.toList = List.replicate k.toNat c from e] at hx
    rw [List.eq_of_mem_replicate hx]
    exact ⟨h0, h1⟩
  · rw [e]
    obtain ⟨m, hm⟩ : ∃ m, k.toNat = m + 1 := ⟨k.toNat - 1, by omega⟩
    rw [hm]
    rfl
def FdL (j : Nat) (f : Fd) : Prop := OkFd j f ∧ (cz f.nm).head? = some (97 + j)
theorem fdl_nodup {fs : List Fd} (h : ∀ j f, fs[j]? = some f → FdL j f) : (fs.map Fd.nm).Nodup := by
  refine List.pairwise_iff_getElem.mpr fun i j hi hj hij e => ?_
  rw [List.getElem_map, List.getElem_map] at e
  rw [List.length_map] at hi hj
  have a := (h i _ (List.getElem?_eq_getElem hi)).2
  have b := (h j _ (List.getElem?_eq_getElem hj)).2
  rw [e, b] at a
  have z := Option.some.inj a
  omega
theorem fdl_snoc {fs : List Fd} {i : Nat} {f : Fd} (h : ∀ j f, fs[j]? = some f → FdL j f) (hl : fs.length = i) (hf : FdL i f) : ∀ j g, (fs ++ [f])[j]? = some g → FdL j g := fun j g hj => by
  by_cases hj2 : j < fs.length
  · rw [List.getElem?_append_left hj2] at hj
    exact h j g hj
  · rw [List.getElem?_append_right (by omega)] at hj
    have e : j = fs.length := by
      by_cases c : j - fs.length = 0
      · omega
      · rw [List.getElem?_eq_none (by simp; omega)] at hj
        cases hj
    subst e
    rw [Nat.sub_self] at hj
    rw [← Option.some.inj hj, hl]
    exact hf
def sp__law_shape (W : Wd) : Sp := fun vs H Q _ => match vs with
  | [v_pot_here] =>
  ∃ n : Int, BoxAt W true n H v_pot_here ∧ n ≤ 999999000 ∧ ∀ (s : Shp) v H', Sx H H' → BoxAt W true (n + 210) H' v_pot_here → Dq W.K H' v (shD s) → OkShp s → Q v H'
  | _ => False
abbrev N__law_shape : List Str := ["_law_pot_here", "_law_fields", "_law_left", "_law_place", "_law_breadth", "_law_name"]
theorem sc__law_shape : FnScope N__law_shape ["_law_pot_here"] (defScope s__law_shape) := ⟨rfl, rfl, rfl, by decide +kernel, rfl, by decide +kernel, by decide +kernel⟩
theorem f__law_shape {W : Wd} {mg : Str → Option Value} {base : Heap} (B : Bi mg) {f : Addr} {fd : FuncData} (F : Fun W.K "_law_shape" "_law_shape" s__law_shape f fd) (C__law_pick : Cal W mg base "_law_pick" 1 ["_law_pot_here", "_law_many"] (sp__law_pick W)) (C__law_kind : Cal W mg base "_law_kind" 2 ["_law_pot_here", "_law_place", "_law_breadth"] (sp__law_kind W)) : FnOk W.P W.w W.K mg base CX0 3 f fd ["_law_pot_here"] (sp__law_shape W) := by
  obtain ⟨a__law_pick, d__law_pick, g__law_pick, F__law_pick, k__law_pick, b__law_pick⟩ := C__law_pick
  obtain ⟨a__law_kind, d__law_kind, g__law_kind, F__law_kind, k__law_kind, b__law_kind⟩ := C__law_kind
  have nd := sc__law_shape.nd
  have F0 : FnOk W.P W.w W.K mg base CX0 3 f fd ["_law_pot_here"] (sp__law_shape W) := by
    refine F.ok sc__law_shape (fun vs H Q E h => ?_) (fun cdv A outer s H vs Q E hr h => ?_)
    · match vs, h with | [_], _ => rfl
    · match vs, h with
      | [v_pot_here], h =>
        change sp__law_shape W [v_pot_here] H Q E at h
        refine ⟨tSeq (tAsg (tLst (tNil)) (gName 1)) (tSeq (tAsg (tC (.int 90)) (gName 2)) (tSeq (tFor (iRng1 (tCons (tOp (rAddN W.K) (tC (.int 1)) (tCall (sp__law_pick W) [] E0 (tCons (tVar 0) (tCons (tOp (rIxU W.K) (tLst (tCons (tC (.int 2)) (tCons (tC (.int 4)) (tCons (tC (.int 12)) (tNil))))) (tCall (sp__law_pick W) [] E0 (tCons (tVar 0) (tCons (tC (.int 3)) (tNil))))) (tNil))))) (tNil))) (gName 3) (tSeq (tAsg (tOp (rAddN W.K) (tC (.int 1)) (tCall (sp__law_pick W) [] E0 (tCons (tVar 0) (tCons (tIf (tTest (tOp (rGtU) (tVar 2) (tC (.int 0)))) (tOp (rIxU W.K) (tLst (tCons (tC (.int 3)) (tCons (tC (.int 8)) (tCons (tC (.int 40)) (tNil))))) (tCall (sp__law_pick W) [] E0 (tCons (tVar 0) (tCons (tC (.int 3)) (tNil))))) (tC (.int 3))) (tNil))))) (gName 4)) (tSeq (tAsg (tOp (rSubU) (tVar 2) (tVar 4)) (gName 2)) (tSeq (tAsg (tOp (rMulN W.K) (tOp (rIxU W.K) (tC (.str "abcdefghijkl")) (tVar 3)) (tOp (rAddN W.K) (tC (.int 1)) (tCall (sp__law_pick W) [] E0 (tCons (tVar 0) (tCons (tC (.int 8)) (tNil)))))) (gName 5)) (tDrop (tBM W.K "list" rAppend (tVar 1) (tCons (tTupN (tCons (tVar 5) (tCons (tVar 4) (tCons (tCall (sp__law_kind W) [] E0 (tCons (tVar 0) (tCons (tVar 3) (tCons (tVar 4) (tNil))))) (tNil))))) (tNil)))))))) (tRet (tTupN (tCons (tCB (rTupleOfN W.K) (tCons (tVar 1) (tNil))) (tCons (tOp (rIxU W.K) (tLst (tCons (tC (.int 1)) (tCons (tC (.int 2)) (tCons (tOp (rCon 10 6 1000000) (tC (.int 10)) (tC (.int 6))) (tCons (tOp (rAddN W.K) (tC (.int 1)) (tCall (sp__law_pick W) [] E0 (tCons (tVar 0) (tCons (tC (.int 300)) (tNil))))) (tNil)))))) (tCall (sp__law_pick W) [] E0 (tCons (tVar 0) (tCons (tC (.int 4)) (tNil))))) (tNil))))))), pss_cons (ps_set (i := 1) nd rfl (.inl rfl) (pe_lst (pa_nil))) (pss_cons (ps_set (i := 2) nd rfl (.inl rfl) (pe_int)) (pss_cons (ps_for PassesOwn.never rfl (pi_range1 (by rfl) B.b_range (pa_cons (pe_op u_addN (pe_int) (pe_call F__law_pick (hr.mono (by decide)) (by rfl) g__law_pick k__law_pick b__law_pick .nil pass0 (pa_cons (pv 0) (pa_cons (pe_ix u_ix (pe_lst (pa_cons (pe_int) (pa_cons (pe_int) (pa_cons (pe_int) (pa_nil))))) (pe_call F__law_pick (hr.mono (by decide)) (by rfl) g__law_pick k__law_pick b__law_pick .nil pass0 (pa_cons (pv 0) (pa_cons (pe_int) (pa_nil)))) (fun _ _ => rfl)) (pa_nil))))) (pa_nil))) (pg_name (i := 3) nd rfl (by first | exact Or.inl rfl | exact Or.inr rfl)) (pss_cons (ps_set (i := 4) nd rfl (.inl rfl) (pe_op u_addN (pe_int) (pe_call F__law_pick (hr.mono (by decide)) (by rfl) g__law_pick k__law_pick b__law_pick .nil pass0 (pa_cons (pv 0) (pa_cons (pe_ifExp (pt_cmpR u_gt (pv 2) (pe_int) (nomark _)) (pe_ix u_ix (pe_lst (pa_cons (pe_int) (pa_cons (pe_int) (pa_cons (pe_int) (pa_nil))))) (pe_call F__law_pick (hr.mono (by decide)) (by rfl) g__law_pick k__law_pick b__law_pick .nil pass0 (pa_cons (pv 0) (pa_cons (pe_int) (pa_nil)))) (fun _ _ => rfl)) (pe_int)) (pa_nil)))))) (pss_cons (ps_set (i := 2) nd rfl (.inl rfl) (pe_op u_sub (pv 2) (pv 4))) (pss_cons (ps_set (i := 5) nd rfl (.inl rfl) (pe_op u_mulN (pe_ix u_ix (pe_str) (pv 3) (fun _ _ => rfl)) (pe_op u_addN (pe_int) (pe_call F__law_pick (hr.mono (by decide)) (by rfl) g__law_pick k__law_pick b__law_pick .nil pass0 (pa_cons (pv 0) (pa_cons (pe_int) (pa_nil))))))) (pss_one (ps_expr (pe_bm PySem.F.plainAttrs_list PySem.F.slot_list_append PySem.F.type_list_append mt_append (pv 1) (pa_cons (pe_tupN (pa_cons (pv 5) (pa_cons (pv 4) (pa_cons (pe_call F__law_kind (hr.mono (by decide)) (by rfl) g__law_kind k__law_kind b__law_kind .nil pass0 (pa_cons (pv 0) (pa_cons (pv 3) (pa_cons (pv 4) (pa_nil))))) (pa_nil))))) (pa_nil))))))))) (pss_one (ps_ret (pe_tupN (pa_cons (pe_callTy call_tuple_ofN (by rfl) B.b_tuple (by decide +kernel) (pa_cons (pv 1) (pa_nil))) (pa_cons (pe_ix u_ix (pe_lst (pa_cons (pe_int) (pa_cons (pe_int) (pa_cons (pe_op (u_powc ⟨by decide, by decide, by decide⟩ (by decide +kernel)) pe_int pe_int) (pa_cons (pe_op u_addN (pe_int) (pe_call F__law_pick (hr.mono (by decide)) (by rfl) g__law_pick k__law_pick b__law_pick .nil pass0 (pa_cons (pv 0) (pa_cons (pe_int) (pa_nil))))) (pa_nil)))))) (pe_call F__law_pick (hr.mono (by decide)) (by rfl) g__law_pick k__law_pick b__law_pick .nil pass0 (pa_cons (pv 0) (pa_cons (pe_int) (pa_nil)))) (fun _ _ => rfl)) (pa_nil)))))))), ?_⟩
        clear hr
        clear F__law_pick g__law_pick k__law_pick b__law_pick d__law_pick a__law_pick
        clear F__law_kind g__law_kind k__law_kind b__law_kind d__law_kind a__law_kind
        rw [show L2.start N__law_shape [v_pot_here] = [some v_pot_here, none, none, none, none, none] from rfl]
        obtain ⟨n, hp, hn, q⟩ := h
        walk_at "Zs"
        rename_i D G1 nD f1 hD1 p2 G2 np2 f2 h2 d3 G3 f3 h3 h3' b3
        tbr_iter (fun n => 2 ≤ n ∧ n ≤ 12)
        intro m0 hm0
        walk_at "Zs"
        rename_i d4 G4 f4 h4 h4' b4
        have S4 : Sx H G4 := by walk_at "Zkx"
        have HD : H D = none := nD
        refine forR0 (fun i σ' H' => (∃ l : Int, ∃ y3 y4 y5, σ' = [some v_pot_here, some (.ref D), some (.int l), y3, y4, y5]) ∧ Sx H H' ∧ BoxAt W true (n + 2 + 16 * (i : Int)) H' v_pot_here ∧ ∃ (fs : List Fd) (vs : List V), H' D = some (.lst vs) ∧ DqAll W.K H' vs (fs.map fdD) ∧ fs.length = i ∧ ∀ j f, fs[j]? = some f → FdL j f) ⟨⟨90, _, _, _, rfl⟩, S4, box_le (by omega) b4, [], [], (f4.keep _ _ (f3.keep _ _ (f2 _ _ hD1) rfl) rfl), .nil, rfl, fun j f h => by simp at h⟩ (fun i σ' H1 hi h => ?_) (fun σ' H1 h => ?_)
        · obtain ⟨⟨l, y3, y4, y5, rfl⟩, S1, b1, fs, vs, hD, hvs, hfl, hok⟩ := h
          walk_at "Zs"
          refine w_dec (fun cl => ?_) (fun cl => ?_)
          · walk_at "Zs"
            tbr_iter (fun n => 3 ≤ n ∧ n ≤ 40)
            intro x hx
            walk_at "Zs"
            rename_i dB GB fB hB0 hB1 bB0
            have e1 : Sx H1 GB := by walk_at "Zkx"
            have bB : BoxAt W true (n + 5 + 16 * (i : Int)) GB v_pot_here := box_le (by omega) bB0
            obtain ⟨br, ebr⟩ : ∃ br, 1 + dB = br := ⟨_, rfl⟩
            have hbr : 1 ≤ br ∧ br ≤ 40 := by omega
            rw [ebr]
            clear ebr hB0 hB1
            walk_at "Zs"
            refine w_ixs (by decide) (af_at ⟨i, by omega⟩) ?_
            walk_at "Zs"
            rename_i dk GC fC hC hC' bC
            have hnm := nm_mul (c := 97 + i) (k := 1 + dk) (by omega) (by omega) (by omega) (by omega)
            refine w_mulNs (mul_ok (by omega) (by omega) (show (1 : Nat) ≤ 8 by decide)) ?_
            walk_at "Zs"
            refine w_tyL (fC.keep _ _ (e1.keep _ _ hD rfl) rfl) ?_
            walk_at "Zs"
            refine go__law_kind bC (by omega) hbr.1 hbr.2 (by omega) fun k kv GD fD bD hkd hk => ?_
            walk_at "Zs"
            rename_i pA GA npA fA hA
            have zA : Sx H1 GA := by walk_at "Zkx"
            have hDA := zA.keep _ _ hD rfl
            have lv := dqs_len hvs
            rw [List.length_map] at lv
            refine w_append hDA (by omega) ?_
            walk_at "Zs"
            have hf : Dq W.K GA (.ref pA) (fdD ⟨Txt.mul ⟨#[97 + i]⟩ (1 + dk), br, k⟩) := dq_new hA (.cons (.str _) (dqs_two (.int br) (dq_mono fA hkd)))
            refine ⟨⟨_, _, _, _, rfl⟩, sx_mut (S1.trans zA) HD, box_lst (box_mono fA (box_le (by omega) bD)) hDA, fs ++ [⟨Txt.mul ⟨#[97 + i]⟩ (1 + dk), br, k⟩], vs ++ [.ref pA], upd_same, ?_, by rw [List.length_append, hfl]; rfl, fdl_snoc hok hfl ⟨⟨hnm.1, hbr.1, hbr.2, hk⟩, hnm.2⟩⟩
            rw [List.map_append]
            refine dqs_lst hDA (dqs_app (dqsx zA hvs) (dqs_one hf)) ?_
            rw [← List.map_append]
            exact tupO_fds _
          · walk_at "Zs"
            rename_i dB GB fB hB0 hB1 bB0
            have e1 : Sx H1 GB := by walk_at "Zkx"
            have bB : BoxAt W true (n + 5 + 16 * (i : Int)) GB v_pot_here := box_le (by omega) bB0
            obtain ⟨br, ebr⟩ : ∃ br, 1 + dB = br := ⟨_, rfl⟩
            have hbr : 1 ≤ br ∧ br ≤ 40 := by omega
            rw [ebr]
            clear ebr hB0 hB1
            walk_at "Zs"
            refine w_ixs (by decide) (af_at ⟨i, by omega⟩) ?_
            walk_at "Zs"
            rename_i dk GC fC hC hC' bC
            have hnm := nm_mul (c := 97 + i) (k := 1 + dk) (by omega) (by omega) (by omega) (by omega)
            refine w_mulNs (mul_ok (by omega) (by omega) (show (1 : Nat) ≤ 8 by decide)) ?_
            walk_at "Zs"
            refine w_tyL (fC.keep _ _ (e1.keep _ _ hD rfl) rfl) ?_
            walk_at "Zs"
            refine go__law_kind bC (by omega) hbr.1 hbr.2 (by omega) fun k kv GD fD bD hkd hk => ?_
            walk_at "Zs"
            rename_i pA GA npA fA hA
            have zA : Sx H1 GA := by walk_at "Zkx"
            have hDA := zA.keep _ _ hD rfl
            have lv := dqs_len hvs
            rw [List.length_map] at lv
            refine w_append hDA (by omega) ?_
            walk_at "Zs"
            have hf : Dq W.K GA (.ref pA) (fdD ⟨Txt.mul ⟨#[97 + i]⟩ (1 + dk), br, k⟩) := dq_new hA (.cons (.str _) (dqs_two (.int br) (dq_mono fA hkd)))
            refine ⟨⟨_, _, _, _, rfl⟩, sx_mut (S1.trans zA) HD, box_lst (box_mono fA (box_le (by omega) bD)) hDA, fs ++ [⟨Txt.mul ⟨#[97 + i]⟩ (1 + dk), br, k⟩], vs ++ [.ref pA], upd_same, ?_, by rw [List.length_append, hfl]; rfl, fdl_snoc hok hfl ⟨⟨hnm.1, hbr.1, hbr.2, hk⟩, hnm.2⟩⟩
            rw [List.map_append]
            refine dqs_lst hDA (dqs_app (dqsx zA hvs) (dqs_one hf)) ?_
            rw [← List.map_append]
            exact tupO_fds _
        · obtain ⟨⟨l, y3, y4, y5, rfl⟩, S1, b1, fs, vs, hD, hvs, hfl, hok⟩ := h
          walk_at "Zs"
          refine w_tupleN (SqL.of hD) fun p6 G6 np6 f6 h6 => ?_
          walk_at "Zs"
          rename_i d7 G7 f7 h7 h7' b7 p8 G8 np8 f8 h8 d9 G9 f9 h9 h9' b9
          tbr_iter (fun n => 1 ≤ n ∧ n ≤ 1000000)
          intro m2 hm2
          walk_at "Zs"
          rename_i pA GA npA fA hA
          have z6 : Sx G6 GA := by walk_at "Zkx"
          refine q ⟨fs, m2⟩ _ _ ?_ (box_mono fA (box_le (by omega) b9)) (dq_new hA (dqs_two (.tup (sx_n z6 (.inl h6)) (dqsx ((Same.sx f6).trans z6) hvs)) (.int m2))) ⟨?_, ?_, fun j f hj => (hok j f hj).1, fdl_nodup hok, hm2.1, hm2.2⟩
          · walk_at "Zkx"
          · show 1 ≤ fs.length
            omega
          · show fs.length ≤ 12
            omega
  exact F0
theorem c__law_shape {W : Wd} {mg : Str → Option Value} {base : Heap} (B : Bi mg) (S : Src W.K mg "_law_shape" s__law_shape) (C__law_pick : Cal W mg base "_law_pick" 1 ["_law_pot_here", "_law_many"] (sp__law_pick W)) (C__law_kind : Cal W mg base "_law_kind" 2 ["_law_pot_here", "_law_place", "_law_breadth"] (sp__law_kind W)) : Cal W mg base "_law_shape" 3 ["_law_pot_here"] (sp__law_shape W) := by
  obtain ⟨f, fd, g, F⟩ := S
  exact ⟨f, fd, g, f__law_shape B F C__law_pick C__law_kind, F.kp, (F.binds (ps := ["_law_pot_here"]) fun _ _ _ _ _ _ us hl => match us, hl with | [_], _ => rfl)⟩
theorem go__law_shape {W : Wd} {H : Hp} {Q : VK} {E : XK} {v : V} {n : Int} (hp : BoxAt W true n H v) (hn : n ≤ 999999000) (q : ∀ (s : Shp) u H', Sx H H' → BoxAt W true (n + 210) H' v → Dq W.K H' u (shD s) → OkShp s → Q u H') : sp__law_shape W [v] H Q E := ⟨n, hp, hn, q⟩
theorem turn_get {b : Int} {pl : Nat} {ns : List Int} {i : Nat} {n : Int} (h : OkKd pl b (.turn ns)) (e : ns[i]? = some n) : 0 ≤ n ∧ n < p2 b := h.2.2.1 n (List.mem_of_getElem? e)
def sp__law_value (W : Wd) : Sp := fun vs H Q _ => match vs with
  | [v_pot_here, v_field] =>
  ∃ (n : Int) (pl : Nat) (f : Fd), BoxAt W true n H v_pot_here ∧ n ≤ 999999900 ∧ Dq W.K H v_field (fdD f) ∧ OkFd pl f ∧ ∀ (x : Int) H', Sx H H' → BoxAt W true (n + 5) H' v_pot_here → 0 ≤ x → x < p2 f.br → Q (.int x) H'
  | _ => False
abbrev N__law_value : List Str := ["_law_pot_here", "_law_field", "_law_name", "_law_breadth", "_law_kind_here", "_law_power"]
theorem sc__law_value : FnScope N__law_value ["_law_pot_here", "_law_field"] (defScope s__law_value) := ⟨rfl, rfl, rfl, by decide +kernel, rfl, by decide +kernel, by decide +kernel⟩
theorem f__law_value {W : Wd} {mg : Str → Option Value} {base : Heap} (B : Bi mg) {f : Addr} {fd : FuncData} (F : Fun W.K "_law_value" "_law_value" s__law_value f fd) (C__law_pick : Cal W mg base "_law_pick" 1 ["_law_pot_here", "_law_many"] (sp__law_pick W)) : FnOk W.P W.w W.K mg base CX0 2 f fd ["_law_pot_here", "_law_field"] (sp__law_value W) := by
  obtain ⟨a__law_pick, d__law_pick, g__law_pick, F__law_pick, k__law_pick, b__law_pick⟩ := C__law_pick
  have nd := sc__law_value.nd
  have F0 : FnOk W.P W.w W.K mg base CX0 2 f fd ["_law_pot_here", "_law_field"] (sp__law_value W) := by
    refine F.ok sc__law_value (fun vs H Q E h => ?_) (fun cdv A outer s H vs Q E hr h => ?_)
    · match vs, h with | [_, _], _ => rfl
    · match vs, h with
      | [v_pot_here, v_field], h =>
        change sp__law_value W [v_pot_here, v_field] H Q E at h
        refine ⟨tSeq (tAsg (tVar 1) (gTup W.K 3 (gCons (gName 2) (gCons (gName 3) (gCons (gName 4) (gNil)))))) (tSeq (tAsg (tOp (rShlU) (tC (.int 1)) (tVar 3)) (gName 5)) (tSeq (tIfS (tAnd (tTest (tOp (rEqU W.K) (tOp (rIxU W.K) (tVar 4) (tC (.int 0))) (tC (.str "turn")))) (tTest (tOp (rGtU) (tCall (sp__law_pick W) [] E0 (tCons (tVar 0) (tCons (tC (.int 3)) (tNil)))) (tC (.int 0))))) (tRet (tOp (rIxU W.K) (tOp (rIxU W.K) (tVar 4) (tC (.int 1))) (tCall (sp__law_pick W) [] E0 (tCons (tVar 0) (tCons (tCB (rLenU W.K) (tCons (tOp (rIxU W.K) (tVar 4) (tC (.int 1))) (tNil))) (tNil)))))) (tNext)) (tRet (tOp (rIxU W.K) (tLst (tCons (tC (.int 0)) (tCons (tOp (rSubU) (tVar 5) (tC (.int 1))) (tCons (tCall (sp__law_pick W) [] E0 (tCons (tVar 0) (tCons (tVar 5) (tNil)))) (tCons (tCall (sp__law_pick W) [] E0 (tCons (tVar 0) (tCons (tCB (rMin2) (tCons (tVar 5) (tCons (tC (.int 5)) (tNil)))) (tNil)))) (tNil)))))) (tCall (sp__law_pick W) [] E0 (tCons (tVar 0) (tCons (tC (.int 4)) (tNil)))))))), pss_cons (ps_asg (pv 1) (pg_tup rfl (pgs_cons (pg_name (i := 2) nd rfl (by first | exact Or.inl rfl | exact Or.inr rfl)) (pgs_cons (pg_name (i := 3) nd rfl (by first | exact Or.inl rfl | exact Or.inr rfl)) (pgs_cons (pg_name (i := 4) nd rfl (by first | exact Or.inl rfl | exact Or.inr rfl)) (pgs_nil)))))) (pss_cons (ps_set (i := 5) nd rfl (.inl rfl) (pe_op u_shl (pe_int) (pv 3))) (pss_cons (ps_if (PW.pt (pw_and (pt_cmpR (u_eq hr.units) (pe_ix u_ix (pv 4) (pe_int) (fun _ _ => rfl)) (pe_str) (nomark _)) (pw_and1 (pt_cmpR u_gt (pe_call F__law_pick (hr.mono (by decide)) (by rfl) g__law_pick k__law_pick b__law_pick .nil pass0 (pa_cons (pv 0) (pa_cons (pe_int) (pa_nil)))) (pe_int) (nomark _))))) (pss_one (ps_ret (pe_ix u_ix (pe_ix u_ix (pv 4) (pe_int) (fun _ _ => rfl)) (pe_call F__law_pick (hr.mono (by decide)) (by rfl) g__law_pick k__law_pick b__law_pick .nil pass0 (pa_cons (pv 0) (pa_cons (pe_callB u_len (by rfl) B.b_len (by decide +kernel) (pa_cons (pe_ix u_ix (pv 4) (pe_int) (fun _ _ => rfl)) (pa_nil))) (pa_nil)))) (fun _ _ => rfl)))) (pss_nil)) (pss_one (ps_ret (pe_ix u_ix (pe_lst (pa_cons (pe_int) (pa_cons (pe_op u_sub (pv 5) (pe_int)) (pa_cons (pe_call F__law_pick (hr.mono (by decide)) (by rfl) g__law_pick k__law_pick b__law_pick .nil pass0 (pa_cons (pv 0) (pa_cons (pv 5) (pa_nil)))) (pa_cons (pe_call F__law_pick (hr.mono (by decide)) (by rfl) g__law_pick k__law_pick b__law_pick .nil pass0 (pa_cons (pv 0) (pa_cons (pe_callB (call_min2 rfl) (by rfl) B.b_min (by decide +kernel) (pa_cons (pv 5) (pa_cons (pe_int) (pa_nil)))) (pa_nil)))) (pa_nil)))))) (pe_call F__law_pick (hr.mono (by decide)) (by rfl) g__law_pick k__law_pick b__law_pick .nil pass0 (pa_cons (pv 0) (pa_cons (pe_int) (pa_nil)))) (fun _ _ => rfl)))))), ?_⟩
        clear hr
        clear F__law_pick g__law_pick k__law_pick b__law_pick d__law_pick a__law_pick
        rw [show L2.start N__law_value [v_pot_here, v_field] = [some v_pot_here, some v_field, none, none, none, none] from rfl]
        obtain ⟨n, pl, f, hp, hn, hf, ok, q⟩ := h
        have b0 := ok.b0
        have b1 := ok.b1
        have pb := p2_pos f.br
        have pb2 : 2 ≤ p2 f.br := p2_le (m := 1) b0
        have pbl : p2 f.br < 1267650600228229401496703205376 := Int.lt_of_le_of_lt (p2_le (show f.br ≤ 40 by omega)) (by decide +kernel)
        obtain ⟨a, xs, rfl, hxs, hds⟩ := dq_tt hf
        cases hds with
        | cons g0 hds =>
          rename_i x0 xs0
          cases hds with
          | cons g1 hds =>
            rename_i x1 xs1
            cases hds with
            | cons g2 hds =>
              rename_i x2 xs2
              cases hds
              obtain rfl := dq_int g1
              walk_at "Zp"
              refine w_cut (fun σ' H' => σ' = [some v_pot_here, some (.ref a), some x0, some (.int f.br), some x2, some (.int (p2 f.br))] ∧ Sx H H' ∧ BoxAt W true (n + 1) H' v_pot_here) (fun σ' H1 h => ?_) (fun nx' hnx => ?_)
              · obtain ⟨rfl, e1, b1⟩ := h
                walk_at "Zs"
                rename_i y1 G1 f1 c1 c1' bb1
                tbr_iter (fun n => 0 ≤ n ∧ n < p2 f.br)
                intro x hx
                refine q x _ ?_ (box_le (by omega) bb1) hx.1 hx.2
                walk_at "Zkx"
              walk_at "Zs"
              cases hkd : f.kd with
              | turn ns =>
                have okk := ok.kd
                rw [hkd] at g2 okk
                refine w_ixQTs g2 rfl ?_
                walk_at "Zs"
                rename_i y1 G1 f1 c1 c1' bb1
                refine w_dec (fun hc => ?_) (fun hc => ?_)
                · walk_at "Zs"
                  have g3 := dqx f1 g2
                  refine w_ixQT g3 (d := .tuple (ns.map .int)) rfl fun x4 h4 => ?_
                  walk_at "Zs"
                  refine w_ixQT g3 (d := .tuple (ns.map .int)) rfl fun x5 h5 => ?_
                  have ln := okk.1
                  have ln2 := okk.2.1
                  walk_at "Zs"
                  rename_i y6 G6 f6 c6 c6' b6
                  refine w_ixMi (dqx f6 h4) c6 c6' fun m hm => ?_
                  have z := turn_get okk hm
                  refine q m _ ?_ (box_le (by omega) b6) z.1 z.2
                  walk_at "Zkx"
                · walk_at "Zs"
                  exact hnx _ _ ⟨rfl, f1, bb1⟩
              | still =>
                rw [hkd] at g2
                refine w_ixQTs g2 rfl ?_
                walk_at "Zs"
                exact hnx _ _ ⟨rfl, Sx.refl _, box_le (by omega) hp⟩
              | drawn =>
                rw [hkd] at g2
                refine w_ixQTs g2 rfl ?_
                walk_at "Zs"
                exact hnx _ _ ⟨rfl, Sx.refl _, box_le (by omega) hp⟩
              | step k =>
                rw [hkd] at g2
                refine w_ixQTs g2 rfl ?_
                walk_at "Zs"
                exact hnx _ _ ⟨rfl, Sx.refl _, box_le (by omega) hp⟩
              | wth k z =>
                rw [hkd] at g2
                refine w_ixQTs g2 rfl ?_
                walk_at "Zs"
                exact hnx _ _ ⟨rfl, Sx.refl _, box_le (by omega) hp⟩
  exact F0
theorem c__law_value {W : Wd} {mg : Str → Option Value} {base : Heap} (B : Bi mg) (S : Src W.K mg "_law_value" s__law_value) (C__law_pick : Cal W mg base "_law_pick" 1 ["_law_pot_here", "_law_many"] (sp__law_pick W)) : Cal W mg base "_law_value" 2 ["_law_pot_here", "_law_field"] (sp__law_value W) := by
  obtain ⟨f, fd, g, F⟩ := S
  exact ⟨f, fd, g, f__law_value B F C__law_pick, F.kp, (F.binds (ps := ["_law_pot_here", "_law_field"]) fun _ _ _ _ _ _ us hl => match us, hl with | [_, _], _ => rfl)⟩
theorem go__law_value {W : Wd} {H : Hp} {Q : VK} {E : XK} {v y : V} {n : Int} {pl : Nat} {f : Fd} (hp : BoxAt W true n H v) (hn : n ≤ 999999900) (hf : Dq W.K H y (fdD f)) (ok : OkFd pl f) (q : ∀ (x : Int) H', Sx H H' → BoxAt W true (n + 5) H' v → 0 ≤ x → x < p2 f.br → Q (.int x) H') : sp__law_value W [v, y] H Q E := ⟨n, pl, f, hp, hn, hf, ok, q⟩
def sp__law_head (W : Wd) : Sp := fun vs H Q _ => match vs with
  | [v_pot_here, v_shape_here] =>
  ∃ (n : Int) (s : Shp), BoxAt W true n H v_pot_here ∧ n ≤ 999999000 ∧ Dq W.K H v_shape_here (shD s) ∧ OkShp s ∧ ∀ (hd : List Int) v H', Sx H H' → BoxAt W true (n + 70) H' v_pot_here → Dq W.K H' v (.tuple (hd.map .int)) → OkHead s.fs hd → Q v H'
  | _ => False
abbrev N__law_head : List Str := ["_law_pot_here", "_law_shape_here", "_law_field"]
theorem sc__law_head : FnScope N__law_head ["_law_pot_here", "_law_shape_here"] (defScope s__law_head) := ⟨rfl, rfl, rfl, by decide +kernel, rfl, by decide +kernel, by decide +kernel⟩
theorem f__law_head {W : Wd} {mg : Str → Option Value} {base : Heap} (B : Bi mg) {f : Addr} {fd : FuncData} (F : Fun W.K "_law_head" "_law_head" s__law_head f fd) (C__law_value : Cal W mg base "_law_value" 2 ["_law_pot_here", "_law_field"] (sp__law_value W)) : FnOk W.P W.w W.K mg base CX0 3 f fd ["_law_pot_here", "_law_shape_here"] (sp__law_head W) := by
  obtain ⟨a__law_value, d__law_value, g__law_value, F__law_value, k__law_value, b__law_value⟩ := C__law_value
  have nd := sc__law_head.nd
  have F0 : FnOk W.P W.w W.K mg base CX0 3 f fd ["_law_pot_here", "_law_shape_here"] (sp__law_head W) := by
    refine F.ok sc__law_head (fun vs H Q E h => ?_) (fun cdv A outer s H vs Q E hr h => ?_)
    · match vs, h with | [_, _], _ => rfl
    · match vs, h with
      | [v_pot_here, v_shape_here], h =>
        change sp__law_head W [v_pot_here, v_shape_here] H Q E at h
        refine ⟨tRet (tCB (rTupleOfN W.K) (tCons (tLc (iAny W.K (tOp (rIxU W.K) (tVar 1) (tC (.int 0)))) (gName 2) (tYes) (tCall (sp__law_value W) [] E0 (tCons (tVar 0) (tCons (tVar 2) (tNil)))) [2]) (tNil))), pss_one (ps_ret (pe_callTy call_tuple_ofN (by rfl) B.b_tuple (by decide +kernel) (pa_cons (pe_lc (own := [("_law_field", 2)]) rfl nd (pi_any (pe_ix u_ix (pv 1) (pe_int) (fun _ _ => rfl))) (blkOk_by (own := [("_law_field", 2)]) (N := N__law_head) (sc := defScope s__law_head) (by decide +kernel)) (fun _ _ _ _ _ => pg_name (i := 2) nd rfl (by first | exact Or.inl rfl | exact Or.inr rfl)) (fun _ _ _ _ _ => pts_nil) (fun _ _ _ _ _ => pe_call F__law_value (hr.mono (by decide)) (by rfl) g__law_value k__law_value b__law_value .nil pass0 (pa_cons (pv 0) (pa_cons (pv 2) (pa_nil))))) (pa_nil)))), ?_⟩
        clear hr
        clear F__law_value g__law_value k__law_value b__law_value d__law_value a__law_value
        rw [show L2.start N__law_head [v_pot_here, v_shape_here] = [some v_pot_here, some v_shape_here, none] from rfl]
        obtain ⟨n, s, hp, hn, hs, ok, q⟩ := h
        have l1 := ok.l1
        walk_at "Zs"
        refine w_ixQT hs (d := .tuple (s.fs.map fdD)) rfl fun x1 h1 => ?_
        walk_at "Zs"
        obtain ⟨a, xs, rfl, hxs, hds⟩ := dq_tt h1
        have hxl := dqs_len hds
        rw [List.length_map] at hxl
        refine w_goT hxs.t ?_
        refine lcTX hxs.t (fun j acc H' => BoxAt W true (n + 5 * (j : Int)) H' v_pot_here ∧ ∃ hd : List Int, acc = hd.map V.int ∧ hd.length = j ∧ OkHead (s.fs.take j) hd) (fun j acc H' D xs ys hD h => ⟨box_lst h.1 hD, h.2⟩) (by omega) (fun j acc H' h => ?_) (fun H' e => ⟨box_le (by omega) (box_mono e hp), [], rfl, rfl, trivial⟩) (fun j x acc H' hx e1 ea k k' hk hk' => ?_) fun D acc H2 hD e2 hD' ea => ?_
        · obtain ⟨_, hd, rfl, h, _⟩ := h
          rw [List.length_map, h]
          exact Nat.le_refl _
        · obtain ⟨b1, hd, rfl, lh, oh⟩ := ea
          obtain ⟨df, hdf, hxd⟩ := dqs_get2 hds hx
          obtain ⟨f, hf, rfl⟩ := map_at hdf
          have okf := ok.fd j f hf
          have hj := (List.getElem?_eq_some_iff.mp hf).1
          walk_at "Zs"
          refine go__law_value b1 (by omega) (dqx e1 hxd) okf fun m H3 e3 b3 m0 m1 => ?_
          refine hk _ _ e3 ⟨box_le (by omega) b3, hd ++ [m], by rw [List.map_append]; rfl, by rw [List.length_append, lh]; rfl, ?_⟩
          rw [List.take_add_one, hf]
          exact okHead_snoc oh m0 m1
        · obtain ⟨b2, hd, rfl, lh, oh⟩ := ea
          rw [List.take_of_length_le (by omega)] at oh
          walk_at "Zs"
          refine w_tupleN (SqL.of hD') fun p H3 np e3 hT => ?_
          exact q hd _ _ (e2.trans (Same.sx e3)) (box_mono e3 (box_le (by omega) b2)) (dq_ofN hT) oh
  exact F0
theorem c__law_head {W : Wd} {mg : Str → Option Value} {base : Heap} (B : Bi mg) (S : Src W.K mg "_law_head" s__law_head) (C__law_value : Cal W mg base "_law_value" 2 ["_law_pot_here", "_law_field"] (sp__law_value W)) : Cal W mg base "_law_head" 3 ["_law_pot_here", "_law_shape_here"] (sp__law_head W) := by
  obtain ⟨f, fd, g, F⟩ := S
  exact ⟨f, fd, g, f__law_head B F C__law_value, F.kp, (F.binds (ps := ["_law_pot_here", "_law_shape_here"]) fun _ _ _ _ _ _ us hl => match us, hl with | [_, _], _ => rfl)⟩
theorem go__law_head {W : Wd} {H : Hp} {Q : VK} {E : XK} {v y : V} {n : Int} {s : Shp} (hp : BoxAt W true n H v) (hn : n ≤ 999999000) (hs : Dq W.K H y (shD s)) (ok : OkShp s) (q : ∀ (hd : List Int) u H', Sx H H' → BoxAt W true (n + 70) H' v → Dq W.K H' u (.tuple (hd.map .int)) → OkHead s.fs hd → Q u H') : sp__law_head W [v, y] H Q E := ⟨n, s, hp, hn, hs, ok, q⟩
def sp__law_expected (W : Wd) : Sp := fun vs H Q _ => match vs with
  | [v_shape_here, v_place, v_former, v_ahead, v_more] =>
  ∃ (s : Shp) (p : Nat) (f : Fd) (fo ah : List Int) (v m : Int), Dq W.K H v_shape_here (shD s) ∧ OkShp s ∧ v_place = .int p ∧ s.fs[p]? = some f ∧ Dq W.K H v_former (.tuple (fo.map .int)) ∧ fo.length = s.fs.length ∧ fo[p]? = some v ∧ Dq W.K H v_ahead (.tuple (ah.map .int)) ∧ p ≤ ah.length ∧ v_more = .int m ∧ -1000000 ≤ m ∧ m ≤ 1000000 ∧ ∀ (r : Int) H', Same H H' → ExpK fo ah m v f.kd r → (0 ≤ v → v < p2 f.br → OkFd p f → 0 ≤ r % p2 f.br ∧ r % p2 f.br < p2 f.br) → Q (.int (r % p2 f.br)) H'
  | _ => False
abbrev N__law_expected : List Str := ["_law_shape_here", "_law_place", "_law_former", "_law_ahead", "_law_more", "_law_name", "_law_breadth", "_law_kind_here", "_law_value_here", "_law_far"]
theorem sc__law_expected : FnScope N__law_expected ["_law_shape_here", "_law_place", "_law_former", "_law_ahead", "_law_more"] (defScope s__law_expected) := ⟨rfl, rfl, rfl, by decide +kernel, rfl, by decide +kernel, by decide +kernel⟩
theorem f__law_expected {W : Wd} {mg : Str → Option Value} {base : Heap} (B : Bi mg) {f : Addr} {fd : FuncData} (F : Fun W.K "_law_expected" "_law_expected" s__law_expected f fd)  : FnOk W.P W.w W.K mg base CX0 1 f fd ["_law_shape_here", "_law_place", "_law_former", "_law_ahead", "_law_more"] (sp__law_expected W) := by
  have nd := sc__law_expected.nd
  have F0 : FnOk W.P W.w W.K mg base CX0 1 f fd ["_law_shape_here", "_law_place", "_law_former", "_law_ahead", "_law_more"] (sp__law_expected W) := by
    refine F.ok sc__law_expected (fun vs H Q E h => ?_) (fun cdv A outer s H vs Q E hr h => ?_)
    · match vs, h with | [_, _, _, _, _], _ => rfl
    · match vs, h with
      | [v_shape_here, v_place, v_former, v_ahead, v_more], h =>
        change sp__law_expected W [v_shape_here, v_place, v_former, v_ahead, v_more] H Q E at h
        refine ⟨tSeq (tAsg (tOp (rIxU W.K) (tOp (rIxU W.K) (tVar 0) (tC (.int 0))) (tVar 1)) (gTup W.K 3 (gCons (gName 5) (gCons (gName 6) (gCons (gName 7) (gNil)))))) (tSeq (tAsg (tOp (rIxU W.K) (tVar 2) (tVar 1)) (gName 8)) (tSeq (tIfS (tTest (tOp (rEqU W.K) (tOp (rIxU W.K) (tVar 7) (tC (.int 0))) (tC (.str "step")))) (tAsg (tOp (rAddN W.K) (tVar 8) (tOp (rMulN W.K) (tVar 4) (tOp (rIxU W.K) (tVar 7) (tC (.int 1))))) (gName 8)) (tNext)) (tSeq (tIfS (tAnd (tTest (tOp (rEqU W.K) (tOp (rIxU W.K) (tVar 7) (tC (.int 0))) (tC (.str "turn")))) (tTest (tOp (rInU W.K) (tVar 8) (tOp (rIxU W.K) (tVar 7) (tC (.int 1)))))) (tRet (tOp (rIxU W.K) (tOp (rIxU W.K) (tVar 7) (tC (.int 1))) (tOp (rModU) (tOp (rAddN W.K) (tTM W.K (rIndexT W.K) (tOp (rIxU W.K) (tVar 7) (tC (.int 1))) (tCons (tVar 8) (tNil))) (tVar 4)) (tCB (rLenU W.K) (tCons (tOp (rIxU W.K) (tVar 7) (tC (.int 1))) (tNil)))))) (tNext)) (tSeq (tIfS (tTest (tOp (rEqU W.K) (tOp (rIxU W.K) (tVar 7) (tC (.int 0))) (tC (.str "with")))) (tSeq (tAsg (tOp (rSubU) (tOp (rIxU W.K) (tVar 3) (tOp (rIxU W.K) (tVar 7) (tC (.int 1)))) (tOp (rIxU W.K) (tVar 2) (tOp (rIxU W.K) (tVar 7) (tC (.int 1))))) (gName 9)) (tAsg (tOp (rAddN W.K) (tVar 8) (tOp (rMulN W.K) (tOp (rIxU W.K) (tVar 7) (tC (.int 2))) (tVar 9))) (gName 8))) (tNext)) (tRet (tOp (rModU) (tVar 8) (tOp (rShlU) (tC (.int 1)) (tVar 6)))))))), pss_cons (ps_asg (pe_ix u_ix (pe_ix u_ix (pv 0) (pe_int) (fun _ _ => rfl)) (pv 1) (fun _ _ => rfl)) (pg_tup rfl (pgs_cons (pg_name (i := 5) nd rfl (by first | exact Or.inl rfl | exact Or.inr rfl)) (pgs_cons (pg_name (i := 6) nd rfl (by first | exact Or.inl rfl | exact Or.inr rfl)) (pgs_cons (pg_name (i := 7) nd rfl (by first | exact Or.inl rfl | exact Or.inr rfl)) (pgs_nil)))))) (pss_cons (ps_set (i := 8) nd rfl (.inl rfl) (pe_ix u_ix (pv 2) (pv 1) (fun _ _ => rfl))) (pss_cons (ps_if (pt_cmpR (u_eq hr.units) (pe_ix u_ix (pv 7) (pe_int) (fun _ _ => rfl)) (pe_str) (nomark _)) (pss_one (ps_set (i := 8) nd rfl (.inl rfl) (pe_op u_addN (pv 8) (pe_op u_mulN (pv 4) (pe_ix u_ix (pv 7) (pe_int) (fun _ _ => rfl)))))) (pss_nil)) (pss_cons (ps_if (PW.pt (pw_and (pt_cmpR (u_eq hr.units) (pe_ix u_ix (pv 7) (pe_int) (fun _ _ => rfl)) (pe_str) (nomark _)) (pw_and1 (pt_cmpR (u_in hr.units) (pv 8) (pe_ix u_ix (pv 7) (pe_int) (fun _ _ => rfl)) (by rfl))))) (pss_one (ps_ret (pe_ix u_ix (pe_ix u_ix (pv 7) (pe_int) (fun _ _ => rfl)) (pe_op u_mod (pe_op u_addN (pe_tm PySem.F.slot_tuple_index PySem.F.type_tuple_index mt_indexT (pe_ix u_ix (pv 7) (pe_int) (fun _ _ => rfl)) (pa_cons (pv 8) (pa_nil))) (pv 4)) (pe_callB u_len (by rfl) B.b_len (by decide +kernel) (pa_cons (pe_ix u_ix (pv 7) (pe_int) (fun _ _ => rfl)) (pa_nil)))) (fun _ _ => rfl)))) (pss_nil)) (pss_cons (ps_if (pt_cmpR (u_eq hr.units) (pe_ix u_ix (pv 7) (pe_int) (fun _ _ => rfl)) (pe_str) (nomark _)) (pss_cons (ps_set (i := 9) nd rfl (.inl rfl) (pe_op u_sub (pe_ix u_ix (pv 3) (pe_ix u_ix (pv 7) (pe_int) (fun _ _ => rfl)) (fun _ _ => rfl)) (pe_ix u_ix (pv 2) (pe_ix u_ix (pv 7) (pe_int) (fun _ _ => rfl)) (fun _ _ => rfl)))) (pss_one (ps_set (i := 8) nd rfl (.inl rfl) (pe_op u_addN (pv 8) (pe_op u_mulN (pe_ix u_ix (pv 7) (pe_int) (fun _ _ => rfl)) (pv 9)))))) (pss_nil)) (pss_one (ps_ret (pe_op u_mod (pv 8) (pe_op u_shl (pe_int) (pv 6))))))))), ?_⟩
        clear hr
        rw [show L2.start N__law_expected [v_shape_here, v_place, v_former, v_ahead, v_more] = [some v_shape_here, some v_place, some v_former, some v_ahead, some v_more, none, none, none, none, none] from rfl]
        obtain ⟨s, p, f, fo, ah, v, m, hs, ok, rfl, hf, hfo, lfo, hv, hah, lah, rfl, m0, m1, q⟩ := h
        have okf := ok.fd p f hf
        have b0 := okf.b0
        have b1 := okf.b1
        have pb := p2_pos f.br
        have hlp := (List.getElem?_eq_some_iff.mp hf).1
        have q2 : ∀ (r : Int) H', Same H H' → ExpK fo ah m v f.kd r → Q (.int (r % p2 f.br)) H' := fun r H' e h => q r H' e h fun _ _ _ => ⟨Int.emod_nonneg _ (Int.ne_of_gt pb), Int.emod_lt_of_pos _ pb⟩
        clear q
        walk_at "Zs"
        refine w_ixQT hs (d := .tuple (s.fs.map fdD)) rfl fun x1 h1 => ?_
        walk_at "Zs"
        refine w_ixM h1 (by omega) (by omega) fun f' x2 hf' h2 => ?_
        rw [Int.toNat_natCast, hf] at hf'
        obtain rfl := Option.some.inj hf'
        obtain ⟨a, xs, rfl, hxs, hds⟩ := dq_tt h2
        cases hds with
        | cons g0 hds =>
          rename_i x0 xs0
          cases hds with
          | cons g1 hds =>
            rename_i x1b xs1
            cases hds with
            | cons g2 hds =>
              rename_i x2b xs2
              cases hds
              obtain rfl := dq_int g1
              walk_at "Zs"
              refine w_ixMi hfo (by omega) (by omega) fun v' hv' => ?_
              rw [Int.toNat_natCast, hv] at hv'
              obtain rfl := Option.some.inj hv'
              walk_at "Zs"
              cases hkd : f.kd with
              | still =>
                rw [hkd] at g2 q2
                refine w_ixQTs g2 rfl ?_
                walk_at "Zs"
                refine w_ixQTs g2 rfl ?_
                walk_at "Zs"
                refine w_ixQTs g2 rfl ?_
                walk_at "Zs"
                exact q2 v H (Same.refl _) rfl
              | drawn =>
                rw [hkd] at g2 q2
                refine w_ixQTs g2 rfl ?_
                walk_at "Zs"
                refine w_ixQTs g2 rfl ?_
                walk_at "Zs"
                refine w_ixQTs g2 rfl ?_
                walk_at "Zs"
                exact q2 v H (Same.refl _) rfl
              | step k =>
                rw [hkd] at g2 q2
                refine w_ixQTs g2 rfl ?_
                walk_at "Zs"
                refine w_ixQTi g2 (n := k) rfl ?_
                walk_at "Zs"
                refine w_ixQTs g2 rfl ?_
                walk_at "Zs"
                refine w_ixQTs g2 rfl ?_
                walk_at "Zs"
                exact q2 _ H (Same.refl _) rfl
              | turn ns =>
                have hk := okf.kd
                rw [hkd] at g2 q2 hk
                have lns := hk.1
                refine w_ixQTs g2 rfl ?_
                walk_at "Zs"
                refine w_ixQTs g2 rfl ?_
                walk_at "Zs"
                refine w_ixQT g2 (d := .tuple (ns.map .int)) rfl fun x4 h4 => ?_
                obtain ⟨a4, rfl, ht4⟩ := dq_ti h4
                walk_at "Zs"
                refine w_inT ht4.t ?_
                walk_at "Zs"
                refine w_dec (fun hin => ?_) (fun hin => ?_)
                · walk_at "Zs"
                  refine w_ixQT g2 (d := .tuple (ns.map .int)) rfl fun x5 h5 => ?_
                  walk_at "Zs"
                  refine w_ixQT g2 (d := .tuple (ns.map .int)) rfl fun x6 h6 => ?_
                  obtain ⟨a6, rfl, ht6⟩ := dq_ti h6
                  refine w_tyN ht6 ?_
                  walk_at "Zs"
                  refine w_indexT ht6.t hin ?_
                  walk_at "Zs"
                  refine w_ixQT g2 (d := .tuple (ns.map .int)) rfl fun x7 h7 => ?_
                  walk_at "Zs"
                  have h0' := Int.emod_nonneg (((ns.idxOf v : Nat) : Int) + m) (show ((ns.length : Nat) : Int) ≠ 0 by omega)
                  have h1' := Int.emod_lt_of_pos (((ns.idxOf v : Nat) : Int) + m) (show 0 < ((ns.length : Nat) : Int) by omega)
                  refine w_ixMi h5 h0' h1' fun r er => ?_
                  have hr := hk.2.2.1 r (List.mem_of_getElem? er)
                  have e : r % p2 f.br = r := Int.emod_eq_of_lt hr.1 hr.2
                  rw [← e]
                  exact q2 r H (Same.refl _) ⟨fun z => absurd hin z, fun _ => er⟩
                · walk_at "Zs"
                  refine w_ixQTs g2 rfl ?_
                  walk_at "Zs"
                  exact q2 v H (Same.refl _) ⟨fun _ => rfl, fun z => absurd z hin⟩
              | wth k z =>
                have hk := okf.kd
                rw [hkd] at g2 q2 hk
                obtain ⟨k0, k1, k2, k3⟩ := hk
                refine w_ixQTs g2 rfl ?_
                walk_at "Zs"
                refine w_ixQTs g2 rfl ?_
                walk_at "Zs"
                refine w_ixQTs g2 rfl ?_
                walk_at "Zs"
                refine w_ixQTi g2 (n := k) rfl ?_
                walk_at "Zs"
                refine w_ixMi hah k0 (by omega) fun x hx => ?_
                walk_at "Zs"
                refine w_ixQTi g2 (n := k) rfl ?_
                walk_at "Zs"
                refine w_ixMi hfo k0 (by omega) fun y hy => ?_
                walk_at "Zs"
                refine w_ixQTi g2 (n := z) rfl ?_
                walk_at "Zs"
                exact q2 _ H (Same.refl _) ⟨x, y, hx, hy, rfl⟩
  exact F0
theorem c__law_expected {W : Wd} {mg : Str → Option Value} {base : Heap} (B : Bi mg) (S : Src W.K mg "_law_expected" s__law_expected)  : Cal W mg base "_law_expected" 1 ["_law_shape_here", "_law_place", "_law_former", "_law_ahead", "_law_more"] (sp__law_expected W) := by
  obtain ⟨f, fd, g, F⟩ := S
  exact ⟨f, fd, g, f__law_expected B F , F.kp, (F.binds (ps := ["_law_shape_here", "_law_place", "_law_former", "_law_ahead", "_law_more"]) fun _ _ _ _ _ _ us hl => match us, hl with | [_, _, _, _, _], _ => rfl)⟩
theorem go__law_expected {W : Wd} {H : Hp} {Q : VK} {E : XK} {vs vf va : V} {s : Shp} {p : Nat} {f : Fd} {fo ah : List Int} {v m : Int} (hs : Dq W.K H vs (shD s)) (ok : OkShp s) (hf : s.fs[p]? = some f) (hfo : Dq W.K H vf (.tuple (fo.map .int))) (lfo : fo.length = s.fs.length) (hv : fo[p]? = some v) (hah : Dq W.K H va (.tuple (ah.map .int))) (lah : p ≤ ah.length) (m0 : -1000000 ≤ m) (m1 : m ≤ 1000000) (q : ∀ (r : Int) H', Same H H' → ExpK fo ah m v f.kd r → Q (.int (r % p2 f.br)) H') : sp__law_expected W [vs, .int (p : Int), vf, va, .int m] H Q E :=
  ⟨s, p, f, fo, ah, v, m, hs, ok, rfl, hf, hfo, lfo, hv, hah, lah, rfl, m0, m1, fun r H' e h _ => q r H' e h⟩
def sp__law_gone (W : Wd) : Sp := fun vs H Q _ => match vs with
  | [v_pot_here, v_shape_here, v_former, v_more] =>
  ∃ (n : Int) (s : Shp) (fo : List Int) (m : Int), BoxAt W true n H v_pot_here ∧ n ≤ 999999000 ∧ Dq W.K H v_shape_here (shD s) ∧ OkShp s ∧ Dq W.K H v_former (.tuple (fo.map .int)) ∧ fo.length = s.fs.length ∧ v_more = .int m ∧ -1000000 ≤ m ∧ m ≤ 1000000 ∧ ∀ (hd : List Int) v H', Sx H H' → BoxAt W true (n + 100) H' v_pot_here → Dq W.K H' v (.tuple (hd.map .int)) → OkHead s.fs hd → Q v H'
  | _ => False
abbrev N__law_gone : List Str := ["_law_pot_here", "_law_shape_here", "_law_former", "_law_more", "_law_head_here", "_law_place", "_law_field", "_law_value_here", "_law_way"]
theorem sc__law_gone : FnScope N__law_gone ["_law_pot_here", "_law_shape_here", "_law_former", "_law_more"] (defScope s__law_gone) := ⟨rfl, rfl, rfl, by decide +kernel, rfl, by decide +kernel, by decide +kernel⟩
theorem f__law_gone {W : Wd} {mg : Str → Option Value} {base : Heap} (B : Bi mg) {f : Addr} {fd : FuncData} (F : Fun W.K "_law_gone" "_law_gone" s__law_gone f fd) (C__law_value : Cal W mg base "_law_value" 2 ["_law_pot_here", "_law_field"] (sp__law_value W)) (C__law_pick : Cal W mg base "_law_pick" 1 ["_law_pot_here", "_law_many"] (sp__law_pick W)) (C__law_expected : Cal W mg base "_law_expected" 1 ["_law_shape_here", "_law_place", "_law_former", "_law_ahead", "_law_more"] (sp__law_expected W)) : FnOk W.P W.w W.K mg base CX0 3 f fd ["_law_pot_here", "_law_shape_here", "_law_former", "_law_more"] (sp__law_gone W) := by
  obtain ⟨a__law_value, d__law_value, g__law_value, F__law_value, k__law_value, b__law_value⟩ := C__law_value
  obtain ⟨a__law_pick, d__law_pick, g__law_pick, F__law_pick, k__law_pick, b__law_pick⟩ := C__law_pick
  obtain ⟨a__law_expected, d__law_expected, g__law_expected, F__law_expected, k__law_expected, b__law_expected⟩ := C__law_expected
  have nd := sc__law_gone.nd
  have F0 : FnOk W.P W.w W.K mg base CX0 3 f fd ["_law_pot_here", "_law_shape_here", "_law_former", "_law_more"] (sp__law_gone W) := by
    refine F.ok sc__law_gone (fun vs H Q E h => ?_) (fun cdv A outer s H vs Q E hr h => ?_)
    · match vs, h with | [_, _, _, _], _ => rfl
    · match vs, h with
      | [v_pot_here, v_shape_here, v_former, v_more], h =>
        change sp__law_gone W [v_pot_here, v_shape_here, v_former, v_more] H Q E at h
        refine ⟨tSeq (tAsg (tTupN (tNil)) (gName 4)) (tSeq (tFor (iEnumU W.K (tCons (tOp (rIxU W.K) (tVar 1) (tC (.int 0))) (tNil))) (gTup W.K 2 (gCons (gName 5) (gCons (gName 6) (gNil)))) (tSeq (tAsg (tCall (sp__law_expected W) [] E0 (tCons (tVar 1) (tCons (tVar 5) (tCons (tVar 2) (tCons (tVar 4) (tCons (tVar 3) (tNil))))))) (gName 7)) (tSeq (tAsg (tCall (sp__law_pick W) [] E0 (tCons (tVar 0) (tCons (tC (.int 8)) (tNil)))) (gName 8)) (tSeq (tIfS (tTest (tOp (rEqU W.K) (tVar 8) (tC (.int 5)))) (tAsg (tOp (rSubU) (tOp (rAddN W.K) (tVar 7) (tCall (sp__law_pick W) [] E0 (tCons (tVar 0) (tCons (tC (.int 9)) (tNil))))) (tC (.int 4))) (gName 7)) (tNext)) (tSeq (tIfS (tTest (tOp (rEqU W.K) (tVar 8) (tC (.int 6)))) (tAsg (tCall (sp__law_value W) [] E0 (tCons (tVar 0) (tCons (tVar 6) (tNil)))) (gName 7)) (tNext)) (tAsg (tOp (rAddN W.K) (tVar 4) (tTupN (tCons (tOp (rModU) (tVar 7) (tOp (rShlU) (tC (.int 1)) (tOp (rIxU W.K) (tVar 6) (tC (.int 1))))) (tNil)))) (gName 4))))))) (tRet (tVar 4))), pss_cons (ps_set (i := 4) nd rfl (.inl rfl) (pe_tupN (pa_nil))) (pss_cons (ps_for PassesOwn.never rfl (pi_enumU (by rfl) B.b_enumerate (pa_cons (pe_ix u_ix (pv 1) (pe_int) (fun _ _ => rfl)) (pa_nil))) (pg_tup rfl (pgs_cons (pg_name (i := 5) nd rfl (by first | exact Or.inl rfl | exact Or.inr rfl)) (pgs_cons (pg_name (i := 6) nd rfl (by first | exact Or.inl rfl | exact Or.inr rfl)) (pgs_nil)))) (pss_cons (ps_set (i := 7) nd rfl (.inl rfl) (pe_call F__law_expected (hr.mono (by decide)) (by rfl) g__law_expected k__law_expected b__law_expected .nil pass0 (pa_cons (pv 1) (pa_cons (pv 5) (pa_cons (pv 2) (pa_cons (pv 4) (pa_cons (pv 3) (pa_nil)))))))) (pss_cons (ps_set (i := 8) nd rfl (.inl rfl) (pe_call F__law_pick (hr.mono (by decide)) (by rfl) g__law_pick k__law_pick b__law_pick .nil pass0 (pa_cons (pv 0) (pa_cons (pe_int) (pa_nil))))) (pss_cons (ps_if (pt_cmpR (u_eq hr.units) (pv 8) (pe_int) (nomark _)) (pss_one (ps_set (i := 7) nd rfl (.inl rfl) (pe_op u_sub (pe_op u_addN (pv 7) (pe_call F__law_pick (hr.mono (by decide)) (by rfl) g__law_pick k__law_pick b__law_pick .nil pass0 (pa_cons (pv 0) (pa_cons (pe_int) (pa_nil))))) (pe_int)))) (pss_nil)) (pss_cons (ps_if (pt_cmpR (u_eq hr.units) (pv 8) (pe_int) (nomark _)) (pss_one (ps_set (i := 7) nd rfl (.inl rfl) (pe_call F__law_value (hr.mono (by decide)) (by rfl) g__law_value k__law_value b__law_value .nil pass0 (pa_cons (pv 0) (pa_cons (pv 6) (pa_nil)))))) (pss_nil)) (pss_one (ps_set (i := 4) nd rfl (.inl rfl) (pe_op u_addN (pv 4) (pe_tupN (pa_cons (pe_op u_mod (pv 7) (pe_op u_shl (pe_int) (pe_ix u_ix (pv 6) (pe_int) (fun _ _ => rfl)))) (pa_nil))))))))))) (pss_one (ps_ret (pv 4)))), ?_⟩
        clear hr
        clear F__law_value g__law_value k__law_value b__law_value d__law_value a__law_value
        clear F__law_pick g__law_pick k__law_pick b__law_pick d__law_pick a__law_pick
        clear F__law_expected g__law_expected k__law_expected b__law_expected d__law_expected a__law_expected
        rw [show L2.start N__law_gone [v_pot_here, v_shape_here, v_former, v_more] = [some v_pot_here, some v_shape_here, some v_former, some v_more, none, none, none, none, none] from rfl]
        obtain ⟨n, s, fo, m, hp, hn, hs, ok, hfo, lfo, rfl, m0, m1, q⟩ := h
        have l1 := ok.l1
        walk_at "Zs"
        rename_i p0 G0 np0 f0 g0
        refine w_ixQT (dq_mono f0 hs) (d := .tuple (s.fs.map fdD)) rfl fun x1 h1 => ?_
        walk_at "Zs"
        obtain ⟨a, xs, rfl, hxs, hds⟩ := dq_tt h1
        have hxl := dqs_len hds
        rw [List.length_map] at hxl
        refine w_goET hxs.t ?_
        refine forET2 (xs := xs) (fun i σ' H' => (∃ (v : V) (hd : List Int), (∃ y5 y6 y7 y8, σ' = [some v_pot_here, some v_shape_here, some v_former, some (.int m), some v, y5, y6, y7, y8]) ∧ Dq W.K H' v (.tuple (hd.map .int)) ∧ hd.length = i ∧ OkHead (s.fs.take i) hd) ∧ Sx G0 H' ∧ BoxAt W true (n + 8 * (i : Int)) H' v_pot_here) ⟨⟨.ref p0, [], ⟨_, _, _, _, rfl⟩, dq_ofN (ns := []) g0, rfl, trivial⟩, Sx.refl _, box_le (by omega) (box_mono f0 hp)⟩ (fun i σ' H' h => sx_t h.2.1 hxs.t) (fun i x σ' H1 hx h H2 e2 => ?_) (fun σ' H1 h => ?_)
        · obtain ⟨⟨v, hd, ⟨y5, y6, y7, y8, rfl⟩, hhd, lhd, ohd⟩, e1, b1⟩ := h
          obtain ⟨df, hdf, hxd⟩ := dqs_get2 hds hx
          obtain ⟨f, hf, rfl⟩ := map_at hdf
          have okf := ok.fd i f hf
          have br0 := okf.b0
          have br1 := okf.b1
          have hi := (List.getElem?_eq_some_iff.mp hf).1
          obtain ⟨v0, hv0⟩ : ∃ v0, fo[i]? = some v0 := ⟨_, List.getElem?_eq_getElem (by omega)⟩
          have e12 : Sx G0 H2 := e1.trans (Same.sx e2)
          walk_at "Zs"
          refine go__law_expected (dqx e12 (dq_mono f0 hs)) ok hf (dqx e12 (dq_mono f0 hfo)) lfo hv0 (dq_mono e2 hhd) (by omega) m0 m1 fun r H3 e3 _ => ?_
          walk_at "Zp"
          rename_i way G4 e4 c0 c1 b4
          refine w_cut (fun σ' H' => (∃ w : Int, σ' = [some v_pot_here, some v_shape_here, some v_former, some (.int m), some v, some (.int (i : Int)), some x, some (.int w), some (.int way)]) ∧ Sx G4 H' ∧ BoxAt W true (n + 8 * (i : Int) + 2) H' v_pot_here) (fun σ' H5 h => ?_) (fun nx' hnx => ?_)
          · obtain ⟨⟨w, rfl⟩, e5, b5⟩ := h
            walk_at "Zp"
            refine w_cut (fun σ' H' => (∃ w : Int, σ' = [some v_pot_here, some v_shape_here, some v_former, some (.int m), some v, some (.int (i : Int)), some x, some (.int w), some (.int way)]) ∧ Sx H5 H' ∧ BoxAt W true (n + 8 * (i : Int) + 7) H' v_pot_here) (fun σ' H6 h => ?_) (fun nx' hnx => ?_)
            · obtain ⟨⟨w, rfl⟩, e6, b6⟩ := h
              have z6 : Sx H2 H6 := (Same.sx e3).trans (e4.trans (e5.trans e6))
              have z06 : Sx G0 H6 := e12.trans z6
              walk_at "Zs"
              refine w_ixQTi (dqx z06 hxd) (n := f.br) rfl ?_
              have pb := p2_pos f.br
              walk_at "Zs"
              rename_i p7 G7 np7 f7 g7
              refine w_catQT (dq_mono f7 (dqx z6 (dq_mono e2 hhd))) (dq_ofN (ns := [w % p2 f.br]) g7) (by rw [List.length_map, List.length_map, lhd]; exact Nat.le_trans (m := 100) (by simp only [List.length_cons, List.length_nil]; omega) (by decide)) fun u H8 e8 hu => ?_
              walk_at "Zs"
              rw [← List.map_append] at hu
              refine ⟨⟨u, hd ++ [w % p2 f.br], ⟨_, _, _, _, rfl⟩, hu, by rw [List.length_append, lhd]; rfl, ?_⟩, z06.trans (Same.sx (f7.trans e8)), box_mono (f7.trans e8) (box_le (by omega) b6)⟩
              rw [List.take_add_one, hf]
              exact okHead_snoc ohd (Int.emod_nonneg _ (Int.ne_of_gt pb)) (Int.emod_lt_of_pos _ pb)
            · walk_at "Zs"
              refine w_dec (fun hw => ?_) (fun hw => ?_)
              · walk_at "Zs"
                have z5 : Sx G0 H5 := e12.trans ((Same.sx e3).trans (e4.trans e5))
                refine go__law_value b5 (by omega) (dqx z5 hxd) okf fun y H6 e6 b6 _ _ => ?_
                walk_at "Zs"
                exact hnx _ _ ⟨⟨_, rfl⟩, e6, box_le (by omega) b6⟩
              · walk_at "Zs"
                exact hnx _ _ ⟨⟨_, rfl⟩, Sx.refl _, box_le (by omega) b5⟩
          · walk_at "Zs"
            refine w_dec (fun hw => ?_) (fun hw => ?_)
            · walk_at "Zs"
              rename_i d9 G9 e9 d0 d1 b9
              exact hnx _ _ ⟨⟨_, rfl⟩, e9, box_le (by omega) b9⟩
            · walk_at "Zs"
              exact hnx _ _ ⟨⟨_, rfl⟩, Sx.refl _, box_le (by omega) b4⟩
        · obtain ⟨⟨v, hd, ⟨y5, y6, y7, y8, rfl⟩, hhd, lhd, ohd⟩, e1, b1⟩ := h
          rw [List.take_of_length_le (by omega)] at ohd
          walk_at "Zs"
          exact q hd v _ ((Same.sx f0).trans e1) (box_le (by omega) b1) hhd ohd
  exact F0
theorem c__law_gone {W : Wd} {mg : Str → Option Value} {base : Heap} (B : Bi mg) (S : Src W.K mg "_law_gone" s__law_gone) (C__law_value : Cal W mg base "_law_value" 2 ["_law_pot_here", "_law_field"] (sp__law_value W)) (C__law_pick : Cal W mg base "_law_pick" 1 ["_law_pot_here", "_law_many"] (sp__law_pick W)) (C__law_expected : Cal W mg base "_law_expected" 1 ["_law_shape_here", "_law_place", "_law_former", "_law_ahead", "_law_more"] (sp__law_expected W)) : Cal W mg base "_law_gone" 3 ["_law_pot_here", "_law_shape_here", "_law_former", "_law_more"] (sp__law_gone W) := by
  obtain ⟨f, fd, g, F⟩ := S
  exact ⟨f, fd, g, f__law_gone B F C__law_value C__law_pick C__law_expected, F.kp, (F.binds (ps := ["_law_pot_here", "_law_shape_here", "_law_former", "_law_more"]) fun _ _ _ _ _ _ us hl => match us, hl with | [_, _, _, _], _ => rfl)⟩
theorem go__law_gone {W : Wd} {H : Hp} {Q : VK} {E : XK} {v x y : V} {n : Int} {s : Shp} {fo : List Int} {m : Int} (hp : BoxAt W true n H v) (hn : n ≤ 999999000) (hs : Dq W.K H x (shD s)) (ok : OkShp s) (hfo : Dq W.K H y (.tuple (fo.map .int))) (lfo : fo.length = s.fs.length) (m0 : -1000000 ≤ m) (m1 : m ≤ 1000000) (q : ∀ (hd : List Int) u H', Sx H H' → BoxAt W true (n + 100) H' v → Dq W.K H' u (.tuple (hd.map .int)) → OkHead s.fs hd → Q u H') : sp__law_gone W [v, x, y, .int m] H Q E := ⟨n, s, fo, m, hp, hn, hs, ok, hfo, lfo, rfl, m0, m1, q⟩
def sp__law_row (W : Wd) : Sp := fun vs H Q _ => match vs with
  | [v_pot_here, v_shape_here, v_many] =>
  ∃ (n : Int) (s : Shp) (k : Int), BoxAt W true n H v_pot_here ∧ n ≤ 999990000 ∧ Dq W.K H v_shape_here (shD s) ∧ OkShp s ∧ v_many = .int k ∧ 1 ≤ k ∧ k ≤ 10 ∧ ∀ (hs : List (List Int)) (a : Addr) (vs : List V) H', H a = none → Sx H H' → BoxAt W true (n + 2000) H' v_pot_here → H' a = some (.lst vs) → DqAll W.K H' vs (hs.map headD) → HeadsOk s hs → (hs.length : Int) = k → Q (.ref a) H'
  | _ => False
abbrev N__law_row : List Str := ["_law_pot_here", "_law_shape_here", "_law_many", "_law_heads", "_law_k"]
theorem sc__law_row : FnScope N__law_row ["_law_pot_here", "_law_shape_here", "_law_many"] (defScope s__law_row) := ⟨rfl, rfl, rfl, by decide +kernel, rfl, by decide +kernel, by decide +kernel⟩
theorem f__law_row {W : Wd} {mg : Str → Option Value} {base : Heap} (B : Bi mg) {f : Addr} {fd : FuncData} (F : Fun W.K "_law_row" "_law_row" s__law_row f fd) (C__law_gone : Cal W mg base "_law_gone" 3 ["_law_pot_here", "_law_shape_here", "_law_former", "_law_more"] (sp__law_gone W)) (C__law_head : Cal W mg base "_law_head" 3 ["_law_pot_here", "_law_shape_here"] (sp__law_head W)) : FnOk W.P W.w W.K mg base CX0 4 f fd ["_law_pot_here", "_law_shape_here", "_law_many"] (sp__law_row W) := by
  obtain ⟨a__law_gone, d__law_gone, g__law_gone, F__law_gone, k__law_gone, b__law_gone⟩ := C__law_gone
  obtain ⟨a__law_head, d__law_head, g__law_head, F__law_head, k__law_head, b__law_head⟩ := C__law_head
  have nd := sc__law_row.nd
  have F0 : FnOk W.P W.w W.K mg base CX0 4 f fd ["_law_pot_here", "_law_shape_here", "_law_many"] (sp__law_row W) := by
    refine F.ok sc__law_row (fun vs H Q E h => ?_) (fun cdv A outer s H vs Q E hr h => ?_)
    · match vs, h with | [_, _, _], _ => rfl
    · match vs, h with
      | [v_pot_here, v_shape_here, v_many], h =>
        change sp__law_row W [v_pot_here, v_shape_here, v_many] H Q E at h
        refine ⟨tSeq (tAsg (tLst (tCons (tCall (sp__law_head W) [] E0 (tCons (tVar 0) (tCons (tVar 1) (tNil)))) (tNil))) (gName 3)) (tSeq (tFor (iRng1 (tCons (tOp (rSubU) (tVar 2) (tC (.int 1))) (tNil))) (gName 4) (tDrop (tBM W.K "list" rAppend (tVar 3) (tCons (tCall (sp__law_gone W) [] E0 (tCons (tVar 0) (tCons (tVar 1) (tCons (tOp (rIxU W.K) (tVar 3) (tUn (rU fun i => .int (-i)) (tC (.int 1)))) (tCons (tC (.int 1)) (tNil)))))) (tNil))))) (tRet (tVar 3))), pss_cons (ps_set (i := 3) nd rfl (.inl rfl) (pe_lst (pa_cons (pe_call F__law_head (hr.mono (by decide)) (by rfl) g__law_head k__law_head b__law_head .nil pass0 (pa_cons (pv 0) (pa_cons (pv 1) (pa_nil)))) (pa_nil)))) (pss_cons (ps_for PassesOwn.never rfl (pi_range1 (by rfl) B.b_range (pa_cons (pe_op u_sub (pv 2) (pe_int)) (pa_nil))) (pg_name (i := 4) nd rfl (by first | exact Or.inl rfl | exact Or.inr rfl)) (pss_one (ps_expr (pe_bm PySem.F.plainAttrs_list PySem.F.slot_list_append PySem.F.type_list_append mt_append (pv 3) (pa_cons (pe_call F__law_gone (hr.mono (by decide)) (by rfl) g__law_gone k__law_gone b__law_gone .nil pass0 (pa_cons (pv 0) (pa_cons (pv 1) (pa_cons (pe_ix u_ix (pv 3) (pe_un un_neg (pe_int)) (fun _ _ => rfl)) (pa_cons (pe_int) (pa_nil)))))) (pa_nil)))))) (pss_one (ps_ret (pv 3)))), ?_⟩
        clear hr
        clear F__law_gone g__law_gone k__law_gone b__law_gone d__law_gone a__law_gone
        clear F__law_head g__law_head k__law_head b__law_head d__law_head a__law_head
        rw [show L2.start N__law_row [v_pot_here, v_shape_here, v_many] = [some v_pot_here, some v_shape_here, some v_many, none, none] from rfl]
        obtain ⟨n, s, k, hp, hn, hs, ok, rfl, k0, k1, q⟩ := h
        walk_at "Zs"
        refine go__law_head hp (by omega) hs ok fun hd hv H1 e1 b1 hhd ohd => ?_
        walk_at "Zs"
        rename_i D G1 nD f1 hD1
        have HD : H D = none := none_sx e1 nD
        refine forR0 (fun i σ' H' => (∃ y4, σ' = [some v_pot_here, some v_shape_here, some (.int k), some (.ref D), y4]) ∧ Sx H H' ∧ BoxAt W true (n + 70 + 100 * (i : Int)) H' v_pot_here ∧ ∃ (gs : List (List Int)) (vs : List V), H' D = some (.lst vs) ∧ DqAll W.K H' vs (gs.map headD) ∧ gs.length = i + 1 ∧ HeadsOk s gs) ⟨⟨_, rfl⟩, e1.trans (Same.sx f1), box_le (by omega) (box_mono f1 b1), [hd], [hv], hD1, dqs_one (dq_mono f1 hhd), rfl, fun h hh => by rw [List.mem_singleton.mp hh]; exact ohd⟩ (fun i σ' H2 hi h => ?_) (fun σ' H2 h => ?_)
        · obtain ⟨⟨y4, rfl⟩, e2, b2, gs, vs, hD, hvs, lg, okg⟩ := h
          have lv := dqs_len hvs
          rw [List.length_map] at lv
          walk_at "Zs"
          refine w_tyL hD ?_
          walk_at "Zs"
          show rIxU W.K (.ref D) (.int (-1)) _ _
          refine w_ixLm (.lst (SqL.of hD) hvs) (by omega) (by omega) fun g x hg hx => ?_
          have og := okg g hg
          walk_at "Zs"
          refine go__law_gone b2 (by omega) (dqx e2 hs) ok hx (okHead_len og) (by decide) (by decide) fun g2 u H3 e3 b3 hu og2 => ?_
          walk_at "Zs"
          have hD3 := e3.keep _ _ hD rfl
          refine w_append hD3 (by omega) ?_
          walk_at "Zs"
          refine ⟨⟨_, rfl⟩, sx_mut (e2.trans e3) HD, box_le (by omega) (box_lst b3 hD3), gs ++ [g2], vs ++ [u], upd_same, ?_, by rw [List.length_append, lg]; rfl, fun h hh => ?_⟩
          · rw [List.map_append]
            refine dqs_lst hD3 (dqs_app (dqsx e3 hvs) (dqs_one hu)) ?_
            rw [← List.map_append]
            exact tupOs_heads _
          · rcases List.mem_append.mp hh with hh | hh
            · exact okg h hh
            · rw [List.mem_singleton.mp hh]
              exact og2
        · obtain ⟨⟨y4, rfl⟩, e2, b2, gs, vs, hD, hvs, lg, okg⟩ := h
          walk_at "Zs"
          exact q gs _ _ _ HD e2 (box_le (by omega) b2) hD hvs okg (by omega)
  exact F0
theorem c__law_row {W : Wd} {mg : Str → Option Value} {base : Heap} (B : Bi mg) (S : Src W.K mg "_law_row" s__law_row) (C__law_gone : Cal W mg base "_law_gone" 3 ["_law_pot_here", "_law_shape_here", "_law_former", "_law_more"] (sp__law_gone W)) (C__law_head : Cal W mg base "_law_head" 3 ["_law_pot_here", "_law_shape_here"] (sp__law_head W)) : Cal W mg base "_law_row" 4 ["_law_pot_here", "_law_shape_here", "_law_many"] (sp__law_row W) := by
  obtain ⟨f, fd, g, F⟩ := S
  exact ⟨f, fd, g, f__law_row B F C__law_gone C__law_head, F.kp, (F.binds (ps := ["_law_pot_here", "_law_shape_here", "_law_many"]) fun _ _ _ _ _ _ us hl => match us, hl with | [_, _, _], _ => rfl)⟩
theorem go__law_row {W : Wd} {H : Hp} {Q : VK} {E : XK} {v x : V} {n : Int} {s : Shp} {k : Int} (hp : BoxAt W true n H v) (hn : n ≤ 999990000) (hs : Dq W.K H x (shD s)) (ok : OkShp s) (k0 : 1 ≤ k) (k1 : k ≤ 10) (q : ∀ (hs : List (List Int)) (a : Addr) (vs : List V) H', H a = none → Sx H H' → BoxAt W true (n + 2000) H' v → H' a = some (.lst vs) → DqAll W.K H' vs (hs.map headD) → HeadsOk s hs → (hs.length : Int) = k → Q (.ref a) H') : sp__law_row W [v, x, .int k] H Q E := ⟨n, s, k, hp, hn, hs, ok, rfl, k0, k1, q⟩
def sp__law_offsets (W : Wd) : Sp := fun vs H Q _ => match vs with
  | [v_shape_here, v_head_here, v_formers_here, v_place] =>
  ∃ (s : Shp) (hd : List Int) (ps : List Fo) (p : Nat), Dq W.K H v_shape_here (shD s) ∧ OkShp s ∧ Dq W.K H v_head_here (headD hd) ∧ hd.length = s.fs.length ∧ Dq W.K H v_formers_here (fosD ps) ∧ (∀ p ∈ ps, OkFo s p) ∧ ps.length ≤ 1000 ∧ v_place = .int (p : Int) ∧ p < s.fs.length ∧ ∀ (ns : List Int) fd a H', s.fs[p]? = some fd → Same H H' → H' a = some (.lst (ns.map V.int)) → OffsR s hd ps p (ns.map fun n => n % p2 fd.br) → Q (.ref a) H'
  | _ => False
abbrev N__law_offsets : List Str := ["_law_shape_here", "_law_head_here", "_law_formers_here", "_law_place", "_law_power", "_law_found", "_law_more", "_law_former", "_law_far"]
theorem sc__law_offsets : FnScope N__law_offsets ["_law_shape_here", "_law_head_here", "_law_formers_here", "_law_place"] (defScope s__law_offsets) := ⟨rfl, rfl, rfl, by decide +kernel, rfl, by decide +kernel, by decide +kernel⟩
theorem f__law_offsets {W : Wd} {mg : Str → Option Value} {base : Heap} (B : Bi mg) {f : Addr} {fd : FuncData} (F : Fun W.K "_law_offsets" "_law_offsets" s__law_offsets f fd) (C__law_expected : Cal W mg base "_law_expected" 1 ["_law_shape_here", "_law_place", "_law_former", "_law_ahead", "_law_more"] (sp__law_expected W)) : FnOk W.P W.w W.K mg base CX0 2 f fd ["_law_shape_here", "_law_head_here", "_law_formers_here", "_law_place"] (sp__law_offsets W) := by
  obtain ⟨a__law_expected, d__law_expected, g__law_expected, F__law_expected, k__law_expected, b__law_expected⟩ := C__law_expected
  have nd := sc__law_offsets.nd
  have F0 : FnOk W.P W.w W.K mg base CX0 2 f fd ["_law_shape_here", "_law_head_here", "_law_formers_here", "_law_place"] (sp__law_offsets W) := by
    refine F.ok sc__law_offsets (fun vs H Q E h => ?_) (fun cdv A outer s H vs Q E hr h => ?_)
    · match vs, h with | [_, _, _, _], _ => rfl
    · match vs, h with
      | [v_shape_here, v_head_here, v_formers_here, v_place], h =>
        change sp__law_offsets W [v_shape_here, v_head_here, v_formers_here, v_place] H Q E at h
        refine ⟨tSeq (tAsg (tOp (rShlU) (tC (.int 1)) (tOp (rIxU W.K) (tOp (rIxU W.K) (tOp (rIxU W.K) (tVar 0) (tC (.int 0))) (tVar 3)) (tC (.int 1)))) (gName 4)) (tSeq (tAsg (tLst (tNil)) (gName 5)) (tSeq (tFor (iAny W.K (tVar 2)) (gTup W.K 2 (gCons (gName 6) (gCons (gName 7) (gNil)))) (tSeq (tAsg (tOp (rModU) (tOp (rSubU) (tOp (rIxU W.K) (tVar 1) (tVar 3)) (tCall (sp__law_expected W) [] E0 (tCons (tVar 0) (tCons (tVar 3) (tCons (tVar 7) (tCons (tVar 1) (tCons (tVar 6) (tNil)))))))) (tVar 4)) (gName 8)) (tDrop (tBM W.K "list" rAppend (tVar 5) (tCons (tOp (rSubU) (tVar 8) (tOp (rMulN W.K) (tVar 4) (tCB (rIntU) (tCons (tOp (rGeU) (tOp (rMulN W.K) (tC (.int 2)) (tVar 8)) (tVar 4)) (tNil))))) (tNil)))))) (tRet (tVar 5)))), pss_cons (ps_set (i := 4) nd rfl (.inl rfl) (pe_op u_shl (pe_int) (pe_ix u_ix (pe_ix u_ix (pe_ix u_ix (pv 0) (pe_int) (fun _ _ => rfl)) (pv 3) (fun _ _ => rfl)) (pe_int) (fun _ _ => rfl)))) (pss_cons (ps_set (i := 5) nd rfl (.inl rfl) (pe_lst (pa_nil))) (pss_cons (ps_for PassesOwn.never rfl (pi_any (pv 2)) (pg_tup rfl (pgs_cons (pg_name (i := 6) nd rfl (by first | exact Or.inl rfl | exact Or.inr rfl)) (pgs_cons (pg_name (i := 7) nd rfl (by first | exact Or.inl rfl | exact Or.inr rfl)) (pgs_nil)))) (pss_cons (ps_set (i := 8) nd rfl (.inl rfl) (pe_op u_mod (pe_op u_sub (pe_ix u_ix (pv 1) (pv 3) (fun _ _ => rfl)) (pe_call F__law_expected (hr.mono (by decide)) (by rfl) g__law_expected k__law_expected b__law_expected .nil pass0 (pa_cons (pv 0) (pa_cons (pv 3) (pa_cons (pv 7) (pa_cons (pv 1) (pa_cons (pv 6) (pa_nil)))))))) (pv 4))) (pss_one (ps_expr (pe_bm PySem.F.plainAttrs_list PySem.F.slot_list_append PySem.F.type_list_append mt_append (pv 5) (pa_cons (pe_op u_sub (pv 8) (pe_op u_mulN (pv 4) (pe_callTy u_int (by rfl) B.b_int (by decide +kernel) (pa_cons (pe_cmpR u_ge (pe_op u_mulN (pe_int) (pv 8)) (pv 4) (nomark _)) (pa_nil))))) (pa_nil))))))) (pss_one (ps_ret (pv 5))))), ?_⟩
        clear hr
        clear F__law_expected g__law_expected k__law_expected b__law_expected d__law_expected a__law_expected
        rw [show L2.start N__law_offsets [v_shape_here, v_head_here, v_formers_here, v_place] = [some v_shape_here, some v_head_here, some v_formers_here, some v_place, none, none, none, none, none] from rfl]
        obtain ⟨s, hd, ps, p, hs, ok, hh, lh, hps, okp, lps, rfl, hp, q⟩ := h
        have l1 := ok.l1
        obtain ⟨fd, hfd⟩ : ∃ fd, s.fs[p]? = some fd := ⟨_, List.getElem?_eq_getElem hp⟩
        have okd := ok.fd p fd hfd
        have b0 := okd.b0
        have b1 := okd.b1
        have pb := p2_pos fd.br
        obtain ⟨a, xs, rfl, hxs, hds⟩ := dq_tt hps
        have lxs := dqs_len hds
        rw [List.length_map] at lxs
        walk_at "Zs"
        refine w_ixQT hs (d := .tuple (s.fs.map fdD)) rfl fun x1 h1 => ?_
        walk_at "Zs"
        refine w_ixM h1 (by omega) (by omega) fun fd' x2 hfd' h2 => ?_
        rw [Int.toNat_natCast, hfd] at hfd'
        obtain rfl := Option.some.inj hfd'
        walk_at "Zs"
        refine w_ixQTi h2 (n := fd.br) rfl ?_
        walk_at "Zs"
        rename_i D G1 nD f1 hD1
        refine w_goT (same_t f1 hxs.t) ?_
        refine forT (fun i σ' H' => (∃ y6 y7 y8, σ' = [some v_shape_here, some v_head_here, some (.ref a), some (.int (p : Int)), some (.int (p2 fd.br)), some (.ref D), y6, y7, y8]) ∧ (∃ ns : List Int, H' D = some (.lst (ns.map V.int)) ∧ OffsR s hd (ps.take i) p (ns.map fun n => n % p2 fd.br)) ∧ Same H H') ⟨⟨_, _, _, rfl⟩, ⟨[], hD1, OffsR.nil⟩, f1⟩ (fun i σ' H' _ h => same_t h.2.2 hxs.t) (fun i x σ' H2 hx h => ?_) (fun σ' H2 h => ?_)
        · obtain ⟨⟨y6, y7, y8, rfl⟩, ⟨ns, hD, ln⟩, e2⟩ := h
          obtain ⟨d, hd1, hxd⟩ := dqs_get2 hds hx
          obtain ⟨fo, hfo, rfl⟩ := map_at hd1
          have okf := okp fo (List.mem_of_getElem? hfo)
          have m0 := okf.2
          have hi := (List.getElem?_eq_some_iff.mp hx).1
          obtain ⟨b, x1, y1, rfl, hb, hx1, hy1⟩ := dq_t2 (dq_mono e2 hxd)
          obtain rfl := dq_int hx1
          obtain ⟨v0, hv0⟩ : ∃ v0, fo.2[p]? = some v0 := ⟨_, List.getElem?_eq_getElem (by rw [okf.1]; exact hp)⟩
          walk_at "Zs"
          refine w_ixMi (dq_mono e2 hh) (by omega) (by omega) fun n hn => ?_
          walk_at "Zs"
          refine go__law_expected (dq_mono e2 hs) ok hfd hy1 okf.1 hv0 (dq_mono e2 hh) (by omega) (by omega) (by omega) fun r H3 e3 hr => ?_
          walk_at "Zs"
          have hD3 := e3 _ _ hD
          refine w_tyL hD3 ?_
          walk_at "Zs"
          have hz : ((n - r % p2 fd.br) % p2 fd.br - p2 fd.br * (if decide (p2 fd.br ≤ 2 * ((n - r % p2 fd.br) % p2 fd.br)) = true then 1 else 0)) % p2 fd.br = (n - r % p2 fd.br) % p2 fd.br := by
            rw [Int.sub_eq_add_neg, ← Int.mul_neg, Int.add_mul_emod_self_left, Int.emod_emod_of_dvd _ (Int.dvd_refl _)]
          generalize (n - r % p2 fd.br) % p2 fd.br - p2 fd.br * (if decide (p2 fd.br ≤ 2 * ((n - r % p2 fd.br) % p2 fd.br)) = true then 1 else 0) = m at hz
          rw [Int.toNat_natCast] at hn
          have ln2 := ln.1
          rw [List.length_map, List.length_take] at ln2
          refine w_append hD3 (by rw [List.length_map]; omega) ?_
          walk_at "Zs"
          exact ⟨⟨_, _, _, rfl⟩, ⟨ns ++ [m], by rw [upd_same, List.map_append]; rfl, by rw [List.map_append]; exact ln.snoc hfo ⟨fd, v0, n, r, hfd, hv0, hn, expK_take okd hr, hz⟩⟩, same_mut (e2.trans e3) nD⟩
        · obtain ⟨⟨y6, y7, y8, rfl⟩, ⟨ns, hD, ln⟩, e2⟩ := h
          walk_at "Zs"
          rw [lxs, List.take_length] at ln
          exact q ns fd _ _ hfd e2 hD ln
  exact F0
theorem c__law_offsets {W : Wd} {mg : Str → Option Value} {base : Heap} (B : Bi mg) (S : Src W.K mg "_law_offsets" s__law_offsets) (C__law_expected : Cal W mg base "_law_expected" 1 ["_law_shape_here", "_law_place", "_law_former", "_law_ahead", "_law_more"] (sp__law_expected W)) : Cal W mg base "_law_offsets" 2 ["_law_shape_here", "_law_head_here", "_law_formers_here", "_law_place"] (sp__law_offsets W) := by
  obtain ⟨f, fd, g, F⟩ := S
  exact ⟨f, fd, g, f__law_offsets B F C__law_expected, F.kp, (F.binds (ps := ["_law_shape_here", "_law_head_here", "_law_formers_here", "_law_place"]) fun _ _ _ _ _ _ us hl => match us, hl with | [_, _, _, _], _ => rfl)⟩
theorem go__law_offsets {W : Wd} {H : Hp} {Q : VK} {E : XK} {vs vh vp : V} {s : Shp} {hd : List Int} {ps : List Fo} {p : Nat} (hs : Dq W.K H vs (shD s)) (ok : OkShp s) (hh : Dq W.K H vh (headD hd)) (lh : hd.length = s.fs.length) (hps : Dq W.K H vp (fosD ps)) (okp : ∀ p ∈ ps, OkFo s p) (lps : ps.length ≤ 1000) (hp : p < s.fs.length) (q : ∀ (ns : List Int) fd a H', s.fs[p]? = some fd → Same H H' → H' a = some (.lst (ns.map V.int)) → OffsR s hd ps p (ns.map fun n => n % p2 fd.br) → Q (.ref a) H') : sp__law_offsets W [vs, vh, vp, .int (p : Int)] H Q E := ⟨s, hd, ps, p, hs, ok, hh, lh, hps, okp, lps, rfl, hp, q⟩
def sp__law_formers (W : Wd) : Sp := fun vs H Q _ => match vs with
  | [v_heads, v_number, v_reach] =>
  ∃ (s : Shp) (hs : List (List Int)) (k r : Int), Dq W.K H v_heads (.list (hs.map headD)) ∧ HeadsOk s hs ∧ hs.length ≤ 1000 ∧ v_number = .int k ∧ 0 ≤ k ∧ k < hs.length ∧ v_reach = .int r ∧ 1 ≤ r ∧ r ≤ 100 ∧ ∀ (ps : List Fo) v H', Same H H' → Dq W.K H' v (fosD ps) → (∀ p ∈ ps, OkFo s p) → (ps.length : Int) = (if k < r then k else r) → (∀ (j : Nat) (p : Fo), ps[j]? = some p → p.1 = (j : Int) + 1 ∧ hs[(k - p.1).toNat]? = some p.2) → Q v H'
  | _ => False
abbrev N__law_formers : List Str := ["_law_heads", "_law_number", "_law_reach", "_law_more"]
theorem sc__law_formers : FnScope N__law_formers ["_law_heads", "_law_number", "_law_reach"] (defScope s__law_formers) := ⟨rfl, rfl, rfl, by decide +kernel, rfl, by decide +kernel, by decide +kernel⟩
theorem f__law_formers {W : Wd} {mg : Str → Option Value} {base : Heap} (B : Bi mg) {f : Addr} {fd : FuncData} (F : Fun W.K "_law_formers" "_law_formers" s__law_formers f fd)  : FnOk W.P W.w W.K mg base CX0 1 f fd ["_law_heads", "_law_number", "_law_reach"] (sp__law_formers W) := by
  have nd := sc__law_formers.nd
  have F0 : FnOk W.P W.w W.K mg base CX0 1 f fd ["_law_heads", "_law_number", "_law_reach"] (sp__law_formers W) := by
    refine F.ok sc__law_formers (fun vs H Q E h => ?_) (fun cdv A outer s H vs Q E hr h => ?_)
    · match vs, h with | [_, _, _], _ => rfl
    · match vs, h with
      | [v_heads, v_number, v_reach], h =>
        change sp__law_formers W [v_heads, v_number, v_reach] H Q E at h
        refine ⟨tRet (tCB (rTupleOfN W.K) (tCons (tLc (iRng2 (tCons (tC (.int 1)) (tCons (tOp (rAddN W.K) (tCB (rMin2) (tCons (tVar 2) (tCons (tVar 1) (tNil)))) (tC (.int 1))) (tNil)))) (gName 3) (tYes) (tTupN (tCons (tVar 3) (tCons (tOp (rIxU W.K) (tVar 0) (tOp (rSubU) (tVar 1) (tVar 3))) (tNil)))) [3]) (tNil))), pss_one (ps_ret (pe_callTy call_tuple_ofN (by rfl) B.b_tuple (by decide +kernel) (pa_cons (pe_lc (own := [("_law_more", 3)]) rfl nd (pi_range2 (by rfl) B.b_range (pa_cons (pe_int) (pa_cons (pe_op u_addN (pe_callB (call_min2 rfl) (by rfl) B.b_min (by decide +kernel) (pa_cons (pv 2) (pa_cons (pv 1) (pa_nil)))) (pe_int)) (pa_nil)))) (blkOk_by (own := [("_law_more", 3)]) (N := N__law_formers) (sc := defScope s__law_formers) (by decide +kernel)) (fun _ _ _ _ _ => pg_name (i := 3) nd rfl (by first | exact Or.inl rfl | exact Or.inr rfl)) (fun _ _ _ _ _ => pts_nil) (fun _ _ _ _ _ => pe_tupN (pa_cons (pv 3) (pa_cons (pe_ix u_ix (pv 0) (pe_op u_sub (pv 1) (pv 3)) (fun _ _ => rfl)) (pa_nil))))) (pa_nil)))), ?_⟩
        clear hr
        rw [show L2.start N__law_formers [v_heads, v_number, v_reach] = [some v_heads, some v_number, some v_reach, none] from rfl]
        obtain ⟨s, hs, k, r, hh, okh, lh, rfl, k0, k1, rfl, r0, r1, q⟩ := h
        walk_at "Zs"
        have hm2 : 0 ≤ (if k < r then k else r) ∧ (if k < r then k else r) ≤ 100 ∧ (if k < r then k else r) ≤ k := by split <;> omega
        generalize hM : (if k < r then k else r) = M at hm2 q
        refine w_rg2 (by omega) ?_
        have hm3 : (M + 1 - 1).toNat = M.toNat := by omega
        rw [hm3]
        refine lcR2 (fun j acc H' => acc.length = j ∧ ∃ ps : List Fo, DqAll W.K H' acc (ps.map foD) ∧ ps.length = j ∧ (∀ p ∈ ps, OkFo s p) ∧ ∀ (i : Nat) (p : Fo), ps[i]? = some p → p.1 = (i : Int) + 1 ∧ hs[(k - p.1).toNat]? = some p.2) (fun j acc H' D xs ys hD h => ⟨h.1, ?_⟩) (by omega) (fun j acc H' h => Nat.le_of_eq h.1) (fun H' e => ⟨rfl, [], .nil, rfl, (fun _ h => nomatch h), (fun i p h => by simp at h)⟩) (fun j acc H' hj e1 ea kk k' hk hk' => ?_) fun D acc H1 hD e1 hD' ea => ?_
        · obtain ⟨ps, h1, h2⟩ := h.2
          refine ⟨ps, dqs_lst hD h1 (tupOs_of fun d hd => ?_), h2⟩
          obtain ⟨p, _, rfl⟩ := List.mem_map.mp hd
          exact tupO_fo p
        · obtain ⟨la, ps, h1, h2, h3, h4⟩ := ea
          walk_at "Zs"
          refine w_ixLM (dq_mono e1 hh) (by omega) (by omega) fun g x hg hx => ?_
          walk_at "Zs"
          rename_i pA GA nA fA hA
          refine hk _ _ fA ⟨by rw [List.length_append, la]; rfl, ps ++ [(1 + (j : Int), g)], ?_, by rw [List.length_append, h2]; rfl, fun p hp => ?_, fun i p hp => ?_⟩
          · rw [List.map_append]
            exact dqs_app (dqs_mono fA h1) (dqs_one (dq_new hA (dqs_two (.int _) (dq_mono fA hx))))
          · rcases List.mem_append.mp hp with hp | hp
            · exact h3 p hp
            · rw [List.mem_singleton.mp hp]
              exact ⟨okHead_len (okh g (List.mem_of_getElem? hg)), by show 1 ≤ 1 + (j : Int); omega, by show 1 + (j : Int) ≤ 1000; omega⟩
          · by_cases c : i < ps.length
            · rw [List.getElem?_append_left c] at hp
              exact h4 i p hp
            · rw [List.getElem?_append_right (by omega)] at hp
              have e : i = ps.length := by
                by_cases c2 : i - ps.length = 0
                · omega
                · rw [List.getElem?_eq_none (by simp; omega)] at hp
                  cases hp
              subst e
              rw [Nat.sub_self] at hp
              rw [← Option.some.inj hp, h2]
              exact ⟨Int.add_comm _ _, hg⟩
        · obtain ⟨la, ps, h1, h2, h3, h4⟩ := ea
          walk_at "Zs"
          refine w_tupleN (SqL.of hD') fun p2 H2 n2 f2 g2 => ?_
          refine q ps _ _ (e1.trans f2) (dq_new g2 (dqs_mono f2 h1)) h3 (by omega) h4
  exact F0
theorem c__law_formers {W : Wd} {mg : Str → Option Value} {base : Heap} (B : Bi mg) (S : Src W.K mg "_law_formers" s__law_formers)  : Cal W mg base "_law_formers" 1 ["_law_heads", "_law_number", "_law_reach"] (sp__law_formers W) := by
  obtain ⟨f, fd, g, F⟩ := S
  exact ⟨f, fd, g, f__law_formers B F , F.kp, (F.binds (ps := ["_law_heads", "_law_number", "_law_reach"]) fun _ _ _ _ _ _ us hl => match us, hl with | [_, _, _], _ => rfl)⟩
theorem go__law_formers {W : Wd} {H : Hp} {Q : VK} {E : XK} {x : V} {s : Shp} {hs : List (List Int)} {k r : Int} (hh : Dq W.K H x (.list (hs.map headD))) (okh : HeadsOk s hs) (lh : hs.length ≤ 1000) (k0 : 0 ≤ k) (k1 : k < hs.length) (r0 : 1 ≤ r) (r1 : r ≤ 100) (q : ∀ (ps : List Fo) v H', Same H H' → Dq W.K H' v (fosD ps) → (∀ p ∈ ps, OkFo s p) → (ps.length : Int) = (if k < r then k else r) → (∀ (j : Nat) (p : Fo), ps[j]? = some p → p.1 = (j : Int) + 1 ∧ hs[(k - p.1).toNat]? = some p.2) → Q v H') : sp__law_formers W [x, .int k, .int r] H Q E := ⟨s, hs, k, r, hh, okh, lh, rfl, k0, k1, rfl, r0, r1, q⟩
def sp__law_same_ (n : Nat) (W : Wd) : Sp := fun vs H Q _ => match vs with
  | [v_found, v_due] =>
  ∃ d, Dq W.K H v_found d ∧ Dq W.K H v_due d ∧ PlD n d ∧ ∀ H', Same H H' → Q (.bl true) H'
  | _ => False
def spr__law_same : Nat → Wd → Sp
  | 0, _ => fun _ _ _ _ => False
  | n + 1, W => sp__law_same_ n W
abbrev sp__law_same (W : Wd) : Sp := sp__law_same_ 6 W
abbrev N__law_same : List Str := ["_law_found", "_law_due", "_law_one", "_law_other"]
theorem sc__law_same : FnScope N__law_same ["_law_found", "_law_due"] (defScope s__law_same) := ⟨rfl, rfl, rfl, by decide +kernel, rfl, by decide +kernel, by decide +kernel⟩
theorem f__law_same_ {W : Wd} {mg : Str → Option Value} {base : Heap} (B : Bi mg) {f : Addr} {fd : FuncData} (F : Fun W.K "_law_same" "_law_same" s__law_same f fd) (n : Nat)  (C__law_same : Cal W mg base "_law_same" (0 + n) ["_law_found", "_law_due"] (spr__law_same n W)) : FnOk W.P W.w W.K mg base CX0 (0 + n + 1) f fd ["_law_found", "_law_due"] (sp__law_same_ n W) := by
  obtain ⟨a__law_same, d__law_same, g__law_same, F__law_same, k__law_same, b__law_same⟩ := C__law_same
  have nd := sc__law_same.nd
  refine F.ok sc__law_same (fun vs H Q E h => ?_) (fun cdv A outer s H vs Q E hr h => ?_)
  · match vs, h with | [_, _], _ => rfl
  · match vs, h with
    | [v_found, v_due], h =>
        change sp__law_same_ n W [v_found, v_due] H Q E at h
        refine ⟨tSeq (tIfS (tB (tCB (rIsi W.K) (tCons (tVar 1) (tCons (tC (.ty "tuple")) tNil)))) (tSeq (tIfS (tOr (tNot (tB (tCB (rIsi W.K) (tCons (tVar 0) (tCons (tC (.ty "tuple")) tNil))))) (tTest (tOp (rNeU W.K) (tCB (rLenU W.K) (tCons (tVar 0) (tNil))) (tCB (rLenU W.K) (tCons (tVar 1) (tNil)))))) (tRet (tC (.bl false))) (tNext)) (tRet (tCB (rAll W.K) (tCons (tLc (iZipA W.K (tCons (tVar 0) (tCons (tVar 1) (tNil)))) (gTup W.K 2 (gCons (gName 2) (gCons (gName 3) (gNil)))) (tYes) (tCall (spr__law_same n W) [] E0 (tCons (tVar 2) (tCons (tVar 3) (tNil)))) [2, 3]) (tNil))))) (tNext)) (tSeq (tIfS (tTest (tOp (rIsU) (tVar 1) (tC .non))) (tRet (tOp (rIsU) (tVar 0) (tC .non))) (tNext)) (tSeq (tIfS (tB (tCB (rIsi W.K) (tCons (tVar 1) (tCons (tC (.ty "str")) tNil)))) (tRet (tAndV (tCB (rIsi W.K) (tCons (tVar 0) (tCons (tC (.ty "str")) tNil))) (tOp (rEqU W.K) (tVar 0) (tVar 1)))) (tNext)) (tRet (tAndV (tCB (rIsi W.K) (tCons (tVar 0) (tCons (tC (.ty "int")) tNil))) (tAndV (tNotV (tCB (rIsi W.K) (tCons (tVar 0) (tCons (tC (.ty "bool")) tNil)))) (tOp (rEqU W.K) (tVar 0) (tVar 1))))))), pss_cons (ps_if (pt_val (pe_callB call_isi (by rfl) B.b_isinstance (by decide +kernel) (pa_cons (pv 1) (pa_cons (pe_bltn (v := .ty "tuple") (u := .type "tuple") (by rfl) B.b_tuple (by decide +kernel) rfl) pa_nil)))) (pss_cons (ps_if (PW.pt (pw_or (pt_not (pt_val (pe_callB call_isi (by rfl) B.b_isinstance (by decide +kernel) (pa_cons (pv 0) (pa_cons (pe_bltn (v := .ty "tuple") (u := .type "tuple") (by rfl) B.b_tuple (by decide +kernel) rfl) pa_nil))))) (pw_or1 (pt_cmpR (u_ne hr.units) (pe_callB u_len (by rfl) B.b_len (by decide +kernel) (pa_cons (pv 0) (pa_nil))) (pe_callB u_len (by rfl) B.b_len (by decide +kernel) (pa_cons (pv 1) (pa_nil))) (nomark _))))) (pss_one (ps_ret (pe_bl))) (pss_nil)) (pss_one (ps_ret (pe_callB (cr_all rfl) (by rfl) B.b_all (by decide +kernel) (pa_cons (pe_lc (own := [("_law_one", 2), ("_law_other", 3)]) rfl nd (pi_zipA (by rfl) B.b_zip (pa_cons (pv 0) (pa_cons (pv 1) (pa_nil)))) (blkOk_by (own := [("_law_one", 2), ("_law_other", 3)]) (N := N__law_same) (sc := defScope s__law_same) (by decide +kernel)) (fun _ _ _ _ _ => pg_tup rfl (pgs_cons (pg_name (i := 2) nd rfl (by first | exact Or.inl rfl | exact Or.inr rfl)) (pgs_cons (pg_name (i := 3) nd rfl (by first | exact Or.inl rfl | exact Or.inr rfl)) (pgs_nil)))) (fun _ _ _ _ _ => pts_nil) (fun _ _ _ _ _ => pe_call F__law_same (hr.mono (by omega)) (by rfl) g__law_same k__law_same b__law_same .nil pass0 (pa_cons (pv 2) (pa_cons (pv 3) (pa_nil))))) (pa_nil)))))) (pss_nil)) (pss_cons (ps_if (pt_cmpR u_is (pv 1) (pe_non) (nomark _)) (pss_one (ps_ret (pe_cmpR u_is (pv 0) (pe_non) (nomark _)))) (pss_nil)) (pss_cons (ps_if (pt_val (pe_callB call_isi (by rfl) B.b_isinstance (by decide +kernel) (pa_cons (pv 1) (pa_cons (pe_bltn (v := .ty "str") (u := .type "str") (by rfl) B.b_str (by decide +kernel) rfl) pa_nil)))) (pss_one (ps_ret (pe_and (pe_callB call_isi (by rfl) B.b_isinstance (by decide +kernel) (pa_cons (pv 0) (pa_cons (pe_bltn (v := .ty "str") (u := .type "str") (by rfl) B.b_str (by decide +kernel) rfl) pa_nil))) (pe_one (pe_cmpR (u_eq hr.units) (pv 0) (pv 1) (nomark _)))))) (pss_nil)) (pss_one (ps_ret (pe_and (pe_callB call_isi (by rfl) B.b_isinstance (by decide +kernel) (pa_cons (pv 0) (pa_cons (pe_bltn (v := .ty "int") (u := .type "int") (by rfl) B.b_int (by decide +kernel) rfl) pa_nil))) (pe_and (pe_not (pe_callB call_isi (by rfl) B.b_isinstance (by decide +kernel) (pa_cons (pv 0) (pa_cons (pe_bltn (v := .ty "bool") (u := .type "bool") (by rfl) B.b_bool (by decide +kernel) rfl) pa_nil)))) (pe_one (pe_cmpR (u_eq hr.units) (pv 0) (pv 1) (nomark _))))))))), ?_⟩
        clear hr
        clear F__law_same g__law_same k__law_same b__law_same d__law_same a__law_same
        rw [show L2.start N__law_same [v_found, v_due] = [some v_found, some v_due, none, none] from rfl]
        obtain ⟨d, hf, hd, hp, q⟩ := h
        walk_at "Zs"
        refine w_istup' (dq_dp hd) ?_
        cases d with
        | tuple ds =>
          walk_at "Zs"
          refine w_istup' (dq_dp hf) ?_
          walk_at "Zs"
          obtain ⟨a, xs, rfl, hxs, r1⟩ := dq_tt hf
          obtain ⟨b, ys, rfl, hys, r2⟩ := dq_tt hd
          have l1 := dqs_len r1
          have l2 := dqs_len r2
          cases n with
          | zero => simp [PlD] at hp
          | succ m =>
            have hp1 : ds.length ≤ 1000 ∧ ∀ d ∈ ds, PlD m d := hp
            refine w_goZT hxs.t hys.t ?_
            refine lcZT hxs.t hys.t (fun i acc _ => acc = List.replicate i (V.bl true)) stb_pure (by omega) (fun i acc H' e => by rw [e, List.length_replicate]; exact Nat.le_refl _) (fun H' _ => rfl) (fun i x y acc H' hx hy e1 ea H2 e2 k k' hk hk' => ?_) fun D acc H' hD e1 hD' ea => ?_
            · obtain ⟨d1, hd1, hxd⟩ := dqs_get2 r1 hx
              obtain ⟨d2, hd2, hyd⟩ := dqs_get2 r2 hy
              obtain rfl := Option.some.inj (hd1.symm.trans hd2)
              walk_at "Zs"
              show sp__law_same_ m W [_, _] _ _ E0
              refine ⟨d1, dq_mono (e1.trans e2) hxd, dq_mono (e1.trans e2) hyd, hp1.2 _ (List.mem_of_getElem? hd1), fun H3 e3 => ?_⟩
              refine hk _ _ e3 ?_
              rw [ea, List.replicate_succ']
            · walk_at "Zs"
              refine w_all (bs := List.replicate (min xs.length ys.length) true) (SqL.of (by rw [hD', ea, List.map_replicate])) ?_
              have e : (List.replicate (min xs.length ys.length) true).all id = true := List.all_eq_true.mpr fun x hx => List.eq_of_mem_replicate hx
              rw [e]
              exact q _ e1
        | none =>
          obtain rfl := dq_non hf
          obtain rfl := dq_non hd
          walk_at "Zs"
          exact q _ (Same.refl _)
        | str z =>
          obtain rfl := dq_str hf
          obtain rfl := dq_str hd
          walk_at "Zs"
          refine w_isstr' (Dp.str z) ?_
          walk_at "Zs"
          refine w_isstr' (Dp.str z) ?_
          walk_at "Zs"
          have e : decide (z = z) = true := decide_eq_true rfl
          rw [e]
          exact q _ (Same.refl _)
        | int i =>
          obtain rfl := dq_int hf
          obtain rfl := dq_int hd
          walk_at "Zs"
          refine w_isstr' (Dp.int i) ?_
          walk_at "Zs"
          refine w_isint' (Dp.int i) ?_
          walk_at "Zs"
          refine w_isbool' (Dp.int i) ?_
          walk_at "Zs"
          have e : decide (i = i) = true := decide_eq_true rfl
          rw [e]
          exact q _ (Same.refl _)
        | bool b => cases n <;> simp [PlD] at hp
        | list ds => cases n <;> simp [PlD] at hp
        | dict ds => cases n <;> simp [PlD] at hp
theorem c__law_same {W : Wd} {mg : Str → Option Value} {base : Heap} (B : Bi mg) (S : Src W.K mg "_law_same" s__law_same)  : Cal W mg base "_law_same" 7 ["_law_found", "_law_due"] (sp__law_same W) := by
  obtain ⟨f, fd, g, F⟩ := S
  have key : ∀ n, FnOk W.P W.w W.K mg base CX0 (0 + n + 1) f fd ["_law_found", "_law_due"] (sp__law_same_ n W) := by
    intro n
    induction n with
    | zero => exact f__law_same_ B F 0  ⟨f, fd, g, ⟨fun _ _ _ _ h => h.elim, fun _ _ _ _ _ _ _ _ _ _ _ _ _ h => h.elim⟩, F.kp, (F.binds (ps := ["_law_found", "_law_due"]) fun _ _ _ _ _ _ us hl => match us, hl with | [_, _], _ => rfl)⟩
    | succ n ih => exact f__law_same_ B F (n + 1)  ⟨f, fd, g, ih, F.kp, (F.binds (ps := ["_law_found", "_law_due"]) fun _ _ _ _ _ _ us hl => match us, hl with | [_, _], _ => rfl)⟩
  exact ⟨f, fd, g, key 6, F.kp, (F.binds (ps := ["_law_found", "_law_due"]) fun _ _ _ _ _ _ us hl => match us, hl with | [_, _], _ => rfl)⟩
theorem go__law_same {W : Wd} {H : Hp} {Q : VK} {E : XK} {x y : V} {d : PyData} (hf : Dq W.K H x d) (hd : Dq W.K H y d) (hp : PlD 6 d) (q : ∀ H', Same H H' → Q (.bl true) H') : sp__law_same W [x, y] H Q E := ⟨d, hf, hd, hp, q⟩
def sp__law_tightest (W : Wd) : Sp := fun vs H Q _ => match vs with
  | [v_breadth, v_offsets_here] =>
  ∃ (br : Int) (os : List Int) (a : Addr), v_breadth = .int br ∧ v_offsets_here = .ref a ∧ SqL W.K H a (os.map V.int) ∧ 1 ≤ os.length ∧ os.length ≤ 50 ∧ 0 ≤ br ∧ br ≤ 100 ∧ ∀ wd bl v H', Same H H' → Tight br os wd bl → wd ≤ br → Dq W.K H' v (.tuple [.int wd, .int bl]) → Q v H'
  | _ => False
abbrev N__law_tightest : List Str := ["_law_breadth", "_law_offsets_here", "_law_power", "_law_begins", "_law_width", "_law_below", "_law_far", "_law_offset"]
theorem sc__law_tightest : FnScope N__law_tightest ["_law_breadth", "_law_offsets_here"] (defScope s__law_tightest) := ⟨rfl, rfl, rfl, by decide +kernel, rfl, by decide +kernel, by decide +kernel⟩
theorem f__law_tightest {W : Wd} {mg : Str → Option Value} {base : Heap} (B : Bi mg) {f : Addr} {fd : FuncData} (F : Fun W.K "_law_tightest" "_law_tightest" s__law_tightest f fd)  : FnOk W.P W.w W.K mg base CX0 1 f fd ["_law_breadth", "_law_offsets_here"] (sp__law_tightest W) := by
  have nd := sc__law_tightest.nd
  have F0 : FnOk W.P W.w W.K mg base CX0 1 f fd ["_law_breadth", "_law_offsets_here"] (sp__law_tightest W) := by
    refine F.ok sc__law_tightest (fun vs H Q E h => ?_) (fun cdv A outer s H vs Q E hr h => ?_)
    · match vs, h with | [_, _], _ => rfl
    · match vs, h with
      | [v_breadth, v_offsets_here], h =>
        change sp__law_tightest W [v_breadth, v_offsets_here] H Q E at h
        refine ⟨tSeq (tAsg (tOp (rShlU) (tC (.int 1)) (tVar 0)) (gName 2)) (tSeq (tAsg (tCB (rSortedI W.K) (tCons (tOp (rAddN W.K) (tLst (tCons (tC (.int 0)) (tNil))) (tLc (iAny W.K (tVar 1)) (gName 7) (tYes) (tOp (rModU) (tUn (rU fun i => .int (-i)) (tVar 7)) (tVar 2)) [7])) (tNil))) (gName 3)) (tSeq (tFor (iRng1 (tCons (tVar 0) (tNil))) (gName 4) (tFor (iAny W.K (tVar 3)) (gName 5) (tSeq (tAsg (tCB (rMax W.K) (tCons (tLc (iAny W.K (tVar 1)) (gName 7) (tYes) (tOp (rModU) (tOp (rAddN W.K) (tVar 7) (tVar 5)) (tVar 2)) [7]) (tNil))) (gName 6)) (tIfS (tTest (tOp (rLtU W.K) (tCB (rMax2) (tCons (tVar 5) (tCons (tVar 6) (tNil)))) (tOp (rShlU) (tC (.int 1)) (tVar 4)))) (tRet (tTupN (tCons (tVar 4) (tCons (tVar 5) (tNil))))) (tNext))))) (tRet (tTupN (tCons (tVar 0) (tCons (tC (.int 0)) (tNil))))))), pss_cons (ps_set (i := 2) nd rfl (.inr rfl) (pe_op u_shl (pe_int) (pv 0))) (pss_cons (ps_set (i := 3) nd rfl (.inl rfl) (pe_callB cr_sortedI (by rfl) B.b_sorted (by decide +kernel) (pa_cons (pe_op u_addN (pe_lst (pa_cons (pe_int) (pa_nil))) (pe_lc (own := [("_law_offset", 7)]) rfl nd (pi_any (pv 1)) (blkOk_by (own := [("_law_offset", 7)]) (N := N__law_tightest) (sc := defScope s__law_tightest) (by decide +kernel)) (fun _ _ _ _ _ => pg_name (i := 7) nd rfl (by first | exact Or.inl rfl | exact Or.inr rfl)) (fun _ _ _ _ _ => pts_nil) (fun _ _ _ _ _ => pe_op u_mod (pe_un un_neg (pv 7)) (pv 2)))) (pa_nil)))) (pss_cons (ps_for PassesOwn.never rfl (pi_range1 (by rfl) B.b_range (pa_cons (pv 0) (pa_nil))) (pg_name (i := 4) nd rfl (by first | exact Or.inl rfl | exact Or.inr rfl)) (pss_one (ps_for PassesOwn.never rfl (pi_any (pv 3)) (pg_name (i := 5) nd rfl (by first | exact Or.inl rfl | exact Or.inr rfl)) (pss_cons (ps_set (i := 6) nd rfl (.inl rfl) (pe_callB (cr_max rfl) (by rfl) B.b_max (by decide +kernel) (pa_cons (pe_lc (own := [("_law_offset", 7)]) rfl nd (pi_any (pv 1)) (blkOk_by (own := [("_law_offset", 7)]) (N := N__law_tightest) (sc := defScope s__law_tightest) (by decide +kernel)) (fun _ _ _ _ _ => pg_name (i := 7) nd rfl (by first | exact Or.inl rfl | exact Or.inr rfl)) (fun _ _ _ _ _ => pts_nil) (fun _ _ _ _ _ => pe_op u_mod (pe_op u_addN (pv 7) (pv 5)) (pv 2))) (pa_nil)))) (pss_one (ps_if (pt_cmpR u_lt (pe_callB (call_max2 rfl) (by rfl) B.b_max (by decide +kernel) (pa_cons (pv 5) (pa_cons (pv 6) (pa_nil)))) (pe_op u_shl (pe_int) (pv 4)) (nomark _)) (pss_one (ps_ret (pe_tupN (pa_cons (pv 4) (pa_cons (pv 5) (pa_nil)))))) (pss_nil))))))) (pss_one (ps_ret (pe_tupN (pa_cons (pv 0) (pa_cons (pe_int) (pa_nil)))))))), ?_⟩
        clear hr
        rw [show L2.start N__law_tightest [v_breadth, v_offsets_here] = [some v_breadth, some v_offsets_here, none, none, none, none, none, none] from rfl]
        obtain ⟨br, os, a, rfl, rfl, hos, l1, l50, b0, b1, q⟩ := h
        walk_at "Zs"
        rename_i p1 H1 n1 e1 h1
        refine w_goL (e1.seq hos) ?_
        refine lcL (e1.seq hos) (fun i acc _ => acc = (os.take i).map fun o => V.int ((0 - o) % p2 br)) stb_pure (by rw [List.length_map]; omega) (fun i acc H' e => by rw [e, List.length_map, List.length_take]; omega) (fun H' _ => rfl) (fun i x acc H' hx e2 ea k k' hk hk' => ?_) fun D acc H2 hD e2 hD' ea => ?_
        · obtain ⟨b, eb, rfl⟩ := ints_at hx
          walk_at "Zs"
          refine hk _ _ (Same.refl _) ?_
          rw [List.take_add_one, eb, List.map_append, ea, ← Int.zero_sub b]
          rfl
        rw [List.length_map, List.take_length] at ea
        walk_at "Zs"
        refine w_catL (e2 _ _ h1) hD' (by rw [ea, List.length_map]; simp only [List.length_cons, List.length_nil]; omega) fun p3 H3 np3 e3 h3 => ?_
        walk_at "Zs"
        refine w_sortedI (ns := candL (p2 br) os) (SqL.of (by rw [h3, ea]; unfold candL; rw [List.map_cons, List.map_map]; rfl)) fun ys p4 H4 hp hs np4 e4 h4 => ?_
        have ly : ys.length ≤ 51 := by
          have := hp.length_eq
          unfold candL at this
          rw [List.length_cons, List.length_map] at this
          omega
        walk_at "Zs"
        have E4 : Same H H4 := e1.trans (e2.trans (e3.trans e4))
        refine forR0 (fun i σ' H' => (∃ y4 y5 y6 y7, σ' = [some (.int br), some (.ref a), some (.int (p2 br)), some (.ref p4), y4, y5, y6, y7]) ∧ Same H4 H' ∧ ∀ w : Nat, w < i → ∀ c ∈ ys, ¬ InWin br os (w : Int) c) ⟨⟨_, _, _, _, rfl⟩, Same.refl _, fun w h => absurd h (Nat.not_lt_zero _)⟩ (fun i σ' H5 hi h => ?_) (fun σ' H5 h => ?_)
        · obtain ⟨⟨y4, y5, y6, y7, rfl⟩, e5, hw⟩ := h
          walk_at "Zs"
          refine w_goL (SqL.of (e5 _ _ h4)) ?_
          refine forL (fun j σ' H' => (∃ y5 y6 y7, σ' = [some (.int br), some (.ref a), some (.int (p2 br)), some (.ref p4), some (.int (i : Int)), y5, y6, y7]) ∧ Same H4 H' ∧ ∀ c ∈ ys.take j, ¬ InWin br os (i : Int) c) ⟨⟨_, _, _, rfl⟩, e5, fun c hc => by cases hc⟩ (fun j σ' H' _ h => SqL.of (h.2.1 _ _ h4)) (fun j x σ' H6 hx h => ?_) (fun σ' H6 h => ?_)
          · obtain ⟨⟨y5, y6, y7, rfl⟩, e6, hc6⟩ := h
            obtain ⟨b, eb, rfl⟩ := ints_at hx
            have hos6 := (E4.trans e6).seq hos
            walk_at "Zs"
            refine w_goL hos6 ?_
            refine lcL hos6 (fun l acc _ => acc = (os.take l).map fun o => V.int ((o + b) % p2 br)) stb_pure (by rw [List.length_map]; omega) (fun l acc H' e => by rw [e, List.length_map, List.length_take]; omega) (fun H' _ => rfl) (fun l x acc H' hx e7 ea k k' hk hk' => ?_) fun D acc H7 hD e7 hD' ea => ?_
            · obtain ⟨c, ec, rfl⟩ := ints_at hx
              walk_at "Zs"
              refine hk _ _ (Same.refl _) ?_
              rw [List.take_add_one, ec, List.map_append, ea]
              rfl
            rw [List.length_map, List.take_length] at ea
            walk_at "Zs"
            refine w_max (ns := os.map fun o => (o + b) % p2 br) (SqL.of (by rw [hD', ea, List.map_map]; rfl)) (by rw [List.length_map]; omega) fun m hm hle => ?_
            walk_at "Zs"
            obtain ⟨om, hom, hme⟩ := List.mem_map.mp hm
            refine w_dec (fun hc => ?_) (fun hc => ?_)
            · have hin : InWin br os (i : Int) b := by
                have hc2 : b < p2 i ∧ m < p2 i := by split at hc <;> omega
                refine ⟨hc2.1, fun o ho => ?_⟩
                have := hle _ (List.mem_map.mpr ⟨o, ho, rfl⟩)
                omega
              walk_at "Zs"
              rename_i p8 H8 n8 e8 h8
              exact q i b _ _ (E4.trans (e6.trans (e7.trans e8))) (tight_hit hp hs (by omega) hw hc6 eb hin) (by omega) (dq_ofN (ns := [(i : Int), b]) h8)
            · have hin : ¬ InWin br os (i : Int) b := fun z => by
                have z1 := z.1
                have z2 := z.2 om hom
                rw [hme] at z2
                split at hc <;> omega
              walk_at "Zs"
              refine ⟨⟨_, _, _, rfl⟩, e6.trans e7, fun c hcm => ?_⟩
              rw [List.take_add_one, eb] at hcm
              rcases List.mem_append.mp hcm with h | h
              · exact hc6 c h
              · rw [List.mem_singleton.mp h]
                exact hin
          · obtain ⟨⟨y5, y6, y7, rfl⟩, e6, hc6⟩ := h
            rw [List.length_map, List.take_length] at hc6
            refine ⟨⟨_, _, _, _, rfl⟩, e6, fun w hwi c hcm => ?_⟩
            by_cases k : w < i
            · exact hw w k c hcm
            · have : w = i := by omega
              subst this
              exact hc6 c hcm
        · obtain ⟨⟨y4, y5, y6, y7, rfl⟩, e5, hw⟩ := h
          walk_at "Zs"
          rename_i p8 H8 n8 e8 h8
          exact q br 0 _ _ (E4.trans (e5.trans e8)) (tight_miss hp b0 hw) (Int.le_refl _) (dq_ofN (ns := [br, 0]) h8)
  exact F0
theorem c__law_tightest {W : Wd} {mg : Str → Option Value} {base : Heap} (B : Bi mg) (S : Src W.K mg "_law_tightest" s__law_tightest)  : Cal W mg base "_law_tightest" 1 ["_law_breadth", "_law_offsets_here"] (sp__law_tightest W) := by
  obtain ⟨f, fd, g, F⟩ := S
  exact ⟨f, fd, g, f__law_tightest B F , F.kp, (F.binds (ps := ["_law_breadth", "_law_offsets_here"]) fun _ _ _ _ _ _ us hl => match us, hl with | [_, _], _ => rfl)⟩
theorem go__law_tightest {W : Wd} {H : Hp} {Q : VK} {E : XK} {br : Int} {os : List Int} {a : Addr} (hos : SqL W.K H a (os.map V.int)) (l1 : 1 ≤ os.length) (l50 : os.length ≤ 50) (b0 : 0 ≤ br) (b1 : br ≤ 100) (q : ∀ wd bl v H', Same H H' → Tight br os wd bl → wd ≤ br → Dq W.K H' v (.tuple [.int wd, .int bl]) → Q v H') : sp__law_tightest W [.int br, .ref a] H Q E := ⟨br, os, a, rfl, rfl, hos, l1, l50, b0, b1, q⟩
def sp__law_ways (W : Wd) : Sp := fun vs H Q _ => match vs with
  | [v_shape_here, v_head_here, v_formers_here] =>
  ∃ (s : Shp) (hd : List Int) (ps : List Fo), Dq W.K H v_shape_here (shD s) ∧ OkShp s ∧ Dq W.K H v_head_here (headD hd) ∧ hd.length = s.fs.length ∧ Dq W.K H v_formers_here (fosD ps) ∧ (∀ p ∈ ps, OkFo s p) ∧ 1 ≤ ps.length ∧ ps.length ≤ 50 ∧ ∀ ws v H', Same H H' → WaysR s hd ps ws → Dq W.K H' v (.tuple (ws.map wyD)) → Q v H'
  | _ => False
abbrev N__law_ways : List Str := ["_law_shape_here", "_law_head_here", "_law_formers_here", "_law_ways_here", "_law_place", "_law_field", "_law_offsets_here", "_law_width", "_law_below", "_law_way", "_law_offset"]
theorem sc__law_ways : FnScope N__law_ways ["_law_shape_here", "_law_head_here", "_law_formers_here"] (defScope s__law_ways) := ⟨rfl, rfl, rfl, by decide +kernel, rfl, by decide +kernel, by decide +kernel⟩
theorem f__law_ways {W : Wd} {mg : Str → Option Value} {base : Heap} (B : Bi mg) {f : Addr} {fd : FuncData} (F : Fun W.K "_law_ways" "_law_ways" s__law_ways f fd) (C__law_tightest : Cal W mg base "_law_tightest" 1 ["_law_breadth", "_law_offsets_here"] (sp__law_tightest W)) (C__law_offsets : Cal W mg base "_law_offsets" 2 ["_law_shape_here", "_law_head_here", "_law_formers_here", "_law_place"] (sp__law_offsets W)) : FnOk W.P W.w W.K mg base CX0 3 f fd ["_law_shape_here", "_law_head_here", "_law_formers_here"] (sp__law_ways W) := by
  obtain ⟨a__law_tightest, d__law_tightest, g__law_tightest, F__law_tightest, k__law_tightest, b__law_tightest⟩ := C__law_tightest
  obtain ⟨a__law_offsets, d__law_offsets, g__law_offsets, F__law_offsets, k__law_offsets, b__law_offsets⟩ := C__law_offsets
  have nd := sc__law_ways.nd
  have F0 : FnOk W.P W.w W.K mg base CX0 3 f fd ["_law_shape_here", "_law_head_here", "_law_formers_here"] (sp__law_ways W) := by
    refine F.ok sc__law_ways (fun vs H Q E h => ?_) (fun cdv A outer s H vs Q E hr h => ?_)
    · match vs, h with | [_, _, _], _ => rfl
    · match vs, h with
      | [v_shape_here, v_head_here, v_formers_here], h =>
        change sp__law_ways W [v_shape_here, v_head_here, v_formers_here] H Q E at h
        refine ⟨tSeq (tAsg (tLst (tNil)) (gName 3)) (tSeq (tFor (iEnumU W.K (tCons (tOp (rIxU W.K) (tVar 0) (tC (.int 0))) (tNil))) (gTup W.K 2 (gCons (gName 4) (gCons (gName 5) (gNil)))) (tSeq (tAsg (tLc (iAny W.K (tCall (sp__law_offsets W) [] E0 (tCons (tVar 0) (tCons (tVar 1) (tCons (tVar 2) (tCons (tVar 4) (tNil))))))) (gName 10) (tYes) (tOp (rModU) (tVar 10) (tOp (rShlU) (tC (.int 1)) (tOp (rIxU W.K) (tVar 5) (tC (.int 1))))) [10]) (gName 6)) (tSeq (tAsg (tCall (sp__law_tightest W) [] E0 (tCons (tOp (rIxU W.K) (tVar 5) (tC (.int 1))) (tCons (tVar 6) (tNil)))) (gTup W.K 2 (gCons (gName 7) (gCons (gName 8) (gNil))))) (tSeq (tAsg (tTupN (tCons (tC (.str "low")) (tCons (tVar 7) (tCons (tVar 8) (tNil))))) (gName 9)) (tSeq (tIfS (tTest (tOp (rEqU W.K) (tVar 7) (tOp (rIxU W.K) (tVar 5) (tC (.int 1))))) (tAsg (tTupN (tCons (tC (.str "whole")) (tNil))) (gName 9)) (tNext)) (tSeq (tIfS (tTest (tOp (rEqU W.K) (tCB (rMax W.K) (tCons (tVar 6) (tNil))) (tC (.int 0)))) (tAsg (tTupN (tCons (tC (.str "keep")) (tNil))) (gName 9)) (tNext)) (tDrop (tBM W.K "list" rAppend (tVar 3) (tCons (tVar 9) (tNil)))))))))) (tRet (tCB (rTupleOfN W.K) (tCons (tVar 3) (tNil))))), pss_cons (ps_set (i := 3) nd rfl (.inl rfl) (pe_lst (pa_nil))) (pss_cons (ps_for PassesOwn.never rfl (pi_enumU (by rfl) B.b_enumerate (pa_cons (pe_ix u_ix (pv 0) (pe_int) (fun _ _ => rfl)) (pa_nil))) (pg_tup rfl (pgs_cons (pg_name (i := 4) nd rfl (by first | exact Or.inl rfl | exact Or.inr rfl)) (pgs_cons (pg_name (i := 5) nd rfl (by first | exact Or.inl rfl | exact Or.inr rfl)) (pgs_nil)))) (pss_cons (ps_setLc (i := 6) (own := [("_law_offset", 10)]) rfl nd rfl rfl (sw_true rfl rfl rfl (by decide +kernel)) (pi_any (pe_call F__law_offsets (hr.mono (by decide)) (by rfl) g__law_offsets k__law_offsets b__law_offsets .nil pass0 (pa_cons (pv 0) (pa_cons (pv 1) (pa_cons (pv 2) (pa_cons (pv 4) (pa_nil))))))) (blkOk_by (own := [("_law_offset", 10)]) (N := N__law_ways) (sc := defScope s__law_ways) (by decide +kernel)) (fun _ _ _ _ _ => pg_name (i := 10) nd rfl (by first | exact Or.inl rfl | exact Or.inr rfl)) (fun _ _ _ _ _ => pts_nil) (fun _ _ _ _ _ => pe_op u_mod (pv 10) (pe_op u_shl (pe_int) (pe_ix u_ix (pv 5) (pe_int) (fun _ _ => rfl))))) (pss_cons (ps_asg (pe_call F__law_tightest (hr.mono (by decide)) (by rfl) g__law_tightest k__law_tightest b__law_tightest .nil pass0 (pa_cons (pe_ix u_ix (pv 5) (pe_int) (fun _ _ => rfl)) (pa_cons (pv 6) (pa_nil)))) (pg_tup rfl (pgs_cons (pg_name (i := 7) nd rfl (by first | exact Or.inl rfl | exact Or.inr rfl)) (pgs_cons (pg_name (i := 8) nd rfl (by first | exact Or.inl rfl | exact Or.inr rfl)) (pgs_nil))))) (pss_cons (ps_set (i := 9) nd rfl (.inl rfl) (pe_tupN (pa_cons (pe_str) (pa_cons (pv 7) (pa_cons (pv 8) (pa_nil)))))) (pss_cons (ps_if (pt_cmpR (u_eq hr.units) (pv 7) (pe_ix u_ix (pv 5) (pe_int) (fun _ _ => rfl)) (nomark _)) (pss_one (ps_set (i := 9) nd rfl (.inl rfl) (pe_tupN (pa_cons (pe_str) (pa_nil))))) (pss_nil)) (pss_cons (ps_if (pt_cmpR (u_eq hr.units) (pe_callB (cr_max rfl) (by rfl) B.b_max (by decide +kernel) (pa_cons (pv 6) (pa_nil))) (pe_int) (nomark _)) (pss_one (ps_set (i := 9) nd rfl (.inl rfl) (pe_tupN (pa_cons (pe_str) (pa_nil))))) (pss_nil)) (pss_one (ps_expr (pe_bm PySem.F.plainAttrs_list PySem.F.slot_list_append PySem.F.type_list_append mt_append (pv 3) (pa_cons (pv 9) (pa_nil))))))))))) (pss_one (ps_ret (pe_callTy call_tuple_ofN (by rfl) B.b_tuple (by decide +kernel) (pa_cons (pv 3) (pa_nil)))))), ?_⟩
        clear hr
        clear F__law_tightest g__law_tightest k__law_tightest b__law_tightest d__law_tightest a__law_tightest
        clear F__law_offsets g__law_offsets k__law_offsets b__law_offsets d__law_offsets a__law_offsets
        rw [show L2.start N__law_ways [v_shape_here, v_head_here, v_formers_here] = [some v_shape_here, some v_head_here, some v_formers_here, none, none, none, none, none, none, none, none] from rfl]
        obtain ⟨s, hd, ps, hs, ok, hh, lh, hps, okp, l1p, lps, q⟩ := h
        have l1 := ok.l1
        walk_at "Zs"
        rename_i L G1 nL f1 hL1
        refine w_ixQTx hs (Same.sx f1) (d := .tuple (s.fs.map fdD)) rfl fun x1 h1 => ?_
        walk_at "Zs"
        obtain ⟨a, ys, rfl, hys, hds⟩ := dq_tt h1
        have lys := dqs_len hds
        rw [List.length_map] at lys
        refine w_goET (same_t f1 hys.t) ?_
        refine forET2 (xs := ys) (fun j σ' H' => (∃ y4 y5 y6 y7 y8 y9 y10, σ' = [some v_shape_here, some v_head_here, some v_formers_here, some (.ref L), y4, y5, y6, y7, y8, y9, y10]) ∧ (∃ (ws : List Wy) (vs : List V), H' L = some (.lst vs) ∧ DqAll W.K H' vs (ws.map wyD) ∧ ws.length = j ∧ ∀ (p : Nat) w, ws[p]? = some w → WayR s hd ps p w) ∧ Same H H') ⟨⟨_, _, _, _, _, _, _, rfl⟩, ⟨[], [], hL1, .nil, rfl, fun p w h => by cases h⟩, f1⟩ (fun j σ' H' h => same_t h.2.2 hys.t) (fun j x σ' H4 hx h H5 e5 => ?_) (fun σ' H4 h => ?_)
        · obtain ⟨⟨y4, y5, y6, y7, y8, y9, y10, rfl⟩, ⟨ws, vs, hL, hws, lws, hway⟩, e4⟩ := h
          obtain ⟨d, hd1, hxd⟩ := dqs_get2 hds hx
          obtain ⟨fd, hfd, rfl⟩ := map_at hd1
          have okd := ok.fd j fd hfd
          have b0 := okd.b0
          have b1 := okd.b1
          have pb := p2_pos fd.br
          have hj := (List.getElem?_eq_some_iff.mp hfd).1
          have lvs := dqs_len hws
          rw [List.length_map] at lvs
          have e05 := e4.trans e5
          walk_at "Zs"
          refine go__law_offsets (dq_mono e05 hs) ok (dq_mono e05 hh) lh (dq_mono e05 hps) okp (by omega) hj fun ns fd' A H6 hfd' e6 hA hos => ?_
          obtain rfl := Option.some.inj (hfd.symm.trans hfd')
          have lns := hos.1
          rw [List.length_map] at lns
          walk_at "Zs"
          refine w_goL (SqL.of hA) ?_
          refine lcL (SqL.of hA) (fun i acc _ => acc = (ns.take i).map fun o => V.int (o % p2 fd.br)) stb_pure (by rw [List.length_map]; omega) (fun i acc H' e => by rw [e, List.length_map, List.length_take]; omega) (fun H' _ => rfl) (fun i x acc H' hx e7 ea k k' hk hk' => ?_) fun D acc H7 hD e7 hD' ea => ?_
          · obtain ⟨b, eb, rfl⟩ := ints_at hx
            walk_at "Zs"
            refine w_ixQTi (dq_mono (e05.trans (e6.trans e7)) hxd) (n := fd.br) rfl ?_
            walk_at "Zs"
            refine hk _ _ (Same.refl _) ?_
            rw [List.take_add_one, eb, List.map_append, ea]
            rfl
          rw [List.length_map, List.take_length] at ea
          have hO : SqL W.K H7 D ((ns.map fun o => o % p2 fd.br).map V.int) := SqL.of (by rw [hD', ea, List.map_map]; rfl)
          have lO : (ns.map fun o => o % p2 fd.br).length = ps.length := hos.1
          generalize ns.map (fun o => o % p2 fd.br) = os at hos hO lO
          have ob := hos.bd hfd
          walk_at "Zs"
          refine w_ixQTi (dq_mono (e05.trans (e6.trans e7)) hxd) (n := fd.br) rfl ?_
          walk_at "Zs"
          refine go__law_tightest hO (by omega) (by omega) (by omega) (by omega) fun wd bl v H8 e8 ht hwb hv => ?_
          obtain ⟨t, rfl, htn⟩ := dq_ti (ns := [wd, bl]) hv
          have ht2 : SqN W.K H8 t [.int wd, .int bl] := htn
          clear htn
          walk_at "Zp"
          rename_i p9 H9 n9 e9 h9
          have hlow : Dq W.K H9 (.ref p9) (wyD (.low wd bl)) := dq_new h9 (.cons (.str _) (dqs_two (.int _) (.int _)))
          have e09 : Same H H9 := e05.trans (e6.trans (e7.trans (e8.trans e9)))
          have hO9 : SqL W.K H9 D (os.map V.int) := (e8.trans e9).seq hO
          refine w_cut (fun σ' H' => ∃ (w : Wy) (wv : V), (∃ y10, σ' = [some v_shape_here, some v_head_here, some v_formers_here, some (.ref L), some (.int (j : Int)), some x, some (.ref D), some (.int wd), some (.int bl), some wv, y10]) ∧ Same H9 H' ∧ Dq W.K H' wv (wyD w) ∧ w = if wd < fd.br then .low wd bl else .whole) (fun σ' H' h => ?_) (fun nx' key => ?_)
          · obtain ⟨w1, wv1, ⟨y10, rfl⟩, e10, hw1, ew1⟩ := h
            walk_at "Zp"
            refine w_cut (fun σ' H' => ∃ (w : Wy) (wv : V), (∃ y10, σ' = [some v_shape_here, some v_head_here, some v_formers_here, some (.ref L), some (.int (j : Int)), some x, some (.ref D), some (.int wd), some (.int bl), some wv, y10]) ∧ Same H9 H' ∧ Dq W.K H' wv (wyD w) ∧ WyO fd.br os w) (fun σ' H' h => ?_) (fun nx' key => ?_)
            · obtain ⟨w2, wv2, ⟨y10, rfl⟩, e11, hw2, ow2⟩ := h
              have hLa := e11 _ _ (e9 _ _ (e8 _ _ (e7 _ _ (e6 _ _ (e5 _ _ hL)))))
              have e4a : Same H4 _ := e5.trans (e6.trans (e7.trans (e8.trans (e9.trans e11))))
              walk_at "Zs"
              refine w_tyL hLa ?_
              walk_at "Zs"
              refine w_append hLa (by omega) ?_
              walk_at "Zs"
              refine ⟨⟨_, _, _, _, _, _, _, rfl⟩, ⟨ws ++ [w2], vs ++ [wv2], upd_same, ?_, by rw [List.length_append, lws]; rfl, fun p w' hw' => ?_⟩, same_mut (e4.trans e4a) nL⟩
              · rw [List.map_append]
                refine dqs_lst hLa (dqs_app (dqs_mono e4a hws) (dqs_one hw2)) ?_
                rw [← List.map_append]
                exact tupO_wys _
              · by_cases k : p < ws.length
                · rw [List.getElem?_append_left k] at hw'
                  exact hway p w' hw'
                · rw [List.getElem?_append_right (by omega)] at hw'
                  obtain ⟨z1, z2⟩ := get1 hw'
                  have : p = j := by omega
                  subst this
                  rw [← z2]
                  exact ⟨fd, os, hfd, hos, ow2⟩
            · walk_at "Zs"
              refine w_max (ns := os) (e10.seq hO9) (by omega) fun m hm hle => ?_
              walk_at "Zs"
              refine w_dec (fun hc => ?_) (fun hc => ?_)
              · walk_at "Zs"
                rename_i pa Ha na ea ha
                refine key _ _ ⟨.keep, _, ⟨_, rfl⟩, e10.trans ea, dq_new ha (dqs_one (.str _)), .inl ⟨fun o ho => ?_, rfl⟩⟩
                have z1 := hle o ho
                have z2 := (ob o ho).1
                omega
              · walk_at "Zs"
                refine key _ _ ⟨w1, _, ⟨_, rfl⟩, e10, hw1, .inr ⟨fun z => hc (z m hm), wd, bl, ht, ew1⟩⟩
          · walk_at "Zs"
            refine w_ixQTi (dq_mono e09 hxd) (n := fd.br) rfl ?_
            walk_at "Zs"
            refine w_dec (fun hc => ?_) (fun hc => ?_)
            · walk_at "Zs"
              rename_i pa Ha na ea ha
              exact key _ _ ⟨.whole, _, ⟨_, rfl⟩, ea, dq_new ha (dqs_one (.str _)), by rw [if_neg (by omega)]⟩
            · walk_at "Zs"
              exact key _ _ ⟨.low wd bl, _, ⟨_, rfl⟩, Same.refl _, hlow, by rw [if_pos (by omega)]⟩
        · obtain ⟨⟨y4, y5, y6, y7, y8, y9, y10, rfl⟩, ⟨ws, vs, hL, hws, lws, hway⟩, e4⟩ := h
          rw [lys] at lws
          walk_at "Zs"
          refine w_tupleN (SqL.of hL) fun p6 H6 n6 e6 g6 => ?_
          walk_at "Zs"
          exact q ws _ _ (e4.trans e6) ⟨lws, hway⟩ (dq_new g6 (dqs_mono e6 hws))
  exact F0
theorem c__law_ways {W : Wd} {mg : Str → Option Value} {base : Heap} (B : Bi mg) (S : Src W.K mg "_law_ways" s__law_ways) (C__law_tightest : Cal W mg base "_law_tightest" 1 ["_law_breadth", "_law_offsets_here"] (sp__law_tightest W)) (C__law_offsets : Cal W mg base "_law_offsets" 2 ["_law_shape_here", "_law_head_here", "_law_formers_here", "_law_place"] (sp__law_offsets W)) : Cal W mg base "_law_ways" 3 ["_law_shape_here", "_law_head_here", "_law_formers_here"] (sp__law_ways W) := by
  obtain ⟨f, fd, g, F⟩ := S
  exact ⟨f, fd, g, f__law_ways B F C__law_tightest C__law_offsets, F.kp, (F.binds (ps := ["_law_shape_here", "_law_head_here", "_law_formers_here"]) fun _ _ _ _ _ _ us hl => match us, hl with | [_, _, _], _ => rfl)⟩
theorem go__law_ways {W : Wd} {H : Hp} {Q : VK} {E : XK} {vs vh vp : V} {s : Shp} {hd : List Int} {ps : List Fo} (hs : Dq W.K H vs (shD s)) (ok : OkShp s) (hh : Dq W.K H vh (headD hd)) (lh : hd.length = s.fs.length) (hps : Dq W.K H vp (fosD ps)) (okp : ∀ p ∈ ps, OkFo s p) (l1p : 1 ≤ ps.length) (lps : ps.length ≤ 50) (q : ∀ ws v H', Same H H' → WaysR s hd ps ws → Dq W.K H' v (.tuple (ws.map wyD)) → Q v H') : sp__law_ways W [vs, vh, vp] H Q E := ⟨s, hd, ps, hs, ok, hh, lh, hps, okp, l1p, lps, q⟩
def sp__law_right (W : Wd) : Sp := fun vs H Q _ => match vs with
  | [v_shape_here, v_heads, v_reach, v_count] =>
  ∃ (s : Shp) (hs : List (List Int)) (r c : Int), Dq W.K H v_shape_here (shD s) ∧ OkShp s ∧ Dq W.K H v_heads (.list (hs.map headD)) ∧ HeadsOk s hs ∧ hs.length ≤ 100 ∧ v_reach = .int r ∧ 1 ≤ r ∧ r ≤ 40 ∧ v_count = .int c ∧ 1 ≤ c ∧ c ≤ 40 ∧ ∀ H', Same H H' → Q (.bl true) H'
  | _ => False
abbrev N__law_right : List Str := ["_law_shape_here", "_law_heads", "_law_reach", "_law_count", "_law_due", "_law_number", "_law_formers_here", "_law_form", "_law_found"]
theorem sc__law_right : FnScope N__law_right ["_law_shape_here", "_law_heads", "_law_reach", "_law_count"] (defScope s__law_right) := ⟨rfl, rfl, rfl, by decide +kernel, rfl, by decide +kernel, by decide +kernel⟩
theorem f__law_right {W : Wd} {mg : Str → Option Value} {base : Heap} (B : Bi mg) {f : Addr} {fd : FuncData} (F : Fun W.K "_law_right" "_law_right" s__law_right f fd) (C__law_same : Cal W mg base "_law_same" 7 ["_law_found", "_law_due"] (sp__law_same W)) (C_proposed : Cal W mg base "proposed" 5 ["shape", "heads", "reach", "count"] (sp_proposed W)) (C_sure : Cal W mg base "sure" 6 ["shape", "form", "head", "formers"] (sp_sure W)) (C__law_ways : Cal W mg base "_law_ways" 3 ["_law_shape_here", "_law_head_here", "_law_formers_here"] (sp__law_ways W)) (C__law_formers : Cal W mg base "_law_formers" 1 ["_law_heads", "_law_number", "_law_reach"] (sp__law_formers W)) : FnOk W.P W.w W.K mg base CX0 8 f fd ["_law_shape_here", "_law_heads", "_law_reach", "_law_count"] (sp__law_right W) := by
  obtain ⟨a__law_same, d__law_same, g__law_same, F__law_same, k__law_same, b__law_same⟩ := C__law_same
  obtain ⟨a_proposed, d_proposed, g_proposed, F_proposed, k_proposed, b_proposed⟩ := C_proposed
  obtain ⟨a_sure, d_sure, g_sure, F_sure, k_sure, b_sure⟩ := C_sure
  obtain ⟨a__law_ways, d__law_ways, g__law_ways, F__law_ways, k__law_ways, b__law_ways⟩ := C__law_ways
  obtain ⟨a__law_formers, d__law_formers, g__law_formers, F__law_formers, k__law_formers, b__law_formers⟩ := C__law_formers
  have nd := sc__law_right.nd
  have F0 : FnOk W.P W.w W.K mg base CX0 8 f fd ["_law_shape_here", "_law_heads", "_law_reach", "_law_count"] (sp__law_right W) := by
    refine F.ok sc__law_right (fun vs H Q E h => ?_) (fun cdv A outer s H vs Q E hr h => ?_)
    · match vs, h with | [_, _, _, _], _ => rfl
    · match vs, h with
      | [v_shape_here, v_heads, v_reach, v_count], h =>
        change sp__law_right W [v_shape_here, v_heads, v_reach, v_count] H Q E at h
        refine ⟨tSeq (tAsg (tDNewK) (gName 4)) (tSeq (tFor (iRng2 (tCons (tC (.int 1)) (tCons (tCB (rLenU W.K) (tCons (tVar 1) (tNil))) (tNil)))) (gName 5) (tSeq (tAsg (tCall (sp__law_formers W) [] E0 (tCons (tVar 1) (tCons (tVar 5) (tCons (tVar 2) (tNil))))) (gName 6)) (tSeq (tAsg (tTupN (tCons (tVar 2) (tCons (tVar 3) (tCons (tCall (sp__law_ways W) [] E0 (tCons (tVar 0) (tCons (tOp (rIxU W.K) (tVar 1) (tVar 5)) (tCons (tVar 6) (tNil))))) (tNil))))) (gName 7)) (tSeq (tAsg (tC (.bl true)) (gSub (tVar 4) (tVar 7) (rSetN W.K W.w))) (tIfS (tTest (tOp (rIsNotU) (tCall (sp_sure W) [] E0 (tCons (tVar 0) (tCons (tVar 7) (tCons (tOp (rIxU W.K) (tVar 1) (tVar 5)) (tCons (tVar 6) (tNil)))))) (tC (.bl true)))) (tRet (tC (.bl false))) (tNext)))))) (tSeq (tAsg (tCall (sp_proposed W) [] E0 (tCons (tVar 0) (tCons (tVar 1) (tCons (tVar 2) (tCons (tVar 3) (tNil)))))) (gName 8)) (tRet (tAndV (tCall (sp__law_same W) [] E0 (tCons (tVar 8) (tCons (tCB (rTupleOfN W.K) (tCons (tCB (rSortedN W.K W.w) (tCons (tVar 4) (tNil))) (tNil))) (tNil)))) (tOp (rEqU W.K) (tCall (sp_proposed W) [] E0 (tCons (tVar 0) (tCons (tVar 1) (tCons (tVar 2) (tCons (tVar 3) (tNil)))))) (tVar 8)))))), pss_cons (ps_set (i := 4) nd rfl (.inl rfl) (pe_dnewK)) (pss_cons (ps_for PassesOwn.never rfl (pi_range2 (by rfl) B.b_range (pa_cons (pe_int) (pa_cons (pe_callB u_len (by rfl) B.b_len (by decide +kernel) (pa_cons (pv 1) (pa_nil))) (pa_nil)))) (pg_name (i := 5) nd rfl (by first | exact Or.inl rfl | exact Or.inr rfl)) (pss_cons (ps_set (i := 6) nd rfl (.inl rfl) (pe_call F__law_formers (hr.mono (by decide)) (by rfl) g__law_formers k__law_formers b__law_formers .nil pass0 (pa_cons (pv 1) (pa_cons (pv 5) (pa_cons (pv 2) (pa_nil)))))) (pss_cons (ps_set (i := 7) nd rfl (.inl rfl) (pe_tupN (pa_cons (pv 2) (pa_cons (pv 3) (pa_cons (pe_call F__law_ways (hr.mono (by decide)) (by rfl) g__law_ways k__law_ways b__law_ways .nil pass0 (pa_cons (pv 0) (pa_cons (pe_ix u_ix (pv 1) (pv 5) (fun _ _ => rfl)) (pa_cons (pv 6) (pa_nil))))) (pa_nil)))))) (pss_cons (ps_asg (pe_bl) (pg_sub (pv 4) (pv 7) (set_dn hr.units))) (pss_one (ps_if (pt_cmpR u_isnot (pe_call F_sure (hr.mono (by decide)) (by rfl) g_sure k_sure b_sure .nil pass0 (pa_cons (pv 0) (pa_cons (pv 7) (pa_cons (pe_ix u_ix (pv 1) (pv 5) (fun _ _ => rfl)) (pa_cons (pv 6) (pa_nil)))))) (pe_bl) (nomark _)) (pss_one (ps_ret (pe_bl))) (pss_nil))))))) (pss_cons (ps_set (i := 8) nd rfl (.inl rfl) (pe_call F_proposed (hr.mono (by decide)) (by rfl) g_proposed k_proposed b_proposed .nil pass0 (pa_cons (pv 0) (pa_cons (pv 1) (pa_cons (pv 2) (pa_cons (pv 3) (pa_nil))))))) (pss_one (ps_ret (pe_and (pe_call F__law_same (hr.mono (by decide)) (by rfl) g__law_same k__law_same b__law_same .nil pass0 (pa_cons (pv 8) (pa_cons (pe_callTy call_tuple_ofN (by rfl) B.b_tuple (by decide +kernel) (pa_cons (pe_callB (call_sortedN rfl hr.units) (by rfl) B.b_sorted (by decide +kernel) (pa_cons (pv 4) (pa_nil))) (pa_nil))) (pa_nil)))) (pe_one (pe_cmpR (u_eq hr.units) (pe_call F_proposed (hr.mono (by decide)) (by rfl) g_proposed k_proposed b_proposed .nil pass0 (pa_cons (pv 0) (pa_cons (pv 1) (pa_cons (pv 2) (pa_cons (pv 3) (pa_nil)))))) (pv 8) (nomark _)))))))), ?_⟩
        clear hr
        clear F__law_same g__law_same k__law_same b__law_same d__law_same a__law_same
        clear F_proposed g_proposed k_proposed b_proposed d_proposed a_proposed
        clear F_sure g_sure k_sure b_sure d_sure a_sure
        clear F__law_ways g__law_ways k__law_ways b__law_ways d__law_ways a__law_ways
        clear F__law_formers g__law_formers k__law_formers b__law_formers d__law_formers a__law_formers
        rw [show L2.start N__law_right [v_shape_here, v_heads, v_reach, v_count] = [some v_shape_here, some v_heads, some v_reach, some v_count, none, none, none, none, none] from rfl]
        obtain ⟨s, hs, r, c, hsh, ok, hhs, okh, lh, rfl, r0, r1, rfl, c0, c1, q⟩ := h
        have l1 := ok.l1
        walk_at "Zs"
        rename_i D G1 nD f1 hD1
        refine w_lenQLm (dq_mono f1 hhs) ?_
        walk_at "Zs"
        refine w_rg2 (by omega) ?_
        have hm3 : ((hs.length : Int) - 1).toNat = hs.length - 1 := by omega
        rw [hm3]
        refine forR (fun i σ' H' => (∃ y5 y6 y7 y8, σ' = [some v_shape_here, some v_heads, some (.int r), some (.int c), some (.ref D), y5, y6, y7, y8]) ∧ (∃ fs xs, DnAt W.K W.w H' D xs ∧ xs.map (·.1) = keysF fs ∧ FormsR s hs r c i fs) ∧ Same H H') ⟨⟨_, _, _, _, rfl⟩, ⟨[], [], dnAt_new hD1, rfl, FormsR.nil⟩, f1⟩ (fun i σ' H2 hi h => ?_) (fun σ' H2 h => ?_)
        · obtain ⟨⟨y5, y6, y7, y8, rfl⟩, ⟨fs, xs, hD, hks, hfs⟩, e2⟩ := h
          walk_at "Zs"
          refine go__law_formers (dq_mono e2 hhs) okh (by omega) (by omega) (by omega) r0 (by omega) fun ps pv H3 e3 hps okps lps atps => ?_
          have frm : FrmsR hs (1 + (i : Int)) r ps := ⟨lps, atps⟩
          have lp : 1 ≤ ps.length ∧ ps.length ≤ 40 := by split at lps <;> omega
          walk_at "Zs"
          refine w_ixLM (dq_mono (e2.trans e3) hhs) (by omega) (by omega) fun hd hx hhd hhx => ?_
          have oh := okh hd (List.mem_of_getElem? hhd)
          walk_at "Zs"
          refine go__law_ways (dq_mono (e2.trans e3) hsh) ok hhx (okHead_len oh) hps okps lp.1 (by omega) fun ws wv H4 e4 hws hwv => ?_
          walk_at "Zs"
          rename_i p5 H5 n5 e5 h5
          have hf : Dq W.K H5 (.ref p5) (fmD ⟨r, c, ws⟩) := dq_new h5 (.cons (.int _) (dqs_two (.int _) (dq_mono e5 hwv)))
          have lx : xs.length ≤ 100 := by
            have z := congrArg List.length hks
            rw [List.length_map] at z
            have := keysF_len fs
            have := hfs.1
            omega
          have okf : OkFm s ⟨r, c, ws⟩ := WaysR.okFm (f := ⟨r, c, ws⟩) hws r0 r1 c0 c1
          refine w_setN (dnAt_same (e3.trans (e4.trans e5)) hD) (by rw [fmK_data]; exact hf) (fmK_depth ⟨r, c, ws⟩) (by omega) fun xs' H6 keep st d' hk' => ?_
          have e06 : Same H H6 := fun a u ha => keep a u (e5 _ _ (e4 _ _ (e3 _ _ (e2 _ _ ha)))) (ne_of_none ha nD)
          walk_at "Zs"
          refine w_ixLM (dq_mono e06 hhs) (by omega) (by omega) fun hd2 hx2 hhd2 hhx2 => ?_
          obtain rfl := Option.some.inj (hhd.symm.trans hhd2)
          walk_at "Zs"
          refine go_sure (dq_mono e06 hsh) ok (dqt st hf (tupO_fm _)) okf hhx2 (okHead_len oh) (dqt st (dq_mono (e4.trans e5) hps) (tupOs_of fun d hd => by
            obtain ⟨p, _, rfl⟩ := List.mem_map.mp hd
            exact tupO_fo p)) okps (by omega) fun b H7 e7 hb => ?_
          obtain rfl := hb.mpr (WaysR.sure ok okf hws oh)
          walk_at "Zs"
          refine ⟨⟨_, _, _, _, rfl⟩, ⟨fs ++ [⟨r, c, ws⟩], xs', dnAt_same e7 d', by rw [hk', hks, keysF_snoc], hfs.snoc (by rw [Int.add_comm]; exact frm) (by rw [← hhd]; congr 1; omega) hws⟩, e06.trans e7⟩
        · obtain ⟨⟨y5, y6, y7, y8, rfl⟩, ⟨fs, xs, hD, hks, hfs⟩, e2⟩ := h
          have lfs := hfs.1
          have lx : xs.length ≤ 100 := by
            have z := congrArg List.length hks
            rw [List.length_map] at z
            have := keysF_len fs
            omega
          walk_at "Zs"
          refine go_proposed (dq_mono e2 hsh) ok (dq_mono e2 hhs) okh lh r0 r1 c0 c1 fun fs1 v1 H3 e3 hf1 hv1 => ?_
          obtain rfl := hfs.one hf1
          walk_at "Zs"
          refine w_sortedN (dnAt_same e3 hD) (by omega) (by rw [hks]; exact keysF_alike fs) (by rw [hks]; exact keysF_sortable fs) (by rw [hks]; exact keysF_depth) fun p vs H4 n4 e4 h4 hvs => ?_
          walk_at "Zs"
          refine w_tupleN (SqL.of h4) fun p5 H5 n5 e5 g5 => ?_
          walk_at "Zs"
          rw [hks] at hvs
          refine go__law_same (dq_mono (e4.trans e5) hv1) (dq_new g5 (dqs_mono e5 hvs)) (pl_riseF (by omega) fun f hf => ?_) fun H6 e6 => ?_
          · obtain ⟨i, hi⟩ := List.getElem?_of_mem hf
            obtain ⟨_, _, ps, hd, _, _, hw⟩ := hfs.2 i f hi
            have := hw.1
            omega
          walk_at "Zs"
          have e26 : Same H H6 := e2.trans (e3.trans (e4.trans (e5.trans e6)))
          refine go_proposed (dq_mono e26 hsh) ok (dq_mono e26 hhs) okh lh r0 r1 c0 c1 fun fs2 v2 H7 e7 hf2 hv2 => ?_
          obtain rfl := hfs.one hf2
          walk_at "Zs"
          refine w_eqD hv2 (dq_mono (e4.trans (e5.trans (e6.trans e7))) hv1) (shp_riseF fs) (shp_riseF fs) ?_
          rw [eqv_riseF]
          walk_at "Zs"
          exact q _ (e26.trans e7)
  exact F0
theorem c__law_right {W : Wd} {mg : Str → Option Value} {base : Heap} (B : Bi mg) (S : Src W.K mg "_law_right" s__law_right) (C__law_same : Cal W mg base "_law_same" 7 ["_law_found", "_law_due"] (sp__law_same W)) (C_proposed : Cal W mg base "proposed" 5 ["shape", "heads", "reach", "count"] (sp_proposed W)) (C_sure : Cal W mg base "sure" 6 ["shape", "form", "head", "formers"] (sp_sure W)) (C__law_ways : Cal W mg base "_law_ways" 3 ["_law_shape_here", "_law_head_here", "_law_formers_here"] (sp__law_ways W)) (C__law_formers : Cal W mg base "_law_formers" 1 ["_law_heads", "_law_number", "_law_reach"] (sp__law_formers W)) : Cal W mg base "_law_right" 8 ["_law_shape_here", "_law_heads", "_law_reach", "_law_count"] (sp__law_right W) := by
  obtain ⟨f, fd, g, F⟩ := S
  exact ⟨f, fd, g, f__law_right B F C__law_same C_proposed C_sure C__law_ways C__law_formers, F.kp, (F.binds (ps := ["_law_shape_here", "_law_heads", "_law_reach", "_law_count"]) fun _ _ _ _ _ _ us hl => match us, hl with | [_, _, _, _], _ => rfl)⟩
theorem go__law_right {W : Wd} {H : Hp} {Q : VK} {E : XK} {vs vh : V} {s : Shp} {hs : List (List Int)} {r c : Int} (hsh : Dq W.K H vs (shD s)) (ok : OkShp s) (hhs : Dq W.K H vh (.list (hs.map headD))) (okh : HeadsOk s hs) (lh : hs.length ≤ 100) (r0 : 1 ≤ r) (r1 : r ≤ 40) (c0 : 1 ≤ c) (c1 : c ≤ 40) (q : ∀ H', Same H H' → Q (.bl true) H') : sp__law_right W [vs, vh, .int r, .int c] H Q E := ⟨s, hs, r, c, hsh, ok, hhs, okh, lh, rfl, r0, r1, rfl, c0, c1, q⟩
def sp_law (W : Wd) : Sp := fun vs H Q _ => match vs with
  | [v_script] =>
  ∃ (a : Addr) (ns : List Int), v_script = .ref a ∧ SqL W.K H a (ns.map V.int) ∧ ns.length ≤ 63 ∧ (∀ z ∈ ns, Builtin.Int.intBits z ≤ 1048576) ∧ ∀ H', Q (.bl true) H'
  | _ => False
abbrev N_law : List Str := ["_law_script", "_law_pot_here", "_law_turn", "_law_shape_here", "_law_heads", "_law_reach", "_law_few"]
theorem sc_law : FnScope N_law ["_law_script"] (defScope s_law) := ⟨rfl, rfl, rfl, by decide +kernel, rfl, by decide +kernel, by decide +kernel⟩
theorem f_law {W : Wd} {mg : Str → Option Value} {base : Heap} (B : Bi mg) {f : Addr} {fd : FuncData} (F : Fun W.K "law" "law" s_law f fd) (C__law_pick : Cal W mg base "_law_pick" 1 ["_law_pot_here", "_law_many"] (sp__law_pick W)) (C__law_right : Cal W mg base "_law_right" 8 ["_law_shape_here", "_law_heads", "_law_reach", "_law_count"] (sp__law_right W)) (C_proposed : Cal W mg base "proposed" 5 ["shape", "heads", "reach", "count"] (sp_proposed W)) (C__law_same : Cal W mg base "_law_same" 7 ["_law_found", "_law_due"] (sp__law_same W)) (C__law_row : Cal W mg base "_law_row" 4 ["_law_pot_here", "_law_shape_here", "_law_many"] (sp__law_row W)) (C__law_shape : Cal W mg base "_law_shape" 3 ["_law_pot_here"] (sp__law_shape W)) (C__law_pot : Cal W mg base "_law_pot" 1 ["_law_script"] (sp__law_pot W)) : FnOk W.P W.w W.K mg base CX0 9 f fd ["_law_script"] (sp_law W) := by
  obtain ⟨a__law_pick, d__law_pick, g__law_pick, F__law_pick, k__law_pick, b__law_pick⟩ := C__law_pick
  obtain ⟨a__law_right, d__law_right, g__law_right, F__law_right, k__law_right, b__law_right⟩ := C__law_right
  obtain ⟨a_proposed, d_proposed, g_proposed, F_proposed, k_proposed, b_proposed⟩ := C_proposed
  obtain ⟨a__law_same, d__law_same, g__law_same, F__law_same, k__law_same, b__law_same⟩ := C__law_same
  obtain ⟨a__law_row, d__law_row, g__law_row, F__law_row, k__law_row, b__law_row⟩ := C__law_row
  obtain ⟨a__law_shape, d__law_shape, g__law_shape, F__law_shape, k__law_shape, b__law_shape⟩ := C__law_shape
  obtain ⟨a__law_pot, d__law_pot, g__law_pot, F__law_pot, k__law_pot, b__law_pot⟩ := C__law_pot
  have nd := sc_law.nd
  have F0 : FnOk W.P W.w W.K mg base CX0 9 f fd ["_law_script"] (sp_law W) := by
    refine F.ok sc_law (fun vs H Q E h => ?_) (fun cdv A outer s H vs Q E hr h => ?_)
    · match vs, h with | [_], _ => rfl
    · match vs, h with
      | [v_script], h =>
        change sp_law W [v_script] H Q E at h
        refine ⟨tSeq (tAsg (tCall (sp__law_pot W) [] E0 (tCons (tVar 0) (tNil))) (gName 1)) (tSeq (tFor (iRng1 (tCons (tOp (rAddN W.K) (tC (.int 2)) (tCB (rLenU W.K) (tCons (tSl (rSlU W.K) (tVar 0) (tNoPart) (tPart (tC (.int 4)))) (tNil)))) (tNil))) (gName 2) (tSeq (tAsg (tCall (sp__law_shape W) [] E0 (tCons (tVar 1) (tNil))) (gName 3)) (tSeq (tAsg (tCall (sp__law_row W) [] E0 (tCons (tVar 1) (tCons (tVar 3) (tCons (tOp (rAddN W.K) (tC (.int 1)) (tCall (sp__law_pick W) [] E0 (tCons (tVar 1) (tCons (tC (.int 6)) (tNil))))) (tNil))))) (gName 4)) (tSeq (tIfS (tTest (tOp (rEqU W.K) (tCall (sp__law_pick W) [] E0 (tCons (tVar 1) (tCons (tC (.int 3)) (tNil)))) (tC (.int 0)))) (tDrop (tBM W.K "list" rInsert (tVar 4) (tCons (tCall (sp__law_pick W) [] E0 (tCons (tVar 1) (tCons (tOp (rAddN W.K) (tCB (rLenU W.K) (tCons (tVar 4) (tNil))) (tC (.int 1))) (tNil)))) (tCons (tOp (rIxU W.K) (tVar 4) (tCall (sp__law_pick W) [] E0 (tCons (tVar 1) (tCons (tCB (rLenU W.K) (tCons (tVar 4) (tNil))) (tNil))))) (tNil))))) (tNext)) (tFor (iAny W.K (tTupN (tCons (tOp (rAddN W.K) (tC (.int 1)) (tCall (sp__law_pick W) [] E0 (tCons (tVar 1) (tCons (tC (.int 3)) (tNil))))) (tCons (tOp (rAddN W.K) (tC (.int 1)) (tCall (sp__law_pick W) [] E0 (tCons (tVar 1) (tCons (tC (.int 40)) (tNil))))) (tNil))))) (gName 5) (tSeq (tFor (iAny W.K (tTupN (tCons (tLst (tNil)) (tCons (tSl (rSlU W.K) (tVar 4) (tNoPart) (tPart (tC (.int 1)))) (tNil))))) (gName 6) (tIfS (tNot (tB (tCall (sp__law_same W) [] E0 (tCons (tCall (sp_proposed W) [] E0 (tCons (tVar 3) (tCons (tVar 6) (tCons (tVar 5) (tCons (tOp (rAddN W.K) (tC (.int 1)) (tCall (sp__law_pick W) [] E0 (tCons (tVar 1) (tCons (tC (.int 40)) (tNil))))) (tNil)))))) (tCons (tTupN (tNil)) (tNil)))))) (tRet (tC (.bl false))) (tNext))) (tIfS (tNot (tB (tCall (sp__law_right W) [] E0 (tCons (tVar 3) (tCons (tVar 4) (tCons (tVar 5) (tCons (tOp (rAddN W.K) (tC (.int 1)) (tCall (sp__law_pick W) [] E0 (tCons (tVar 1) (tCons (tC (.int 40)) (tNil))))) (tNil)))))))) (tRet (tC (.bl false))) (tNext)))))))) (tRet (tC (.bl true)))), pss_cons (ps_set (i := 1) nd rfl (.inl rfl) (pe_call F__law_pot (hr.mono (by decide)) (by rfl) g__law_pot k__law_pot b__law_pot .nil pass0 (pa_cons (pv 0) (pa_nil)))) (pss_cons (ps_for PassesOwn.never rfl (pi_range1 (by rfl) B.b_range (pa_cons (pe_op u_addN (pe_int) (pe_callB u_len (by rfl) B.b_len (by decide +kernel) (pa_cons (pe_slice u_sl (pv 0) (po_none) (po_some (pe_int))) (pa_nil)))) (pa_nil))) (pg_name (i := 2) nd rfl (by first | exact Or.inl rfl | exact Or.inr rfl)) (pss_cons (ps_set (i := 3) nd rfl (.inl rfl) (pe_call F__law_shape (hr.mono (by decide)) (by rfl) g__law_shape k__law_shape b__law_shape .nil pass0 (pa_cons (pv 1) (pa_nil)))) (pss_cons (ps_set (i := 4) nd rfl (.inl rfl) (pe_call F__law_row (hr.mono (by decide)) (by rfl) g__law_row k__law_row b__law_row .nil pass0 (pa_cons (pv 1) (pa_cons (pv 3) (pa_cons (pe_op u_addN (pe_int) (pe_call F__law_pick (hr.mono (by decide)) (by rfl) g__law_pick k__law_pick b__law_pick .nil pass0 (pa_cons (pv 1) (pa_cons (pe_int) (pa_nil))))) (pa_nil)))))) (pss_cons (ps_if (pt_cmpR (u_eq hr.units) (pe_call F__law_pick (hr.mono (by decide)) (by rfl) g__law_pick k__law_pick b__law_pick .nil pass0 (pa_cons (pv 1) (pa_cons (pe_int) (pa_nil)))) (pe_int) (nomark _)) (pss_one (ps_expr (pe_bm PySem.F.plainAttrs_list PySem.F.slot_list_insert PySem.F.type_list_insert mt_insertM (pv 4) (pa_cons (pe_call F__law_pick (hr.mono (by decide)) (by rfl) g__law_pick k__law_pick b__law_pick .nil pass0 (pa_cons (pv 1) (pa_cons (pe_op u_addN (pe_callB u_len (by rfl) B.b_len (by decide +kernel) (pa_cons (pv 4) (pa_nil))) (pe_int)) (pa_nil)))) (pa_cons (pe_ix u_ix (pv 4) (pe_call F__law_pick (hr.mono (by decide)) (by rfl) g__law_pick k__law_pick b__law_pick .nil pass0 (pa_cons (pv 1) (pa_cons (pe_callB u_len (by rfl) B.b_len (by decide +kernel) (pa_cons (pv 4) (pa_nil))) (pa_nil)))) (fun _ _ => rfl)) (pa_nil)))))) (pss_nil)) (pss_one (ps_for PassesOwn.never rfl (pi_any (pe_tupN (pa_cons (pe_op u_addN (pe_int) (pe_call F__law_pick (hr.mono (by decide)) (by rfl) g__law_pick k__law_pick b__law_pick .nil pass0 (pa_cons (pv 1) (pa_cons (pe_int) (pa_nil))))) (pa_cons (pe_op u_addN (pe_int) (pe_call F__law_pick (hr.mono (by decide)) (by rfl) g__law_pick k__law_pick b__law_pick .nil pass0 (pa_cons (pv 1) (pa_cons (pe_int) (pa_nil))))) (pa_nil))))) (pg_name (i := 5) nd rfl (by first | exact Or.inl rfl | exact Or.inr rfl)) (pss_cons (ps_for PassesOwn.never rfl (pi_any (pe_tupN (pa_cons (pe_lst (pa_nil)) (pa_cons (pe_slice u_sl (pv 4) (po_none) (po_some (pe_int))) (pa_nil))))) (pg_name (i := 6) nd rfl (by first | exact Or.inl rfl | exact Or.inr rfl)) (pss_one (ps_if (pt_not (pt_val (pe_call F__law_same (hr.mono (by decide)) (by rfl) g__law_same k__law_same b__law_same .nil pass0 (pa_cons (pe_call F_proposed (hr.mono (by decide)) (by rfl) g_proposed k_proposed b_proposed .nil pass0 (pa_cons (pv 3) (pa_cons (pv 6) (pa_cons (pv 5) (pa_cons (pe_op u_addN (pe_int) (pe_call F__law_pick (hr.mono (by decide)) (by rfl) g__law_pick k__law_pick b__law_pick .nil pass0 (pa_cons (pv 1) (pa_cons (pe_int) (pa_nil))))) (pa_nil)))))) (pa_cons (pe_tupN (pa_nil)) (pa_nil)))))) (pss_one (ps_ret (pe_bl))) (pss_nil)))) (pss_one (ps_if (pt_not (pt_val (pe_call F__law_right (hr.mono (by decide)) (by rfl) g__law_right k__law_right b__law_right .nil pass0 (pa_cons (pv 3) (pa_cons (pv 4) (pa_cons (pv 5) (pa_cons (pe_op u_addN (pe_int) (pe_call F__law_pick (hr.mono (by decide)) (by rfl) g__law_pick k__law_pick b__law_pick .nil pass0 (pa_cons (pv 1) (pa_cons (pe_int) (pa_nil))))) (pa_nil)))))))) (pss_one (ps_ret (pe_bl))) (pss_nil)))))))))) (pss_one (ps_ret (pe_bl)))), ?_⟩
        clear hr
        clear F__law_pick g__law_pick k__law_pick b__law_pick d__law_pick a__law_pick
        clear F__law_right g__law_right k__law_right b__law_right d__law_right a__law_right
        clear F_proposed g_proposed k_proposed b_proposed d_proposed a_proposed
        clear F__law_same g__law_same k__law_same b__law_same d__law_same a__law_same
        clear F__law_row g__law_row k__law_row b__law_row d__law_row a__law_row
        clear F__law_shape g__law_shape k__law_shape b__law_shape d__law_shape a__law_shape
        clear F__law_pot g__law_pot k__law_pot b__law_pot d__law_pot a__law_pot
        rw [show L2.start N_law [v_script] = [some v_script, none, none, none, none, none, none] from rfl]
        obtain ⟨a, ns, rfl, hS, hlen, hb, q⟩ := h
        walk_at "Zs"
        refine go__law_pot hS hlen fun v H1 e1 hb1 => ?_
        walk_at "Zs"
        refine w_slLi (e1.seq hS) fun p2 H2 np2 e2 h2 => ?_
        have hcl : (cutD ns none (some 4)).length ≤ 63 := Nat.le_trans cutD_len hlen
        generalize cutD ns none (some 4) = cs at h2 hcl
        walk_at "Zs"
        refine w_lenL (SqL.of h2) ?_
        rw [List.length_map]
        walk_at "Zs"
        refine forR0 (fun i σ' H' => (∃ y2 y3 y4 y5 y6, σ' = [some (.ref a), some v, y2, y3, y4, y5, y6]) ∧ Sx H H' ∧ BoxAt W true (4000 * (i : Int)) H' v) ⟨⟨_, _, _, _, _, rfl⟩, Same.sx (e1.trans e2), box_le (by omega) (box_mono e2 hb1)⟩ (fun i σ' H3 hi h => ?_) (fun σ' H3 h => ?_)
        · obtain ⟨⟨y2, y3, y4, y5, y6, rfl⟩, e3, hb3⟩ := h
          walk_at "Zs"
          refine go__law_shape hb3 (by omega) fun s sv H4 e4 b4 hs ok => ?_
          have l0 := ok.l0
          have l1 := ok.l1
          walk_at "Zs"
          rename_i d5 H5 e5 c5 c5' b5
          refine go__law_row b5 (by omega) (dqx e5 hs) ok (by omega) (by omega) fun gs A vs H6 nA e6 b6 hA hvs okgs lgs => ?_
          have nA4 : H4 A = none := none_sx e5 nA
          walk_at "Zp"
          refine w_cut (fun σ' H' => (∃ y5 y6, σ' = [some (.ref a), some v, some (.int (i : Int)), some sv, some (.ref A), y5, y6]) ∧ Sx H4 H' ∧ BoxAt W true (4000 * (i : Int) + 3000) H' v ∧ ∃ (hs : List (List Int)) (ys : List V), H' A = some (.lst ys) ∧ DqAll W.K H' ys (hs.map headD) ∧ HeadsOk s hs ∧ hs.length ≤ 10) (fun σ' H7 h => ?_) (fun nx' key => ?_)
          · obtain ⟨⟨y5, y6, rfl⟩, e7, b7, hds, ys, hA7, hys, okh, lh⟩ := h
            walk_at "Zn"
            rename_i d8 H8 e8 c8 c8' b8 d9 H9 e9 c9 c9' b9 p10 H10 n10 e10 h10
            have E7 : Sx H7 H10 := e8.trans (e9.trans (Same.sx e10))
            refine w_goT (SqN.t (SqN.of h10)) ?_
            refine forT (fun j σ' H' => (∃ y5 y6, σ' = [some (.ref a), some v, some (.int (i : Int)), some sv, some (.ref A), y5, y6]) ∧ Sx H10 H' ∧ BoxAt W true (4000 * (i : Int) + 3010 + 300 * (j : Int)) H' v) ⟨⟨_, _, rfl⟩, Sx.refl _, box_le (by omega) (box_mono e10 b9)⟩ (fun j σ' H' _ h => SqN.t (SqN.of (sx_tup h.2.1 h10))) (fun j x σ' H11 hx h => ?_) (fun σ' H11 h => ?_)
            · obtain ⟨⟨y5, y6, rfl⟩, e11, b11⟩ := h
              have hj : j < 2 := (List.getElem?_eq_some_iff.mp hx).1
              obtain ⟨r, rfl, r0, r1⟩ : ∃ r, x = .int r ∧ 1 ≤ r ∧ r ≤ 40 := by
                rcases (show j = 0 ∨ j = 1 by omega) with rfl | rfl
                · exact ⟨_, (Option.some.inj hx).symm, by omega, by omega⟩
                · exact ⟨_, (Option.some.inj hx).symm, by omega, by omega⟩
              have E711 : Sx H7 H11 := E7.trans e11
              have hA11 := E711.keep _ _ hA7 rfl
              walk_at "Zn"
              rename_i p12 H12 n12 e12 h12
              refine w_slV (SqL.of (e12 _ _ hA11)) fun p13 H13 n13 e13 h13 => ?_
              walk_at "Zn"
              rename_i p14 H14 n14 e14 h14
              have E1114 : Same H11 H14 := e12.trans (e13.trans e14)
              have hf0 : Dq W.K H14 (.ref p12) (.list (([] : List (List Int)).map headD)) := .lst (SqL.of (e14 _ _ (e13 _ _ h12))) .nil
              have hf1 : Dq W.K H14 (.ref p13) (.list ((cutD hds none (some 1)).map headD)) := by
                rw [← cutD_map]
                exact .lst (SqL.of (e14 _ _ h13)) (dqs_cut (dqsx (E711.trans (Same.sx E1114)) hys))
              have hc1 : (cutD hds none (some 1)).length ≤ 1 := by
                unfold cutD
                rw [List.length_take]
                have : HT.sIx hds.length hds.length (some 1) ≤ 1 := by
                  unfold HT.sIx
                  dsimp only
                  split <;> omega
                omega
              refine w_goT (SqN.t (SqN.of h14)) ?_
              refine forT (fun k σ' H' => (∃ y6, σ' = [some (.ref a), some v, some (.int (i : Int)), some sv, some (.ref A), some (.int r), y6]) ∧ Sx H14 H' ∧ BoxAt W true (4000 * (i : Int) + 3010 + 300 * (j : Int) + 20 * (k : Int)) H' v) ⟨⟨_, rfl⟩, Sx.refl _, box_le (by omega) (box_mono E1114 b11)⟩ (fun k σ' H' _ h => SqN.t (SqN.of (sx_tup h.2.1 h14))) (fun k x σ' H15 hx h => ?_) (fun σ' H15 h => ?_)
              · obtain ⟨⟨y6, rfl⟩, e15, b15⟩ := h
                have hk : k < 2 := (List.getElem?_eq_some_iff.mp hx).1
                obtain ⟨gs2, hgs2, og2, lg2⟩ : ∃ gs2 : List (List Int), Dq W.K H14 x (.list (gs2.map headD)) ∧ HeadsOk s gs2 ∧ gs2.length ≤ 1 := by
                  rcases (show k = 0 ∨ k = 1 by omega) with rfl | rfl
                  · rw [← Option.some.inj hx]
                    exact ⟨[], hf0, (fun _ h => nomatch h), by decide⟩
                  · rw [← Option.some.inj hx]
                    exact ⟨_, hf1, fun g hg => okh g (cutD_mem hg), hc1⟩
                walk_at "Zs"
                rename_i d16 H16 e16 c16 c16' b16
                have E16 : Sx H4 H16 := e7.trans (E711.trans ((Same.sx E1114).trans (e15.trans e16)))
                refine go_proposed (dqx E16 hs) ok (dqx (e15.trans e16) hgs2) og2 (by omega) r0 r1 (by omega) (by omega) fun fs pv H17 e17 hfs hpv => ?_
                have hfs0 : fs = [] := List.eq_nil_of_length_eq_zero (by rw [hfs.1]; omega)
                subst hfs0
                walk_at "Zs"
                rename_i p18 H18 n18 e18 h18
                refine go__law_same (d := .tuple []) (by
                  have z : riseF [] = [] := by simp [riseF, keysF]
                  rw [z] at hpv
                  exact dq_mono e18 hpv) (dq_new h18 .nil) ⟨by decide, fun _ h => nomatch h⟩ fun H19 e19 => ?_
                walk_at "Zs"
                exact ⟨⟨_, rfl⟩, e15.trans (e16.trans (Same.sx (e17.trans (e18.trans e19)))), box_le (by omega) (box_mono (e17.trans (e18.trans e19)) b16)⟩
              · obtain ⟨⟨y6, rfl⟩, e15, b15⟩ := h
                replace b15 : BoxAt W true (4000 * (i : Int) + 3010 + 300 * (j : Int) + 40) H15 v := box_le (by simp only [List.length_cons, List.length_nil]; omega) b15
                walk_at "Zs"
                rename_i d16 H16 e16 c16 c16' b16
                have E16 : Sx H4 H16 := e7.trans (E711.trans ((Same.sx E1114).trans (e15.trans e16)))
                have E716 : Sx H7 H16 := E711.trans ((Same.sx E1114).trans (e15.trans e16))
                refine go__law_right (hs := hds) (dqx E16 hs) ok (.lst (SqL.of (E716.keep _ _ hA7 rfl)) (dqsx E716 hys)) okh (by omega) r0 r1 (by omega) (by omega) fun H17 e17 => ?_
                walk_at "Zs"
                exact ⟨⟨_, _, rfl⟩, e11.trans ((Same.sx E1114).trans (e15.trans (e16.trans (Same.sx e17)))), box_le (by omega) (box_mono e17 b16)⟩
            · obtain ⟨⟨y5, y6, rfl⟩, e11, b11⟩ := h
              exact ⟨⟨_, _, _, _, _, rfl⟩, e3.trans (e4.trans (e7.trans (E7.trans e11))), box_le (by simp only [List.length_cons, List.length_nil]; omega) b11⟩
          · walk_at "Zs"
            rename_i d7 H7 e7 c7 c7' b7
            have hA7 := e7.keep _ _ hA rfl
            refine w_dec (fun hc => ?_) (fun hc => ?_)
            · walk_at "Zs"
              refine w_tyL hA7 ?_
              walk_at "Zs"
              refine w_lenQLm (.lst (SqL.of hA7) (dqsx e7 hvs)) ?_
              walk_at "Zs"
              rename_i d8 H8 e8 c8 c8' b8
              have hA8 := e8.keep _ _ hA7 rfl
              refine w_lenQLm (.lst (SqL.of hA8) (dqsx (e7.trans e8) hvs)) ?_
              walk_at "Zs"
              rename_i d9 H9 e9 c9 c9' b9
              have hA9 := e9.keep _ _ hA8 rfl
              have lvs := dqs_len hvs
              rw [List.length_map] at lvs
              refine w_ixLM (.lst (SqL.of hA9) (dqsx (e7.trans (e8.trans e9)) hvs)) (by omega) (by omega) fun g x hg hx => ?_
              walk_at "Zs"
              refine w_insert hA9 (by omega) (by omega) (Int.lt_of_le_of_lt (b := 20) (by omega) (by decide)) ?_
              walk_at "Zs"
              refine key _ _ ⟨⟨_, _, rfl⟩, sx_mut (e5.trans (e6.trans (e7.trans (e8.trans e9)))) nA4, box_le (by omega) (box_lst b9 hA9), gs.take d8.toNat ++ [g] ++ gs.drop d8.toNat, _, upd_same, ?_, fun h hh => ?_, ?_⟩
              · have z : DqAll W.K H9 vs (gs.map headD) := dqsx (e7.trans (e8.trans e9)) hvs
                have z2 := dqs_lst (o := .lst (vs.take d8.toNat ++ [x] ++ vs.drop d8.toNat)) hA9 (dqs_app (dqs_app (dqs_take d8.toNat z) (dqs_one hx)) (dqs_drop d8.toNat z)) (by
                  rw [← List.map_take, ← List.map_drop, show [headD g] = [g].map headD from rfl, ← List.map_append, ← List.map_append]
                  exact tupOs_heads _)
                rw [List.map_append, List.map_append, List.map_take, List.map_drop]
                exact z2
              · rcases List.mem_append.mp hh with hh | hh
                · rcases List.mem_append.mp hh with hh | hh
                  · exact okgs h (List.mem_of_mem_take hh)
                  · rw [List.mem_singleton.mp hh]
                    exact okgs g (List.mem_of_getElem? hg)
                · exact okgs h (List.mem_of_mem_drop hh)
              · rw [List.length_append, List.length_append, List.length_take, List.length_drop]
                simp only [List.length_cons, List.length_nil]
                omega
            · walk_at "Zs"
              exact key _ _ ⟨⟨_, _, rfl⟩, e5.trans (e6.trans e7), box_le (by omega) b7, gs, vs, hA7, dqsx e7 hvs, okgs, by omega⟩
        · obtain ⟨⟨y2, y3, y4, y5, y6, rfl⟩, e3, hb3⟩ := h
          walk_at "Zs"
          exact q _
  exact F0
theorem c_law {W : Wd} {mg : Str → Option Value} {base : Heap} (B : Bi mg) (S : Src W.K mg "law" s_law) (C__law_pick : Cal W mg base "_law_pick" 1 ["_law_pot_here", "_law_many"] (sp__law_pick W)) (C__law_right : Cal W mg base "_law_right" 8 ["_law_shape_here", "_law_heads", "_law_reach", "_law_count"] (sp__law_right W)) (C_proposed : Cal W mg base "proposed" 5 ["shape", "heads", "reach", "count"] (sp_proposed W)) (C__law_same : Cal W mg base "_law_same" 7 ["_law_found", "_law_due"] (sp__law_same W)) (C__law_row : Cal W mg base "_law_row" 4 ["_law_pot_here", "_law_shape_here", "_law_many"] (sp__law_row W)) (C__law_shape : Cal W mg base "_law_shape" 3 ["_law_pot_here"] (sp__law_shape W)) (C__law_pot : Cal W mg base "_law_pot" 1 ["_law_script"] (sp__law_pot W)) : Cal W mg base "law" 9 ["_law_script"] (sp_law W) := by
  obtain ⟨f, fd, g, F⟩ := S
  exact ⟨f, fd, g, f_law B F C__law_pick C__law_right C_proposed C__law_same C__law_row C__law_shape C__law_pot, F.kp, (F.binds (ps := ["_law_script"]) fun _ _ _ _ _ _ us hl => match us, hl with | [_], _ => rfl)⟩
theorem all_ok {W : Wd} {mg : Str → Option Value} {base : Heap} (B : Bi mg) (S_bits_of : Src W.K mg "bits_of" s_bits_of) (S_number_of : Src W.K mg "number_of" s_number_of) (S_width_for : Src W.K mg "width_for" s_width_for) (S_rest_of : Src W.K mg "rest_of" s_rest_of) (S_windowed : Src W.K mg "windowed" s_windowed) (S_around : Src W.K mg "around" s_around) (S_arcs_of : Src W.K mg "arcs_of" s_arcs_of) (S_tightest : Src W.K mg "tightest" s_tightest) (S_gone_round : Src W.K mg "gone_round" s_gone_round) (S_expected : Src W.K mg "expected" s_expected) (S_width_of : Src W.K mg "width_of" s_width_of) (S_pieces : Src W.K mg "pieces" s_pieces) (S_value_opened : Src W.K mg "value_opened" s_value_opened) (S_opened : Src W.K mg "opened" s_opened) (S_sure : Src W.K mg "sure" s_sure) (S_offsets_of : Src W.K mg "offsets_of" s_offsets_of) (S_way_for : Src W.K mg "way_for" s_way_for) (S_proposed : Src W.K mg "proposed" s_proposed) (S__law_pot : Src W.K mg "_law_pot" s__law_pot) (S__law_pick : Src W.K mg "_law_pick" s__law_pick) (S__law_kind : Src W.K mg "_law_kind" s__law_kind) (S__law_shape : Src W.K mg "_law_shape" s__law_shape) (S__law_value : Src W.K mg "_law_value" s__law_value) (S__law_head : Src W.K mg "_law_head" s__law_head) (S__law_expected : Src W.K mg "_law_expected" s__law_expected) (S__law_gone : Src W.K mg "_law_gone" s__law_gone) (S__law_row : Src W.K mg "_law_row" s__law_row) (S__law_offsets : Src W.K mg "_law_offsets" s__law_offsets) (S__law_formers : Src W.K mg "_law_formers" s__law_formers) (S__law_same : Src W.K mg "_law_same" s__law_same) (S__law_tightest : Src W.K mg "_law_tightest" s__law_tightest) (S__law_ways : Src W.K mg "_law_ways" s__law_ways) (S__law_right : Src W.K mg "_law_right" s__law_right) {f : Addr} {fd : FuncData} (F : Fun W.K "law" "law" s_law f fd) : FnOk W.P W.w W.K mg base CX0 9 f fd ["_law_script"] (sp_law W) := by
  have C_bits_of := c_bits_of (base := base) B S_bits_of 
  have C_number_of := c_number_of (base := base) B S_number_of 
  have C_width_for := c_width_for (base := base) B S_width_for 
  have C_rest_of := c_rest_of (base := base) B S_rest_of 
  have C_windowed := c_windowed (base := base) B S_windowed C_rest_of
  have C_around := c_around (base := base) B S_around C_windowed C_rest_of
  have C_arcs_of := c_arcs_of (base := base) B S_arcs_of C_rest_of
  have C_tightest := c_tightest (base := base) B S_tightest C_width_for C_arcs_of
  have C_gone_round := c_gone_round (base := base) B S_gone_round 
  have C_expected := c_expected (base := base) B S_expected C_rest_of C_gone_round
  have C_width_of := c_width_of (base := base) B S_width_of 
  have C_pieces := c_pieces (base := base) B S_pieces C_rest_of C_bits_of C_width_of
  have C_value_opened := c_value_opened (base := base) B S_value_opened C_number_of C_around C_expected
  have C_opened := c_opened (base := base) B S_opened C_value_opened C_width_of
  have C_sure := c_sure (base := base) B S_sure C_opened C_pieces
  have C_offsets_of := c_offsets_of (base := base) B S_offsets_of C_rest_of C_expected
  have C_way_for := c_way_for (base := base) B S_way_for C_tightest
  have C_proposed := c_proposed (base := base) B S_proposed C_offsets_of C_way_for
  have C__law_pot := c__law_pot (base := base) B S__law_pot 
  have C__law_pick := c__law_pick (base := base) B S__law_pick 
  have C__law_kind := c__law_kind (base := base) B S__law_kind C__law_pick
  have C__law_shape := c__law_shape (base := base) B S__law_shape C__law_pick C__law_kind
  have C__law_value := c__law_value (base := base) B S__law_value C__law_pick
  have C__law_head := c__law_head (base := base) B S__law_head C__law_value
  have C__law_expected := c__law_expected (base := base) B S__law_expected 
  have C__law_gone := c__law_gone (base := base) B S__law_gone C__law_value C__law_pick C__law_expected
  have C__law_row := c__law_row (base := base) B S__law_row C__law_gone C__law_head
  have C__law_offsets := c__law_offsets (base := base) B S__law_offsets C__law_expected
  have C__law_formers := c__law_formers (base := base) B S__law_formers 
  have C__law_same := c__law_same (base := base) B S__law_same 
  have C__law_tightest := c__law_tightest (base := base) B S__law_tightest 
  have C__law_ways := c__law_ways (base := base) B S__law_ways C__law_tightest C__law_offsets
  have C__law_right := c__law_right (base := base) B S__law_right C__law_same C_proposed C_sure C__law_ways C__law_formers
  exact f_law B F C__law_pick C__law_right C_proposed C__law_same C__law_row C__law_shape C__law_pot
theorem all_mk {P : Program} {w : World} {K : PySem.W.Frag} {mg : Str → Option Value} {fa : Addr} (hfa : mg "law" = some (.ref fa)) (B : Bi mg) (S_bits_of : Src K mg "bits_of" s_bits_of) (S_number_of : Src K mg "number_of" s_number_of) (S_width_for : Src K mg "width_for" s_width_for) (S_rest_of : Src K mg "rest_of" s_rest_of) (S_windowed : Src K mg "windowed" s_windowed) (S_around : Src K mg "around" s_around) (S_arcs_of : Src K mg "arcs_of" s_arcs_of) (S_tightest : Src K mg "tightest" s_tightest) (S_gone_round : Src K mg "gone_round" s_gone_round) (S_expected : Src K mg "expected" s_expected) (S_width_of : Src K mg "width_of" s_width_of) (S_pieces : Src K mg "pieces" s_pieces) (S_value_opened : Src K mg "value_opened" s_value_opened) (S_opened : Src K mg "opened" s_opened) (S_sure : Src K mg "sure" s_sure) (S_offsets_of : Src K mg "offsets_of" s_offsets_of) (S_way_for : Src K mg "way_for" s_way_for) (S_proposed : Src K mg "proposed" s_proposed) (S__law_pot : Src K mg "_law_pot" s__law_pot) (S__law_pick : Src K mg "_law_pick" s__law_pick) (S__law_kind : Src K mg "_law_kind" s__law_kind) (S__law_shape : Src K mg "_law_shape" s__law_shape) (S__law_value : Src K mg "_law_value" s__law_value) (S__law_head : Src K mg "_law_head" s__law_head) (S__law_expected : Src K mg "_law_expected" s__law_expected) (S__law_gone : Src K mg "_law_gone" s__law_gone) (S__law_row : Src K mg "_law_row" s__law_row) (S__law_offsets : Src K mg "_law_offsets" s__law_offsets) (S__law_formers : Src K mg "_law_formers" s__law_formers) (S__law_same : Src K mg "_law_same" s__law_same) (S__law_tightest : Src K mg "_law_tightest" s__law_tightest) (S__law_ways : Src K mg "_law_ways" s__law_ways) (S__law_right : Src K mg "_law_right" s__law_right) (S_law : Src K mg "law" s_law) :
    ∃ fd : FuncData, (∀ (s : Shared) (v : Value), BindsTo s fd ⟨[v], []⟩ [("_law_script", v)]) ∧ ∀ base : Heap, K.In base → base.Ns mainGlobals mg → FnOk P w K mg base CX0 9 fa fd ["_law_script"] (sp_law ⟨P, w, K⟩) := by
  obtain ⟨f, fd, g, F⟩ := S_law
  have e := hfa.symm.trans g
  cases e
  refine ⟨fd, fun s v => ?_, fun base _ _ => all_ok (W := ⟨P, w, K⟩) B S_bits_of S_number_of S_width_for S_rest_of S_windowed S_around S_arcs_of S_tightest S_gone_round S_expected S_width_of S_pieces S_value_opened S_opened S_sure S_offsets_of S_way_for S_proposed S__law_pot S__law_pick S__law_kind S__law_shape S__law_value S__law_head S__law_expected S__law_gone S__law_row S__law_offsets S__law_formers S__law_same S__law_tightest S__law_ways S__law_right F⟩
  obtain ⟨oc, od, kV, doc, pm, an, cdv, ct, osl, rfl, lk, hcd⟩ := F.ex
  exact .of_eq rfl
theorem walk {l : PySem.W.OpenLaw} {q : Program} {loose : List Str} {XP : (Str → Option Value) → Heap → Prop} {YP : World → Heap → Prop} {d : DefRec} {K : Params → PySem.W.Frag} (hn : l.most = some 63) (hdf : d.params.defaults = [])
    (hY : ∀ (w : World) (h : Heap), YP w h → (K w.params).In h)
    (F : ∀ (w : World) (mg : Str → Option Value) (fa : Addr) (h : Heap), (K w.params).In h → h.Ns mainGlobals mg → mg d.name = some (.ref fa) →
      ∃ fd : FuncData, (∀ (s : Shared) (u : Value), BindsTo s fd ⟨[u], []⟩ [("_law_script", u)]) ∧ ∀ base : Heap, (K w.params).In base → base.Ns mainGlobals mg → FnOk l.prog w (K w.params) mg base CX0 9 fa fd ["_law_script"] (sp_law ⟨l.prog, w, K w.params⟩)) :
    PySem.W.WalkO q loose XP YP l.row.toRowW d [] (fun f vs => PySem.call f vs) :=
  L2.walk_ofB (n := 63) (k := 9) (x := "_law_script") (CX := fun _ => CX0) (sp := fun w => sp_law ⟨l.prog, w, K w.params⟩) hn (by decide) hdf ⟨rfl, by decide, by decide⟩ hY F (fun _ _ a ns hl hb _ hS => ⟨a, ns, rfl, hS, hl, hb, fun _ => rfl⟩) fun _ _ _ _ _ z => z
end Sh
open PySem PySem.W PyProof.Rows in
set_option maxRecDepth 100000 in
set_option maxHeartbeats 0 in
theorem PySem.Challenge.cw_shorthead_k49_proposed_holds : PySem.Challenge.rw_shorthead_k49_proposed.Holds := by
  w_on; o_law; k_head; (case hw => w_witness2)
  k_fill
  refine Sh.walk (l := PySem.Challenge.rw_shorthead_k49_proposed) rfl rfl (fun w h Y => PySem.W.kIn_of Y) ?F
  case F =>
    intro w mg fa h KX G hmg
    refine' Sh.all_mk hmg ?B ?S_bits_of ?S_number_of ?S_width_for ?S_rest_of ?S_windowed ?S_around ?S_arcs_of ?S_tightest ?S_gone_round ?S_expected ?S_width_of ?S_pieces ?S_value_opened ?S_opened ?S_sure ?S_offsets_of ?S_way_for ?S_proposed ?S__law_pot ?S__law_pick ?S__law_kind ?S__law_shape ?S__law_value ?S__law_head ?S__law_expected ?S__law_gone ?S__law_row ?S__law_offsets ?S__law_formers ?S__law_same ?S__law_tightest ?S__law_ways ?S__law_right ?S_law
    case B =>
      refine' ⟨PySem.W.mg_none_of KX G ?z_all, PySem.W.mg_none_of KX G ?z_any, PySem.W.mg_none_of KX G ?z_bool, PySem.W.mg_none_of KX G ?z_divmod, PySem.W.mg_none_of KX G ?z_enumerate, PySem.W.mg_none_of KX G ?z_int, PySem.W.mg_none_of KX G ?z_isinstance, PySem.W.mg_none_of KX G ?z_len, PySem.W.mg_none_of KX G ?z_max, PySem.W.mg_none_of KX G ?z_min, PySem.W.mg_none_of KX G ?z_range, PySem.W.mg_none_of KX G ?z_reversed, PySem.W.mg_none_of KX G ?z_set, PySem.W.mg_none_of KX G ?z_sorted, PySem.W.mg_none_of KX G ?z_str, PySem.W.mg_none_of KX G ?z_tuple, PySem.W.mg_none_of KX G ?z_zip, ⟨_, PySem.W.mg_of KX G ?y_SIGNS, ?r_SIGNS⟩⟩
      (case z_all => k_is)
      (case z_any => k_is)
      (case z_bool => k_is)
      (case z_divmod => k_is)
      (case z_enumerate => k_is)
      (case z_int => k_is)
      (case z_isinstance => k_is)
      (case z_len => k_is)
      (case z_max => k_is)
      (case z_min => k_is)
      (case z_range => k_is)
      (case z_reversed => k_is)
      (case z_set => k_is)
      (case z_sorted => k_is)
      (case z_str => k_is)
      (case z_tuple => k_is)
      (case z_zip => k_is)
      (case y_SIGNS => k_is)
      (case r_SIGNS => exact ⟨_, rfl⟩)
    case S_bits_of =>
      refine' Sh.src_mk KX G ?a ?l ?c ?k
      (case a => k_is)
      (case l => k_is)
      (case c => k_is)
      (case k => k_is)
    case S_number_of =>
      refine' Sh.src_mk KX G ?a ?l ?c ?k
      (case a => k_is)
      (case l => k_is)
      (case c => k_is)
      (case k => k_is)
    case S_width_for =>
      refine' Sh.src_mk KX G ?a ?l ?c ?k
      (case a => k_is)
      (case l => k_is)
      (case c => k_is)
      (case k => k_is)
    case S_rest_of =>
      refine' Sh.src_mk KX G ?a ?l ?c ?k
      (case a => k_is)
      (case l => k_is)
      (case c => k_is)
      (case k => k_is)
    case S_windowed =>
      refine' Sh.src_mk KX G ?a ?l ?c ?k
      (case a => k_is)
      (case l => k_is)
      (case c => k_is)
      (case k => k_is)
    case S_around =>
      refine' Sh.src_mk KX G ?a ?l ?c ?k
      (case a => k_is)
      (case l => k_is)
      (case c => k_is)
      (case k => k_is)
    case S_arcs_of =>
      refine' Sh.src_mk KX G ?a ?l ?c ?k
      (case a => k_is)
      (case l => k_is)
      (case c => k_is)
      (case k => k_is)
    case S_tightest =>
      refine' Sh.src_mk KX G ?a ?l ?c ?k
      (case a => k_is)
      (case l => k_is)
      (case c => k_is)
      (case k => k_is)
    case S_gone_round =>
      refine' Sh.src_mk KX G ?a ?l ?c ?k
      (case a => k_is)
      (case l => k_is)
      (case c => k_is)
      (case k => k_is)
    case S_expected =>
      refine' Sh.src_mk KX G ?a ?l ?c ?k
      (case a => k_is)
      (case l => k_is)
      (case c => k_is)
      (case k => k_is)
    case S_width_of =>
      refine' Sh.src_mk KX G ?a ?l ?c ?k
      (case a => k_is)
      (case l => k_is)
      (case c => k_is)
      (case k => k_is)
    case S_pieces =>
      refine' Sh.src_mk KX G ?a ?l ?c ?k
      (case a => k_is)
      (case l => k_is)
      (case c => k_is)
      (case k => k_is)
    case S_value_opened =>
      refine' Sh.src_mk KX G ?a ?l ?c ?k
      (case a => k_is)
      (case l => k_is)
      (case c => k_is)
      (case k => k_is)
    case S_opened =>
      refine' Sh.src_mk KX G ?a ?l ?c ?k
      (case a => k_is)
      (case l => k_is)
      (case c => k_is)
      (case k => k_is)
    case S_sure =>
      refine' Sh.src_mk KX G ?a ?l ?c ?k
      (case a => k_is)
      (case l => k_is)
      (case c => k_is)
      (case k => k_is)
    case S_offsets_of =>
      refine' Sh.src_mk KX G ?a ?l ?c ?k
      (case a => k_is)
      (case l => k_is)
      (case c => k_is)
      (case k => k_is)
    case S_way_for =>
      refine' Sh.src_mk KX G ?a ?l ?c ?k
      (case a => k_is)
      (case l => k_is)
      (case c => k_is)
      (case k => k_is)
    case S_proposed =>
      refine' Sh.src_mk KX G ?a ?l ?c ?k
      (case a => k_is)
      (case l => k_is)
      (case c => k_is)
      (case k => k_is)
    case S__law_pot =>
      refine' Sh.src_mk KX G ?a ?l ?c ?k
      (case a => k_is)
      (case l => k_is)
      (case c => k_is)
      (case k => k_is)
    case S__law_pick =>
      refine' Sh.src_mk KX G ?a ?l ?c ?k
      (case a => k_is)
      (case l => k_is)
      (case c => k_is)
      (case k => k_is)
    case S__law_kind =>
      refine' Sh.src_mk KX G ?a ?l ?c ?k
      (case a => k_is)
      (case l => k_is)
      (case c => k_is)
      (case k => k_is)
    case S__law_shape =>
      refine' Sh.src_mk KX G ?a ?l ?c ?k
      (case a => k_is)
      (case l => k_is)
      (case c => k_is)
      (case k => k_is)
    case S__law_value =>
      refine' Sh.src_mk KX G ?a ?l ?c ?k
      (case a => k_is)
      (case l => k_is)
      (case c => k_is)
      (case k => k_is)
    case S__law_head =>
      refine' Sh.src_mk KX G ?a ?l ?c ?k
      (case a => k_is)
      (case l => k_is)
      (case c => k_is)
      (case k => k_is)
    case S__law_expected =>
      refine' Sh.src_mk KX G ?a ?l ?c ?k
      (case a => k_is)
      (case l => k_is)
      (case c => k_is)
      (case k => k_is)
    case S__law_gone =>
      refine' Sh.src_mk KX G ?a ?l ?c ?k
      (case a => k_is)
      (case l => k_is)
      (case c => k_is)
      (case k => k_is)
    case S__law_row =>
      refine' Sh.src_mk KX G ?a ?l ?c ?k
      (case a => k_is)
      (case l => k_is)
      (case c => k_is)
      (case k => k_is)
    case S__law_offsets =>
      refine' Sh.src_mk KX G ?a ?l ?c ?k
      (case a => k_is)
      (case l => k_is)
      (case c => k_is)
      (case k => k_is)
    case S__law_formers =>
      refine' Sh.src_mk KX G ?a ?l ?c ?k
      (case a => k_is)
      (case l => k_is)
      (case c => k_is)
      (case k => k_is)
    case S__law_same =>
      refine' Sh.src_mk KX G ?a ?l ?c ?k
      (case a => k_is)
      (case l => k_is)
      (case c => k_is)
      (case k => k_is)
    case S__law_tightest =>
      refine' Sh.src_mk KX G ?a ?l ?c ?k
      (case a => k_is)
      (case l => k_is)
      (case c => k_is)
      (case k => k_is)
    case S__law_ways =>
      refine' Sh.src_mk KX G ?a ?l ?c ?k
      (case a => k_is)
      (case l => k_is)
      (case c => k_is)
      (case k => k_is)
    case S__law_right =>
      refine' Sh.src_mk KX G ?a ?l ?c ?k
      (case a => k_is)
      (case l => k_is)
      (case c => k_is)
      (case k => k_is)
    case S_law =>
      refine' Sh.src_mk KX G ?a ?l ?c ?k
      (case a => k_is)
      (case l => k_is)
      (case c => k_is)
      (case k => k_is)
