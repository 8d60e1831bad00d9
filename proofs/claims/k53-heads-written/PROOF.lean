import PyProof.Rows.All
import Wide.All
import OpenK.AllK
import Wide.FinOn
import HandS.ForMost
import HandS.EndBits
import HandS.Wide
import HandS.IsInst
import HandS.TupAny
import HandS.Small
import HandS.TupMul
import HandS.WideBits
import KE.IntTextLaws
import HandS.SortInts
import HandS.Zip
import HandS.Strs
import HandS.SetFor
import HandS.Steps
import KE.KIndexOf
import KE.GoesEnum
import KE.GoesMore
import HandS.Conv
import HandS.Rev
import HandS.Style
import KE.GoesZip
import HandS.SortKw
import KE.DataMinMax
import HandS.Dict
import HandS.More
import HandS.Iter
import HandS.Finally
import ObjForm.LawKit
import KE.KEqNest
import HandS.Exc
import HandS.ExcOwn
import HandS.TryOnly
import HandS.TryMany
import HandS.ExcCtx
import HandS.Hot
import HandS.HotCalls
import HandS.WordsExc
import HandS.IsInst
import KE.KExcIs
import HandS.ExcValue
import HandS.StrMore
import HandS.ExcInit
import HandS.ExcField
import HandS.ClsMeth
import HandS.ExcInitHot
import HandS.Replace
import HandS.ReplaceLit
import HandS.ReplaceDef
import HandS.Head0
import HandS.Head1
import HandS.Head2
import HandS.HeadEnd
import HandS.HeadHook1
import HandS.ExcField
import PySem.Challenge.RW_shorthead_k53_heads_written
set_option Elab.async false
set_option linter.all false
set_option maxRecDepth 100000
set_option maxHeartbeats 4000000
/-! heaps, data -/
namespace Sh
open PySem PySem.Spec PyProof.Rows L2

theorem same_new {H : Hp} {p : Addr} {o : HO} (h : H p = none) : Same H (upd H p o) := fun a u e => by
  rw [upd_ne (ne_of_none e h)]
  exact e
theorem same_mut {H H' : Hp} {p : Addr} {o : HO} (e : Same H H') (h : H p = none) : Same H (upd H' p o) := fun a u ha => by
  rw [upd_ne (ne_of_none ha h)]
  exact e a u ha
theorem same_t {K : PySem.W.Frag} {H H' : Hp} {a : Addr} {xs : List V} (e : Same H H') (h : SqT K H a xs) : SqT K H' a xs := by
  rcases h with (h | ⟨o, h⟩) | h
  · exact .inl (.inl (e _ _ h))
  · exact .inl (.inr ⟨o, e _ _ h⟩)
  · exact .inr h
mutual
theorem dp_mono {K : PySem.W.Frag} {H H' : Hp} (e : Same H H') : ∀ {v : V} {d : PyData}, Dp K H v d → Dp K H' v d
  | _, _, .non => .non
  | _, _, .bl b => .bl b
  | _, _, .int i => .int i
  | _, _, .str x => .str x
  | _, _, .lst h r => .lst (e.seq h) (dps_mono e r)
  | _, _, .tup h r => .tup (same_t e h) (dps_mono e r)
theorem dps_mono {K : PySem.W.Frag} {H H' : Hp} (e : Same H H') : ∀ {vs : List V} {ds : List PyData}, DpAll K H vs ds → DpAll K H' vs ds
  | _, _, .nil => .nil
  | _, _, .cons h r => .cons (dp_mono e h) (dps_mono e r)
end
theorem dps_len {K : PySem.W.Frag} {H : Hp} : ∀ {vs : List V} {ds : List PyData}, DpAll K H vs ds → vs.length = ds.length
  | _, _, .nil => rfl
  | _, _, .cons _ r => congrArg (· + 1) (dps_len r)
theorem dps_get {K : PySem.W.Frag} {H : Hp} : ∀ {vs : List V} {ds : List PyData} {i : Nat} {d : PyData}, DpAll K H vs ds → ds[i]? = some d → ∃ v, vs[i]? = some v ∧ Dp K H v d
  | _, _, _, _, .nil, e => by simp at e
  | _, _, 0, _, .cons (v := v) h _, e => by
    simp at e
    subst e
    exact ⟨v, rfl, h⟩
  | _, _, i + 1, d, .cons _ r, e => by
    obtain ⟨v, h1, h2⟩ := dps_get (i := i) (d := d) r (by simpa using e)
    exact ⟨v, by simpa using h1, h2⟩
theorem dps_get2 {K : PySem.W.Frag} {H : Hp} {vs : List V} {ds : List PyData} {i : Nat} {v : V} (r : DpAll K H vs ds) (e : vs[i]? = some v) : ∃ d, ds[i]? = some d ∧ Dp K H v d := by
  have hl := dps_len r
  have hi := (List.getElem?_eq_some_iff.mp e).1
  have e2 : ds[i]? = some (ds[i]'(hl ▸ hi)) := List.getElem?_eq_getElem _
  obtain ⟨v2, h1, h2⟩ := dps_get r e2
  rw [e] at h1
  cases h1
  exact ⟨_, e2, h2⟩
theorem dps_app {K : PySem.W.Frag} {H : Hp} : ∀ {vs ws : List V} {ds es : List PyData}, DpAll K H vs ds → DpAll K H ws es → DpAll K H (vs ++ ws) (ds ++ es)
  | _, _, _, _, .nil, s => s
  | _, _, _, _, .cons h r, s => .cons h (dps_app r s)
theorem dps_ints {K : PySem.W.Frag} {H : Hp} : ∀ ns : List Int, DpAll K H (ns.map V.int) (ns.map PyData.int)
  | [] => .nil
  | n :: r => .cons (.int n) (dps_ints r)
theorem atI_map {α β : Type} (f : α → β) (xs : List α) (i : Int) : atI (xs.map f) i = (atI xs i).map f := by
  unfold atI
  rw [List.length_map]
  cases ixN xs.length i with
  | none => rfl
  | some j => simp
theorem dps_at {K : PySem.W.Frag} {H : Hp} {vs : List V} {ds : List PyData} {i : Int} {d : PyData} (r : DpAll K H vs ds) (e : atI ds i = some d) : ∃ v, atI vs i = some v ∧ Dp K H v d := by
  unfold atI at e ⊢
  rw [dps_len r]
  cases q : ixN ds.length i with
  | none => rw [q] at e; cases e
  | some j =>
    rw [q] at e
    exact dps_get r e

/-! ### rules that join -/
section
variable {X : Cx}
theorem opor {f : Value → Value → Sem Value} {r r' : R2} (h : OpR X f r) (h' : OpR X f r') : OpR X f (fun x y H Q => r x y H Q ∨ r' x y H Q) := by
  intro pins s σ H x y v u Q I rx ry q
  rcases q with q | q
  · exact h pins s σ H x y v u Q I rx ry q
  · exact h' pins s σ H x y v u Q I rx ry q
def rAddU (K : PySem.W.Frag) : R2 := fun x y H Q => rI0 (fun i j => .int (i + j)) x y H Q ∨ (∃ i j, x = .str i ∧ y = .str j ∧ i.length + j.length ≤ sizeLine ∧ Q (.str (i ++ j)) H) ∨ rCat x y H Q ∨ rCatA K x y H Q
theorem u_add : OpR X (binaryOp .Add) (rAddU X.K) := opor op_add (opor op_add_str (opor op_cat op_catA))
def rSubU : R2 := rI0 fun i j => .int (i - j)
theorem u_sub : OpR X (binaryOp .Sub) rSubU := op_sub
/-- x * n of a text -/
def rMulS : R2 := fun x y H Q => ∃ a n, x = .str a ∧ y = .int n ∧ MulOk a n ∧ Q (.str (Txt.mul a n)) H
theorem op_mulS {X : Cx} : OpR X (binaryOp .Mult) rMulS := by
  intro pins s σ H x y v u Q I rx ry q
  obtain ⟨a, n, rfl, rfl, hm, q⟩ := q
  obtain ⟨t, rfl⟩ := rx
  obtain ⟨t2, rfl⟩ := ry
  exact SB.mul hm fun t' k => ⟨.str (Txt.mul a n), H, I.tok _, ⟨_, rfl⟩, q⟩
def rMulU (K : PySem.W.Frag) : R2 := fun x y H Q => rI CMul (fun i j => .int (i * j)) x y H Q ∨ rI CMulW (fun i j => .int (i * j)) x y H Q ∨ rMulS x y H Q ∨ rRep x y H Q ∨ rRepT K x y H Q
theorem u_mul : OpR X (binaryOp .Mult) (rMulU X.K) := opor op_mul (opor op_mulW (opor op_mulS (opor op_rep op_repT)))
def rDivU : R2 := rI CDivW fun i j => .int (i / j)
theorem u_div : OpR X (binaryOp .FloorDiv) rDivU := op_fdivW
def rModU : R2 := rI (fun _ j => 0 < j) fun i j => .int (i % j)
theorem u_mod : OpR X (binaryOp .Mod) rModU := op_mod
def rShlU : R2 := rI CPow fun i j => .int (i * 2 ^ j.toNat)
theorem u_shl : OpR X (binaryOp .LShift) rShlU := op_shl
def rPowU : R2 := rI CPow fun i j => .int (i ^ j.toNat)
theorem u_pow : OpR X (binaryOp .Pow) rPowU := op_pow
def rEqU (K : PySem.W.Frag) : R2 := fun x y H Q => rEq x y H Q ∨ rEqD K x y H Q
theorem u_eq (hu : X.A.units + 64 < cLine) : OpR X (compareOp .Eq) (rEqU X.K) := opor op_eq (op_eqD hu)
def rNeU (K : PySem.W.Frag) : R2 := fun x y H Q => rNe x y H Q ∨ rNeD K x y H Q
theorem u_ne (hu : X.A.units + 64 < cLine) : OpR X (compareOp .NotEq) (rNeU X.K) := opor op_ne (op_neD hu)
def rLtU (K : PySem.W.Frag) : R2 := rI0 fun i j => .bl (decide (i < j))
theorem u_lt : OpR X (compareOp .Lt) (rLtU X.K) := op_lt
def rLeU : R2 := fun x y H Q => rI0 (fun i j => .bl (decide (i ≤ j))) x y H Q ∨ (∃ i j, x = .str i ∧ y = .str j ∧ Q (.bl (!decide (j.cps.toList < i.cps.toList))) H)
theorem u_le : OpR X (compareOp .LtE) rLeU := opor op_le op_le_str
def rGtU : R2 := rI0 fun i j => .bl (decide (j < i))
theorem u_gt : OpR X (compareOp .Gt) rGtU := op_gt
def rGeU : R2 := rI0 fun i j => .bl (decide (j ≤ i))
theorem u_ge : OpR X (compareOp .GtE) rGeU := op_ge
end
/-! ### readings, step by step -/
section
variable {K : PySem.W.Frag} {σ : L2.St} {H : Hp} {Q : VK} {R : Bool → Hp → Prop} {te ta tb tc : TE} {t u : TT} {tA tr : TA} {ts tz : TS} {nx bk ct : L2.St → Hp → Prop} {rt : VK} {x y v : V} {i j : Int} {r r' : R2} {g : TG} {n : Nat} {D : Ends}
theorem w_seq (h : ts ⟨tz ⟨nx, rt, bk, ct⟩, rt, bk, ct⟩ σ H) : tSeq ts tz ⟨nx, rt, bk, ct⟩ σ H := h
theorem w_next (h : nx σ H) : tNext ⟨nx, rt, bk, ct⟩ σ H := h
theorem w_asg (h : te σ H fun x H1 => g x σ H1 nx) : tAsg te g ⟨nx, rt, bk, ct⟩ σ H := h
theorem w_gname {k : L2.St → Hp → Prop} (h : k (σ.set n (some v)) H) : gName n v σ H k := h
theorem w_drop (h : te σ H fun _ H1 => nx σ H1) : tDrop te ⟨nx, rt, bk, ct⟩ σ H := h
theorem w_ret (h : te σ H rt) : tRet te ⟨nx, rt, bk, ct⟩ σ H := h
theorem w_retn (h : rt .non H) : tRetN ⟨nx, rt, bk, ct⟩ σ H := h
theorem w_ifs (h : t σ H fun b H1 => if b = true then ts ⟨nx, rt, bk, ct⟩ σ H1 else tz ⟨nx, rt, bk, ct⟩ σ H1) : tIfS t ts tz ⟨nx, rt, bk, ct⟩ σ H := h
theorem w_aug {ti : TIp} (hx : σ[n]? = some (some x)) (h : te σ H fun y H1 => ti x y H1 fun z H2 => nx (σ.set n (some z)) H2) : tAug n te ti ⟨nx, rt, bk, ct⟩ σ H := ⟨x, hx, h⟩
theorem w_ip {f : Int → Int → Int} (h : Q (.int (f i j)) H) : ipI f (.int i) (.int j) H Q := ⟨i, j, rfl, rfl, h⟩
theorem w_par {m : Nat} (h : tA σ H fun vs H1 => ∃ v w, vs = [v, w] ∧ nx ((σ.set n (some v)).set m (some w)) H1) : tPar n m tA ⟨nx, rt, bk, ct⟩ σ H := h
theorem w_two {k : V → V → Prop} (h : k x y) : ∃ v w, [x, y] = [v, w] ∧ k v w := ⟨x, y, rfl, h⟩
theorem w_var (h : σ[n]? = some (some v)) (q : Q v H) : tVar n σ H Q := ⟨v, h, q⟩
theorem w_c (q : Q v H) : tC v σ H Q := q
theorem w_op (h : ta σ H fun x H1 => tb σ H1 fun y H2 => r x y H2 Q) : tOp r ta tb σ H Q := h
theorem w_un {r : V → Hp → VK → Prop} (h : ta σ H fun x H1 => r x H1 Q) : tUn r ta σ H Q := h
theorem w_rU {g : Int → V} (h : Q (g i) H) : rU g (.int i) H Q := ⟨i, rfl, h⟩
theorem w_nil {k : List V → Hp → Prop} (q : k [] H) : tNil σ H k := q
theorem w_cons {k : List V → Hp → Prop} (h : ta σ H fun x H1 => tr σ H1 fun xs H2 => k (x :: xs) H2) : tCons ta tr σ H k := h
theorem w_cb {r : List V → Hp → VK → Prop} (h : tA σ H fun vs H1 => r vs H1 Q) : tCB r tA σ H Q := h
theorem w_call {sp : Sp} {E : XK} (h : tA σ H fun vs H1 => sp vs H1 Q E) : tCall sp [] E tA σ H Q := by
  show tA σ H fun vs H1 => sp (vs ++ []) H1 Q E
  have e : (fun vs H1 => sp (vs ++ []) H1 Q E) = fun vs H1 => sp vs H1 Q E := by
    funext vs H1
    rw [List.append_nil]
  rw [e]
  exact h
theorem w_test (h : te σ H fun x H1 => ∃ k, x = .bl k ∧ R k H1) : tTest te σ H R := h
theorem w_tB (h : te σ H fun x H1 => ∃ k, x = .bl k ∧ R k H1) : tB te σ H R := h
theorem w_bl {b : Bool} {k : Bool → Prop} (h : k b) : ∃ c, V.bl b = .bl c ∧ k c := ⟨b, rfl, h⟩
theorem w_and (h : t σ H fun c H1 => if c = true then u σ H1 R else R false H1) : tAnd t u σ H R := h
theorem w_or (h : t σ H fun c H1 => if c = true then R true H1 else u σ H1 R) : tOr t u σ H R := h
theorem w_not (h : t σ H fun c H1 => R (!c) H1) : tNot t σ H R := h
theorem w_andv (h : ta σ H fun x H1 => ∃ c, x = .bl c ∧ if c = true then tb σ H1 Q else Q (.bl false) H1) : tAndV ta tb σ H Q := h
theorem w_orv (h : ta σ H fun x H1 => ∃ c, x = .bl c ∧ if c = true then Q (.bl true) H1 else tb σ H1 Q) : tOrV ta tb σ H Q := h
theorem w_notv (h : ta σ H fun x H1 => ∃ c, x = .bl c ∧ Q (.bl (!c)) H1) : tNotV ta σ H Q := h
theorem w_ife (h : t σ H fun c H1 => if c = true then ta σ H1 Q else tb σ H1 Q) : tIf t ta tb σ H Q := h
theorem w_chain (h : ta σ H fun x H1 => tb σ H1 fun y H2 => r x y H2 fun z H3 => ∃ k, z = .bl k ∧ if k = true then tc σ H3 fun w H4 => r' y w H4 Q else Q (.bl false) H3) : tChain r r' ta tb tc σ H Q := h
/-- a new object is laid -/
def NewT (xs : List V) (o : HO) (Q : VK) (H : Hp) : Prop := xs.length ≤ sizeLine ∧ ∀ p, H p = none → Q (.ref p) (upd H p o)
theorem w_tup (h : tA σ H fun xs H1 => NewT xs (.tup xs) Q H1) : tTup tA σ H Q := h
theorem w_lst (h : tA σ H fun xs H1 => NewT xs (.lst xs) Q H1) : tLst tA σ H Q := h
/-- a new object: it is there, all else is kept -/
theorem w_new {xs : List V} {o : HO} (hl : xs.length ≤ sizeLine) (h : ∀ p H', H p = none → Same H H' → H' p = some o → Q (.ref p) H') : NewT xs o Q H :=
  ⟨hl, fun p hp => h p _ hp (same_new hp) upd_same⟩
theorem w_dec {p : Prop} [Decidable p] {A B : Prop} (h1 : p → A) (h2 : ¬ p → B) : if decide p = true then A else B := by
  by_cases h : p
  · rw [decide_eq_true h]
    exact iteT (h1 h)
  · rw [decide_eq_false h]
    exact iteF (h2 h)
theorem w_ndec {p : Prop} [Decidable p] {A B : Prop} (h1 : ¬ p → A) (h2 : p → B) : if (!decide p) = true then A else B := by
  by_cases h : p
  · rw [decide_eq_true h]
    exact iteF (h2 h)
  · rw [decide_eq_false h]
    exact iteT (h1 h)
theorem w_itet {b : Bool} {A B : Prop} (h : b = true) (q : A) : if b = true then A else B := by
  rw [h]
  exact iteT q
theorem w_itef {b : Bool} {A B : Prop} (h : b = false) (q : B) : if b = true then A else B := by
  rw [h]
  exact iteF q
theorem w_nn {b : Bool} {A B : Prop} (h : if b = true then B else A) : if (!b) = true then A else B := by
  cases b
  · exact h
  · exact h
theorem w_bool {b : Bool} {A B : Prop} (h1 : b = true → A) (h2 : b = false → B) : if b = true then A else B := by
  cases b
  · exact iteF (h2 rfl)
  · exact iteT (h1 rfl)
theorem w_add (h : Q (.int (i + j)) H) : rAddU K (.int i) (.int j) H Q := .inl ⟨i, j, rfl, rfl, h⟩
theorem w_adds {a b : Str} (hl : a.length + b.length ≤ sizeLine) (h : Q (.str (a ++ b)) H) : rAddU K (.str a) (.str b) H Q := .inr (.inl ⟨a, b, rfl, rfl, hl, h⟩)
theorem w_sub (h : Q (.int (i - j)) H) : rSubU (.int i) (.int j) H Q := ⟨i, j, rfl, rfl, h⟩
theorem w_mul (hc : CMul i j) (h : Q (.int (i * j)) H) : rMulU K (.int i) (.int j) H Q := .inl ⟨i, j, rfl, rfl, hc, h⟩
theorem w_mulw (hc : CMulW i j) (h : Q (.int (i * j)) H) : rMulU K (.int i) (.int j) H Q := .inr (.inl ⟨i, j, rfl, rfl, hc, h⟩)
theorem w_div (h0 : 0 < j) (hc : j.natAbs.log2 < 9000) (h : Q (.int (i / j)) H) : rDivU (.int i) (.int j) H Q := ⟨i, j, rfl, rfl, ⟨h0, hc⟩, h⟩
theorem w_mod (h0 : 0 < j) (h : Q (.int (i % j)) H) : rModU (.int i) (.int j) H Q := ⟨i, j, rfl, rfl, h0, h⟩
theorem w_shl (hc : CPow i j) (h : Q (.int (i * 2 ^ j.toNat)) H) : rShlU (.int i) (.int j) H Q := ⟨i, j, rfl, rfl, hc, h⟩
theorem w_pow (hc : CPow i j) (h : Q (.int (i ^ j.toNat)) H) : rPowU (.int i) (.int j) H Q := ⟨i, j, rfl, rfl, hc, h⟩
theorem w_lt (h : Q (.bl (decide (i < j))) H) : rLtU K (.int i) (.int j) H Q := ⟨i, j, rfl, rfl, h⟩
theorem w_le (h : Q (.bl (decide (i ≤ j))) H) : rLeU (.int i) (.int j) H Q := .inl ⟨i, j, rfl, rfl, h⟩
theorem w_gt (h : Q (.bl (decide (j < i))) H) : rGtU (.int i) (.int j) H Q := ⟨i, j, rfl, rfl, h⟩
theorem w_ge (h : Q (.bl (decide (j ≤ i))) H) : rGeU (.int i) (.int j) H Q := ⟨i, j, rfl, rfl, h⟩
theorem dec_ii : decide (V.int i = V.int j) = decide (i = j) := by
  by_cases h : i = j
  · subst h; simp
  · simp [h]
theorem dec_ss {a b : Str} : decide (V.str a = V.str b) = decide (a = b) := by
  by_cases h : a = b
  · subst h; simp
  · simp [h]
theorem w_eqi (h : Q (.bl (decide (i = j))) H) : rEqU K (.int i) (.int j) H Q := .inl ⟨rfl, by rw [dec_ii]; exact h⟩
theorem w_eqs {a b : Str} (h : Q (.bl (decide (a = b))) H) : rEqU K (.str a) (.str b) H Q := .inl ⟨rfl, by rw [dec_ss]; exact h⟩
theorem w_nei (h : Q (.bl (!decide (i = j))) H) : rNeU K (.int i) (.int j) H Q := .inl ⟨rfl, by rw [dec_ii]; exact h⟩
theorem w_nes {a b : Str} (h : Q (.bl (!decide (a = b))) H) : rNeU K (.str a) (.str b) H Q := .inl ⟨rfl, by rw [dec_ss]; exact h⟩
theorem w_div1 (h0 : 0 < j) (hb : j < 1267650600228229401496703205376) (h : Q (.int (i / j)) H) : rDivU (.int i) (.int j) H Q := by
  refine ⟨i, j, rfl, rfl, ⟨h0, ?_⟩, h⟩
  have hn : j.natAbs < 2 ^ 100 := by omega
  exact Nat.lt_of_lt_of_le (PySem.Flt.log2_lt_of (by decide) hn) (by decide)
def p2 (n : Int) : Int := 2 ^ n.toNat
theorem p2_pos (n : Int) : 0 < p2 n := Int.pow_pos (by decide)
theorem ipow_le {a : Nat} (ha : 0 < a) {m n : Nat} (h : m ≤ n) : (a : Int) ^ m ≤ (a : Int) ^ n := by
  rw [← Int.natCast_pow, ← Int.natCast_pow]
  exact Int.ofNat_le.mpr (Nat.pow_le_pow_right ha h)
theorem p2_le {m n : Int} (h : m ≤ n) : p2 m ≤ p2 n := by
  have h1 : m.toNat ≤ n.toNat := by omega
  have h2 : (2 : Nat) ^ m.toNat ≤ 2 ^ n.toNat := Nat.pow_le_pow_right (by decide) h1
  have e1 : ((2 ^ m.toNat : Nat) : Int) = (2 : Int) ^ m.toNat := by simp
  have e2 : ((2 ^ n.toNat : Nat) : Int) = (2 : Int) ^ n.toNat := by simp
  show (2 : Int) ^ m.toNat ≤ 2 ^ n.toNat
  omega
theorem w_shl1 (h0 : 0 ≤ j) (h1 : j ≤ 1000000) (h : Q (.int (p2 j)) H) : rShlU (.int 1) (.int j) H Q := ⟨1, j, rfl, rfl, ⟨h0, h1, by decide⟩, by
  show Q (V.int (1 * 2 ^ j.toNat)) H
  rw [Int.one_mul]
  exact h⟩
abbrev rMin2 : List V → Hp → VK → Prop := fun xs H Q => ∃ i j, xs = [V.int i, V.int j] ∧ Q (.int (if j < i then j else i)) H
abbrev rMax2 : List V → Hp → VK → Prop := fun xs H Q => ∃ i j, xs = [V.int i, V.int j] ∧ Q (.int (if j > i then j else i)) H
abbrev rAbs : List V → Hp → VK → Prop := fun xs H Q => ∃ i, xs = [V.int i] ∧ Q (.int (if i < 0 then -i else i)) H
theorem w_min2 (h : Q (.int (if j < i then j else i)) H) : rMin2 [.int i, .int j] H Q := ⟨i, j, rfl, h⟩
theorem w_max2 (h : Q (.int (if j > i then j else i)) H) : rMax2 [.int i, .int j] H Q := ⟨i, j, rfl, h⟩
theorem w_abs (h : Q (.int (if i < 0 then -i else i)) H) : rAbs [.int i] H Q := ⟨i, rfl, h⟩
abbrev rIntU : List V → Hp → VK → Prop := fun xs H Q => (∃ i, xs = [V.int i] ∧ Q (.int i) H) ∨ ∃ k, xs = [V.bl k] ∧ Q (.int (if k then 1 else 0)) H
theorem u_int {X : Cx} : CallR X (.type "int") rIntU := call_int1
theorem w_inti (h : Q (.int i) H) : rIntU [.int i] H Q := .inl ⟨i, rfl, h⟩
theorem w_intb {b : Bool} (h : Q (.int (if b = true then 1 else 0)) H) : rIntU [.bl b] H Q := .inr ⟨b, rfl, h⟩
def ipAddU (K : PySem.W.Frag) : TIp := ipI fun i j => i + j
theorem w_ipadd (h : Q (.int (i + j)) H) : ipAddU K (.int i) (.int j) H Q := ⟨i, j, rfl, rfl, h⟩
theorem u_ipadd {X : Cx} : PIp X .Add (ipAddU X.K) := ip_add
end
/-! ### what the law's text is made of -/
/-- a def of the text -/
def Src (K : PySem.W.Frag) (mg : Str → Option Value) (x : Str) (st : Stmt) : Prop := ∃ f fd, mg x = some (.ref f) ∧ Fun K x x st f fd
/-- the program, the world, the written part -/
structure Wd where
  P : Program
  w : World
  K : PySem.W.Frag
/-- a def that keeps a promise -/
def Cal (W : Wd) (mg : Str → Option Value) (base : Heap) (x : Str) (k : Nat) (ps : List Str) (sp : Sp) : Prop :=
  ∃ f fd, mg x = some (.ref f) ∧ FnOk W.P W.w W.K mg base CX0 k f fd ps sp ∧ PySem.W.keepIn W.K (.ref f) = true ∧ Binds W.K fd ps []
/-- an object of which no more is said than that it is one of U -/
def flatO : HO → Prop
  | .lst _ => True
  | .dK _ => True
  | _ => False
theorem ok_flat {P : Program} {w : World} {H H' : Hp} {h : Heap} {a : Addr} {u : HO} (hf : flatO u) (x : ObjOk P w H h a u) : ObjOk P w H' h a u := by
  cases u with
  | lst xs =>
    obtain ⟨z, its, n, r, e⟩ := x
    exact ⟨z, its, n, r, e⟩
  | dK kvs =>
    obtain ⟨z, y, vs, r, m⟩ := x
    exact ⟨z, y, vs, r, m⟩
  | _ => exact hf.elim
theorem flat_there {P : Program} {w : World} {H : Hp} {h : Heap} {a : Addr} {u : HO} (hf : flatO u) (x : ObjOk P w H h a u) : ∃ o, h.get? a = some o := by
  cases u with
  | lst xs =>
    obtain ⟨z, its, n, r, e⟩ := x
    exact ⟨_, e⟩
  | dK kvs =>
    obtain ⟨z, y, vs, r, o, es, ep, e, _⟩ := x
    exact ⟨_, e⟩
  | _ => exact hf.elim
def vw (W : Wd) (U : HO → Prop) (a : Addr) : HO := .ext fun h => ∃ u, U u ∧ flatO u ∧ ObjOk W.P W.w (fun _ => none) h a u
theorem vw_ok {W : Wd} {U : HO → Prop} {H H' : Hp} {h : Heap} {a : Addr} {u : HO} (hu : U u) (hf : flatO u) (x : ObjOk W.P W.w H h a u) : ObjOk W.P W.w H' h a (vw W U a) := by
  have x0 : ObjOk W.P W.w (fun _ => none) h a u := ok_flat hf x
  refine ⟨⟨u, hu, hf, x0⟩, flat_there hf x, fun h1 h2 ⟨u1, a1, a2, a3⟩ k => ⟨u1, a1, a2, ?_⟩⟩
  refine a3.stay (fun b o hb e => ?_) (fun _ q => q) fun _ _ q => q
  rcases hb with rfl | hb
  · exact k _ e
  · cases hb
theorem flat_cases {u : HO} (h : flatO u) : (∃ x, u = .lst x) ∨ ∃ k, u = .dK k := by
  cases u <;> first | exact .inl ⟨_, rfl⟩ | exact .inr ⟨_, rfl⟩ | exact h.elim
/-- p's object shown as one of U: all else is as it was -/
theorem hok_seal {W : Wd} {U : HO → Prop} {H : Hp} {h : Heap} {p : Addr} {u : HO} (x : HOk W.P W.w H h) (hp : H p = some u) (hu : U u) (hf : flatO u) : HOk W.P W.w (upd H p (vw W U p)) h := fun a o e => by
  by_cases ha : a = p
  · subst ha
    rw [upd_same] at e
    cases e
    exact vw_ok hu hf (x a u hp)
  · rw [upd_ne ha] at e
    refine (x a o e).stay (fun _ _ _ q => q) (fun b q => ?_) fun b xs q => ?_
    · have nb : b ≠ p := fun z => by
        rw [z, hp] at q
        cases q
        exact hf
      rw [upd_ne nb]
      exact q
    · have nb : b ≠ p := fun z => by
        rw [z, hp] at q
        cases q
        exact hf
      rw [upd_ne nb]
      exact q
theorem hok_open {W : Wd} {U : HO → Prop} {H : Hp} {h : Heap} {p : Addr} (x : HOk W.P W.w H h) (hp : H p = some (vw W U p)) : ∃ u, U u ∧ flatO u ∧ HOk W.P W.w (upd H p u) h := by
  obtain ⟨⟨u, hu, hf, o⟩, _, _⟩ := (show ObjOk W.P W.w H h p (vw W U p) from x p _ hp)
  refine ⟨u, hu, hf, fun a ob e => ?_⟩
  by_cases ha : a = p
  · subst ha
    rw [upd_same] at e
    cases e
    exact ok_flat hf o
  · rw [upd_ne ha] at e
    refine (x a ob e).stay (fun _ _ _ q => q) (fun b q => ?_) fun b xs q => ?_
    · have nb : b ≠ p := fun z => by
        rw [z, hp] at q
        cases q
      rw [upd_ne nb]
      exact q
    · have nb : b ≠ p := fun z => by
        rw [z, hp] at q
        cases q
      rw [upd_ne nb]
      exact q
theorem un_seal {W : Wd} {U : HO → Prop} {fs ex : List Addr} {H H' : Hp} {h h' : Heap} {p : Addr} {u : HO} (x : Un fs ex H H' h h') (hp : H' p = some u) (hf : flatO u) : Un fs ex H (upd H' p (vw W U p)) h h' where
  keep := x.keep
  slot := x.slot
  free := fun b o q n he => by
    have e := x.free b o q n he
    have nb : b ≠ p := fun z => by
      rw [z, hp] at e
      cases e
    rw [upd_ne nb]
    exact e
  there := x.there
  tups := fun b xs q => by
    have e := x.tups b xs q
    have nb : b ≠ p := fun z => by
      rw [z, hp] at e
      cases e
      exact hf
    rw [upd_ne nb]
    exact e
  frzs := fun b o v q => by
    have e := x.frzs b o v q
    have nb : b ≠ p := fun z => by
      rw [z, hp] at e
      cases e
      exact hf
    rw [upd_ne nb]
    exact e
  tbls := fun b ps q => by
    obtain ⟨m, e⟩ := x.tbls b ps q
    have nb : b ≠ p := fun z => by
      rw [z, hp] at e
      cases e
      exact hf
    exact ⟨m, by rw [upd_ne nb]; exact e⟩
theorem un_open {W : Wd} {U : HO → Prop} {fs ex : List Addr} {H H' : Hp} {h h' : Heap} {p : Addr} {u : HO} (x : Un fs ex (upd H p u) H' h h') (hp : H p = some (vw W U p)) : Un fs ex H H' h h' := by
  have nb : ∀ b, H b = none → b ≠ p := fun b e z => by
    rw [z, hp] at e
    cases e
  have up : ∀ b, b ≠ p → upd H p u b = H b := fun b z => upd_ne z
  have no : ∀ b o, H b = some o → (∀ φ, o ≠ .ext φ) → b ≠ p := fun b o e z q => by
    rw [q, hp] at e
    exact z _ (Option.some.inj e).symm
  refine ⟨fun b o q n => x.keep b o q (by rw [up b (nb b n)]; exact n), fun b o q n => x.slot b o q (by rw [up b (nb b n)]; exact n), fun b o q n => x.free b o q (by rw [up b (nb b n)]; exact n), x.there,
    fun b xs q => x.tups b xs ?_, fun b o v q => x.frzs b o v ?_, fun b ps q => x.tbls b ps ?_⟩
  · rw [up b (no b _ q fun φ z => by cases z)]
    exact q
  · rw [up b (no b _ q fun φ z => by cases z)]
    exact q
  · rw [up b (no b _ q fun φ z => by cases z)]
    exact q
/-- a def that has a promise by the object itself has one by its view -/
theorem fn_view {W : Wd} {mg : Str → Option Value} {base : Heap} {k : Nat} {f : Addr} {fd : FuncData} {ps : List Str} {sp sp' : Sp} {U : HO → Prop} (hU : ∀ u, U u → flatO u) (F : FnOk W.P W.w W.K mg base CX0 k f fd ps sp)
    (hl : ∀ vs H Q E, sp' vs H Q E → vs.length = ps.length)
    (h : ∀ vs H Q E, sp' vs H Q E → ∃ p, H p = some (vw W U p) ∧ ∀ u, U u → sp vs (upd H p u) (fun v H' => ∃ u', U u' ∧ H' p = some u' ∧ Q v (upd H' p (vw W U p))) E) :
    FnOk W.P W.w W.K mg base CX0 k f fd ps sp' := by
  refine ⟨hl, fun A outer s H args us vs Q E hr e0 hb hv hs => ?_⟩
  obtain ⟨p, hp, k⟩ := h _ _ _ _ hs
  obtain ⟨u, hu, hf, hok⟩ := hok_open e0.hok hp
  have np : ∀ b, H b = none → upd H p u b = none := fun b e => by
    have nb : b ≠ p := fun z => by
      rw [z, hp] at e
      cases e
    rw [upd_ne nb]
    exact e
  have e1 : Env0 W.P W.w W.K mg base A outer s (upd H p u) := ⟨e0.frames, e0.mod, fun b o q => ⟨(e0.bs b o q).1, np b (e0.bs b o q).2⟩, e0.bsz, e0.funs, fun b q => np b (e0.frf b q), hok, e0.bare⟩
  refine codeAny_mono (F.run A outer s (upd H p u) args us vs _ E hr e1 hb hv (k u hu)) fun r s' q => ?_
  cases r with
  | error e => exact q
  | ok fl =>
    cases fl with
    | ret v =>
      obtain ⟨v1, H', q1, q2, q3, q4, q5, u', hu', hp', q6⟩ := q
      exact ⟨v1, _, q1, q2, un_open (un_seal q3 hp' (hU _ hu')) hp, hok_seal q4 hp' hu' (hU _ hu'), q5, q6⟩
    | next => exact q
    | brk => exact q
    | cont => exact q
theorem fn_seal {W : Wd} {mg : Str → Option Value} {base : Heap} {k : Nat} {f : Addr} {fd : FuncData} {ps : List Str} {sp sp' : Sp} {U : HO → Prop} (hU : ∀ u, U u → flatO u) (F : FnOk W.P W.w W.K mg base CX0 k f fd ps sp)
    (hl : ∀ vs H Q E, sp' vs H Q E → vs.length = ps.length)
    (h : ∀ vs H Q E, sp' vs H Q E → sp vs H (fun v H' => ∃ p u', U u' ∧ H' p = some u' ∧ Q v (upd H' p (vw W U p))) E) :
    FnOk W.P W.w W.K mg base CX0 k f fd ps sp' := by
  refine ⟨hl, fun A outer s H args us vs Q E hr e0 hb hv hs => ?_⟩
  refine codeAny_mono (F.run A outer s H args us vs _ E hr e0 hb hv (h _ _ _ _ hs)) fun r s' q => ?_
  cases r with
  | error e => exact q
  | ok fl =>
    cases fl with
    | ret v =>
      obtain ⟨v1, H', q1, q2, q3, q4, q5, p, u', hu', hp', q6⟩ := q
      exact ⟨v1, _, q1, q2, un_seal q3 hp' (hU _ hu'), hok_seal q4 hp' hu' (hU _ hu'), q5, q6⟩
    | next => exact q
    | brk => exact q
    | cont => exact q
theorem src_mk {K : PySem.W.Frag} {mg : Str → Option Value} {h : Heap} {x : Str} {st : Stmt} {f : Addr} {oc : Value} {od an : Option Addr} {osl : Array (Option Value)} {kV doc pm cdv ct : Value} (X : K.In h) (G : h.Ns mainGlobals mg)
    (a : PySem.W.nsIn K mainGlobals x = some (some (.ref f))) (l : K.lookup f = some ⟨oc, od, .func (PySem.W.fnOf x x (defArgs st) (defBody st) (defScope st) .none kV doc pm an cdv ct), osl⟩)
    (c : PySem.W.codeIn K cdv x = true) (k : PySem.W.keepIn K (.ref f) = true) : Src K mg x st := ⟨f, _, PySem.W.mg_of X G a, fun_mk l c k⟩
/-! ### loops -/
section
variable {K : PySem.W.Frag} {σ : L2.St} {H : Hp} {Q : VK} {te : TE} {tA : TA} {tb : TS} {nx bk ct : L2.St → Hp → Prop} {rt : VK} {g : TG} {n : Nat} {wi : TI} {c : TT}
/-- what a for asks once its iterator has come -/
def ForOk (J : It) (g : TG) (tb : TS) (nx : L2.St → Hp → Prop) (rt : VK) (σ : L2.St) (H1 : Hp) : Prop := ∃ W : Nat → Nat → L2.St → Hp → Prop, (∃ m, W 0 m σ H1) ∧ ∀ i m σ H, W i m σ H →
  (J.stop i H ∧ nx σ H) ∨ (J.go i H ∧ ∃ N : L2.St → Hp → Prop, (∀ σ' H', N σ' H' → ∃ m', m' < m ∧ W (i + 1) m' σ' H') ∧ ∀ x H', J.yld i H x H' → g x σ H' fun σ2 H2 => tb ⟨N, rt, nx, N⟩ σ2 H2)
theorem w_for (h : wi σ H fun J H1 => ForOk J g tb nx rt σ H1) : tFor wi g tb ⟨nx, rt, bk, ct⟩ σ H := h
def Rg1 (R : It → Hp → Prop) (vs : List V) (H : Hp) : Prop := ∃ j : Int, vs = [.int j] ∧ -(2 ^ 62) ≤ j ∧ j < 2 ^ 62 ∧ R (Itr 0 j.toNat) H
def Rg2 (R : It → Hp → Prop) (vs : List V) (H : Hp) : Prop := ∃ i j : Int, vs = [.int i, .int j] ∧ (-(2 ^ 62) ≤ i ∧ i < 2 ^ 62 ∧ -(2 ^ 62) ≤ j ∧ j < 2 ^ 62) ∧ R (Itr i (j - i).toNat) H
theorem w_irng1 {R : It → Hp → Prop} (h : tA σ H fun vs H1 => Rg1 R vs H1) : iRng1 tA σ H R := h
theorem w_irng2 {R : It → Hp → Prop} (h : tA σ H fun vs H1 => Rg2 R vs H1) : iRng2 tA σ H R := h
theorem w_rg1 {R : It → Hp → Prop} {j : Int} (h0 : -(2 ^ 62) ≤ j) (h1 : j < 2 ^ 62) (h : R (Itr 0 j.toNat) H) : Rg1 R [.int j] H := ⟨j, rfl, h0, h1, h⟩
theorem w_rg2 {R : It → Hp → Prop} {i j : Int} (h0 : -(2 ^ 62) ≤ i ∧ i < 2 ^ 62 ∧ -(2 ^ 62) ≤ j ∧ j < 2 ^ 62) (h : R (Itr i (j - i).toNat) H) : Rg2 R [.int i, .int j] H := ⟨i, j, rfl, h0, h⟩
theorem forR {lo : Int} (I : Nat → L2.St → Hp → Prop) (h0 : I 0 σ H) (hs : ∀ i σ H, i < n → I i σ H → g (.int (lo + i)) σ H fun σ2 H2 => tb ⟨I (i + 1), rt, nx, I (i + 1)⟩ σ2 H2) (hd : ∀ σ H, I n σ H → nx σ H) : ForOk (Itr lo n) g tb nx rt σ H :=
  for_range (D := ⟨nx, rt, fun _ _ => False, fun _ _ => False⟩) I h0 hs hd
theorem forR0 (I : Nat → L2.St → Hp → Prop) (h0 : I 0 σ H) (hs : ∀ (i : Nat) σ H, i < n → I i σ H → g (.int (i : Int)) σ H fun σ2 H2 => tb ⟨I (i + 1), rt, nx, I (i + 1)⟩ σ2 H2) (hd : ∀ σ H, I n σ H → nx σ H) : ForOk (Itr 0 n) g tb nx rt σ H :=
  forR I h0 (fun i σ H hi q => by
    rw [Int.zero_add]
    exact hs i σ H hi q) hd
theorem w_while (I : Nat → L2.St → Hp → Prop) (m0 : Nat) (h0 : I m0 σ H) (hs : ∀ m σ H, I m σ H → c σ H fun b H1 => if b = true then ∃ N : L2.St → Hp → Prop, (∀ σ' H', N σ' H' → ∃ m', m' < m ∧ I m' σ' H') ∧ tb ⟨N, rt, nx, N⟩ σ H1 else nx σ H1) :
    tWhile c tb ⟨nx, rt, bk, ct⟩ σ H := ⟨I, ⟨m0, h0⟩, hs⟩
theorem w_N {P : (L2.St → Hp → Prop) → Prop} {J : L2.St → Hp → Prop} (h : P J) : ∃ N : L2.St → Hp → Prop, (∀ σ' H', N σ' H' → J σ' H') ∧ P N := ⟨J, fun _ _ h => h, h⟩
def GoAny (K : PySem.W.Frag) (R : It → Hp → Prop) (x : V) (H1 : Hp) : Prop := (∃ a, x = .ref a ∧ ((∃ xs, SqL K H1 a xs) ∧ R (Itl K a) H1 ∨ (∃ xs, SqT K H1 a xs) ∧ R (Itt K a) H1)) ∨ ∃ s, x = .str s ∧ R (Its s) H1
def iAny (K : PySem.W.Frag) (te : TE) : TI := fun σ H R => te σ H fun x H1 => GoAny K R x H1
theorem w_iany {R : It → Hp → Prop} (h : te σ H fun x H1 => GoAny K R x H1) : iAny K te σ H R := h
theorem w_goL {R : It → Hp → Prop} {a : Addr} {xs : List V} (h : SqL K H a xs) (q : R (Itl K a) H) : GoAny K R (.ref a) H := .inl ⟨a, rfl, .inl ⟨⟨xs, h⟩, q⟩⟩
theorem w_goT {R : It → Hp → Prop} {a : Addr} {xs : List V} (h : SqT K H a xs) (q : R (Itt K a) H) : GoAny K R (.ref a) H := .inl ⟨a, rfl, .inr ⟨⟨xs, h⟩, q⟩⟩
theorem w_goS {R : It → Hp → Prop} {z : Str} (q : R (Its z) H) : GoAny K R (.str z) H := .inr ⟨z, rfl, q⟩
theorem pi_any {X : Cx} {tg l : Expr} {tl : TE} (hl : PE X l tl) : PI X tg l (iAny X.K tl) := ⟨fun pins s σ H R I h => thn (hl.run pins s σ H _ I h) fun v s1 z => by
  obtain ⟨x, H1, J, rx, z⟩ := z
  have fp : ∀ b ∈ [s1.heap.objs.size], FpOk X pins H1 b := fun b hb => by
    rw [List.mem_singleton.mp hb]
    exact J.fpOk (Nat.le_refl _) (J.hok.fresh (Nat.le_refl _))
  rcases z with ⟨a, rfl, z⟩ | ⟨z, rfl, q⟩
  · obtain rfl : v = Value.ref a := rx
    rcases z with ⟨⟨xs, hs⟩, q⟩ | ⟨⟨xs, hs⟩, q⟩
    · obtain ⟨_, _, pl, _⟩ := J.list hs
      exact wpAny_pyIter_list pl.isList
        ⟨_, _, _, _, H1, rfl, J.kept (t' := s1.toks) (fun _ _ e => Heap.get?_push_of_some _ e), turn_list a _, ⟨_, Heap.get?_push_size _ rfl, rfl, rfl⟩, fp, q⟩
    · obtain ⟨_, _, pl, _⟩ := J.tuple hs
      exact wpAny_pyIter_tuple pl
        ⟨_, _, _, _, H1, rfl, J.kept (t' := s1.toks) (fun _ _ e => Heap.get?_push_of_some _ e), turn_tuple a _, ⟨_, Heap.get?_push_size _ rfl, rfl, rfl⟩, fp, q⟩
  · obtain ⟨t, rfl⟩ := rx
    cases ha : z.cps.all (· < 128) with
    | false => exact wpAny_pyIter_wide ha (pi_one (tk := s1.toks) J _ (turn_str _ z t "str_iterator" (.inr rfl)) ⟨_, Heap.get?_push_size _ rfl, rfl, rfl⟩ q)
    | true => exact wpAny_pyIter_ascii ha (pi_one (tk := s1.toks) J _ (turn_str _ z t "str_ascii_iterator" (.inl rfl)) ⟨_, Heap.get?_push_size _ rfl, rfl, rfl⟩ q)⟩
theorem forL {a : Addr} {xs : List V} (I : Nat → L2.St → Hp → Prop) (h0 : I 0 σ H) (hl : ∀ i σ H, i ≤ xs.length → I i σ H → SqL K H a xs)
    (hs : ∀ i x σ H, xs[i]? = some x → I i σ H → g x σ H fun σ2 H2 => tb ⟨I (i + 1), rt, nx, I (i + 1)⟩ σ2 H2) (hd : ∀ σ H, I xs.length σ H → nx σ H) : ForOk (Itl K a) g tb nx rt σ H :=
  for_list (D := ⟨nx, rt, fun _ _ => False, fun _ _ => False⟩) I h0 hl hs hd
theorem forT {a : Addr} {xs : List V} (I : Nat → L2.St → Hp → Prop) (h0 : I 0 σ H) (hl : ∀ i σ H, i ≤ xs.length → I i σ H → SqT K H a xs)
    (hs : ∀ i x σ H, xs[i]? = some x → I i σ H → g x σ H fun σ2 H2 => tb ⟨I (i + 1), rt, nx, I (i + 1)⟩ σ2 H2) (hd : ∀ σ H, I xs.length σ H → nx σ H) : ForOk (Itt K a) g tb nx rt σ H :=
  for_tup (D := ⟨nx, rt, fun _ _ => False, fun _ _ => False⟩) I h0 hl hs hd
end
/-! ### types, lengths, items -/
def tyD : PyData → String
  | .none => "NoneType"
  | .bool _ => "bool"
  | .int _ => "int"
  | .str _ => "str"
  | .list _ => "list"
  | .tuple _ => "tuple"
  | .dict _ => "dict"
theorem ty_of {K : PySem.W.Frag} {H : Hp} {v : V} {d : PyData} (h : Dp K H v d) : TyX K H v (.type (tyD d)) := by
  cases h with
  | non => exact .base .non
  | bl b => exact .base (.bl b)
  | int i => exact .base (.int i)
  | str x => exact .base (.str x)
  | lst h r =>
    rcases h with (h | ⟨o, h⟩) | ⟨o, its, n, h, c, _⟩
    · exact .base (.lst h)
    · exact .base (.frz h)
    · exact .kList h c
  | tup h r =>
    rcases h with (h | ⟨o, h⟩) | ⟨o, its, n, h, c, _⟩
    · exact .base (.tup h)
    · exact .fTuple h
    · exact .kTuple h c
def isIntD : PyData → Bool
  | .int _ => true
  | _ => false
def isIntB : PyData → Bool
  | .int _ => true
  | .bool _ => true
  | _ => false
def isBoolD : PyData → Bool
  | .bool _ => true
  | _ => false
def isStrD : PyData → Bool
  | .str _ => true
  | _ => false
def isTupD : PyData → Bool
  | .tuple _ => true
  | _ => false
def isListD : PyData → Bool
  | .list _ => true
  | _ => false
section
variable {K : PySem.W.Frag} {H : Hp} {Q : VK} {v : V} {d : PyData}
theorem w_isi {b : String} {r : Bool} (h : Dp K H v d) (hk : kitB (tyD d) b = some r) (q : Q (.bl r) H) : rIsi K [v, .ty b] H Q := ⟨v, .ty b, _, _, r, rfl, .ty b, ty_of h, kit_ty hk, q⟩
theorem w_isint (h : Dp K H v d) (hd : tyD d ≠ "dict") (q : Q (.bl (isIntB d)) H) : rIsi K [v, .ty "int"] H Q := w_isi h (by cases d <;> first | exact (hd rfl).elim | (simp only [tyD, isIntB]; decide +kernel)) q
theorem w_isbool (h : Dp K H v d) (hd : tyD d ≠ "dict") (q : Q (.bl (isBoolD d)) H) : rIsi K [v, .ty "bool"] H Q := w_isi h (by cases d <;> first | exact (hd rfl).elim | (simp only [tyD, isBoolD]; decide +kernel)) q
theorem w_isstr (h : Dp K H v d) (hd : tyD d ≠ "dict") (q : Q (.bl (isStrD d)) H) : rIsi K [v, .ty "str"] H Q := w_isi h (by cases d <;> first | exact (hd rfl).elim | (simp only [tyD, isStrD]; decide +kernel)) q
theorem w_istup (h : Dp K H v d) (hd : tyD d ≠ "dict") (q : Q (.bl (isTupD d)) H) : rIsi K [v, .ty "tuple"] H Q := w_isi h (by cases d <;> first | exact (hd rfl).elim | (simp only [tyD, isTupD]; decide +kernel)) q
theorem dp_nodict (h : Dp K H v d) : tyD d ≠ "dict" := by
  cases h <;> (intro z; simp [tyD] at z)
theorem w_isint' (h : Dp K H v d) (q : Q (.bl (isIntB d)) H) : rIsi K [v, .ty "int"] H Q := w_isint h (dp_nodict h) q
theorem w_isbool' (h : Dp K H v d) (q : Q (.bl (isBoolD d)) H) : rIsi K [v, .ty "bool"] H Q := w_isbool h (dp_nodict h) q
theorem w_isstr' (h : Dp K H v d) (q : Q (.bl (isStrD d)) H) : rIsi K [v, .ty "str"] H Q := w_isstr h (dp_nodict h) q
theorem w_istup' (h : Dp K H v d) (q : Q (.bl (isTupD d)) H) : rIsi K [v, .ty "tuple"] H Q := w_istup h (dp_nodict h) q
abbrev rLenU (K : PySem.W.Frag) : List V → Hp → VK → Prop := fun xs H Q => ∃ x n, xs = [x] ∧ LenV K x H n ∧ Q (.int n) H
theorem u_len {X : Cx} : CallR X (.builtin "len") (rLenU X.K) := call_len
theorem w_lenL {a : Addr} {xs : List V} (h : SqL K H a xs) (q : Q (.int xs.length) H) : rLenU K [.ref a] H Q := ⟨_, _, rfl, .inl ⟨xs, h, rfl⟩, q⟩
theorem w_lenT {a : Addr} {xs : List V} (h : SqT K H a xs) (q : Q (.int xs.length) H) : rLenU K [.ref a] H Q := ⟨_, _, rfl, .inr ⟨xs, h, rfl⟩, q⟩
theorem w_lenS {z : Str} (h : z.length ≤ sizeLine) (q : Q (.int z.length) H) : rLenU K [.str z] H Q := ⟨_, _, rfl, ⟨h, rfl⟩, q⟩
theorem w_lenDL {ds : List PyData} (h : Dp K H v (.list ds)) (q : Q (.int ds.length) H) : rLenU K [v] H Q := by
  cases h with
  | lst h r => exact w_lenL h (by rw [dps_len r]; exact q)
theorem w_lenDT {ds : List PyData} (h : Dp K H v (.tuple ds)) (q : Q (.int ds.length) H) : rLenU K [v] H Q := by
  cases h with
  | tup h r => exact w_lenT h (by rw [dps_len r]; exact q)
abbrev rIxU (K : PySem.W.Frag) : R2 := rIx K
theorem u_ix {X : Cx} : IxR X (rIxU X.K) := ix_seq
theorem w_ixl {a : Addr} {xs : List V} {i : Int} {x : V} (h : SqL K H a xs) (e : atI xs i = some x) (q : Q x H) : rIxU K (.ref a) (.int i) H Q := .inl ⟨a, xs, i, x, rfl, rfl, h, e, q⟩
theorem w_ixt {a : Addr} {xs : List V} {i : Int} {x : V} (h : SqT K H a xs) (e : atI xs i = some x) (q : Q x H) : rIxU K (.ref a) (.int i) H Q := .inr (.inl ⟨a, xs, i, x, rfl, rfl, h, e, q⟩)
theorem w_ixP {a : Addr} {xs : List V} {i : Int} (P : V → Prop) (h : SqL K H a xs) (h0 : 0 ≤ i) (h1 : i < xs.length) (hx : ∀ x ∈ xs, P x) (q : ∀ x, P x → Q x H) : rIxU K (.ref a) (.int i) H Q := by
  have hn : i.toNat < xs.length := by omega
  refine w_ixl h (x := xs[i.toNat]) ?_ (q _ (hx _ (List.getElem_mem hn)))
  unfold atI ixN
  rw [if_pos h0, if_pos (by omega)]
  simp [List.getElem?_eq_getElem hn]
def isI (P : Int → Prop) (x : V) : Prop := ∃ n, x = .int n ∧ P n
theorem w_ixI {a : Addr} {xs : List V} {i : Int} (P : Int → Prop) (h : SqL K H a xs) (h0 : 0 ≤ i) (h1 : i < xs.length) (hx : ∀ x ∈ xs, isI P x) (q : ∀ n, P n → Q (.int n) H) : rIxU K (.ref a) (.int i) H Q :=
  w_ixP (isI P) h h0 h1 hx fun x ⟨n, e, hn⟩ => by
    rw [e]
    exact q n hn
theorem isI_at {P : Int → Prop} {xs : List V} {i : Nat} {x : V} (h : ∀ x ∈ xs, isI P x) (e : xs[i]? = some x) : ∃ n, x = .int n ∧ P n := h x (List.mem_of_getElem? e)
theorem isI_nil {P : Int → Prop} : ∀ x ∈ ([] : List V), isI P x := fun x hx => nomatch hx
theorem isI_cons {P : Int → Prop} {n : Int} {r : List V} (h : P n) (hr : ∀ x ∈ r, isI P x) : ∀ x ∈ V.int n :: r, isI P x := fun x hx => by
  rcases List.mem_cons.mp hx with rfl | hx
  · exact ⟨n, rfl, h⟩
  · exact hr x hx
theorem w_ixs {z : Str} {i : Int} {c : Nat} (h : z.length ≤ sizeLine) (e : atI z.cps.toList i = some c) (q : Q (.str ⟨#[c]⟩) H) : rIxU K (.str z) (.int i) H Q := .inr (.inr ⟨z, i, c, rfl, rfl, h, e, q⟩)
theorem w_ixDL {ds : List PyData} {i : Int} (h : Dp K H v (.list ds)) (e : atI ds i = some d) (q : ∀ x, Dp K H x d → Q x H) : rIxU K v (.int i) H Q := by
  cases h with
  | lst h r =>
    obtain ⟨x, e1, e2⟩ := dps_at r e
    exact w_ixl h e1 (q x e2)
theorem w_ixDT {ds : List PyData} {i : Int} (h : Dp K H v (.tuple ds)) (e : atI ds i = some d) (q : ∀ x, Dp K H x d → Q x H) : rIxU K v (.int i) H Q := by
  cases h with
  | tup h r =>
    obtain ⟨x, e1, e2⟩ := dps_at r e
    exact w_ixt h e1 (q x e2)
theorem dp_int {i : Int} (h : Dp K H v (.int i)) : v = .int i := by cases h; rfl
theorem dp_str {x : Str} (h : Dp K H v (.str x)) : v = .str x := by cases h; rfl
theorem dp_bl {b : Bool} (h : Dp K H v (.bool b)) : v = .bl b := by cases h; rfl
theorem dp_non (h : Dp K H v .none) : v = .non := by cases h; rfl
theorem w_ixDLi {ds : List PyData} {i n : Int} (h : Dp K H v (.list ds)) (e : atI ds i = some (.int n)) (q : Q (.int n) H) : rIxU K v (.int i) H Q := w_ixDL h e fun x hx => by
  rw [dp_int hx]
  exact q
theorem w_ixDTi {ds : List PyData} {i n : Int} (h : Dp K H v (.tuple ds)) (e : atI ds i = some (.int n)) (q : Q (.int n) H) : rIxU K v (.int i) H Q := w_ixDT h e fun x hx => by
  rw [dp_int hx]
  exact q
theorem atI_of {α : Type} {xs : List α} {i : Int} (h0 : 0 ≤ i) (h1 : i < xs.length) : ∃ x, atI xs i = some x ∧ x ∈ xs := by
  have hn : i.toNat < xs.length := by omega
  refine ⟨xs[i.toNat], ?_, List.getElem_mem hn⟩
  unfold atI ixN
  rw [if_pos h0, if_pos (by omega)]
  simp [List.getElem?_eq_getElem hn]
end
def rSetU : TSet := fun o i v H Q => rSetL o i v H Q ∨ rSetD o i v H Q
theorem u_set {X : Cx} (hu : X.A.units + 64 < cLine) : PSet X rSetU := by
  intro pins s σ H o i v ov iv u Q I r1 r2 r3 q
  rcases q with q | q
  · exact set_list pins s σ H o i v ov iv u Q I r1 r2 r3 q
  · exact set_dict (Nat.lt_of_le_of_lt (Nat.add_le_add_left (by decide) _) hu) pins s σ H o i v ov iv u Q I r1 r2 r3 q
theorem w_gsub {to ti : TE} {t : TSet} {v : V} {σ : L2.St} {H : Hp} {k : L2.St → Hp → Prop} (h : to σ H fun o H1 => ti σ H1 fun i H2 => t o i v H2 fun H3 => k σ H3) : gSub to ti t v σ H k := h
theorem w_gnil {σ : L2.St} {H : Hp} {k : L2.St → Hp → Prop} (h : k σ H) : gNil [] σ H k := ⟨rfl, h⟩
theorem w_gcons {t : TG} {u : TGs} {v : V} {r : List V} {σ : L2.St} {H : Hp} {k : L2.St → Hp → Prop} (h : t v σ H fun σ' H' => u r σ' H' k) : gCons t u (v :: r) σ H k := ⟨v, r, rfl, h⟩
theorem w_gtup {K : PySem.W.Frag} {n : Nat} {t : TGs} {a : Addr} {xs : List V} {σ : L2.St} {H : Hp} {k : L2.St → Hp → Prop} (h : SqT K H a xs) (hl : xs.length = n) (q : t xs σ H k) : gTup K n t (.ref a) σ H k := ⟨a, xs, rfl, h, hl, q⟩
theorem w_setl {a : Addr} {xs : List V} {i : Int} {j : Nat} {v : V} {H : Hp} {k : Hp → Prop} (h : H a = some (.lst xs)) (e : ixN xs.length i = some j) (q : k (upd H a (.lst (xs.set j v)))) : rSetU (.ref a) (.int i) v H k := .inl ⟨a, xs, i, j, rfl, rfl, h, e, q⟩
/-! ### comprehensions -/
section
variable {K : PySem.W.Frag} {σ : L2.St} {H : Hp} {Q : VK} {te : TE} {tt : TT} {g : TG} {wi : TI} {vs : List Nat} {n : Nat}
def LcOk (J : It) (g : TG) (tt : TT) (te : TE) (vs : List Nat) (σ : L2.St) (Q : VK) (H1 : Hp) : Prop := ∀ D, H1 D = none → ∃ W : Nat → Nat → Hp → Prop, (∃ m, W 0 m (upd H1 D (.lst []))) ∧ ∀ i m H, W i m H →
  (J.stop i H ∧ Q (.ref D) H) ∨ (J.go i H ∧ ∃ Nx : Hp → Prop, (∀ H', Nx H' → ∃ m', m' < m ∧ W (i + 1) m' H') ∧ ∀ x H', J.yld i H x H' → g x (wipe σ vs) H' fun σ2 H2 => wipe σ2 vs = wipe σ vs ∧ tt σ2 H2 fun b H3 =>
    if b = true then te σ2 H3 fun y H4 => ∃ acc, H4 D = some (.lst acc) ∧ acc.length < sizeLine ∧ Nx (upd H4 D (.lst (acc ++ [y]))) else Nx H3)
theorem w_lc (h : wi σ H fun J H1 => LcOk J g tt te vs σ Q H1) : tLc wi g tt te vs σ H Q := h
theorem w_wp {σ2 : L2.St} {R : Prop} (e : wipe σ2 vs = wipe σ vs) (h : R) : wipe σ2 vs = wipe σ vs ∧ R := ⟨e, h⟩
theorem w_yes {R : Bool → Hp → Prop} (h : R true H) : tYes σ H R := h
/-- a word about a comprehension's list and the heap is not hurt by a list's change -/
def Stb (I : Nat → List V → Hp → Prop) : Prop := ∀ i acc H' D xs ys, H' D = some (.lst xs) → I i acc H' → I i acc (upd H' D (.lst ys))
theorem lc_gen {J : It} (I : Nat → List V → Hp → Prop) (hst : Stb I) (hn : n ≤ 1000000) (hI : ∀ i acc H', I i acc H' → acc.length ≤ i) (h0 : ∀ H', Same H H' → I 0 [] H')
    (hgo : ∀ i acc H', i < n → Same H H' → I i acc H' → J.go i H') (hstop : ∀ acc H', Same H H' → I n acc H' → J.stop n H')
    (hs : ∀ i acc x H' H'', i < n → Same H H' → I i acc H' → J.yld i H' x H'' → ∀ (k : VK) (k' : Hp → Prop), (∀ y H4, Same H' H4 → I (i + 1) (acc ++ [y]) H4 → k y H4) → (∀ H3, Same H' H3 → I (i + 1) acc H3 → k' H3) →
      g x (wipe σ vs) H'' fun σ2 H2 => wipe σ2 vs = wipe σ vs ∧ tt σ2 H2 fun b H3 => if b = true then te σ2 H3 k else k' H3)
    (hd : ∀ D acc H', H D = none → Same H H' → H' D = some (.lst acc) → I n acc H' → Q (.ref D) H') : LcOk J g tt te vs σ Q H := fun D hD => by
  refine ⟨fun i m H' => m = n - i ∧ i ≤ n ∧ ∃ acc, Same H H' ∧ H' D = some (.lst acc) ∧ I i acc H', ⟨n, by omega, by omega, [], same_new hD, upd_same, h0 _ (same_new hD)⟩, fun i m H1 ⟨em, hi, acc, s1, hD1, w1⟩ => ?_⟩
  by_cases hlt : i < n
  · refine .inr ⟨hgo i acc H1 hlt s1 w1, fun H' => i + 1 ≤ n ∧ ∃ acc, Same H H' ∧ H' D = some (.lst acc) ∧ I (i + 1) acc H', fun H' ⟨a, b⟩ => ⟨n - (i + 1), by omega, rfl, a, b⟩, fun x H' y => ?_⟩
    refine hs i acc x H1 H' hlt s1 w1 y _ _ (fun y H4 s4 w4 => ⟨acc, s4 _ _ hD1, ?_, hlt, _, same_mut (s1.trans s4) hD, upd_same, hst _ _ _ _ _ _ (s4 _ _ hD1) w4⟩) fun H3 s3 w3 => ⟨hlt, acc, s1.trans s3, s3 _ _ hD1, w3⟩
    have l1 := hI i acc H1 w1
    exact Nat.lt_of_le_of_lt (m := 1000000) (by omega) (by decide)
  · have e : i = n := by omega
    subst e
    exact .inl ⟨hstop acc H1 s1 w1, hd D acc H1 hD s1 hD1 w1⟩
theorem lcR (I : Nat → List V → Hp → Prop) (hst : Stb I) (hn : n ≤ 1000000) (hI : ∀ i acc H', I i acc H' → acc.length ≤ i) (h0 : ∀ H', Same H H' → I 0 [] H')
    (hs : ∀ (i : Nat) acc H', i < n → Same H H' → I i acc H' → ∀ (k : VK) (k' : Hp → Prop), (∀ y H4, Same H' H4 → I (i + 1) (acc ++ [y]) H4 → k y H4) → (∀ H3, Same H' H3 → I (i + 1) acc H3 → k' H3) →
      g (.int (i : Int)) (wipe σ vs) H' fun σ2 H2 => wipe σ2 vs = wipe σ vs ∧ tt σ2 H2 fun b H3 => if b = true then te σ2 H3 k else k' H3)
    (hd : ∀ D acc H', H D = none → Same H H' → H' D = some (.lst acc) → I n acc H' → Q (.ref D) H') : LcOk (Itr 0 n) g tt te vs σ Q H :=
  lc_gen I hst hn hI h0 (fun _ _ _ h _ _ => h) (fun _ _ _ _ => Nat.le_refl _) (fun i acc x H' H'' hi s1 w1 y => by
    obtain ⟨e1, e2⟩ := y
    rw [Int.zero_add] at e2
    subst e1
    subst e2
    exact hs i acc _ hi s1 w1) hd
theorem lcL {a : Addr} {xs : List V} (hx : SqL K H a xs) (I : Nat → List V → Hp → Prop) (hst : Stb I) (hn : xs.length ≤ 1000000) (hI : ∀ i acc H', I i acc H' → acc.length ≤ i) (h0 : ∀ H', Same H H' → I 0 [] H')
    (hs : ∀ i x acc H', xs[i]? = some x → Same H H' → I i acc H' → ∀ (k : VK) (k' : Hp → Prop), (∀ y H4, Same H' H4 → I (i + 1) (acc ++ [y]) H4 → k y H4) → (∀ H3, Same H' H3 → I (i + 1) acc H3 → k' H3) →
      g x (wipe σ vs) H' fun σ2 H2 => wipe σ2 vs = wipe σ vs ∧ tt σ2 H2 fun b H3 => if b = true then te σ2 H3 k else k' H3)
    (hd : ∀ D acc H', H D = none → Same H H' → H' D = some (.lst acc) → I xs.length acc H' → Q (.ref D) H') : LcOk (Itl K a) g tt te vs σ Q H :=
  lc_gen I hst hn hI h0 (fun i acc H' hi s1 _ => ⟨xs, xs[i], s1.seq hx, List.getElem?_eq_getElem hi⟩) (fun _ _ s1 _ => ⟨xs, s1.seq hx, Nat.le_refl _⟩) (fun i acc x H' H'' hi s1 w1 y => by
    obtain ⟨e1, e2⟩ := y
    subst e1
    exact hs i x acc _ (e2 xs (s1.seq hx)) s1 w1) hd
theorem lcT {a : Addr} {xs : List V} (hx : SqT K H a xs) (I : Nat → List V → Hp → Prop) (hst : Stb I) (hn : xs.length ≤ 1000000) (hI : ∀ i acc H', I i acc H' → acc.length ≤ i) (h0 : ∀ H', Same H H' → I 0 [] H')
    (hs : ∀ i x acc H', xs[i]? = some x → Same H H' → I i acc H' → ∀ (k : VK) (k' : Hp → Prop), (∀ y H4, Same H' H4 → I (i + 1) (acc ++ [y]) H4 → k y H4) → (∀ H3, Same H' H3 → I (i + 1) acc H3 → k' H3) →
      g x (wipe σ vs) H' fun σ2 H2 => wipe σ2 vs = wipe σ vs ∧ tt σ2 H2 fun b H3 => if b = true then te σ2 H3 k else k' H3)
    (hd : ∀ D acc H', H D = none → Same H H' → H' D = some (.lst acc) → I xs.length acc H' → Q (.ref D) H') : LcOk (Itt K a) g tt te vs σ Q H :=
  lc_gen I hst hn hI h0 (fun i acc H' hi s1 _ => ⟨xs, xs[i], same_t s1 hx, List.getElem?_eq_getElem hi⟩) (fun _ _ s1 _ => ⟨xs, same_t s1 hx, Nat.le_refl _⟩) (fun i acc x H' H'' hi s1 w1 y => by
    obtain ⟨e1, e2⟩ := y
    subst e1
    exact hs i x acc _ (e2 xs (same_t s1 hx)) s1 w1) hd
/-- words that do not speak of the heap -/
theorem stb_pure {P : Nat → List V → Prop} : Stb fun i acc _ => P i acc := fun _ _ _ _ _ _ _ h => h
abbrev rTupleOf (K : PySem.W.Frag) : List V → Hp → VK → Prop := fun xs H Q => ∃ p ys, xs = [.ref p] ∧ ((SqL K H p ys ∧ ∀ l, H l = none → Q (.ref l) (upd H l (.tup ys))) ∨ (SqT K H p ys ∧ Q (.ref p) H))
abbrev rListOf (K : PySem.W.Frag) : List V → Hp → VK → Prop := fun xs H Q => ∃ p ys, xs = [.ref p] ∧ (SqL K H p ys ∨ SqT K H p ys) ∧ ∀ l, H l = none → Q (.ref l) (upd H l (.lst ys))
theorem w_tupleL {a : Addr} {xs : List V} (h : SqL K H a xs) (q : ∀ p H', H p = none → Same H H' → H' p = some (.tup xs) → Q (.ref p) H') : rTupleOf K [.ref a] H Q := ⟨a, xs, rfl, .inl ⟨h, fun p hp => q p _ hp (same_new hp) upd_same⟩⟩
theorem w_listL {a : Addr} {xs : List V} (h : SqL K H a xs) (q : ∀ p H', H p = none → Same H H' → H' p = some (.lst xs) → Q (.ref p) H') : rListOf K [.ref a] H Q := ⟨a, xs, rfl, .inl h, fun p hp => q p _ hp (same_new hp) upd_same⟩
theorem w_listT {a : Addr} {xs : List V} (h : SqT K H a xs) (q : ∀ p H', H p = none → Same H H' → H' p = some (.lst xs) → Q (.ref p) H') : rListOf K [.ref a] H Q := ⟨a, xs, rfl, .inr h, fun p hp => q p _ hp (same_new hp) upd_same⟩
theorem w_all {a : Addr} {bs : List Bool} (h : SqL K H a (bs.map V.bl)) (q : Q (.bl (bs.all id)) H) : rAll K [.ref a] H Q := ⟨a, bs, rfl, h, q⟩
theorem w_any {a : Addr} {bs : List Bool} (h : SqL K H a (bs.map V.bl)) (q : Q (.bl (bs.any id)) H) : rAny K [.ref a] H Q := ⟨a, bs, rfl, h, q⟩
/-- ints of a list of values -/
theorem ints_of {P : Int → Prop} : ∀ {xs : List V}, (∀ x ∈ xs, isI P x) → ∃ ns : List Int, xs = ns.map V.int ∧ ∀ n ∈ ns, P n
  | [], _ => ⟨[], rfl, fun _ h => nomatch h⟩
  | x :: r, h => by
    obtain ⟨ns, e, hn⟩ := ints_of (xs := r) fun y hy => h y (List.mem_cons_of_mem _ hy)
    obtain ⟨n, rfl, h1⟩ := h x List.mem_cons_self
    refine ⟨n :: ns, by rw [e]; rfl, fun m hm => ?_⟩
    rcases List.mem_cons.mp hm with rfl | hm
    · exact h1
    · exact hn m hm
theorem isI_app {P : Int → Prop} {xs : List V} {n : Int} (h : ∀ x ∈ xs, isI P x) (hn : P n) : ∀ x ∈ xs ++ [V.int n], isI P x := fun x hx => by
  rcases List.mem_append.mp hx with hx | hx
  · exact h x hx
  · rw [List.mem_singleton.mp hx]
    exact ⟨n, rfl, hn⟩
end
/-! ### the pot -/
def PotU : HO → Prop := fun u => ∃ g s : Int, u = .lst [.int g, .int s] ∧ 0 ≤ g ∧ 0 ≤ s ∧ s < 2305843009213693951
theorem pot_flat : ∀ u, PotU u → flatO u := fun u ⟨_, _, e, _⟩ => by
  rw [e]
  trivial
def PotAt (W : Wd) (H : Hp) (v : V) : Prop := ∃ p, v = .ref p ∧ H p = some (vw W PotU p)
theorem pot_mono {W : Wd} {H H' : Hp} {v : V} (e : Same H H') (h : PotAt W H v) : PotAt W H' v := by
  obtain ⟨p, rfl, h⟩ := h
  exact ⟨p, rfl, e _ _ h⟩
/-! ### const operations -/
def rCon (a b c : Int) : R2 := fun x y H Q => x = .int a ∧ y = .int b ∧ Q (.int c) H
theorem u_powc {X : Cx} {a b c : Int} (hc : CPow a b) (h : a ^ b.toNat = c) : OpR X (binaryOp .Pow) (rCon a b c) := by
  intro pins s σ H x y v u Q I rx ry q
  obtain ⟨rfl, rfl, q⟩ := q
  exact op_pow pins s σ H _ _ v u Q I rx ry ⟨a, b, rfl, rfl, hc, by show Q (V.int (a ^ b.toNat)) H; rw [h]; exact q⟩
theorem u_shlc {X : Cx} {a b c : Int} (hc : CPow a b) (h : a * 2 ^ b.toNat = c) : OpR X (binaryOp .LShift) (rCon a b c) := by
  intro pins s σ H x y v u Q I rx ry q
  obtain ⟨rfl, rfl, q⟩ := q
  exact op_shl pins s σ H _ _ v u Q I rx ry ⟨a, b, rfl, rfl, hc, by show Q (V.int (a * 2 ^ b.toNat)) H; rw [h]; exact q⟩
theorem w_con {H : Hp} {Q : VK} {a b c : Int} (h : Q (.int c) H) : rCon a b c (.int a) (.int b) H Q := ⟨rfl, rfl, h⟩
/-- int('1' + '0' * 300) -/
def farN : Int := 10 ^ 300
theorem far_rep : ∀ (n : Nat) (acc : Array Nat), ((List.replicate n (#[48] : Array Nat)).foldl (· ++ ·) acc).toList = acc.toList ++ List.replicate n 48
  | 0, acc => by simp
  | n + 1, acc => by
    rw [List.replicate_succ, List.foldl_cons, far_rep n, Array.toList_append, List.replicate_succ]
    simp
theorem far_a : (("1" : Str) ++ Txt.mul ("0" : Str) 300).cps.toList = 49 :: List.replicate 300 48 := by
  have e : Txt.mul ("0" : Str) 300 = ⟨(List.replicate 300 (#[48] : Array Nat)).foldl (· ++ ·) #[]⟩ := by
    unfold Txt.mul
    rw [if_neg (by decide), if_neg (by decide +kernel)]
    rfl
  rw [e]
  show (("1" : Str).cps ++ _).toList = _
  rw [Array.toList_append, far_rep]
  rfl
theorem far_val : ∀ (n v : Nat), (List.replicate n 48).foldl (fun acc c => acc * 10 + (c - 48)) v = v * 10 ^ n
  | 0, v => by simp
  | n + 1, v => by
    rw [List.replicate_succ, List.foldl_cons, far_val n, Nat.pow_succ, Nat.mul_comm (10 ^ n) 10, ← Nat.mul_assoc]
    rfl
theorem far_len : (("1" : Str) ++ Txt.mul ("0" : Str) 300).length = 301 := by
  have h : (("1" : Str) ++ Txt.mul ("0" : Str) 300).cps.toList.length = 301 := by
    rw [far_a, List.length_cons, List.length_replicate]
  rw [Array.length_toList] at h
  exact h
theorem far_txt : PySem.intText? (("1" : Str) ++ Txt.mul ("0" : Str) 300) = some farN := by
  have hd : NumText.AllDigits (("1" : Str) ++ Txt.mul ("0" : Str) 300).cps.toList := by
    rw [far_a]
    intro c hc
    rcases List.mem_cons.mp hc with rfl | hc
    · exact ⟨by decide, by decide⟩
    · have e := List.eq_of_mem_replicate hc
      subst e
      exact ⟨by decide, by decide⟩
  rw [PySem.intText_digits hd (by rw [far_a]; simp) (by rw [far_len]; decide), far_a]
  have e : NumText.digitsVal (49 :: List.replicate 300 48) = 1 * 10 ^ 300 := by
    unfold NumText.digitsVal
    rw [List.foldl_cons]
    exact far_val 300 1
  rw [e]
  decide +kernel
theorem far_pos : 0 < farN := by decide +kernel
theorem far_mul : MulOk ("0" : Str) 300 := ⟨by decide +kernel, by decide +kernel, by decide +kernel⟩
theorem far_len2 : (("1" : Str) ++ Txt.mul ("0" : Str) 300).length ≤ 640 := by
  rw [far_len]
  decide
theorem far_sz : ("1" : Str).length + (Txt.mul ("0" : Str) 300).length ≤ sizeLine := by decide +kernel
theorem pe_far {X : Cx} {p p1 p2 p3 p4 pos : Pos} {k1 k2 k3 : Nat} (hg : Gl X "int") (hm : X.mg "int" = none) (hs : starEach [.BinOp (.Constant (.str "1") k1 p1) .Add (.BinOp (.Constant (.str "0") k2 p2) .Mult (.Constant (.int 300) k3 p3) p4) pos] X.env = [(false, eval (.BinOp (.Constant (.str "1") k1 p1) .Add (.BinOp (.Constant (.str "0") k2 p2) .Mult (.Constant (.int 300) k3 p3) p4) pos) X.env)] := by rfl)
    {ps : Pos} : PE X (.Call (.Name "int" p) [.BinOp (.Constant (.str "1") k1 p1) .Add (.BinOp (.Constant (.str "0") k2 p2) .Mult (.Constant (.int 300) k3 p3) p4) pos] [] ps) (tC (.int farN)) := by
  have h : PE X (.Call (.Name "int" p) [.BinOp (.Constant (.str "1") k1 p1) .Add (.BinOp (.Constant (.str "0") k2 p2) .Mult (.Constant (.int 300) k3 p3) p4) pos] [] ps) (tCB _ _) := pe_callTy call_int_str hg hm (by decide +kernel) (pa_cons (pe_op op_add_str pe_str (pe_op op_mulS pe_str pe_int)) pa_nil)
  refine ⟨fun pins s σ H Q I q => h.run pins s σ H Q I ?_⟩
  exact ⟨_, _, rfl, rfl, far_mul, _, _, rfl, rfl, far_sz, _, _, rfl, far_txt, far_len2, q⟩
end Sh
/-! enumerate over a tuple; over a list or a tuple -/
namespace ShE
open PySem Sem
open AutoSeq1 (wpAny_loadPart')
theorem enumT_new {v : Value} {ob : Obj} {Hb : Heap → Prop} (B : Begins v ob Hb) : Meets (Builtin.«enumerate.__new__» ⟨[.type "enumerate", v], []⟩) (fun _ R s => Hb s.heap ∧
    R (.ok (.ret (.ref (s.heap.push ob).objs.size))) { s with heap := (s.heap.push ob).push ⟨.type "enumerate", none, .fields #[.none, .bool false, .ref s.heap.objs.size, rawInt 0, .none, .none], #[]⟩ }) :=
  .of_wp fun prog w A R s z => by
    obtain ⟨hp, g, dr, tk, os⟩ := s
    have sub := sub_enumerate
    have it : ∀ {A2 : Around} {E2 : Value → Shared → Prop} {Q2 : Value → Shared → Prop}, Q2 (.ref hp.objs.size) ⟨hp.push ob, g, dr, tk, os⟩ → wpAny (model prog w) A2 (pyIter v) Q2 E2 ⟨hp, g, dr, tk, os⟩ := fun q => B.iter _ _ _ _ _ _ z.1 q
    wp_walk using it
    refine wpAny_stack_any fun _ => wpAny_pure ?_
    split
    · next c _ _ _ _ _ =>
      cases (c == Value.type "enumerate") <;> (wp_walk using it; exact ⟨_, rfl, z.2⟩)
    · wp_walk using it; exact ⟨_, rfl, z.2⟩
theorem enumT_call {prog : Program} {w : World} {A : Around} {E : Value → Shared → Prop} {s : Shared} {v : Value} {ob : Obj} {Hb : Heap → Prop} {Q : Value → Shared → Prop} (B : Begins v ob Hb) (hb : Hb s.heap)
    (q : ∀ h2, IsEnum h2 (s.heap.objs.size + 1) s.heap.objs.size 0 .none → h2.get? s.heap.objs.size = some ob → (∀ b o, s.heap.get? b = some o → h2.get? b = some o) → Q (.ref (s.heap.objs.size + 1)) { s with heap := h2 }) :
    wpAny (model prog w) A (call (.type "enumerate") [v]) Q E s := by
  have z : (s.heap.push ob).objs.size = s.heap.objs.size + 1 := Heap.size_push ..
  have old : ∀ (o2 : Obj) b o, s.heap.get? b = some o → ((s.heap.push ob).push o2).get? b = some o := fun _ _ _ e => Heap.get?_push_of_some _ (Heap.get?_push_of_some _ e)
  have new : IsEnum ((s.heap.push ob).push ⟨.type "enumerate", none, .fields #[.none, .bool false, .ref s.heap.objs.size, rawInt 0, .none, .none], #[]⟩) (s.heap.objs.size + 1) s.heap.objs.size 0 .none := by
    rw [← z]
    exact Heap.get?_push_size _ rfl
  refine callType_new F.called_enumerate (by decide) (F.typeCall_enumerate_1 _) (F.newCall_enumerate_1 _) (fun o => F.args_object_init_2 o _) F.entry_enumerate_new (enumT_new B) ⟨hb, ?_⟩
  show _ ∧ _
  rw [z]
  exact ⟨⟨_, new, rfl⟩, q _ new (Heap.get?_push_of_some _ (Heap.get?_push_size _ B.free)) (old _)⟩
end ShE
namespace Sh
open PySem PySem.Spec PyProof.Rows L2
/-- the tuple at a, its items with their places -/
def IteT (K : PySem.W.Frag) (a : Addr) : It where
  go i H := ∃ xs x, SqT K H a xs ∧ xs[i]? = some x
  yld i H v H' := ∃ T x, v = .ref T ∧ H T = none ∧ H' = upd H T (.tup [.int (i : Nat), x]) ∧ ∀ xs, SqT K H a xs → xs[i]? = some x
  stop i H := ∃ xs, SqT K H a xs ∧ xs.length ≤ i
theorem turn_enumT {P : Program} {w : World} {K : PySem.W.Frag} {es : List Expr} {kk : Nat} {tp : Pos} (a e it : Addr) :
    Turn P w K (.Tuple es kk tp) (IteT K a) [e, it] e (fun i h => (∃ old, IsEnum h e it (i : Int) old) ∧ h.IsTupleIter it a i ∧ e ≠ it) where
  mem := List.mem_cons_self
  obj i h st b hb := by
    obtain ⟨⟨old, he⟩, ⟨o, ho, _, hd⟩, _⟩ := st
    rcases List.mem_cons.mp hb with rfl | hb
    · exact ⟨_, he, fun v q => nomatch q⟩
    · rw [List.mem_singleton.mp hb]
      exact ⟨o, ho, fun v q => by rw [hd] at q; cases q⟩
  keep i h h' st k := by
    obtain ⟨⟨old, he⟩, hi, hne⟩ := st
    exact ⟨⟨old, k e List.mem_cons_self _ he⟩, hi.at fun o q => k it (List.mem_cons_of_mem _ List.mem_cons_self) o q, hne⟩
  item X hP hw hK hc i pins s σ H E I hf st hg := by
    subst hP hw hK
    obtain ⟨⟨old, he⟩, hit, hne⟩ := st
    obtain ⟨xs, x, hq, hx⟩ := hg
    obtain ⟨its, rv, p, _⟩ := I.tuple hq
    obtain ⟨u, hu, ru⟩ := rv.get hx
    have pt : s.heap.IsTuple a its.toArray := p
    have ane : a ≠ it := fun z => by
      obtain ⟨o1, h1, c1, _⟩ := p
      obtain ⟨o2, h2, c2, _⟩ := hit
      rw [z, h2] at h1
      cases h1
      rw [c2] at c1
      injection c1 with c1
      exact absurd c1 (by decide)
    have ene : e ≠ a := fun z => by
      obtain ⟨o1, h1, c1, _⟩ := p
      rw [← z, he] at h1
      cases h1
      injection c1 with c1
      exact absurd c1 (by decide)
    have hil : it < s.heap.objs.size := by obtain ⟨_, q, _⟩ := hit; exact Heap.lt_size q
    have hel : e < s.heap.objs.size := Heap.lt_size he
    have lt : i < its.toArray.size := by
      have l1 := (List.getElem?_eq_some_iff.mp hu).1
      simpa using l1
    refine wpAny_pyNext_enum_itemD (Draws.tuple (show X.A.in1.handled = none from I.ok.hd hc) it a ane its.toArray) he ⟨hit, pt⟩ lt hne (fun z => ?_) fun x1 h1 tk px ho st1 hT hsz hk => ?_
    · rcases List.mem_cons.mp z with z | z
      · exact hne z
      · exact ene (List.mem_singleton.mp z)
    have ex : x1 = u := by
      have px2 : its.toArray[i]? = some x1 := px
      rw [List.getElem?_toArray, hu] at px2
      exact (Option.some.inj px2).symm
    subst ex
    refine ⟨_, rfl, wpAny_letOwnedTupleGo_enum (s := { s with heap := h1, toks := tk + 1 }) ho fun h2 he2 sb => ?_⟩
    have hT2 : h2.get? s.heap.objs.size = some { cls := .type "tuple", data := .seq #[.int i tk, x1] } := (sb.2 _ (Nat.ne_of_gt hel)).trans hT
    have new : ObjOk X.prog X.w (upd H s.heap.objs.size (.tup [.int (i : Nat), x])) h2 s.heap.objs.size (.tup [.int (i : Nat), x]) :=
      ⟨(by decide : 2 ≤ sizeLine), _, .cons ⟨tk, rfl⟩ (.cons ru .nil), ⟨_, hT2, rfl, _, rfl⟩⟩
    have ne2 : ∀ b, b ∉ [e, it] → b ≠ e ∧ b ≠ it := fun b z => ⟨fun q => z (by rw [q]; exact List.mem_cons_self), fun q => z (by rw [q]; exact List.mem_cons_of_mem _ List.mem_cons_self)⟩
    have J : Inv X pins σ (upd H s.heap.objs.size (.tup [.int (i : Nat), x])) { s with heap := h2, toks := tk + 1 } :=
      I.turnedNew (ch := [e, it]) (fun b ob z q => (sb.2 b (ne2 b z).1).trans (hk b ob (ne2 b z).1 (ne2 b z).2 q)) hf (Nat.le_refl _) new
    refine ⟨.ref s.heap.objs.size, _, J, rfl, ⟨s.heap.objs.size, x, rfl, I.hok.fresh (Nat.le_refl _), rfl, fun ys hy => by rw [I.tuple_inj hy hq]; exact hx⟩, ⟨⟨x1, ?_⟩, st1.1.at fun o q => (sb.2 it (Ne.symm hne)).trans q, hne⟩, fun b hb => ?_⟩
    · have e1 : ((i + 1 : Nat) : Int) = (i : Int) + 1 := Int.natCast_succ i
      rw [e1]
      exact he2
    · have lb : b < s.heap.objs.size := by
        rcases List.mem_cons.mp hb with rfl | hb
        · exact hel
        · rw [List.mem_singleton.mp hb]
          exact hil
      rw [upd_ne (Nat.ne_of_lt lb)]
      exact (hf b hb).1
  done X hP hw hK hc i pins s σ H E I hf st hg := by
    subst hP hw hK
    obtain ⟨⟨old, he⟩, hit, hne⟩ := st
    obtain ⟨xs, hq, hx⟩ := hg
    obtain ⟨its, rv, p, _⟩ := I.tuple hq
    have pt : s.heap.IsTuple a its.toArray := p
    have ane : a ≠ it := fun z => by
      obtain ⟨o1, h1, c1, _⟩ := p
      obtain ⟨o2, h2, c2, _⟩ := hit
      rw [z, h2] at h1
      cases h1
      rw [c2] at c1
      injection c1 with c1
      exact absurd c1 (by decide)
    obtain ⟨f0, f1, f2, f3, f4, f5⟩ := hf it (List.mem_cons_of_mem _ List.mem_cons_self)
    have hl := rv.length
    have hT : s.TypeIs (.ref e) "enumerate" := ⟨_, he, rfl⟩
    unfold pyNext
    refine wpAny_bind (wpAny_attempt (wpAny_callSpecial?_slot (name := Str.ofString "__next__") hT F.slot_enumerate_next
      (wpAny_call_entry F.slot_enumerate_next hT F.entry_enumerate_next ?_ (F.args_enumerate_next_1 _))))
    show wpAny _ _ (field (.ref e) 2 >>= _) _ _ _
    refine wpAny_bind (wpAny_field he rfl (x := .ref it) rfl ?_)
    refine wpAny_bind (wpAny_nextOf_tuple_end (I.ok.hd hc) hit pt (by simp; omega) fun h1 er k1 z1 => ?_)
    obtain ⟨oe, z2, z3⟩ := z1
    refine wpAny_bind (wpAny_isInstance (T := "StopIteration") (b := true) ⟨oe, z2, z3⟩ isSubtype_stop (wpAny_pure ?_))
    exact ⟨rfl, I.turned (t' := s.toks) (fun b o hb q => k1 b o hb q) f0 f1 f3 f4 f5⟩
  self A i s Q E st q := by
    obtain ⟨⟨_, he⟩, _⟩ := st
    exact wpAny_pyIter_enum he q
/-- enumerate of a list or a tuple -/
def GoEnum (K : PySem.W.Frag) (R : It → Hp → Prop) (vs : List V) (H : Hp) : Prop := ∃ a, vs = [.ref a] ∧ ((∃ xs, SqL K H a xs) ∧ R (Ite K a) H ∨ (∃ xs, SqT K H a xs) ∧ R (IteT K a) H)
def iEnumU (K : PySem.W.Frag) (ta : TA) : TI := fun σ H R => ta σ H fun vs H1 => GoEnum K R vs H1
theorem pi_enumU {X : Cx} {e : Expr} {ta : TA} {p pos tpos : Pos} {elts : List Expr} {kk : Nat} (hg : Gl X "enumerate") (hm : X.mg "enumerate" = none) (ha : PA X [e] ta) (hs : starEach [e] X.env = [(false, eval e X.env)] := by rfl) :
    PI X (.Tuple elts kk tpos) (.Call (.Name "enumerate" p) [e] [] pos) (iEnumU X.K ta) := ⟨fun pins s σ H R I h =>
  Call_ (ld_blt I hg hm boot_enumerate (PyProof.Rows.callWith_type1 (thn (ha.run pos pins s σ H _ I h) fun us s1 z => by
    obtain ⟨vs, H1, J, rv, a, rfl, z⟩ := z
    cases rv with
    | cons r rr =>
      cases rr
      obtain rfl := r
      have fp : ∀ b ∈ [s1.heap.objs.size + 1, s1.heap.objs.size], FpOk X pins H1 b := fun b hb => by
        have hle : s1.heap.objs.size ≤ b := by
          rcases List.mem_cons.mp hb with rfl | hb
          · exact Nat.le_succ _
          · rw [List.mem_singleton.mp hb]
            exact Nat.le_refl _
        exact J.fpOk hle (J.hok.fresh hle)
      rcases z with ⟨⟨xs, hq⟩, q⟩ | ⟨⟨xs, hq⟩, q⟩
      · obtain ⟨its, _, pl, _⟩ := J.list hq
        refine call_enumerate_list pl.isList fun h2 he hit _ hk => wpAny_pyIter_enum he ?_
        exact ⟨_, _, _, _, H1, rfl, J.kept (t' := s1.toks) hk, turn_enum a (s1.heap.objs.size + 1) s1.heap.objs.size, ⟨⟨_, he⟩, hit, Nat.succ_ne_self _⟩, fp, q⟩
      · obtain ⟨its, _, pl, _⟩ := J.tuple hq
        have pt : s1.heap.IsTuple a its.toArray := pl
        refine ShE.enumT_call (begins_tuple a its.toArray) pt fun h2 he hit hk => wpAny_pyIter_enum he ?_
        exact ⟨_, _, _, _, H1, rfl, J.kept (t' := s1.toks) hk, turn_enumT a (s1.heap.objs.size + 1) s1.heap.objs.size, ⟨⟨_, he⟩, ⟨_, hit, rfl, rfl⟩, Nat.succ_ne_self _⟩, fp, q⟩) hs rfl))⟩
section
variable {K : PySem.W.Frag} {σ : L2.St} {H : Hp} {Q : VK} {te : TE} {tt : TT} {tA : TA} {tb : TS} {nx : L2.St → Hp → Prop} {rt : VK} {g : TG} {vs : List Nat}
theorem w_ienum {R : It → Hp → Prop} (h : tA σ H fun vs H1 => GoEnum K R vs H1) : iEnumU K tA σ H R := h
theorem w_goEL {R : It → Hp → Prop} {a : Addr} {xs : List V} (h : SqL K H a xs) (q : R (Ite K a) H) : GoEnum K R [.ref a] H := ⟨a, rfl, .inl ⟨⟨xs, h⟩, q⟩⟩
theorem w_goET {R : It → Hp → Prop} {a : Addr} {xs : List V} (h : SqT K H a xs) (q : R (IteT K a) H) : GoEnum K R [.ref a] H := ⟨a, rfl, .inr ⟨⟨xs, h⟩, q⟩⟩
/-- for place, item in enumerate(..): the target is two names -/
theorem forET {a : Addr} {xs : List V} {i1 i2 : Nat} (hx : SqT K H a xs) (I : Nat → L2.St → Hp → Prop) (h0 : I 0 σ H) (hI : ∀ i σ' H', I i σ' H' → Same H H')
    (hs : ∀ (i : Nat) x σ' H', xs[i]? = some x → I i σ' H' → ∀ H2, Same H' H2 → tb ⟨I (i + 1), rt, nx, I (i + 1)⟩ ((σ'.set i1 (some (.int (i : Int)))).set i2 (some x)) H2) (hd : ∀ σ' H', I xs.length σ' H' → nx σ' H') :
    ForOk (IteT K a) (gTup K 2 (gCons (gName i1) (gCons (gName i2) gNil))) tb nx rt σ H := by
  refine ⟨fun i m σ' H' => m = xs.length - i ∧ i ≤ xs.length ∧ I i σ' H', ⟨_, rfl, Nat.zero_le _, h0⟩, fun i m σ' H1 ⟨em, hi, w1⟩ => ?_⟩
  have s1 := hI _ _ _ w1
  by_cases hlt : i < xs.length
  · refine .inr ⟨⟨xs, xs[i], same_t s1 hx, List.getElem?_eq_getElem hlt⟩, I (i + 1), fun σ2 H2 w2 => ⟨_, by omega, rfl, hlt, w2⟩, fun v H2 y => ?_⟩
    obtain ⟨T, x, rfl, hT, rfl, hy⟩ := y
    have ex := hy xs (same_t s1 hx)
    exact ⟨T, _, rfl, SqT.of upd_same, rfl, _, _, rfl, _, _, rfl, rfl, hs i x σ' H1 ex w1 _ (same_new hT)⟩
  · have e : i = xs.length := by omega
    subst e
    exact .inl ⟨⟨xs, same_t s1 hx, Nat.le_refl _⟩, hd σ' H1 w1⟩
theorem forEL {a : Addr} {xs : List V} {i1 i2 : Nat} (hx : SqL K H a xs) (I : Nat → L2.St → Hp → Prop) (h0 : I 0 σ H) (hI : ∀ i σ' H', I i σ' H' → Same H H')
    (hs : ∀ (i : Nat) x σ' H', xs[i]? = some x → I i σ' H' → ∀ H2, Same H' H2 → tb ⟨I (i + 1), rt, nx, I (i + 1)⟩ ((σ'.set i1 (some (.int (i : Int)))).set i2 (some x)) H2) (hd : ∀ σ' H', I xs.length σ' H' → nx σ' H') :
    ForOk (Ite K a) (gTup K 2 (gCons (gName i1) (gCons (gName i2) gNil))) tb nx rt σ H := by
  refine ⟨fun i m σ' H' => m = xs.length - i ∧ i ≤ xs.length ∧ I i σ' H', ⟨_, rfl, Nat.zero_le _, h0⟩, fun i m σ' H1 ⟨em, hi, w1⟩ => ?_⟩
  have s1 := hI _ _ _ w1
  by_cases hlt : i < xs.length
  · refine .inr ⟨⟨xs, xs[i], s1.seq hx, List.getElem?_eq_getElem hlt⟩, I (i + 1), fun σ2 H2 w2 => ⟨_, by omega, rfl, hlt, w2⟩, fun v H2 y => ?_⟩
    obtain ⟨T, x, rfl, hT, rfl, hy⟩ := y
    have ex := hy xs (s1.seq hx)
    exact ⟨T, _, rfl, SqT.of upd_same, rfl, _, _, rfl, _, _, rfl, rfl, hs i x σ' H1 ex w1 _ (same_new hT)⟩
  · have e : i = xs.length := by omega
    subst e
    exact .inl ⟨⟨xs, s1.seq hx, Nat.le_refl _⟩, hd σ' H1 w1⟩
end
end Sh
/-! data whose tuples have no dict (so that their methods may be called); new tuples are such -/
namespace Sh
open PySem PySem.Spec PyProof.Rows L2
def TupN (H : Hp) (a : Addr) (xs : List V) : Prop := ∃ o : Obj, o.dict = none ∧ H a = some (.frz o (.tup xs))
def SqN (K : PySem.W.Frag) (H : Hp) (a : Addr) (xs : List V) : Prop :=
  TupN H a xs ∨ ∃ (o : Obj) (its : Array Value) (n : Nat), K.lookup a = some o ∧ o.dict = none ∧ o.cls = .type "tuple" ∧ o.data = .seq its n ∧ its.size ≤ sizeLine ∧ Vals xs its.toList
section
variable {K : PySem.W.Frag} {H H' : Hp} {a : Addr} {xs : List V}
theorem SqN.t (h : SqN K H a xs) : SqT K H a xs := by
  rcases h with ⟨o, _, h⟩ | ⟨o, its, n, h1, _, h2, h3, h4, h5⟩
  · exact .inl (.inr ⟨o, h⟩)
  · exact .inr ⟨o, its, n, h1, h2, h3, h4, h5⟩
theorem SqN.of (h : TupN H a xs) : SqN K H a xs := .inl h
theorem TupN.mono (e : Same H H') (h : TupN H a xs) : TupN H' a xs := by
  obtain ⟨o, d, h⟩ := h
  exact ⟨o, d, e _ _ h⟩
theorem same_n (e : Same H H') (h : SqN K H a xs) : SqN K H' a xs := by
  rcases h with h | h
  · exact .inl (h.mono e)
  · exact .inr h
end
/-! ### new ones -/
def NewN (xs : List V) (Q : VK) (H : Hp) : Prop := xs.length ≤ sizeLine ∧ ∀ (p : Addr) (o : Obj), H p = none → o.dict = none → Q (.ref p) (upd H p (.frz o (.tup xs)))
def tTupN (t : TA) : TE := fun σ H Q => t σ H fun xs H1 => NewN xs Q H1
section
variable {X : Cx} {es : List Expr} {t : TA} {pos : Pos}
theorem pe_tupN {x1} (h : PA X es t) : PE X (.Tuple es x1 pos) (tTupN t) := by
  refine ⟨fun pins s σ H Q I hq => ?_⟩
  refine wpAny_Tuple_spliced (thn (h.run pos pins s σ H _ I hq) fun us s1 z0 => ?_)
  obtain ⟨xs, H1, I1, r, z, q⟩ := z0
  refine ⟨by rw [← r.length]; exact z, ?_⟩
  have hf : H1 s1.heap.objs.size = none := I1.hok.fresh (Nat.le_refl _)
  have hg := Heap.get?_push_size s1.heap (o := { cls := .type "tuple", data := .seq us.toArray }) rfl
  exact ⟨.ref s1.heap.objs.size, _, I1.laid (o := .frz { cls := .type "tuple", data := .seq us.toArray } (.tup xs)) (t' := s1.toks) (fun b u e => Heap.get?_push_of_some _ e) (Nat.le_refl _) ⟨hg, z, us, r, ⟨_, hg, rfl, _, rfl⟩⟩, rfl, q _ _ hf rfl⟩
def rTupleOfN (K : PySem.W.Frag) : List V → Hp → VK → Prop := fun xs H Q => ∃ p ys, xs = [.ref p] ∧ ((SqL K H p ys ∧ ∀ (l : Addr) (o : Obj), H l = none → o.dict = none → Q (.ref l) (upd H l (.frz o (.tup ys)))) ∨ (SqT K H p ys ∧ Q (.ref p) H))
theorem call_tuple_ofN : CallR X (.type "tuple") (rTupleOfN X.K) := by
  intro pins s σ H xs us Q I r h
  obtain ⟨p, ys, rfl, h⟩ := h
  obtain ⟨u, rfl, rx⟩ := vals1 r
  cases rx
  rcases h with ⟨hq, q⟩ | ⟨hq, q⟩
  · obtain ⟨its, rv, pl, hz⟩ := I.list hq
    have hlen := rv.length
    refine call_tuple_list pl.isList (fun h' kp => ?_) (by simp only [List.size_toArray] <;> omega)
    have I1 : Inv X pins σ H { s with heap := h' } := I.kept (t' := s.toks) kp
    have hg := Heap.get?_push_size h' (o := { cls := .type "tuple", data := .seq its.toArray }) rfl
    exact ⟨.ref h'.objs.size, _, I1.laid (o := .frz { cls := .type "tuple", data := .seq its.toArray } (.tup ys)) (t' := s.toks) (fun b o e => Heap.get?_push_of_some _ e) (Nat.le_refl _) ⟨hg, hz, its, rv, IsTup.new _ _⟩, rfl, q _ _ (I1.hok.fresh (Nat.le_refl _)) rfl⟩
  · obtain ⟨its, rv, pl, hz⟩ := I.tuple hq
    exact call_tuple_same pl ⟨.ref p, H, I, rfl, q⟩
/-- t + u -/
def rCatN (K : PySem.W.Frag) : R2 := fun x y H Q => ∃ a b xs ys, x = .ref a ∧ y = .ref b ∧ SqT K H a xs ∧ SqT K H b ys ∧ xs.length + ys.length ≤ sizeLine ∧
  (xs = [] → Q (.ref b) H) ∧ (xs ≠ [] → ys = [] → Q (.ref a) H) ∧ (xs ≠ [] → ys ≠ [] → ∀ (p : Addr) (o : Obj), H p = none → o.dict = none → Q (.ref p) (upd H p (.frz o (.tup (xs ++ ys)))))
theorem op_catN : OpR X (binaryOp .Add) (rCatN X.K) := by
  intro pins s σ H x y v u Q I rx ry h
  obtain ⟨a, b, xs, ys, rfl, rfl, ha, hb, hz, q0, q1, q2⟩ := h
  cases rx
  cases ry
  obtain ⟨its, r1, p1, _⟩ := I.tuple ha
  obtain ⟨its2, r2, p2, _⟩ := I.tuple hb
  by_cases hx : xs = []
  · subst hx
    cases r1
    exact cat_tup0 p1 p2 ⟨.ref b, H, I, rfl, q0 rfl⟩
  · refine HT.cat_tup p1 p2 (fun z => hx (r1.nil_iff.mp z)) (fun z => ⟨.ref a, H, I, rfl, q1 hx (r2.nil_iff.mp z)⟩) (fun z => ?_) (by rw [← r1.length, ← r2.length]; exact hz)
    have hg := Heap.get?_push_size s.heap (o := { cls := .type "tuple", data := .seq (its ++ its2).toArray }) rfl
    exact ⟨.ref s.heap.objs.size, _, I.laid (t' := s.toks) (o := .frz { cls := .type "tuple", data := .seq (its ++ its2).toArray } (.tup (xs ++ ys))) (fun b ob q => Heap.get?_push_of_some _ q) (Nat.le_refl _) ⟨hg, by rw [List.length_append]; exact hz, _, r1.append r2, IsTup.new _ _⟩, rfl,
      q2 hx (fun w => z (r2.nil_iff.mpr w)) _ _ (I.hok.fresh (Nat.le_refl _)) rfl⟩
/-- t[lo:hi] -/
def rSlN (K : PySem.W.Frag) : V → Option Int → Option Int → Hp → VK → Prop := fun x lo hi H Q => ∃ a xs, x = .ref a ∧ SqT K H a xs ∧
  (HT.sIx xs.length 0 lo = 0 ∧ HT.sIx xs.length xs.length hi = xs.length → Q (.ref a) H) ∧
  (¬ (HT.sIx xs.length 0 lo = 0 ∧ HT.sIx xs.length xs.length hi = xs.length) → ∀ (p : Addr) (o : Obj), H p = none → o.dict = none → Q (.ref p) (upd H p (.frz o (.tup (cutV xs lo hi)))))
theorem sl_tupN : SlR X (rSlN X.K) := by
  intro pins s σ H x v vl vu lo hi sl Q I rx hs pl pu h
  obtain ⟨a, xs, rfl, hx, q1, q2⟩ := h
  cases rx
  obtain ⟨its, r, ht, hz⟩ := I.tuple hx
  have hlen : its.toArray.size = xs.length := by rw [List.size_toArray]; exact r.length.symm
  refine ⟨"tuple", _, PyProof.Rows.slot_tuple_getitem.lookup, ht.typeIs, ?_⟩
  by_cases hw : HT.sIx xs.length 0 lo = 0 ∧ HT.sIx xs.length xs.length hi = xs.length
  · exact getItem_tuple_whole ht hs pl pu (by rw [hlen]; exact hw) ⟨.ref a, H, I, rfl, q1 hw⟩
  · refine HT.getItem_tuple_cut ht hs pl pu (by rw [hlen]; exact hw) ?_ (by rw [hlen]; exact hz)
    rw [hlen]
    have hg := Heap.get?_push_size s.heap (o := { cls := .type "tuple", data := .seq ((its.drop (HT.sIx xs.length 0 lo)).take (HT.sIx xs.length xs.length hi - HT.sIx xs.length 0 lo)).toArray }) rfl
    exact ⟨.ref s.heap.objs.size, _, I.laid (t' := s.toks) (o := .frz { cls := .type "tuple", data := .seq ((its.drop (HT.sIx xs.length 0 lo)).take (HT.sIx xs.length xs.length hi - HT.sIx xs.length 0 lo)).toArray } (.tup (cutV xs lo hi))) (fun b ob q => Heap.get?_push_of_some _ q) (Nat.le_refl _)
      ⟨hg, Nat.le_trans (cutV_length xs lo hi) hz, _, (r.drop (HT.sIx xs.length 0 lo)).take (HT.sIx xs.length xs.length hi - HT.sIx xs.length 0 lo), IsTup.new _ _⟩, rfl, q2 hw _ _ (I.hok.fresh (Nat.le_refl _)) rfl⟩
/-! ### methods of tuples -/
def TyN (K : PySem.W.Frag) (x : V) (H : Hp) : Prop := ∃ a xs, x = .ref a ∧ SqN K H a xs
theorem tyN_is {pins : List (Addr × Obj)} {σ : L2.St} {H : Hp} {s : Shared} {x : V} {v : Value} (I : Inv X pins σ H s) (r : RelV x v) (ty : TyN X.K x H) : s.TypeIs v "tuple" ∧ ∀ a, v = .ref a → ∃ ob, s.heap.get? a = some ob ∧ ob.dict = none := by
  obtain ⟨a, xs, rfl, h⟩ := ty
  cases r
  obtain ⟨its, rv, pl, _⟩ := I.tuple h.t
  refine ⟨pl.typeIs, fun b e => ?_⟩
  cases e
  rcases h with ⟨o, d, h⟩ | ⟨o, _, _, h, d, _⟩
  · obtain ⟨g, _⟩ := (show ObjOk X.prog X.w H s.heap a (.frz o (.tup xs)) from I.hok a _ h)
    exact ⟨o, g, d⟩
  · exact ⟨o, I.kIn _ _ h, d⟩
def tTM (K : PySem.W.Frag) (r : V → List V → Hp → VK → Prop) (to : TE) (t : TA) : TE := fun σ H Q => to σ H fun x H1 => TyN K x H1 ∧ t σ H1 fun xs H2 => r x xs H2 Q
theorem pe_tm {o e : Expr} {es : List Expr} {to : TE} {t : TA} {name : Str} {apos cpos : Pos} {id : String} {r : V → List V → Hp → VK → Prop} (slot : Slot "tuple" name id) (hty : typeOf (.builtin id) = pure (.type "method_descriptor")) (hm : MtR X id r) (ho : PE X o to) (ha : PA X (e :: es) t)
    (hbase : attributeBase o name X.env (eval o X.env) = eval o X.env := by rfl)
    (hfew : ((backTo cpos (starEach (e :: es) X.env)).all (fun x => !x.1) && (backToKw cpos (keywordEach [] X.env)).all (fun x => x.1.isSome)
      && decide ((e :: es).length + ([] : List Keyword).length + (if ([] : List Keyword).isEmpty then 0 else 1) < 30)) = true := by rfl)
    (hline : (apos.endLine == cpos.line) = true := by rfl) (hs : starEach (e :: es) X.env = (false, eval e X.env) :: starEach es X.env := by rfl) (hplain : (backTo cpos (starEach es X.env)).any (·.1) = false := by rfl) :
    PE X (.Call (.Attribute o name apos) (e :: es) [] cpos) (tTM X.K r to t) := by
  refine ⟨fun pins s σ H Q I h => ?_⟩
  refine wpAny_Call_method_late hbase hfew hline rfl (thn (ho.run pins s σ H _ I h) fun v s1 z => ?_)
  obtain ⟨x, H1, I1, r1, ty, q1⟩ := z
  obtain ⟨h1, h2⟩ := tyN_is I1 r1 ty
  refine ⟨"tuple", id, PySem.F.plainAttrs_tuple, slot, hty, h1, h2, ?_⟩
  have hA := ha.run cpos pins s1 σ H1 _ I1 q1
  rw [hs] at hA ⊢
  refine Calls.callWith_builtin (by show (false || (backTo cpos (starEach es X.env)).any (·.1)) = false; rw [hplain] <;> rfl) (Calls.evalArgs_plain ?_)
  refine thn hA fun us s2 z2 => ?_
  obtain ⟨vs, H2, I2, r2, q2⟩ := z2
  exact hm pins s2 σ H2 x vs v us Q I2 r1 r2 q2
/-- t.index(n) of ints, n among them -/
def rIndexT (K : PySem.W.Frag) : V → List V → Hp → VK → Prop := fun x xs H Q => ∃ (a : Addr) (ns : List Int) (n : Int), x = .ref a ∧ xs = [.int n] ∧ SqT K H a (ns.map V.int) ∧ n ∈ ns ∧ Q (.int (ns.idxOf n : Nat)) H
theorem mt_indexT : MtR X "tuple.index" (rIndexT X.K) := by
  intro pins s σ H x xs v us Q I rx rs h
  obtain ⟨a, ns, n, rfl, rfl, hq, hn, q⟩ := h
  cases rx
  obtain ⟨u, rfl, t, rfl⟩ := vals1 rs
  obtain ⟨its, r, pl, hz⟩ := I.tuple hq
  exact PySem.SeqAt.tuple_index_ints pl (intsAre_of r) hn ⟨.int (ns.idxOf n : Nat), H, I.tok _, ⟨_, rfl⟩, q⟩
end
/-! ### among -/
def rInU (K : PySem.W.Frag) : R2 := fun x y H Q => rIn K false x y H Q ∨ rInS x y H Q
theorem u_in {X : Cx} (_ : X.A.units + 64 < cLine) : OpR X (compareOp .In) (rInU X.K) := opor op_in_seq op_inS
def rNotInU (K : PySem.W.Frag) : R2 := rIn K true
theorem u_notin {X : Cx} (_ : X.A.units + 64 < cLine) : OpR X (compareOp .NotIn) (rNotInU X.K) := op_notIn_seq
theorem inV_ints (n : Int) : ∀ ns : List Int, inV (.int n) (ns.map V.int) = decide (n ∈ ns)
  | [] => rfl
  | m :: r => by
    have z := inV_ints n r
    unfold inV at z ⊢
    rw [List.map_cons, List.any_cons, z]
    show (m == n || decide (n ∈ r)) = decide (n ∈ m :: r)
    by_cases h : m = n
    · subst h
      simp
    · have h2 : ¬ n = m := fun e => h e.symm
      simp [h, h2]
theorem flat_ints (ns : List Int) : (ns.map V.int).all flatV = true := by
  rw [List.all_map]
  exact List.all_eq_true.mpr fun _ _ => rfl
section
variable {K : PySem.W.Frag} {H : Hp} {Q : VK} {σ : L2.St} {a : Addr} {ns : List Int} {n : Int} {xs : List V}
theorem w_inT (h : SqT K H a (ns.map V.int)) (q : Q (.bl (decide (n ∈ ns))) H) : rInU K (.int n) (.ref a) H Q := .inl ⟨a, _, rfl, .inr h, rfl, flat_ints ns, by rw [inV_ints]; exact q⟩
theorem w_inL (h : SqL K H a (ns.map V.int)) (q : Q (.bl (decide (n ∈ ns))) H) : rInU K (.int n) (.ref a) H Q := .inl ⟨a, _, rfl, .inl h, rfl, flat_ints ns, by rw [inV_ints]; exact q⟩
theorem w_ninT (h : SqT K H a (ns.map V.int)) (q : Q (.bl (!decide (n ∈ ns))) H) : rNotInU K (.int n) (.ref a) H Q := ⟨a, _, rfl, .inr h, rfl, flat_ints ns, by rw [inV_ints]; exact q⟩
theorem w_tm {to : TE} {t : TA} {r : V → List V → Hp → VK → Prop} (h : to σ H fun x H1 => TyN K x H1 ∧ t σ H1 fun xs H2 => r x xs H2 Q) : tTM K r to t σ H Q := h
theorem w_tyN {R : Prop} (h : SqN K H a xs) (q : R) : TyN K (.ref a) H ∧ R := ⟨⟨a, xs, rfl, h⟩, q⟩
theorem w_indexT (h : SqT K H a (ns.map V.int)) (hn : n ∈ ns) (q : Q (.int (ns.idxOf n : Nat)) H) : rIndexT K (.ref a) [.int n] H Q := ⟨a, ns, n, rfl, rfl, h, hn, q⟩
theorem w_tupN {tA : TA} (h : tA σ H fun xs H1 => NewN xs Q H1) : tTupN tA σ H Q := h
theorem w_newN (hl : xs.length ≤ sizeLine) (h : ∀ p H', H p = none → Same H H' → TupN H' p xs → Q (.ref p) H') : NewN xs Q H := ⟨hl, fun p o hp hd => h p _ hp (same_new hp) ⟨o, hd, upd_same⟩⟩
theorem w_tupleN (h : SqL K H a xs) (q : ∀ p H', H p = none → Same H H' → TupN H' p xs → Q (.ref p) H') : rTupleOfN K [.ref a] H Q := ⟨a, xs, rfl, .inl ⟨h, fun p o hp hd => q p _ hp (same_new hp) ⟨o, hd, upd_same⟩⟩⟩
theorem w_tupleT (h : SqT K H a xs) (q : Q (.ref a) H) : rTupleOfN K [.ref a] H Q := ⟨a, xs, rfl, .inr ⟨h, q⟩⟩
end
/-! ### sums, cuts -/
def rAddN (K : PySem.W.Frag) : R2 := fun x y H Q => rI0 (fun i j => .int (i + j)) x y H Q ∨ (∃ i j, x = .str i ∧ y = .str j ∧ i.length + j.length ≤ sizeLine ∧ Q (.str (i ++ j)) H) ∨ rCat x y H Q ∨ rCatN K x y H Q
theorem u_addN {X : Cx} : OpR X (binaryOp .Add) (rAddN X.K) := opor op_add (opor op_add_str (opor op_cat op_catN))
def rSlU (K : PySem.W.Frag) : V → Option Int → Option Int → Hp → VK → Prop := fun x lo hi H Q => rSlN K x lo hi H Q ∨ rSlS x lo hi H Q ∨ rSlL K x lo hi H Q
theorem u_sl {X : Cx} : SlR X (rSlU X.K) := .or sl_tupN (.or sl_str sl_list)
/-! ### data -/
mutual
inductive Dq (K : PySem.W.Frag) (H : Hp) : V → PyData → Prop
  | non : Dq K H .non .none
  | bl (b : Bool) : Dq K H (.bl b) (.bool b)
  | int (i : Int) : Dq K H (.int i) (.int i)
  | str (x : Str) : Dq K H (.str x) (.str x)
  | lst {a : Addr} {xs : List V} {ds : List PyData} : SqL K H a xs → DqAll K H xs ds → Dq K H (.ref a) (.list ds)
  | tup {a : Addr} {xs : List V} {ds : List PyData} : SqN K H a xs → DqAll K H xs ds → Dq K H (.ref a) (.tuple ds)
inductive DqAll (K : PySem.W.Frag) (H : Hp) : List V → List PyData → Prop
  | nil : DqAll K H [] []
  | cons {v : V} {vs : List V} {d : PyData} {ds : List PyData} : Dq K H v d → DqAll K H vs ds → DqAll K H (v :: vs) (d :: ds)
end
mutual
theorem dq_dp {K : PySem.W.Frag} {H : Hp} : ∀ {v : V} {d : PyData}, Dq K H v d → Dp K H v d
  | _, _, .non => .non
  | _, _, .bl b => .bl b
  | _, _, .int i => .int i
  | _, _, .str x => .str x
  | _, _, .lst h r => .lst h (dqs_dp r)
  | _, _, .tup h r => .tup h.t (dqs_dp r)
theorem dqs_dp {K : PySem.W.Frag} {H : Hp} : ∀ {vs : List V} {ds : List PyData}, DqAll K H vs ds → DpAll K H vs ds
  | _, _, .nil => .nil
  | _, _, .cons h r => .cons (dq_dp h) (dqs_dp r)
end
mutual
theorem dq_mono {K : PySem.W.Frag} {H H' : Hp} (e : Same H H') : ∀ {v : V} {d : PyData}, Dq K H v d → Dq K H' v d
  | _, _, .non => .non
  | _, _, .bl b => .bl b
  | _, _, .int i => .int i
  | _, _, .str x => .str x
  | _, _, .lst h r => .lst (e.seq h) (dqs_mono e r)
  | _, _, .tup h r => .tup (same_n e h) (dqs_mono e r)
theorem dqs_mono {K : PySem.W.Frag} {H H' : Hp} (e : Same H H') : ∀ {vs : List V} {ds : List PyData}, DqAll K H vs ds → DqAll K H' vs ds
  | _, _, .nil => .nil
  | _, _, .cons h r => .cons (dq_mono e h) (dqs_mono e r)
end
theorem dqs_len {K : PySem.W.Frag} {H : Hp} {vs : List V} {ds : List PyData} (h : DqAll K H vs ds) : vs.length = ds.length := dps_len (dqs_dp h)
theorem dqs_get {K : PySem.W.Frag} {H : Hp} : ∀ {vs : List V} {ds : List PyData} {i : Nat} {d : PyData}, DqAll K H vs ds → ds[i]? = some d → ∃ v, vs[i]? = some v ∧ Dq K H v d
  | _, _, _, _, .nil, e => by simp at e
  | _, _, 0, _, .cons (v := v) h _, e => by
    simp at e
    subst e
    exact ⟨v, rfl, h⟩
  | _, _, i + 1, d, .cons _ r, e => by
    obtain ⟨v, h1, h2⟩ := dqs_get (i := i) (d := d) r (by simpa using e)
    exact ⟨v, by simpa using h1, h2⟩
theorem dqs_get2 {K : PySem.W.Frag} {H : Hp} {vs : List V} {ds : List PyData} {i : Nat} {v : V} (r : DqAll K H vs ds) (e : vs[i]? = some v) : ∃ d, ds[i]? = some d ∧ Dq K H v d := by
  have hl := dqs_len r
  have hi := (List.getElem?_eq_some_iff.mp e).1
  have e2 : ds[i]? = some (ds[i]'(hl ▸ hi)) := List.getElem?_eq_getElem _
  obtain ⟨v2, h1, h2⟩ := dqs_get r e2
  rw [e] at h1
  cases h1
  exact ⟨_, e2, h2⟩
theorem dqs_app {K : PySem.W.Frag} {H : Hp} : ∀ {vs ws : List V} {ds es : List PyData}, DqAll K H vs ds → DqAll K H ws es → DqAll K H (vs ++ ws) (ds ++ es)
  | _, _, _, _, .nil, s => s
  | _, _, _, _, .cons h r, s => .cons h (dqs_app r s)
theorem dqs_ints {K : PySem.W.Frag} {H : Hp} : ∀ ns : List Int, DqAll K H (ns.map V.int) (ns.map PyData.int)
  | [] => .nil
  | n :: r => .cons (.int n) (dqs_ints r)
theorem dqs_at {K : PySem.W.Frag} {H : Hp} {vs : List V} {ds : List PyData} {i : Int} {d : PyData} (r : DqAll K H vs ds) (e : atI ds i = some d) : ∃ v, atI vs i = some v ∧ Dq K H v d := by
  unfold atI at e ⊢
  rw [dqs_len r]
  cases q : ixN ds.length i with
  | none => rw [q] at e; cases e
  | some j =>
    rw [q] at e
    exact dqs_get r e
end Sh
/-! data: tuples of data, cuts, sums; the shapes -/
namespace Sh
open PySem PySem.Spec PyProof.Rows L2
section
variable {K : PySem.W.Frag} {σ : L2.St} {H H' : Hp} {Q : VK} {v u : V} {d : PyData} {te : TE} {tA : TA} {tl th : TO} {a D : Addr} {xs ys : List V}
/-! ### data that a change of a list does not touch -/
mutual
def tupO : PyData → Prop
  | .list _ => False
  | .dict _ => False
  | .tuple ds => tupOs ds
  | _ => True
def tupOs : List PyData → Prop
  | [] => True
  | d :: r => tupO d ∧ tupOs r
end
theorem sqn_lst {o : HO} (h : SqN K H a xs) (e : H D = some (.lst ys)) : SqN K (upd H D o) a xs := by
  rcases h with ⟨b, hd, h⟩ | h
  · refine .inl ⟨b, hd, ?_⟩
    rw [upd_ne fun z => by rw [z, e] at h; cases h]
    exact h
  · exact .inr h
mutual
theorem dq_lst {o : HO} (e : H D = some (.lst ys)) : ∀ {v : V} {d : PyData}, Dq K H v d → tupO d → Dq K (upd H D o) v d
  | _, _, .non, _ => .non
  | _, _, .bl b, _ => .bl b
  | _, _, .int i, _ => .int i
  | _, _, .str x, _ => .str x
  | _, _, .lst _ _, z => (show False from z).elim
  | _, _, .tup h r, z => .tup (sqn_lst h e) (dqs_lst e r z)
theorem dqs_lst {o : HO} (e : H D = some (.lst ys)) : ∀ {vs : List V} {ds : List PyData}, DqAll K H vs ds → tupOs ds → DqAll K (upd H D o) vs ds
  | _, _, .nil, _ => .nil
  | _, _, .cons h r, z => .cons (dq_lst e h z.1) (dqs_lst e r z.2)
end
theorem tupOs_of : ∀ {ds : List PyData}, (∀ d ∈ ds, tupO d) → tupOs ds
  | [], _ => trivial
  | _ :: _, h => ⟨h _ List.mem_cons_self, tupOs_of fun d hd => h d (List.mem_cons_of_mem _ hd)⟩
theorem tupOs_ints (ns : List Int) : tupOs (ns.map PyData.int) := tupOs_of fun d hd => by
  obtain ⟨n, _, rfl⟩ := List.mem_map.mp hd
  trivial
/-! ### ints -/
theorem dq_int {i : Int} (h : Dq K H v (.int i)) : v = .int i := by cases h; rfl
theorem dq_str {x : Str} (h : Dq K H v (.str x)) : v = .str x := by cases h; rfl
theorem dq_bl {b : Bool} (h : Dq K H v (.bool b)) : v = .bl b := by cases h; rfl
theorem dq_non (h : Dq K H v .none) : v = .non := by cases h; rfl
theorem dqs_int_of : ∀ {vs : List V} {ns : List Int}, DqAll K H vs (ns.map PyData.int) → vs = ns.map V.int
  | _, [], h => by cases h; rfl
  | _, n :: r, h => by
    cases h with
    | cons h1 h2 => rw [dq_int h1, dqs_int_of h2]; rfl
theorem dq_ti {ns : List Int} (h : Dq K H v (.tuple (ns.map PyData.int))) : ∃ a, v = .ref a ∧ SqN K H a (ns.map V.int) := by
  cases h with
  | tup h r => exact ⟨_, rfl, by rw [← dqs_int_of r]; exact h⟩
theorem dq_ofN {ns : List Int} (h : TupN H a (ns.map V.int)) : Dq K H (.ref a) (.tuple (ns.map PyData.int)) := .tup (.inl h) (dqs_ints ns)
theorem dq_tt {ds : List PyData} (h : Dq K H v (.tuple ds)) : ∃ a xs, v = .ref a ∧ SqN K H a xs ∧ DqAll K H xs ds := by
  cases h with
  | tup h r => exact ⟨_, _, rfl, h, r⟩
theorem dq_ll {ds : List PyData} (h : Dq K H v (.list ds)) : ∃ a xs, v = .ref a ∧ SqL K H a xs ∧ DqAll K H xs ds := by
  cases h with
  | lst h r => exact ⟨_, _, rfl, h, r⟩
theorem dq_new {ds : List PyData} (h : TupN H a xs) (r : DqAll K H xs ds) : Dq K H (.ref a) (.tuple ds) := .tup (.inl h) r
theorem dq_newl {ds : List PyData} (h : H a = some (.lst xs)) (r : DqAll K H xs ds) : Dq K H (.ref a) (.list ds) := .lst (SqL.of h) r
theorem dqs_one (h : Dq K H v d) : DqAll K H [v] [d] := .cons h .nil
theorem dqs_two {d2 : PyData} (h : Dq K H v d) (h2 : Dq K H u d2) : DqAll K H [v, u] [d, d2] := .cons h (.cons h2 .nil)
theorem dqs_mem {vs : List V} {ds : List PyData} {P : PyData → Prop} (r : DqAll K H vs ds) (h : ∀ d ∈ ds, P d) : ∀ x ∈ vs, ∃ d, Dq K H x d ∧ P d := fun x hx => by
  obtain ⟨i, hi⟩ := List.getElem?_of_mem hx
  obtain ⟨d, h1, h2⟩ := dqs_get2 r hi
  exact ⟨d, h2, h d (List.mem_of_getElem? h1)⟩
/-! ### items, lengths -/
theorem w_ixQL {ds : List PyData} {i : Int} (h : Dq K H v (.list ds)) (e : atI ds i = some d) (q : ∀ x, Dq K H x d → Q x H) : rIxU K v (.int i) H Q := by
  cases h with
  | lst h r =>
    obtain ⟨x, e1, e2⟩ := dqs_at r e
    exact w_ixl h e1 (q x e2)
theorem w_ixQT {ds : List PyData} {i : Int} (h : Dq K H v (.tuple ds)) (e : atI ds i = some d) (q : ∀ x, Dq K H x d → Q x H) : rIxU K v (.int i) H Q := by
  cases h with
  | tup h r =>
    obtain ⟨x, e1, e2⟩ := dqs_at r e
    exact w_ixt h.t e1 (q x e2)
theorem w_ixQTi {ds : List PyData} {i n : Int} (h : Dq K H v (.tuple ds)) (e : atI ds i = some (.int n)) (q : Q (.int n) H) : rIxU K v (.int i) H Q := w_ixQT h e fun x hx => by
  rw [dq_int hx]
  exact q
theorem w_ixQTs {ds : List PyData} {i : Int} {z : Str} (h : Dq K H v (.tuple ds)) (e : atI ds i = some (.str z)) (q : Q (.str z) H) : rIxU K v (.int i) H Q := w_ixQT h e fun x hx => by
  rw [dq_str hx]
  exact q
theorem w_lenQT {ds : List PyData} (h : Dq K H v (.tuple ds)) (q : Q (.int ds.length) H) : rLenU K [v] H Q := by
  cases h with
  | tup h r => exact w_lenT h.t (by rw [dqs_len r]; exact q)
theorem w_lenQL {ds : List PyData} (h : Dq K H v (.list ds)) (q : Q (.int ds.length) H) : rLenU K [v] H Q := by
  cases h with
  | lst h r => exact w_lenL h (by rw [dqs_len r]; exact q)
theorem w_tyQT {ds : List PyData} {R : Prop} (h : Dq K H v (.tuple ds)) (q : R) : TyN K v H ∧ R := by
  cases h with
  | tup h r => exact ⟨⟨_, _, rfl, h⟩, q⟩
/-! ### cuts -/
theorem w_sl (h : te σ H fun x H1 => tl σ H1 fun l H2 => th σ H2 fun u H3 => rSlU K x l u H3 Q) : tSl (rSlU K) te tl th σ H Q := h
theorem w_nopart {k : Option Int → Hp → Prop} (h : k none H) : tNoPart σ H k := h
theorem w_part {k : Option Int → Hp → Prop} (h : te σ H fun x H1 => ∃ i, x = .int i ∧ k (some i) H1) : tPart te σ H k := h
theorem w_ii {k : Int → Prop} {i : Int} (h : k i) : ∃ j, V.int i = .int j ∧ k j := ⟨i, rfl, h⟩
def cutD {α : Type} (xs : List α) (lo hi : Option Int) : List α := (xs.drop (HT.sIx xs.length 0 lo)).take (HT.sIx xs.length xs.length hi - HT.sIx xs.length 0 lo)
theorem dqs_drop : ∀ {vs : List V} {ds : List PyData} (n : Nat), DqAll K H vs ds → DqAll K H (vs.drop n) (ds.drop n)
  | _, _, 0, r => r
  | _, _, _ + 1, .nil => .nil
  | _, _, n + 1, .cons _ r => dqs_drop n r
theorem dqs_take : ∀ {vs : List V} {ds : List PyData} (n : Nat), DqAll K H vs ds → DqAll K H (vs.take n) (ds.take n)
  | _, _, 0, r => .nil
  | _, _, _ + 1, .nil => .nil
  | _, _, n + 1, .cons h r => .cons h (dqs_take n r)
theorem dqs_cut {ds : List PyData} {lo hi : Option Int} (r : DqAll K H xs ds) : DqAll K H (cutV xs lo hi) (cutD ds lo hi) := by
  unfold cutV cutD
  rw [dqs_len r]
  exact dqs_take _ (dqs_drop _ r)
theorem w_slQT {ds : List PyData} {lo hi : Option Int} (h : Dq K H v (.tuple ds)) (q : ∀ x H', Same H H' → Dq K H' x (.tuple (cutD ds lo hi)) → Q x H') : rSlU K v lo hi H Q := by
  obtain ⟨a, xs, rfl, hs, r⟩ := dq_tt h
  refine .inl ⟨a, xs, rfl, hs.t, fun hw => q _ _ (Same.refl _) (.tup hs ?_), fun _ p o hp hd => q _ _ (same_new hp) (.tup (SqN.of ⟨o, hd, upd_same⟩) (dqs_mono (same_new hp) (dqs_cut r)))⟩
  rw [dqs_len r] at hw
  have e : cutD ds lo hi = ds := by
    unfold cutD
    rw [hw.1, hw.2]
    simp
  rw [e]
  exact r
theorem w_slQL {ds : List PyData} {lo hi : Option Int} (h : Dq K H v (.list ds)) (q : ∀ x H', Same H H' → Dq K H' x (.list (cutD ds lo hi)) → Q x H') : rSlU K v lo hi H Q := by
  obtain ⟨a, xs, rfl, hs, r⟩ := dq_ll h
  exact .inr (.inr ⟨a, xs, rfl, hs, fun p hp => q _ _ (same_new hp) (.lst (SqL.of upd_same) (dqs_mono (same_new hp) (dqs_cut r)))⟩)
theorem w_slS {z : Str} {lo hi : Option Int} (h : z.length ≤ sizeLine) (q : Q (.str (cutS z lo hi)) H) : rSlU K (.str z) lo hi H Q := .inr (.inl ⟨z, rfl, h, q⟩)
theorem six_of {n i : Nat} (d : Nat) (h : i ≤ n) : HT.sIx n d (some (i : Int)) = i := by
  unfold HT.sIx
  dsimp only
  rw [if_neg (by omega)]
  omega
theorem cutD_to {α : Type} {xs : List α} {i : Int} (h0 : 0 ≤ i) (h1 : i ≤ xs.length) : cutD xs none (some i) = xs.take i.toNat := by
  obtain ⟨n, rfl⟩ : ∃ n : Nat, i = n := ⟨i.toNat, by omega⟩
  unfold cutD
  rw [six_of _ (by omega)]
  simp [HT.sIx]
theorem cutD_from {α : Type} {xs : List α} {i : Int} (h0 : 0 ≤ i) (h1 : i ≤ xs.length) : cutD xs (some i) none = xs.drop i.toNat := by
  obtain ⟨n, rfl⟩ : ∃ n : Nat, i = n := ⟨i.toNat, by omega⟩
  unfold cutD
  rw [six_of _ (by omega)]
  show (xs.drop n).take (xs.length - n) = _
  rw [List.take_of_length_le (by rw [List.length_drop]; exact Nat.le_refl _), Int.toNat_natCast]
/-! ### sums of tuples -/
theorem w_catQT {ds es : List PyData} (h : Dq K H v (.tuple ds)) (h' : Dq K H u (.tuple es)) (hl : ds.length + es.length ≤ sizeLine) (q : ∀ x H', Same H H' → Dq K H' x (.tuple (ds ++ es)) → Q x H') : rAddN K v u H Q := by
  obtain ⟨a, xs, rfl, hs, r⟩ := dq_tt h
  obtain ⟨b, ys, rfl, hs', r'⟩ := dq_tt h'
  have l1 := dqs_len r
  have l2 := dqs_len r'
  refine .inr (.inr (.inr ⟨a, b, xs, ys, rfl, rfl, hs.t, hs'.t, by omega, fun e => ?_, fun _ e => ?_, fun _ _ p o hp hd => q _ _ (same_new hp) (.tup (SqN.of ⟨o, hd, upd_same⟩) (dqs_mono (same_new hp) (dqs_app r r')))⟩))
  · subst e
    cases r
    exact q _ _ (Same.refl _) h'
  · subst e
    cases r'
    rw [List.append_nil] at q
    exact q _ _ (Same.refl _) h
theorem w_addN {i j : Int} (h : Q (.int (i + j)) H) : rAddN K (.int i) (.int j) H Q := .inl ⟨i, j, rfl, rfl, h⟩
theorem w_addsN {x y : Str} (hl : x.length + y.length ≤ sizeLine) (h : Q (.str (x ++ y)) H) : rAddN K (.str x) (.str y) H Q := .inr (.inl ⟨x, y, rfl, rfl, hl, h⟩)
/-! ### the list that grows -/
theorem w_bm {T : String} {r : V → List V → Hp → VK → Prop} {to : TE} (h : to σ H fun x H1 => tyV K T x H1 ∧ tA σ H1 fun xs H2 => r x xs H2 Q) : tBM K T r to tA σ H Q := h
theorem w_tyL {R : Prop} (h : H a = some (.lst xs)) (q : R) : tyV K "list" (.ref a) H ∧ R := ⟨.inl ⟨rfl, xs, SqL.of h⟩, q⟩
theorem w_append {y : V} (h : H a = some (.lst xs)) (hl : xs.length < 1000000) (q : Q .non (upd H a (.lst (xs ++ [y])))) : rAppend (.ref a) [y] H Q := ⟨a, xs, y, rfl, rfl, h, Nat.lt_trans hl (by decide), q⟩
theorem pot_lst {W : Wd} {o : HO} (h : PotAt W H v) (e : H D = some (.lst ys)) : PotAt W (upd H D o) v := by
  obtain ⟨p, rfl, h⟩ := h
  refine ⟨p, rfl, ?_⟩
  rw [upd_ne fun z => by rw [z, e] at h; cases h]
  exact h
theorem w_irest {R : Prop} {k : Prop} (h : k) (q : R) : k ∧ R := ⟨h, q⟩
end
section
variable {K : PySem.W.Frag} {σ : L2.St} {H : Hp} {tb : TS} {nx : L2.St → Hp → Prop} {rt : VK} {a : Addr} {xs : List V} {i1 i2 : Nat}
theorem forEL2 (I : Nat → L2.St → Hp → Prop) (h0 : I 0 σ H) (hI : ∀ i σ' H', I i σ' H' → SqL K H' a xs)
    (hs : ∀ (i : Nat) x σ' H', xs[i]? = some x → I i σ' H' → ∀ H2, Same H' H2 → tb ⟨I (i + 1), rt, nx, I (i + 1)⟩ ((σ'.set i1 (some (.int (i : Int)))).set i2 (some x)) H2) (hd : ∀ σ' H', I xs.length σ' H' → nx σ' H') :
    ForOk (Ite K a) (gTup K 2 (gCons (gName i1) (gCons (gName i2) gNil))) tb nx rt σ H := by
  refine ⟨fun i m σ' H' => m = xs.length - i ∧ i ≤ xs.length ∧ I i σ' H', ⟨_, rfl, Nat.zero_le _, h0⟩, fun i m σ' H1 ⟨em, hi, w1⟩ => ?_⟩
  have s1 := hI _ _ _ w1
  by_cases hlt : i < xs.length
  · refine .inr ⟨⟨xs, xs[i], s1, List.getElem?_eq_getElem hlt⟩, I (i + 1), fun σ2 H2 w2 => ⟨_, by omega, rfl, hlt, w2⟩, fun v H2 y => ?_⟩
    obtain ⟨T, x, rfl, hT, rfl, hy⟩ := y
    have ex := hy xs s1
    exact ⟨T, _, rfl, SqT.of upd_same, rfl, _, _, rfl, _, _, rfl, rfl, hs i x σ' H1 ex w1 _ (same_new hT)⟩
  · have e : i = xs.length := by omega
    subst e
    exact .inl ⟨⟨xs, s1, Nat.le_refl _⟩, hd σ' H1 w1⟩
theorem none_of {H H' : Hp} {D : Addr} (e : Same H H') (h : H' D = none) : H D = none := by
  cases hc : H D with
  | none => rfl
  | some u => rw [e _ _ hc] at h; cases h
end
section
variable {K : PySem.W.Frag} {H : Hp} {Q : VK} {v : V} {i : Int}
theorem atI_get {α : Type} {l : List α} (h0 : 0 ≤ i) (h1 : i < l.length) : ∃ x, l[i.toNat]? = some x ∧ atI l i = some x := by
  have hn : i.toNat < l.length := by omega
  refine ⟨l[i.toNat], List.getElem?_eq_getElem hn, ?_⟩
  unfold atI ixN
  rw [if_pos h0, if_pos (by omega)]
  simp [List.getElem?_eq_getElem hn]
theorem w_ixM {α : Type} {g : α → PyData} {l : List α} (h : Dq K H v (.tuple (l.map g))) (h0 : 0 ≤ i) (h1 : i < l.length) (q : ∀ f x, l[i.toNat]? = some f → Dq K H x (g f) → Q x H) : rIxU K v (.int i) H Q := by
  obtain ⟨f, e, e2⟩ := atI_get h0 h1
  exact w_ixQT h (d := g f) (by rw [atI_map, e2]; rfl) fun x hx => q f x e hx
theorem atI_mem {α : Type} {l : List α} (h0 : -(l.length : Int) ≤ i) (h1 : i < l.length) : ∃ x, atI l i = some x ∧ x ∈ l := by
  by_cases c : 0 ≤ i
  · exact atI_of c h1
  · have hn : (i + l.length).toNat < l.length := by omega
    refine ⟨l[(i + l.length).toNat], ?_, List.getElem_mem hn⟩
    unfold atI ixN
    rw [if_neg c, if_pos h0]
    simp [List.getElem?_eq_getElem hn]
theorem w_ixMm {α : Type} {g : α → PyData} {l : List α} (h : Dq K H v (.tuple (l.map g))) (h0 : -(l.length : Int) ≤ i) (h1 : i < l.length) (q : ∀ f x, f ∈ l → Dq K H x (g f) → Q x H) : rIxU K v (.int i) H Q := by
  obtain ⟨f, e, hm⟩ := atI_mem h0 h1
  exact w_ixQT h (d := g f) (by rw [atI_map, e]; rfl) fun x hx => q f x hm hx
theorem w_ixMim {l : List Int} (h : Dq K H v (.tuple (l.map PyData.int))) (h0 : -(l.length : Int) ≤ i) (h1 : i < l.length) (q : ∀ n, n ∈ l → Q (.int n) H) : rIxU K v (.int i) H Q :=
  w_ixMm h h0 h1 fun f x hm hx => by
    rw [dq_int hx]
    exact q f hm
theorem w_ixMi {l : List Int} (h : Dq K H v (.tuple (l.map PyData.int))) (h0 : 0 ≤ i) (h1 : i < l.length) (q : ∀ n, l[i.toNat]? = some n → Q (.int n) H) : rIxU K v (.int i) H Q :=
  w_ixM h h0 h1 fun f x e hx => by
    rw [dq_int hx]
    exact q f e
theorem w_lenQTm {α : Type} {g : α → PyData} {l : List α} (h : Dq K H v (.tuple (l.map g))) (q : Q (.int l.length) H) : rLenU K [v] H Q := w_lenQT h (by
  rw [List.length_map]
  exact q)
theorem w_lenQLm {α : Type} {g : α → PyData} {l : List α} (h : Dq K H v (.list (l.map g))) (q : Q (.int l.length) H) : rLenU K [v] H Q := w_lenQL h (by
  rw [List.length_map]
  exact q)
theorem w_it {p A B : Prop} [Decidable p] (h : p) (q : A) : if decide p = true then A else B := by
  rw [decide_eq_true h]
  exact iteT q
theorem w_if {p A B : Prop} [Decidable p] (h : ¬ p) (q : B) : if decide p = true then A else B := by
  rw [decide_eq_false h]
  exact iteF q
theorem w_cut {t : TT} {ts tz : TS} {nx bk ct : L2.St → Hp → Prop} {rt : VK} {σ : L2.St} (P : L2.St → Hp → Prop) (hz : ∀ σ' H', P σ' H' → nx σ' H') (h : ∀ nx' : L2.St → Hp → Prop, (∀ σ' H', P σ' H' → nx' σ' H') → t σ H fun b H1 => if b = true then ts ⟨nx', rt, bk, ct⟩ σ H1 else tz ⟨nx', rt, bk, ct⟩ σ H1) : tIfS t ts tz ⟨nx, rt, bk, ct⟩ σ H := h nx hz
theorem w_neb {b c : Bool} (h : Q (.bl (!decide (b = c))) H) : rNeU K (.bl b) (.bl c) H Q := .inl ⟨rfl, by
  have e : decide (V.bl b = V.bl c) = decide (b = c) := by cases b <;> cases c <;> rfl
  rw [e]
  exact h⟩
theorem w_eqb {b c : Bool} (h : Q (.bl (decide (b = c))) H) : rEqU K (.bl b) (.bl c) H Q := .inl ⟨rfl, by
  have e : decide (V.bl b = V.bl c) = decide (b = c) := by cases b <;> cases c <;> rfl
  rw [e]
  exact h⟩
theorem w_same {A B : Prop} [Decidable A] [Decidable B] {D E : Prop} (h : A ↔ B) (q : E) : if (!decide (decide A = decide B)) = true then D else E := by
  have e : decide A = decide B := by rw [decide_eq_decide]; exact h
  rw [e, decide_eq_true (rfl : decide B = decide B)]
  exact iteF q
theorem w_same2 {A B : Prop} [Decidable A] [Decidable B] {D E : Prop} (h : A ↔ B) (q : E) : if decide (decide A = decide B) = true then E else D := by
  have e : decide A = decide B := by rw [decide_eq_decide]; exact h
  rw [e, decide_eq_true (rfl : decide B = decide B)]
  exact iteT q
end
/-! ### the shapes -/
inductive Kd where
  | still
  | drawn
  | step (n : Int)
  | turn (ns : List Int)
  | wth (p b : Int)
def kdD : Kd → PyData
  | .still => .tuple [.str "still"]
  | .drawn => .tuple [.str "drawn"]
  | .step n => .tuple [.str "step", .int n]
  | .turn ns => .tuple [.str "turn", .tuple (ns.map .int)]
  | .wth p b => .tuple [.str "with", .int p, .int b]
structure Fd where
  nm : Str
  br : Int
  kd : Kd
def fdD (f : Fd) : PyData := .tuple [.str f.nm, .int f.br, kdD f.kd]
structure Shp where
  fs : List Fd
  m : Int
def shD (s : Shp) : PyData := .tuple [.tuple (s.fs.map fdD), .int s.m]
def OkKd (place : Nat) (b : Int) : Kd → Prop
  | .still => True
  | .drawn => True
  | .step n => 0 ≤ n ∧ n < p2 b
  | .turn ns => 2 ≤ ns.length ∧ ns.length ≤ 12 ∧ (∀ n ∈ ns, 0 ≤ n ∧ n < p2 b) ∧ ns.Nodup
  | .wth p z => 0 ≤ p ∧ p < place ∧ -99 ≤ z ∧ z ≤ 99
def OkNm (z : Str) : Prop := 1 ≤ z.length ∧ z.length ≤ 8 ∧ ∀ c ∈ z.cps.toList, 97 ≤ c ∧ c ≤ 122
structure OkFd (place : Nat) (f : Fd) : Prop where
  nm : OkNm f.nm
  b0 : 1 ≤ f.br
  b1 : f.br ≤ 40
  kd : OkKd place f.br f.kd
structure OkShp (s : Shp) : Prop where
  l0 : 1 ≤ s.fs.length
  l1 : s.fs.length ≤ 12
  fd : ∀ i f, s.fs[i]? = some f → OkFd i f
  nd : (s.fs.map Fd.nm).Nodup
  m0 : 1 ≤ s.m
  m1 : s.m ≤ 1000000
theorem tupO_kd (k : Kd) : tupO (kdD k) := by
  cases k with
  | turn ns => exact ⟨trivial, tupOs_ints ns, trivial⟩
  | _ => simp [kdD, tupO, tupOs]
theorem tupO_fd (f : Fd) : tupO (fdD f) := ⟨trivial, trivial, tupO_kd _, trivial⟩
theorem tupO_fds (fs : List Fd) : tupOs (fs.map fdD) := tupOs_of fun d hd => by
  obtain ⟨n, _, rfl⟩ := List.mem_map.mp hd
  exact tupO_fd n
/-- heads of a shape -/
def OkHead : List Fd → List Int → Prop
  | [], [] => True
  | f :: fs, n :: ns => (0 ≤ n ∧ n < p2 f.br) ∧ OkHead fs ns
  | _, _ => False
theorem okHead_len : ∀ {fs : List Fd} {ns : List Int}, OkHead fs ns → ns.length = fs.length
  | [], [], _ => rfl
  | _ :: _, _ :: _, h => congrArg (· + 1) (okHead_len h.2)
  | [], _ :: _, h => h.elim
  | _ :: _, [], h => h.elim
theorem okHead_get : ∀ {fs : List Fd} {ns : List Int} {i : Nat} {f : Fd} {n : Int}, OkHead fs ns → fs[i]? = some f → ns[i]? = some n → 0 ≤ n ∧ n < p2 f.br
  | f :: _, n :: _, 0, _, _, h, e1, e2 => by
    simp at e1 e2
    subst e1 e2
    exact h.1
  | _ :: _, _ :: _, i + 1, _, _, h, e1, e2 => okHead_get (i := i) h.2 (by simpa using e1) (by simpa using e2)
  | [], [], _, _, _, _, e1, _ => by simp at e1
  | [], _ :: _, _, _, _, h, _, _ => h.elim
  | _ :: _, [], _, _, _, h, _, _ => h.elim
theorem okHead_snoc : ∀ {fs : List Fd} {ns : List Int} {f : Fd} {n : Int}, OkHead fs ns → 0 ≤ n → n < p2 f.br → OkHead (fs ++ [f]) (ns ++ [n])
  | [], [], _, _, _, h0, h1 => ⟨⟨h0, h1⟩, trivial⟩
  | _ :: _, _ :: _, _, _, h, h0, h1 => ⟨h.1, okHead_snoc h.2 h0 h1⟩
  | [], _ :: _, _, _, h, _, _ => h.elim
  | _ :: _, [], _, _, h, _, _ => h.elim
/-- r is the value so many places on in its row, going round -/
def GoneR (ns : List Int) (v m r : Int) : Prop := (v ∉ ns → r = v) ∧ (v ∈ ns → ns[((((ns.idxOf v : Nat) : Int) + m) % (ns.length : Int)).toNat]? = some r)
theorem GoneR.one {ns : List Int} {v m r r' : Int} (h : GoneR ns v m r) (h' : GoneR ns v m r') : r = r' := by
  by_cases c : v ∈ ns
  · exact Option.some.inj ((h.2 c).symm.trans (h'.2 c))
  · rw [h.1 c, h'.1 c]
/-- r is what the field's kind lets look for, ahead of the rest -/
def ExpK (fo ah : List Int) (more v : Int) : Kd → Int → Prop
  | .still, r => r = v
  | .drawn, r => r = v
  | .step n, r => r = v + more * n
  | .turn ns, r => GoneR ns v more r
  | .wth p b, r => ∃ x y, ah[p.toNat]? = some x ∧ fo[p.toNat]? = some y ∧ r = v + b * (x - y)
theorem ExpK.one {fo ah : List Int} {more v : Int} {k : Kd} {r r' : Int} (h : ExpK fo ah more v k r) (h' : ExpK fo ah more v k r') : r = r' := by
  cases k with
  | turn ns => exact GoneR.one h h'
  | wth p b =>
    obtain ⟨x, y, e1, e2, rfl⟩ := h
    obtain ⟨x', y', e3, e4, rfl⟩ := h'
    obtain rfl := Option.some.inj (e1.symm.trans e3)
    obtain rfl := Option.some.inj (e2.symm.trans e4)
    rfl
  | _ => exact Eq.trans h (Eq.symm h')
end Sh
/-! zip of two, sorted, min -/
namespace Sh
open PySem PySem.Spec PyProof.Rows L2
open RZ
section
variable {K : PySem.W.Frag} {σ : L2.St} {H : Hp} {Q : VK} {te : TE} {tt : TT} {tA : TA} {tb : TS} {nx : L2.St → Hp → Prop} {rt : VK} {a b : Addr} {xs ys : List V} {i1 i2 : Nat} {vs : List Nat}
def GoZip (K : PySem.W.Frag) (R : It → Hp → Prop) (vs : List V) (H1 : Hp) : Prop := ∃ a b xs ys, vs = [.ref a, .ref b] ∧ ((SqL K H1 a xs ∧ SqL K H1 b ys ∧ R (Itz K a b) H1) ∨ (SqT K H1 a xs ∧ SqT K H1 b ys ∧ R (ItzT K a b) H1))
theorem w_izip {R : It → Hp → Prop} (h : tA σ H fun vs H1 => GoZip K R vs H1) : iZipA K tA σ H R := h
theorem w_goZL {R : It → Hp → Prop} (h : SqL K H a xs) (h2 : SqL K H b ys) (q : R (Itz K a b) H) : GoZip K R [.ref a, .ref b] H := ⟨a, b, xs, ys, rfl, .inl ⟨h, h2, q⟩⟩
theorem w_goZT {R : It → Hp → Prop} (h : SqT K H a xs) (h2 : SqT K H b ys) (q : R (ItzT K a b) H) : GoZip K R [.ref a, .ref b] H := ⟨a, b, xs, ys, rfl, .inr ⟨h, h2, q⟩⟩
/-- for x, y in zip(xs, ys), lists of any lengths -/
theorem forZL (I : Nat → L2.St → Hp → Prop) (h0 : I 0 σ H) (hI : ∀ i σ' H', I i σ' H' → SqL K H' a xs ∧ SqL K H' b ys)
    (hs : ∀ (i : Nat) x y σ' H', xs[i]? = some x → ys[i]? = some y → I i σ' H' → ∀ H2, Same H' H2 → tb ⟨I (i + 1), rt, nx, I (i + 1)⟩ ((σ'.set i1 (some x)).set i2 (some y)) H2) (hd : ∀ σ' H', I (min xs.length ys.length) σ' H' → nx σ' H') :
    ForOk (Itz K a b) (gTup K 2 (gCons (gName i1) (gCons (gName i2) gNil))) tb nx rt σ H := by
  refine ⟨fun i m σ' H' => m = min xs.length ys.length - i ∧ i ≤ min xs.length ys.length ∧ I i σ' H', ⟨_, rfl, Nat.zero_le _, h0⟩, fun i m σ' H1 ⟨em, hi, w1⟩ => ?_⟩
  obtain ⟨s1, s2⟩ := hI _ _ _ w1
  by_cases hlt : i < min xs.length ys.length
  · have l1 : i < xs.length := by omega
    have l2 : i < ys.length := by omega
    refine .inr ⟨⟨xs, ys, xs[i], ys[i], s1, s2, List.getElem?_eq_getElem l1, List.getElem?_eq_getElem l2⟩, I (i + 1), fun σ2 H2 w2 => ⟨_, by omega, rfl, hlt, w2⟩, fun v H2 z => ?_⟩
    obtain ⟨T, x, y, rfl, hT, rfl, hx, hy⟩ := z
    exact ⟨T, _, rfl, SqT.of upd_same, rfl, _, _, rfl, _, _, rfl, rfl, hs i x y σ' H1 (hx xs s1) (hy ys s2) w1 _ (same_new hT)⟩
  · have e : i = min xs.length ys.length := by omega
    refine .inl ⟨⟨xs, ys, s1, s2, by omega⟩, hd σ' H1 ?_⟩
    rw [← e]
    exact w1
/-- [.. for x, y in zip(t, u)], tuples of any lengths -/
theorem lcZT (hx : SqT K H a xs) (hy : SqT K H b ys) (I : Nat → List V → Hp → Prop) (hst : Stb I) (hn : xs.length ≤ 1000000) (hI : ∀ i acc H', I i acc H' → acc.length ≤ i) (h0 : ∀ H', Same H H' → I 0 [] H')
    (hs : ∀ i x y acc H', xs[i]? = some x → ys[i]? = some y → Same H H' → I i acc H' → ∀ H2, Same H' H2 → ∀ (k : VK) (k' : Hp → Prop), (∀ z H4, Same H2 H4 → I (i + 1) (acc ++ [z]) H4 → k z H4) → (∀ H3, Same H2 H3 → I (i + 1) acc H3 → k' H3) →
      wipe (((wipe σ vs).set i1 (some x)).set i2 (some y)) vs = wipe σ vs ∧ tt (((wipe σ vs).set i1 (some x)).set i2 (some y)) H2 fun b H3 => if b = true then te (((wipe σ vs).set i1 (some x)).set i2 (some y)) H3 k else k' H3)
    (hd : ∀ D acc H', H D = none → Same H H' → H' D = some (.lst acc) → I (min xs.length ys.length) acc H' → Q (.ref D) H') :
    LcOk (ItzT K a b) (gTup K 2 (gCons (gName i1) (gCons (gName i2) gNil))) tt te vs σ Q H :=
  lc_gen (n := min xs.length ys.length) I hst (by omega) hI h0
    (fun i acc H' hi s1 _ => ⟨xs, ys, xs[i]'(by omega), ys[i]'(by omega), same_t s1 hx, same_t s1 hy, List.getElem?_eq_getElem (by omega), List.getElem?_eq_getElem (by omega)⟩)
    (fun _ _ s1 _ => ⟨xs, ys, same_t s1 hx, same_t s1 hy, by omega⟩)
    (fun i acc v H' H'' hi s1 w1 z => by
      obtain ⟨T, x, y, rfl, hT, rfl, ex, ey⟩ := z
      intro k k' hk hk'
      refine ⟨T, _, rfl, SqT.of upd_same, rfl, _, _, rfl, _, _, rfl, rfl, ?_⟩
      exact hs i x y acc H' (ex xs (same_t s1 hx)) (ey ys (same_t s1 hy)) s1 w1 _ (same_new hT) k k' (fun z H4 e => hk z H4 ((same_new hT).trans e)) fun H3 e => hk' H3 ((same_new hT).trans e))
    hd
theorem w_catL (h : H a = some (.lst xs)) (h2 : H b = some (.lst ys)) (hl : xs.length + ys.length ≤ 1000000) (q : ∀ p H', H p = none → Same H H' → H' p = some (.lst (xs ++ ys)) → Q (.ref p) H') : rAddN K (.ref a) (.ref b) H Q :=
  .inr (.inr (.inl ⟨a, b, xs, ys, rfl, rfl, h, h2, Nat.le_trans hl (by decide), fun p hp => q p _ hp (same_new hp) upd_same⟩))
theorem w_min {ns : List Int} (h : SqL K H a (ns.map V.int)) (h0 : 0 < ns.length) (q : ∀ m, m ∈ ns → (∀ y, y ∈ ns → m ≤ y) → Q (.int m) H) : rMin K [.ref a] H Q := ⟨a, ns, rfl, h, h0, q⟩
def RgNew (Q : VK) (x : V) (H1 : Hp) : Prop := ∃ n : Int, x = .int n ∧ (RgOk 0 n ∧ ∀ q, H1 q = none → Q (.ref q) (upd H1 q (.lst (rgV 0 n))))
theorem w_lstRg {te : TE} (h : te σ H fun x H1 => RgNew Q x H1) : tLstRg (tRg1 te) σ H Q := h
theorem w_rgN {n : Int} (h0 : 0 ≤ n) (h1 : n ≤ 1000000) (q : ∀ p H', H p = none → Same H H' → H' p = some (.lst (((List.range n.toNat).map fun i : Nat => (i : Int)).map V.int)) → Q (.ref p) H') : RgNew Q (.int n) H :=
  ⟨n, rfl, RgOk.of_le (by omega) (by omega) (by omega) (by omega), fun p hp => q p _ hp (same_new hp) (by
    rw [upd_same, List.map_map]
    unfold rgV
    rw [Int.sub_zero]
    have e : (fun i : Nat => V.int (0 + (i : Int))) = V.int ∘ fun i : Nat => (i : Int) := by
      funext i
      show V.int (0 + (i : Int)) = V.int (i : Int)
      rw [Int.zero_add]
    rw [e])⟩
theorem w_neD {v u : V} {d e : PyData} (h : Dq K H v d) (h' : Dq K H u e) (s1 : SeqAt.shaped d = true) (s2 : SeqAt.shaped e = true) (q : Q (.bl (!PyData.eqv d e)) H) : rNeU K v u H Q := .inr ⟨d, e, dq_dp h, dq_dp h', s1, s2, q⟩
theorem w_eqD {v u : V} {d e : PyData} (h : Dq K H v d) (h' : Dq K H u e) (s1 : SeqAt.shaped d = true) (s2 : SeqAt.shaped e = true) (q : Q (.bl (PyData.eqv d e)) H) : rEqU K v u H Q := .inr ⟨d, e, dq_dp h, dq_dp h', s1, s2, q⟩
theorem eqv_nil (ns : List Int) : PyData.eqv (.list (ns.map .int)) (.list []) = decide (ns = []) := by
  cases ns with
  | nil => rfl
  | cons n r => rfl
theorem w_neNil {p : Addr} {ns : List Int} (h : SqL K H a (ns.map V.int)) (h' : SqL K H p []) (q : Q (.bl (!decide (ns = []))) H) : rNeU K (.ref a) (.ref p) H Q :=
  w_neD (.lst h (dqs_ints ns)) (.lst h' .nil) (PySem.W.shaped_ints ns) (PySem.W.shaped_ints []) (by rw [eqv_nil]; exact q)
end
theorem atI_zero {α : Type} {x : α} {r : List α} : atI (x :: r) 0 = some x := by
  unfold atI ixN
  rw [if_pos (by decide), if_pos (by rw [List.length_cons]; omega)]
  rfl
theorem atI_one {α : Type} {x y : α} {r : List α} : atI (x :: y :: r) 1 = some y := by
  unfold atI ixN
  rw [if_pos (by decide), if_pos (by rw [List.length_cons, List.length_cons]; omega)]
  rfl
theorem ints_at {ns : List Int} {i : Nat} {x : V} (h : (ns.map V.int)[i]? = some x) : ∃ n, ns[i]? = some n ∧ x = .int n := by
  rw [List.getElem?_map] at h
  cases e : ns[i]? with
  | none => rw [e] at h; cases h
  | some n => rw [e] at h; exact ⟨n, rfl, (Option.some.inj h).symm⟩
theorem map_at {α : Type} {g : α → PyData} {l : List α} {i : Nat} {d : PyData} (h : (l.map g)[i]? = some d) : ∃ n, l[i]? = some n ∧ d = g n := by
  rw [List.getElem?_map] at h
  cases e : l[i]? with
  | none => rw [e] at h; cases h
  | some n => rw [e] at h; exact ⟨n, rfl, (Option.some.inj h).symm⟩
/-! ### the window's least width (k07) -/
def InWin (w : Int) (os : List Int) (wd bl : Int) : Prop := bl < p2 wd ∧ ∀ o ∈ os, (o + bl) % p2 w < p2 wd
structure Tight (w : Int) (os : List Int) (wd bl : Int) : Prop where
  w0 : 0 ≤ wd
  b0 : 0 ≤ bl
  win : InWin w os wd bl
  least : ∀ wd' bl', 0 ≤ wd' → 0 ≤ bl' → InWin w os wd' bl' → wd ≤ wd' ∧ (wd' = wd → bl ≤ bl')
theorem Tight.one {w : Int} {os : List Int} {wd bl wd' bl' : Int} (h : Tight w os wd bl) (h' : Tight w os wd' bl') : wd = wd' ∧ bl = bl' := by
  have a := h.least wd' bl' h'.w0 h'.b0 h'.win
  have b := h'.least wd bl h.w0 h.b0 h.win
  have e : wd = wd' := by omega
  have c := a.2 e.symm
  have d := b.2 e
  exact ⟨e, by omega⟩
theorem least_of {α : Type} (f : α → Int) : ∀ (a : α) (l : List α), ∃ m ∈ a :: l, ∀ x ∈ a :: l, f m ≤ f x
  | a, [] => ⟨a, List.mem_cons_self, fun x hx => by rw [List.mem_singleton.mp hx]; exact Int.le_refl _⟩
  | a, b :: r => by
    obtain ⟨m, hm, h⟩ := least_of f b r
    by_cases c : f a ≤ f m
    · refine ⟨a, List.mem_cons_self, fun x hx => ?_⟩
      rcases List.mem_cons.mp hx with rfl | hx
      · exact Int.le_refl _
      · exact Int.le_trans c (h x hx)
    · refine ⟨m, List.mem_cons_of_mem _ hm, fun x hx => ?_⟩
      rcases List.mem_cons.mp hx with rfl | hx
      · omega
      · exact h x hx
/-- below some place where an offset or nought begins, it is no worse -/
theorem win_cand {w : Int} {os : List Int} {wd bl : Int} (hw : wd ≤ w) (b0 : 0 ≤ bl) (h : InWin w os wd bl) : ∃ c, 0 ≤ c ∧ c ≤ bl ∧ InWin w os wd c ∧ (c = 0 ∨ ∃ o ∈ os, c = (0 - o) % p2 w) := by
  have pw := p2_pos w
  have le := p2_le hw
  have nn : ∀ x, 0 ≤ x % p2 w := fun x => Int.emod_nonneg _ (Int.ne_of_gt pw)
  obtain ⟨m, hm, hl⟩ := least_of (fun o => (o + bl) % p2 w) 0 os
  have hb : (0 + bl) % p2 w = bl := by rw [Int.zero_add]; exact Int.emod_eq_of_lt b0 (by have := h.1; omega)
  have h0 : (m + bl) % p2 w ≤ bl := by
    have z : (m + bl) % p2 w ≤ (0 + bl) % p2 w := hl 0 List.mem_cons_self
    omega
  have d0 := nn (m + bl)
  have e1 := Int.mul_ediv_add_emod (m + bl) (p2 w)
  refine ⟨bl - (m + bl) % p2 w, by omega, by omega, ⟨by have := h.1; omega, fun o ho => ?_⟩, ?_⟩
  · have e2 := Int.mul_ediv_add_emod (o + bl) (p2 w)
    have z : (m + bl) % p2 w ≤ (o + bl) % p2 w := hl o (List.mem_cons_of_mem _ ho)
    have z2 := h.2 o ho
    have lt := Int.emod_lt_of_pos (o + bl) pw
    have e3 : o + (bl - (m + bl) % p2 w) = ((o + bl) % p2 w - (m + bl) % p2 w) + p2 w * ((o + bl) / p2 w) := by omega
    rw [e3, Int.add_mul_emod_self_left, Int.emod_eq_of_lt (by omega) (by omega)]
    omega
  · rcases List.mem_cons.mp hm with rfl | hm
    · left
      omega
    · right
      refine ⟨m, hm, ?_⟩
      have e3 : 0 - m = (bl - (m + bl) % p2 w) + p2 w * (-((m + bl) / p2 w)) := by
        rw [Int.mul_neg]
        omega
      have lt := h.1
      rw [e3, Int.add_mul_emod_self_left]
      exact (Int.emod_eq_of_lt (by omega) (by omega)).symm
theorem tight_of {w : Int} {os : List Int} {wd bl : Int} (w0 : 0 ≤ wd) (hw : wd ≤ w) (b0 : 0 ≤ bl) (win : InWin w os wd bl)
    (least : ∀ wd' c, 0 ≤ wd' → wd' ≤ w → 0 ≤ c → InWin w os wd' c → (c = 0 ∨ ∃ o ∈ os, c = (0 - o) % p2 w) → wd ≤ wd' ∧ (wd' = wd → bl ≤ c)) : Tight w os wd bl := by
  refine ⟨w0, b0, win, fun wd' bl' h0 h1 hi => ?_⟩
  by_cases c : wd' ≤ w
  · obtain ⟨x, x0, x1, x2, x3⟩ := win_cand c h1 hi
    have z := least wd' x h0 c x0 x2 x3
    exact ⟨z.1, fun e => Int.le_trans (z.2 e) x1⟩
  · exact ⟨by omega, fun e => by omega⟩
end Sh
/-! texts: walked, made lists and tuples of, joined from behind -/
namespace Sh
open PySem PySem.Spec PyProof.Rows L2
/-- a text's signs, each a text -/
def chs (z : Str) : List V := z.cps.toList.map fun c => V.str ⟨#[c]⟩
theorem chs_len (z : Str) : (chs z).length = z.length := by
  unfold chs
  rw [List.length_map, Array.length_toList]
  rfl
theorem chs_vals {z : Str} {acc : Array Value} (h : ItemsOf (SignAt z) acc z.cps.size) : Vals (chs z) acc.toList := by
  refine vals_of_at ?_ fun j x u h1 h2 => ?_
  · unfold chs
    rw [List.length_map, Array.length_toList, Array.length_toList, h.1]
  · rw [Array.getElem?_toList] at h2
    obtain ⟨c, t, e1, rfl⟩ := h.2 j u h2
    unfold chs at h1
    rw [List.getElem?_map, Array.getElem?_toList, e1] at h1
    cases h1
    exact ⟨t, rfl⟩
def callor {X : Cx} {f : Value} {r r' : List V → Hp → VK → Prop} (h : CallR X f r) (h' : CallR X f r') : CallR X f (fun vs H Q => r vs H Q ∨ r' vs H Q) := by
  intro pins s σ H vs us Q I rv q
  rcases q with q | q
  · exact h pins s σ H vs us Q I rv q
  · exact h' pins s σ H vs us Q I rv q
section
variable {X : Cx}
def rListStr : List V → Hp → VK → Prop := fun vs H Q => ∃ z, vs = [.str z] ∧ z.length ≤ sizeLine ∧ ∀ p, H p = none → Q (.ref p) (upd H p (.lst (chs z)))
theorem call_listStr (hc : X.calm = true) : CallR X (.type "list") rListStr := by
  intro pins s σ H vs us Q I r h
  obtain ⟨z, rfl, hz, q⟩ := h
  obtain ⟨u, rfl, ru⟩ := vals1 r
  obtain ⟨t, rfl⟩ := ru
  refine call_list_str (I.ok.hd hc) z t (fun h' tk acc c k e hi => ?_) hz
  refine ⟨.ref s.heap.objs.size, upd H s.heap.objs.size (.lst (chs z)), I.laid (t' := tk) k (Nat.le_refl _) ⟨?_, acc.toList, c, chs_vals hi, ?_⟩, rfl, q _ (I.hok.fresh (Nat.le_refl _))⟩
  · rw [chs_len]
    exact hz
  · rw [Array.toArray_toList]
    exact e
def rTupStr : List V → Hp → VK → Prop := fun vs H Q => ∃ z, vs = [.str z] ∧ z.length ≤ sizeLine ∧ ∀ (p : Addr) (o : Obj), H p = none → o.dict = none → Q (.ref p) (upd H p (.frz o (.tup (chs z))))
theorem call_tupStr (hc : X.calm = true) : CallR X (.type "tuple") rTupStr := by
  intro pins s σ H vs us Q I r h
  obtain ⟨z, rfl, hz, q⟩ := h
  obtain ⟨u, rfl, ru⟩ := vals1 r
  obtain ⟨t, rfl⟩ := ru
  refine call_tuple_str (I.ok.hd hc) z t (fun h' tk acc k hi => ?_) hz
  have I1 : Inv X pins σ H { s with heap := h', toks := tk } := I.kept k
  have hg := Heap.get?_push_size h' (o := { cls := .type "tuple", data := .seq acc }) rfl
  refine ⟨.ref h'.objs.size, upd H h'.objs.size (.frz { cls := .type "tuple", data := .seq acc } (.tup (chs z))), I1.laid (t' := tk) (fun b o e => Heap.get?_push_of_some _ e) (Nat.le_refl _) ⟨hg, ?_, acc.toList, chs_vals hi, ⟨_, hg, rfl, ?_⟩⟩, rfl, q _ _ (I1.hok.fresh (Nat.le_refl _)) rfl⟩
  · rw [chs_len]
    exact hz
  · exact ⟨0, by rw [Array.toArray_toList]⟩
def rListU (K : PySem.W.Frag) : List V → Hp → VK → Prop := fun vs H Q => rListOf K vs H Q ∨ rListStr vs H Q
theorem u_list (hc : X.calm = true) : CallR X (.type "list") (rListU X.K) := callor call_list_of (call_listStr hc)
def rTupleU (K : PySem.W.Frag) : List V → Hp → VK → Prop := fun vs H Q => rTupleOfN K vs H Q ∨ rTupStr vs H Q
theorem u_tuple (hc : X.calm = true) : CallR X (.type "tuple") (rTupleU X.K) := callor call_tuple_ofN (call_tupStr hc)
/-- s.index(t), found -/
def rIndexS : V → List V → Hp → VK → Prop := fun x xs H Q => ∃ (a b : Str) (k : Nat), x = .str a ∧ xs = [.str b] ∧ (∃ r, Builtin.Str.occurrences a b 0 a.length 1 = k :: r) ∧ Q (.int (k : Nat)) H
theorem mt_indexS : MtR X "str.index" rIndexS := by
  intro pins s σ H x xs v us Q I rx rs h
  obtain ⟨a, b, k, rfl, rfl, ⟨r, e⟩, q⟩ := h
  obtain ⟨t, rfl⟩ := rx
  obtain ⟨u, rfl, u2, rfl⟩ := vals1 rs
  exact PySem.SC.index e ⟨.int (k : Nat), H, I.tok _, ⟨_, rfl⟩, q⟩
/-! ### sep.join(reversed(xs)) -/
theorem join_rev {prog : Program} {w : World} {A : Around} {E : Value → Shared → Prop} {s : Shared} {x : Str} {t : Tok} {Q : Value → Shared → Prop} {it l : Addr} {items : Array Value} (hh : A.handled = none)
    (hit : s.heap.IsRevIter it l ((items.size : Int) - 1)) (hl : s.heap.IsList l items) (hne : l ≠ it) (hn : items.size ≤ sizeLine)
    (hq : ∀ (h' : Heap) (acc : Array Value), (∀ b o, b ≠ it → s.heap.get? b = some o → h'.get? b = some o) → ItemsOf (fun i v => items[items.size - 1 - i]? = some v) acc items.size → ∃ k : List (Str × Tok), acc.toList = strValues k ∧ JoinOk x (k.map (·.1)) = true ∧ ∀ t' tk, Q (.str (Txt.join x (k.map (·.1))) t') { s with heap := h', toks := tk }) :
    wpAny (model prog w) A (call (.builtin "str.join") [.str x t, .ref it]) Q E s := by
  refine wpAny_call (codeAny_call_builtin F.slot_str_join.plain F.entry_str_join (F.slot_str_join.check _ _ _ _ _ _ _ _ (typeIs_str _ _ _) (F.args_str_join_2 _ _) ?_))
  rw [join_tree_other]
  refine wpAny_bind (wpAny_typeOf hit.typeIs ?_)
  show wpAny _ A.in1 ((pyIter (.ref it)).tryCatch _ >>= fun it => collect it >>= fun items => joinTail x items) _ _ s
  refine wpAny_bind (wpAny_tryCatch (wpAny_pyIter_revIter hit ?_))
  refine wpAny_bind (RT.collect_rev (A := A.in1) hh hit hl hne hn fun h' tk acc hk hacc => ?_)
  obtain ⟨k, ek, hok, hpost⟩ := hq h' acc hk hacc
  rw [ek]
  unfold JoinOk at hok
  rw [Bool.not_eq_true'] at hok
  have g : Gives (joinTail x (strValues k)) (joinMade x k) := by
    have g0 := gives_joinTail x k hok
    cases k with
    | nil => exact g0
    | cons p r => cases r with
      | nil => exact g0
      | cons q r' => exact g0
  exact g prog w A (wants Q E) _ (post_join k ⟨joinFit_length hok, fun t' tk' => hpost t' tk'⟩)
def tJoinRev (K : PySem.W.Frag) (to te : TE) : TE := fun σ H Q => to σ H fun x H1 => (∃ a, x = .str a) ∧ te σ H1 fun y H2 => ∃ (a : Str) (p : Addr) (ys : List Str), x = .str a ∧ y = .ref p ∧ SqL K H2 p (ys.map V.str) ∧ (ys.map (·.length)).sum + ys.length * a.length ≤ 16777216 ∧ Q (.str (Txt.join a ys.reverse)) H2
theorem pe_joinRev {o e : Expr} {to te : TE} {p2 pos2 apos pos : Pos} (hc : X.calm = true) (hg2 : Gl X "reversed") (hm2 : X.mg "reversed" = none) (ho : PE X o to) (he : PE X e te)
    (hs : starEach [e] X.env = (false, eval e X.env) :: starEach [] X.env := by rfl)
    (hs2 : starEach [.Call (.Name "reversed" p2) [e] [] pos2] X.env = [(false, eval (.Call (.Name "reversed" p2) [e] [] pos2) X.env)] := by rfl)
    (hbase : attributeBase o "join" X.env (eval o X.env) = eval o X.env := by rfl) (hline : (apos.endLine == pos.line) = true := by rfl) :
    PE X (.Call (.Attribute o "join" apos) [.Call (.Name "reversed" p2) [e] [] pos2] [] pos) (tJoinRev X.K to te) := by
  refine ⟨fun pins s σ H Q I h => ?_⟩
  refine PySem.Call_method1 hbase hs2 hline (thn (ho.run pins s σ H _ I h) fun v s1 z => ?_)
  obtain ⟨x, H1, I1, r1, ⟨a, rfl⟩, q1⟩ := z
  obtain ⟨t, rfl⟩ := _root_.id r1
  refine ⟨"str", _, F.plainAttrs_str, F.slot_str_join, F.type_str_join, typeIs_str _ _ _, (fun _ e => nomatch e), Calls.callWith_builtin rfl (Calls.evalArgs_plain (Calls.spliced_cons ?_))⟩
  refine Call_ (ld_blt I1 hg2 hm2 PyProof.Rows.boot_reversed (PyProof.Rows.callWith_type1 (args_cons (thn (he.run pins s1 σ H1 _ I1 q1) fun u s2 z => args_nil ?_) hs) hs rfl))
  obtain ⟨y, H2, I2, r2, a', p, ys, ea, rfl, hq, hz, q⟩ := z
  cases ea
  obtain rfl : u = Value.ref p := r2
  obtain ⟨its, rv, p', hz2⟩ := I2.list hq
  refine call_reversed_list p'.isList (Calls.spliced_nil ?_)
  have k0 : ∀ b o, s2.heap.get? b = some o → (s2.heap.push (revObj p ((its.toArray.size : Int) - 1))).get? b = some o := fun b o e => Heap.get?_push_of_some _ e
  have I3 : Inv X pins σ H2 { s2 with heap := s2.heap.push (revObj p ((its.toArray.size : Int) - 1)) } := I2.kept (t' := s2.toks) k0
  obtain ⟨f0, f1, f2, f3, f4, f5⟩ := I2.fpOk (H' := H2) (b := s2.heap.objs.size) (Nat.le_refl _) (I2.hok.fresh (Nat.le_refl _))
  have hl := p'.isList
  obtain ⟨ol, hol, _⟩ := _root_.id hl
  have hne : p ≠ s2.heap.objs.size := Nat.ne_of_lt (Heap.lt_size hol)
  have hn : its.toArray.size ≤ sizeLine := by rw [List.size_toArray, ← rv.length]; exact hz2
  refine join_rev (s := { s2 with heap := s2.heap.push (revObj p ((its.toArray.size : Int) - 1)) }) (I2.ok.hd hc) ⟨_, Heap.get?_push_size _ rfl, rfl, rfl⟩ (hl.push _) hne hn fun h' acc hk hi => ?_
  have r4 := RT.vals_rev rv hi
  rw [← List.map_reverse] at r4
  obtain ⟨k, hv, ht⟩ := strsAre_values (strs_of_vals r4)
  refine ⟨k, hv, ?_, fun t' tk => ?_⟩
  · rw [ht]
    refine joinOk_of ?_
    rw [List.map_reverse, List.sum_reverse, List.length_reverse]
    exact hz
  · rw [ht]
    exact ⟨.str _, H2, I3.turned (t' := tk) (fun b o hb e => hk b o hb e) f0 f1 f3 f4 f5, ⟨t', rfl⟩, q⟩
end
section
variable {K : PySem.W.Frag} {σ : L2.St} {H : Hp} {Q : VK} {to te : TE} {z a b : Str} {ys : List Str} {p : Addr} {tA : TA}
theorem w_joinRev (h : to σ H fun x H1 => (∃ a, x = .str a) ∧ te σ H1 fun y H2 => ∃ (a : Str) (p : Addr) (ys : List Str), x = .str a ∧ y = .ref p ∧ SqL K H2 p (ys.map V.str) ∧ (ys.map (·.length)).sum + ys.length * a.length ≤ 16777216 ∧ Q (.str (Txt.join a ys.reverse)) H2) : tJoinRev K to te σ H Q := h
theorem w_isS {R : Prop} (q : R) : (∃ c, V.str a = .str c) ∧ R := ⟨⟨a, rfl⟩, q⟩
theorem w_joinR (h : SqL K H p (ys.map V.str)) (hz : (ys.map (·.length)).sum + ys.length * a.length ≤ 16777216) (q : Q (.str (Txt.join a ys.reverse)) H) :
    ∃ (a' : Str) (p' : Addr) (ys : List Str), V.str a = .str a' ∧ V.ref p = .ref p' ∧ SqL K H p' (ys.map V.str) ∧ (ys.map (·.length)).sum + ys.length * a'.length ≤ 16777216 ∧ Q (.str (Txt.join a' ys.reverse)) H := ⟨a, p, ys, rfl, rfl, h, hz, q⟩
theorem w_listStr (h : z.length ≤ sizeLine) (q : ∀ p H', H p = none → Same H H' → H' p = some (.lst (chs z)) → Q (.ref p) H') : rListU K [.str z] H Q := .inr ⟨z, rfl, h, fun p hp => q p _ hp (same_new hp) upd_same⟩
theorem w_listUL {xs : List V} (h : SqL K H p xs) (q : ∀ p H', H p = none → Same H H' → H' p = some (.lst xs) → Q (.ref p) H') : rListU K [.ref p] H Q := .inl (w_listL h q)
theorem w_listUT {xs : List V} (h : SqT K H p xs) (q : ∀ p H', H p = none → Same H H' → H' p = some (.lst xs) → Q (.ref p) H') : rListU K [.ref p] H Q := .inl (w_listT h q)
theorem w_tupStr (h : z.length ≤ sizeLine) (q : ∀ p H', H p = none → Same H H' → TupN H' p (chs z) → Q (.ref p) H') : rTupleU K [.str z] H Q := .inr ⟨z, rfl, h, fun p o hp hd => q p _ hp (same_new hp) ⟨o, hd, upd_same⟩⟩
theorem w_tupleUN {xs : List V} (h : SqL K H p xs) (q : ∀ p H', H p = none → Same H H' → TupN H' p xs → Q (.ref p) H') : rTupleU K [.ref p] H Q := .inl (w_tupleN h q)
theorem w_tupleUT {xs : List V} (h : SqT K H p xs) (q : Q (.ref p) H) : rTupleU K [.ref p] H Q := .inl (w_tupleT h q)
theorem w_indexS {k : Nat} (h : ∃ r, Builtin.Str.occurrences a b 0 a.length 1 = k :: r) (q : Q (.int (k : Nat)) H) : rIndexS (.str a) [.str b] H Q := ⟨a, b, k, rfl, rfl, h, q⟩
abbrev rJoinU (K : PySem.W.Frag) : V → List V → Hp → VK → Prop := fun x xs H Q => ∃ a p, ∃ ys : List Str, x = .str a ∧ xs = [.ref p] ∧ (SqL K H p (ys.map V.str) ∨ SqT K H p (ys.map V.str)) ∧ (ys.map (·.length)).sum + ys.length * a.length ≤ 16777216 ∧ Q (.str (Txt.join a ys)) H
theorem w_m1 {r : V → List V → Hp → VK → Prop} (h : to σ H fun x H1 => (∃ a, x = .str a) ∧ te σ H1 fun y H2 => r x [y] H2 Q) : tM1 r to te σ H Q := h
theorem w_joinL (h : SqL K H p (ys.map V.str)) (hz : (ys.map (·.length)).sum + ys.length * a.length ≤ 16777216) (q : Q (.str (Txt.join a ys)) H) : rJoinU K (.str a) [.ref p] H Q := ⟨a, p, ys, rfl, rfl, .inl h, hz, q⟩
theorem w_joinT (h : SqT K H p (ys.map V.str)) (hz : (ys.map (·.length)).sum + ys.length * a.length ≤ 16777216) (q : Q (.str (Txt.join a ys)) H) : rJoinU K (.str a) [.ref p] H Q := ⟨a, p, ys, rfl, rfl, .inr h, hz, q⟩
theorem w_muls {n : Int} (hm : MulOk a n) (q : Q (.str (Txt.mul a n)) H) : rMulU K (.str a) (.int n) H Q := .inr (.inr (.inl ⟨a, n, rfl, rfl, hm, q⟩))
theorem w_inS {c : Nat} (q : Q (.bl (decide (c ∈ z.cps.toList))) H) : rInU K (.str ⟨#[c]⟩) (.str z) H Q := .inr ⟨c, z, rfl, rfl, q⟩
end
section
variable {K : PySem.W.Frag} {σ : L2.St} {H : Hp} {Q : VK} {te : TE} {tt : TT} {g : TG} {vs : List Nat} {tb : TS} {nx : L2.St → Hp → Prop} {rt : VK} {z : Str}
/-- [.. for c in z], z a text -/
theorem lcS (I : Nat → List V → Hp → Prop) (hst : Stb I) (hn : z.length ≤ 1000000) (hI : ∀ i acc H', I i acc H' → acc.length ≤ i) (h0 : ∀ H', Same H H' → I 0 [] H')
    (hs : ∀ i c acc H', z.cps.toList[i]? = some c → Same H H' → I i acc H' → ∀ (k : VK) (k' : Hp → Prop), (∀ y H4, Same H' H4 → I (i + 1) (acc ++ [y]) H4 → k y H4) → (∀ H3, Same H' H3 → I (i + 1) acc H3 → k' H3) →
      g (.str ⟨#[c]⟩) (wipe σ vs) H' fun σ2 H2 => wipe σ2 vs = wipe σ vs ∧ tt σ2 H2 fun b H3 => if b = true then te σ2 H3 k else k' H3)
    (hd : ∀ D acc H', H D = none → Same H H' → H' D = some (.lst acc) → I z.length acc H' → Q (.ref D) H') : LcOk (Its z) g tt te vs σ Q H :=
  lc_gen (n := z.length) I hst hn hI h0 (fun i acc H' hi _ _ => hi) (fun _ _ _ _ => Nat.le_refl _) (fun i acc x H' H'' hi s1 w1 y => by
    obtain ⟨e1, c, e2, e3⟩ := y
    subst e1
    subst e3
    exact hs i c acc _ (by rw [Array.getElem?_toList]; exact e2) s1 w1) hd
/-- for c in z, z a text -/
theorem forS (I : Nat → L2.St → Hp → Prop) (h0 : I 0 σ H)
    (hs : ∀ (i : Nat) c σ' H', z.cps.toList[i]? = some c → I i σ' H' → g (.str ⟨#[c]⟩) σ' H' fun σ2 H2 => tb ⟨I (i + 1), rt, nx, I (i + 1)⟩ σ2 H2) (hd : ∀ σ' H', I z.length σ' H' → nx σ' H') : ForOk (Its z) g tb nx rt σ H := by
  refine ⟨fun i m σ' H' => m = z.length - i ∧ i ≤ z.length ∧ I i σ' H', ⟨_, rfl, Nat.zero_le _, h0⟩, fun i m σ' H1 ⟨em, hi, w1⟩ => ?_⟩
  by_cases hlt : i < z.length
  · refine .inr ⟨hlt, I (i + 1), fun σ2 H2 w2 => ⟨_, by omega, rfl, hlt, w2⟩, fun v H2 y => ?_⟩
    obtain ⟨e1, c, e2, e3⟩ := y
    subst e1
    subst e3
    exact hs i c σ' _ (by rw [Array.getElem?_toList]; exact e2) w1
  · have e : i = z.length := by omega
    subst e
    exact .inl ⟨Nat.le_refl _, hd σ' H1 w1⟩
end
/-! ### a text's signs -/
abbrev cz (z : Str) : List Nat := z.cps.toList
theorem cz_len (z : Str) : (cz z).length = z.length := Array.length_toList
theorem cz_app (a b : Str) : cz (a ++ b) = cz a ++ cz b := by
  show (a.cps ++ b.cps).toList = _
  rw [Array.toList_append]
theorem cz_inj {a b : Str} (h : cz a = cz b) : a = b := by
  obtain ⟨x⟩ := a
  obtain ⟨y⟩ := b
  have e : x = y := Array.toList_inj.mp h
  rw [e]
theorem cz_fold (g : Array Nat) : ∀ (ys : List Str) (acc : Array Nat), (ys.foldl (fun acc p => acc ++ g ++ p.cps) acc).toList = acc.toList ++ (ys.map fun p => g.toList ++ cz p).flatten
  | [], acc => by simp
  | y :: r, acc => by
    rw [List.foldl_cons, cz_fold g r, Array.toList_append, Array.toList_append, List.map_cons, List.flatten_cons, List.append_assoc, List.append_assoc, List.append_assoc]
theorem cz_join (ys : List Str) : cz (Txt.join "" ys) = (ys.map cz).flatten := by
  cases ys with
  | nil => rfl
  | cons y r =>
    show ((r.foldl (fun acc p => acc ++ ("" : Str).cps ++ p.cps) y.cps)).toList = _
    rw [cz_fold]
    rw [List.map_cons, List.flatten_cons]
    rfl
theorem cz_mulfold (x : Array Nat) : ∀ (n : Nat) (acc : Array Nat), ((List.replicate n x).foldl (· ++ ·) acc).toList = acc.toList ++ (List.replicate n x.toList).flatten
  | 0, acc => by simp
  | n + 1, acc => by
    rw [List.replicate_succ, List.foldl_cons, cz_mulfold x n, Array.toList_append, List.replicate_succ, List.flatten_cons, List.append_assoc]
theorem cz_mul {a : Str} {n : Int} : cz (Txt.mul a n) = (List.replicate n.toNat (cz a)).flatten := by
  unfold Txt.mul
  by_cases h : n < 1
  · rw [if_pos h, show n.toNat = 0 by omega]
    rfl
  · rw [if_neg h]
    by_cases h2 : (n == 1 || a.length == 0) = true
    · rw [if_pos h2]
      rcases Bool.or_eq_true_iff.mp h2 with e | e
      · have e2 : n = 1 := eq_of_beq e
        subst e2
        show cz a = (cz a) ++ []
        rw [List.append_nil]
      · have e2 : (cz a).length = 0 := by rw [cz_len]; exact eq_of_beq e
        rw [List.eq_nil_of_length_eq_zero e2]
        simp
    · rw [if_neg h2]
      show ((List.replicate n.toNat a.cps).foldl (· ++ ·) #[]).toList = _
      rw [cz_mulfold]
      simp
theorem cz_cut (z : Str) (lo hi : Option Int) : cz (cutS z lo hi) = cutD (cz z) lo hi := by
  unfold cutS cutD
  show (List.toArray _).toList = _
  rw [List.toList_toArray, cz_len]
theorem mul_ok {a : Str} {n : Int} (h0 : 0 ≤ n) (h1 : n ≤ 1000000) (h2 : a.length ≤ 8) : MulOk a n := by
  refine ⟨by simp only [Bool.or_eq_false_iff, decide_eq_false_iff_not]; omega, fun h _ => ?_, fun _ _ => ?_⟩
  · have h3 : ((a.length : Nat) : Int) * n ≤ 8 * n := Int.mul_le_mul_of_nonneg_right (by omega) h0
    have e : ((2 : Int) ^ 63 - 1) = 9223372036854775807 := by decide
    rw [e]
    have h4 : ((a.length : Nat) : Int) ≤ 9223372036854775807 / n := Int.le_ediv_of_mul_le (by omega) (by omega)
    omega
  · unfold Builtin.Str.tooLong
    have h3 : a.length * n.toNat ≤ 8 * n.toNat := Nat.mul_le_mul_right _ h2
    rw [decide_eq_false_iff_not, sizeLine_eq]
    omega
/-! ### dicts -/
section
variable {σ : L2.St} {H : Hp} {Q : VK}
theorem w_dnewK (q : ∀ p H', H p = none → Same H H' → H' p = some (.dK []) → Q (.ref p) H') : tDNewK σ H Q := fun p hp => q p _ hp (same_new hp) upd_same
theorem w_disp1 {k : Str} {x : V} (q : ∀ p H' kvs, H p = none → Same H H' → H' p = some (.dK kvs) → Q (.ref p) H') : tDisp [(tC (.str k), tC x)] σ H Q := fun p hp =>
  ⟨upd_same, [(.inr k, x)], rfl, (by decide : 1 ≤ 15), q p _ _ hp (same_mut (same_new hp) hp) upd_same⟩
end
/-! ### numbers and their bits -/
section
variable {H : Hp} {Q : VK}
abbrev rDivmod : List V → Hp → VK → Prop := fun xs H Q => ∃ i j, xs = [V.int i, V.int j] ∧ CDivP i j ∧ ∀ p, H p = none → Q (.ref p) (upd H p (.tup [.int (i / j), .int (i % j)]))
theorem w_divmod2 {i : Int} (q : ∀ p H', H p = none → Same H H' → H' p = some (.tup [.int (i / 2), .int (i % 2)]) → Q (.ref p) H') : rDivmod [.int i, .int 2] H Q :=
  ⟨i, 2, rfl, ⟨by decide, PyProof.noPylong_small (by decide)⟩, fun p hp => q p _ hp (same_new hp) upd_same⟩
end
/-- the place's sign -/
def sgn (n : Int) (i : Nat) : Nat := 48 + (n / 2 ^ i % 2).toNat
/-- the bits, the least place first -/
def lowB (n : Int) (w : Nat) : List Nat := (List.range w).map (sgn n)
def bitsT (n : Int) (w : Nat) : Str := ⟨(lowB n w).reverse.toArray⟩
theorem cz_bitsT (n : Int) (w : Nat) : cz (bitsT n w) = (lowB n w).reverse := List.toList_toArray
theorem lowB_len (n : Int) (w : Nat) : (lowB n w).length = w := by
  unfold lowB
  rw [List.length_map, List.length_range]
theorem len_bitsT (n : Int) (w : Nat) : (bitsT n w).length = w := by rw [← cz_len, cz_bitsT, List.length_reverse, lowB_len]
theorem lowB_snoc (n : Int) (w : Nat) : lowB n (w + 1) = lowB n w ++ [sgn n w] := by
  unfold lowB
  rw [List.range_succ, List.map_append]
  rfl
theorem lowB_cons (n : Int) (w : Nat) : lowB n (w + 1) = (48 + (n % 2).toNat) :: lowB (n / 2) w := by
  unfold lowB
  rw [List.range_succ_eq_map, List.map_cons, List.map_map]
  congr 1
  · show sgn n 0 = _
    unfold sgn
    rw [Int.pow_zero, Int.ediv_one]
  · refine List.map_congr_left fun i _ => ?_
    show sgn n (i + 1) = sgn (n / 2) i
    unfold sgn
    have e : n / 2 ^ (i + 1) = n / 2 / 2 ^ i := by
      rw [Int.ediv_ediv_of_nonneg (by decide), Int.pow_succ, Int.mul_comm]
    rw [e]
theorem sgn_01 (n : Int) (i : Nat) : sgn n i = 48 ∨ sgn n i = 49 := by
  unfold sgn
  omega
theorem lowB_01 (n : Int) (w : Nat) : ∀ c ∈ lowB n w, c = 48 ∨ c = 49 := fun c hc => by
  obtain ⟨i, _, rfl⟩ := List.mem_map.mp hc
  exact sgn_01 n i
/-- the number of a row of bits, the least place first -/
def valL : List Nat → Int
  | [] => 0
  | c :: r => ((c : Int) - 48) + 2 * valL r
def numT (z : Str) : Int := valL (cz z).reverse
theorem valL_low : ∀ (w : Nat) (n : Int), 0 ≤ n → n < 2 ^ w → valL (lowB n w) = n
  | 0, n, h0, h1 => by
    have h1' : n < 1 := h1
    have e : n = 0 := by omega
    subst e
    rfl
  | w + 1, n, h0, h1 => by
    rw [Int.pow_succ] at h1
    rw [lowB_cons]
    show (((48 + (n % 2).toNat : Nat) : Int) - 48) + 2 * valL (lowB (n / 2) w) = n
    rw [valL_low w (n / 2) (by omega) (by omega)]
    omega
theorem low_valL : ∀ l : List Nat, (∀ c ∈ l, c = 48 ∨ c = 49) → lowB (valL l) l.length = l
  | [], _ => rfl
  | c :: r, h => by
    rw [List.length_cons, lowB_cons]
    have hc := h c List.mem_cons_self
    have e1 : valL (c :: r) = ((c : Int) - 48) + 2 * valL r := rfl
    have e2 : valL (c :: r) / 2 = valL r := by
      rw [e1]
      omega
    have e3 : 48 + (valL (c :: r) % 2).toNat = c := by
      rw [e1]
      omega
    rw [e2, e3, low_valL r fun x hx => h x (List.mem_cons_of_mem _ hx)]
theorem valL_snoc (c : Nat) : ∀ l : List Nat, valL (l ++ [c]) = valL l + 2 ^ l.length * ((c : Int) - 48)
  | [] => by
    show ((c : Int) - 48) + 2 * 0 = 0 + 1 * ((c : Int) - 48)
    omega
  | x :: r => by
    rw [List.cons_append, List.length_cons]
    show ((x : Int) - 48) + 2 * valL (r ++ [c]) = ((x : Int) - 48) + 2 * valL r + 2 ^ (r.length + 1) * ((c : Int) - 48)
    rw [valL_snoc c r, Int.pow_succ, Int.mul_add, Int.mul_comm (2 ^ r.length) 2, Int.mul_assoc]
    omega
theorem valL_bound : ∀ l : List Nat, (∀ c ∈ l, c = 48 ∨ c = 49) → 0 ≤ valL l ∧ valL l < 2 ^ l.length
  | [], _ => ⟨Int.le_refl _, by decide⟩
  | c :: r, h => by
    have hc := h c List.mem_cons_self
    have ih := valL_bound r fun x hx => h x (List.mem_cons_of_mem _ hx)
    have e1 : valL (c :: r) = ((c : Int) - 48) + 2 * valL r := rfl
    rw [List.length_cons, Int.pow_succ, e1]
    omega
theorem numT_bits {n : Int} {w : Nat} (h0 : 0 ≤ n) (h1 : n < 2 ^ w) : numT (bitsT n w) = n := by
  unfold numT
  rw [cz_bitsT, List.reverse_reverse]
  exact valL_low w n h0 h1
theorem bits_numT {z : Str} (h : ∀ c ∈ cz z, c = 48 ∨ c = 49) : bitsT (numT z) z.length = z := by
  refine cz_inj ?_
  rw [cz_bitsT]
  have e := low_valL (cz z).reverse fun c hc => h c (List.mem_reverse.mp hc)
  rw [List.length_reverse, cz_len] at e
  unfold numT
  rw [e, List.reverse_reverse]
theorem bits_01 {n : Int} {w : Nat} : ∀ c ∈ cz (bitsT n w), c = 48 ∨ c = 49 := fun c hc => by
  rw [cz_bitsT] at hc
  exact lowB_01 n w c (List.mem_reverse.mp hc)
theorem join_ones (l : List Nat) : Txt.join "" ((l.map fun c => (⟨#[c]⟩ : Str)).reverse) = ⟨l.reverse.toArray⟩ := by
  refine cz_inj ?_
  rw [cz_join, ← List.map_reverse, List.map_map]
  show ((l.reverse.map fun c => [c])).flatten = l.reverse.toArray.toList
  rw [List.toList_toArray]
  induction l.reverse with
  | nil => rfl
  | cons c r ih => rw [List.map_cons, List.flatten_cons, ih]; rfl
end Sh
/-! the pots that are dicts: views that count; heaps alike but for the views -/
namespace Sh
open PySem PySem.Spec PyProof.Rows L2
def noE : HO → Bool
  | .ext _ => false
  | _ => true
/-- all but the views is kept -/
structure Sx (H H' : Hp) : Prop where
  keep : ∀ a u, H a = some u → noE u = true → H' a = some u
  there : ∀ a u, H a = some u → ∃ w, H' a = some w
section
variable {K : PySem.W.Frag} {H H' H2 : Hp} {a p D : Addr} {xs : List V} {o : HO}
theorem Same.sx (e : Same H H') : Sx H H' := ⟨fun a u h _ => e a u h, fun a u h => ⟨u, e a u h⟩⟩
theorem Sx.refl (H : Hp) : Sx H H := Same.sx (Same.refl H)
theorem Sx.trans (e : Sx H H') (e' : Sx H' H2) : Sx H H2 := ⟨fun a u h hn => e'.keep a u (e.keep a u h hn) hn, fun a u h => by
  obtain ⟨w, hw⟩ := e.there a u h
  exact e'.there a w hw⟩
theorem sx_mut (e : Sx H H') (h : H p = none) : Sx H (upd H' p o) := ⟨fun a u ha hn => by
  rw [upd_ne (ne_of_none ha h)]
  exact e.keep a u ha hn, fun a u ha => by
  rw [upd_ne (ne_of_none ha h)]
  exact e.there a u ha⟩
theorem none_sx (e : Sx H H') (h : H' D = none) : H D = none := by
  cases hc : H D with
  | none => rfl
  | some u =>
    obtain ⟨w, hw⟩ := e.there _ _ hc
    rw [hw] at h
    cases h
theorem sx_l (e : Sx H H') (h : SqL K H a xs) : SqL K H' a xs := by
  rcases h with (h | ⟨o, h⟩) | h
  · exact .inl (.inl (e.keep _ _ h rfl))
  · exact .inl (.inr ⟨o, e.keep _ _ h rfl⟩)
  · exact .inr h
theorem sx_t (e : Sx H H') (h : SqT K H a xs) : SqT K H' a xs := by
  rcases h with (h | ⟨o, h⟩) | h
  · exact .inl (.inl (e.keep _ _ h rfl))
  · exact .inl (.inr ⟨o, e.keep _ _ h rfl⟩)
  · exact .inr h
theorem sx_tup (e : Sx H H') (h : TupN H a xs) : TupN H' a xs := by
  obtain ⟨o, d, h⟩ := h
  exact ⟨o, d, e.keep _ _ h rfl⟩
theorem sx_n (e : Sx H H') (h : SqN K H a xs) : SqN K H' a xs := by
  rcases h with h | h
  · exact .inl (sx_tup e h)
  · exact .inr h
end
mutual
theorem dqx {K : PySem.W.Frag} {H H' : Hp} (e : Sx H H') : ∀ {v : V} {d : PyData}, Dq K H v d → Dq K H' v d
  | _, _, .non => .non
  | _, _, .bl b => .bl b
  | _, _, .int i => .int i
  | _, _, .str x => .str x
  | _, _, .lst h r => .lst (sx_l e h) (dqsx e r)
  | _, _, .tup h r => .tup (sx_n e h) (dqsx e r)
theorem dqsx {K : PySem.W.Frag} {H H' : Hp} (e : Sx H H') : ∀ {vs : List V} {ds : List PyData}, DqAll K H vs ds → DqAll K H' vs ds
  | _, _, .nil => .nil
  | _, _, .cons h r => .cons (dqx e h) (dqsx e r)
end
/-! ### views, two at once -/
/-- p's object u is shown as one of U' -/
theorem fn_view2 {W : Wd} {mg : Str → Option Value} {base : Heap} {k : Nat} {f : Addr} {fd : FuncData} {ps : List Str} {sp sp' : Sp} (F : FnOk W.P W.w W.K mg base CX0 k f fd ps sp)
    (hl : ∀ vs H Q E, sp' vs H Q E → vs.length = ps.length)
    (h : ∀ vs H Q E, sp' vs H Q E → ∃ (p o : Addr) (U U2 U' U2' : HO → Prop), p ≠ o ∧ (∀ u, U' u → flatO u) ∧ (∀ u, U2' u → flatO u) ∧ H p = some (vw W U p) ∧ H o = some (vw W U2 o) ∧
      ∀ u u2, U u → U2 u2 → sp vs (upd (upd H p u) o u2) (fun v H' => ∃ u' u2', U' u' ∧ U2' u2' ∧ H' p = some u' ∧ H' o = some u2' ∧ Q v (upd (upd H' p (vw W U' p)) o (vw W U2' o))) E) :
    FnOk W.P W.w W.K mg base CX0 k f fd ps sp' := by
  refine ⟨hl, fun A outer s H args us vs Q E hr e0 hb hv hs => ?_⟩
  obtain ⟨p, o, U, U2, U', U2', hpo, f1, f2, hp, ho, k⟩ := h _ _ _ _ hs
  obtain ⟨u, hu, hf, hok⟩ := hok_open e0.hok hp
  have ho1 : upd H p u o = some (vw W U2 o) := by
    rw [upd_ne (Ne.symm hpo)]
    exact ho
  obtain ⟨u2, hu2, hf2, hok2⟩ := hok_open hok ho1
  have np : ∀ b, H b = none → upd (upd H p u) o u2 b = none := fun b e => by
    have nb : b ≠ p := fun z => by
      rw [z, hp] at e
      cases e
    have nb2 : b ≠ o := fun z => by
      rw [z, ho] at e
      cases e
    rw [upd_ne nb2, upd_ne nb]
    exact e
  have e1 : Env0 W.P W.w W.K mg base A outer s (upd (upd H p u) o u2) := ⟨e0.frames, e0.mod, fun b ob q => ⟨(e0.bs b ob q).1, np b (e0.bs b ob q).2⟩, e0.bsz, e0.funs, fun b q => np b (e0.frf b q), hok2, e0.bare⟩
  refine codeAny_mono (F.run A outer s (upd (upd H p u) o u2) args us vs _ E hr e1 hb hv (k u u2 hu hu2)) fun r s' q => ?_
  cases r with
  | error e => exact q
  | ok fl =>
    cases fl with
    | ret v =>
      obtain ⟨v1, H', q1, q2, q3, q4, q5, u', u2', hu', hu2', hp', ho', q6⟩ := q
      have ho'2 : upd H' p (vw W U' p) o = some u2' := by
        rw [upd_ne (Ne.symm hpo)]
        exact ho'
      refine ⟨v1, _, q1, q2, ?_, hok_seal (hok_seal q4 hp' hu' (f1 _ hu')) ho'2 hu2' (f2 _ hu2'), q5, q6⟩
      have q7 := un_seal (W := W) (U := U2') (un_seal (W := W) (U := U') q3 hp' (f1 _ hu')) ho'2 (f2 _ hu2')
      exact un_open (un_open q7 ho1) hp
    | next => exact q
    | brk => exact q
    | cont => exact q
theorem fn_seal2 {W : Wd} {mg : Str → Option Value} {base : Heap} {k : Nat} {f : Addr} {fd : FuncData} {ps : List Str} {sp sp' : Sp} (F : FnOk W.P W.w W.K mg base CX0 k f fd ps sp)
    (hl : ∀ vs H Q E, sp' vs H Q E → vs.length = ps.length)
    (h : ∀ vs H Q E, sp' vs H Q E → sp vs H (fun v H' => ∃ (p o : Addr) (U' U2' : HO → Prop) (u' u2' : HO), p ≠ o ∧ (∀ u, U' u → flatO u) ∧ (∀ u, U2' u → flatO u) ∧ U' u' ∧ U2' u2' ∧ H' p = some u' ∧ H' o = some u2' ∧ Q v (upd (upd H' p (vw W U' p)) o (vw W U2' o))) E) :
    FnOk W.P W.w W.K mg base CX0 k f fd ps sp' := by
  refine ⟨hl, fun A outer s H args us vs Q E hr e0 hb hv hs => ?_⟩
  refine codeAny_mono (F.run A outer s H args us vs _ E hr e0 hb hv (h _ _ _ _ hs)) fun r s' q => ?_
  cases r with
  | error e => exact q
  | ok fl =>
    cases fl with
    | ret v =>
      obtain ⟨v1, H', q1, q2, q3, q4, q5, p, o, U', U2', u', u2', hpo, f1, f2, hu', hu2', hp', ho', q6⟩ := q
      have ho'2 : upd H' p (vw W U' p) o = some u2' := by
        rw [upd_ne (Ne.symm hpo)]
        exact ho'
      exact ⟨v1, _, q1, q2, un_seal (W := W) (U := U2') (un_seal (W := W) (U := U') q3 hp' (f1 _ hu')) ho'2 (f2 _ hu2'), hok_seal (hok_seal q4 hp' hu' (f1 _ hu')) ho'2 hu2' (f2 _ hu2'), q5, q6⟩
    | next => exact q
    | brk => exact q
    | cont => exact q
/-! ### the pot -/
/-- the dict: with or without the entry left -/
def boxKV (b : Bool) (o : Addr) (l s t : Int) : List (Key × V) :=
  match b with
  | false => [(.inr "own", .ref o), (.inr "seed", .int s), (.inr "turn", .int t)]
  | true => [(.inr "own", .ref o), (.inr "left", .int l), (.inr "seed", .int s), (.inr "turn", .int t)]
def BoxU (b : Bool) (o : Addr) (n : Int) : HO → Prop := fun u => ∃ l s t : Int, u = .dK (boxKV b o l s t) ∧ 0 ≤ l ∧ 0 ≤ s ∧ s < 2305843009213693952 ∧ 0 ≤ t ∧ t ≤ n
def OwnU : HO → Prop := fun u => ∃ ns : List Int, u = .lst (ns.map V.int) ∧ ∀ x ∈ ns, 0 ≤ x
theorem box_flat {b : Bool} {o : Addr} {n : Int} : ∀ u, BoxU b o n u → flatO u := fun u ⟨_, _, _, e, _⟩ => by
  rw [e]
  trivial
theorem own_flat : ∀ u, OwnU u → flatO u := fun u ⟨_, e, _⟩ => by
  rw [e]
  trivial
/-- the pot, of which at most n turns were drawn -/
def BoxAt (W : Wd) (b : Bool) (n : Int) (H : Hp) (v : V) : Prop := ∃ (p o : Addr) (k : Int), v = .ref p ∧ p ≠ o ∧ k ≤ n ∧ H p = some (vw W (BoxU b o k) p) ∧ H o = some (vw W OwnU o)
section
variable {W : Wd} {b : Bool} {n m : Int} {H H' : Hp} {v : V} {D : Addr} {ys : List V} {ob : HO}
theorem box_mono (e : Same H H') (h : BoxAt W b n H v) : BoxAt W b n H' v := by
  obtain ⟨p, o, k, rfl, hpo, hk, hp, ho⟩ := h
  exact ⟨p, o, k, rfl, hpo, hk, e _ _ hp, e _ _ ho⟩
theorem box_le (h : n ≤ m) (q : BoxAt W b n H v) : BoxAt W b m H v := by
  obtain ⟨p, o, k, rfl, hpo, hk, hp, ho⟩ := q
  exact ⟨p, o, k, rfl, hpo, Int.le_trans hk h, hp, ho⟩
theorem box_lst (h : BoxAt W b n H v) (e : H D = some (.lst ys)) : BoxAt W b n (upd H D ob) v := by
  obtain ⟨p, o, k, rfl, hpo, hk, hp, ho⟩ := h
  refine ⟨p, o, k, rfl, hpo, hk, ?_, ?_⟩
  · rw [upd_ne fun z => by rw [z, e] at hp; cases hp]
    exact hp
  · rw [upd_ne fun z => by rw [z, e] at ho; cases ho]
    exact ho
end
/-! ### dicts, read and written -/
theorem pe_dgetU {X : Cx} {o i : Expr} {td ty : TE} {pos : Pos} (hu : X.A.units + 64 < cLine) (ho : PE X o td) (hi : PE X i ty) (hs : NoSl i) : PE X (.Subscript o i pos) (tDGet td ty) := pe_dget (Nat.lt_of_le_of_lt (Nat.add_le_add_left (by decide) _) hu) ho hi hs
section
variable {K : PySem.W.Frag} {σ : L2.St} {H : Hp} {Q : VK} {a : Addr} {kvs : List (Key × V)} {z : Str} {x v : V} {td ty : TE} {xs : List V}
def DG (Q : VK) (x y : V) (H : Hp) : Prop := ∃ a v, x = .ref a ∧ DGet H a y (some v) ∧ Q v H
theorem w_dget (h : td σ H fun x H1 => ty σ H1 fun y H2 => DG Q x y H2) : tDGet td ty σ H Q := h
theorem w_dgs (h : H a = some (.dK kvs)) (e : valV kvs (.inr z) = some v) (q : Q v H) : DG Q (.ref a) (.str z) H := ⟨a, v, rfl, by rw [← e]; exact DGet.k (k := .inr z) h, q⟩
theorem w_dputs {k : Hp → Prop} (h : H a = some (.dK kvs)) (hl : kvs.length < 1000) (q : k (upd H a (.dK (putK kvs (.inr z) v)))) : rSetU (.ref a) (.str z) v H k :=
  .inr ⟨a, _, rfl, DPut.k (k := .inr z) h (Nat.lt_trans hl (by decide)), q⟩
theorem w_pop0 {y : V} (h : H a = some (.lst (y :: xs))) (q : Q y (upd H a (.lst xs))) : rPopAt (.ref a) [.int 0] H Q := ⟨a, _, 0, 0, y, rfl, rfl, h, by decide, by decide, by
  unfold seqIndex?
  rw [List.length_cons]
  simp, rfl, q⟩
end
section
variable {K : PySem.W.Frag} {H : Hp} {Q : VK} {a : Addr} {ns : List Int} {lo hi : Option Int}
theorem w_slLi (h : SqL K H a (ns.map V.int)) (q : ∀ p H', H p = none → Same H H' → H' p = some (.lst ((cutD ns lo hi).map V.int)) → Q (.ref p) H') : rSlU K (.ref a) lo hi H Q :=
  .inr (.inr ⟨a, _, rfl, h, fun p hp => q p _ hp (same_new hp) (by
    have e : cutV (ns.map V.int) lo hi = (cutD ns lo hi).map V.int := by
      unfold cutV cutD
      rw [List.length_map, List.map_take, List.map_drop]
    rw [upd_same, e])⟩)
theorem cutD_len {α : Type} {xs : List α} {lo hi : Option Int} : (cutD xs lo hi).length ≤ xs.length := by
  unfold cutD
  rw [List.length_take, List.length_drop]
  omega
end
section
variable {σ : L2.St} {H : Hp} {Q : VK}
def DB (Q : VK) (p : Addr) (ps : List (V × V)) (H3 : Hp) : Prop := H3 p = some (.dK []) ∧ ∃ kvs : List (Key × V), ps = kvs.map (fun kv => (kV kv.1, kv.2)) ∧ kvs.length ≤ 15 ∧ Q (.ref p) (upd H3 p (.dK (mergeK [] kvs)))
theorem w_disp {trs : List (TE × TE)} (h : ∀ p, H p = none → tPairs trs σ (upd H p (.dK [])) fun ps H2 => DB Q p ps H2) : tDisp trs σ H Q := h
theorem w_pairs {tk tv : TE} {r : List (TE × TE)} {F : List (V × V) → Hp → Prop} (h : tk σ H fun x H1 => tv σ H1 fun y H2 => tPairs r σ H2 fun ps H3 => F ((x, y) :: ps) H3) : tPairs ((tk, tv) :: r) σ H F := h
theorem w_pnil {F : List (V × V) → Hp → Prop} (h : F [] H) : tPairs [] σ H F := h
theorem w_DB3 {p : Addr} {x1 x2 x3 : V} (h : H p = some (.dK [])) (q : Q (.ref p) (upd H p (.dK [(.inr "own", x1), (.inr "seed", x2), (.inr "turn", x3)]))) : DB Q p [(.str "own", x1), (.str "seed", x2), (.str "turn", x3)] H :=
  ⟨h, [(.inr "own", x1), (.inr "seed", x2), (.inr "turn", x3)], rfl, (by decide : 3 ≤ 15), q⟩
theorem w_DB4 {p : Addr} {x1 x2 x3 x4 : V} (h : H p = some (.dK [])) (q : Q (.ref p) (upd H p (.dK [(.inr "own", x1), (.inr "left", x2), (.inr "seed", x3), (.inr "turn", x4)]))) : DB Q p [(.str "own", x1), (.str "left", x2), (.str "seed", x3), (.str "turn", x4)] H :=
  ⟨h, [(.inr "own", x1), (.inr "left", x2), (.inr "seed", x3), (.inr "turn", x4)], rfl, (by decide : 4 ≤ 15), q⟩
end
/-! ### is -/
def rIsU : R2 := fun x y H Q => rIsN x y H Q ∨ rIsB x y H Q
theorem u_is {X : Cx} : OpR X (compareOp .Is) rIsU := opor op_isN1 op_isBl
def rIsNotU : R2 := fun x y H Q => rNotN x y H Q ∨ rNotB x y H Q
theorem u_isnot {X : Cx} : OpR X (compareOp .IsNot) rIsNotU := opor op_notN1 op_notBl
section
variable {H : Hp} {Q : VK} {x : V} {a b : Bool}
theorem w_isN (q : Q (.bl (decide (x = .non))) H) : rIsU x .non H Q := .inl ⟨rfl, q⟩
theorem w_isB (q : Q (.bl (decide (a = b))) H) : rIsU (.bl a) (.bl b) H Q := .inr ⟨a, b, rfl, rfl, q⟩
theorem w_notN (q : Q (.bl (!decide (x = .non))) H) : rIsNotU x .non H Q := .inl ⟨rfl, q⟩
theorem w_notB (q : Q (.bl (!decide (a = b))) H) : rIsNotU (.bl a) (.bl b) H Q := .inr ⟨a, b, rfl, rfl, q⟩
end
/-- simple data of so many floors -/
def PlD : Nat → PyData → Prop
  | _, .none => True
  | _, .int _ => True
  | _, .str _ => True
  | n + 1, .tuple ds => ds.length ≤ 1000 ∧ ∀ d ∈ ds, PlD n d
  | _, _ => False
/-! ### constants -/
theorem u_mulc {X : Cx} {a b c : Int} (hc : CMulW a b) (h : a * b = c) : OpR X (binaryOp .Mult) (rCon a b c) := by
  intro pins s σ H x y v u Q I rx ry q
  obtain ⟨rfl, rfl, q⟩ := q
  exact op_mulW pins s σ H _ _ v u Q I rx ry ⟨a, b, rfl, rfl, hc, by show Q (V.int (a * b)) H; rw [h]; exact q⟩
/-! ### loops and comprehensions that draw -/
section
variable {K : PySem.W.Frag} {σ : L2.St} {H : Hp} {Q : VK} {te : TE} {tt : TT} {g : TG} {vs : List Nat} {n : Nat}
theorem lc_genX {J : It} (I : Nat → List V → Hp → Prop) (hst : Stb I) (hn : n ≤ 1000000) (hI : ∀ i acc H', I i acc H' → acc.length ≤ i) (h0 : ∀ H', Same H H' → I 0 [] H')
    (hgo : ∀ i acc H', i < n → Sx H H' → I i acc H' → J.go i H') (hstop : ∀ acc H', Sx H H' → I n acc H' → J.stop n H')
    (hs : ∀ i acc x H' H'', i < n → Sx H H' → I i acc H' → J.yld i H' x H'' → ∀ (k : VK) (k' : Hp → Prop), (∀ y H4, Sx H' H4 → I (i + 1) (acc ++ [y]) H4 → k y H4) → (∀ H3, Sx H' H3 → I (i + 1) acc H3 → k' H3) →
      g x (wipe σ vs) H'' fun σ2 H2 => wipe σ2 vs = wipe σ vs ∧ tt σ2 H2 fun b H3 => if b = true then te σ2 H3 k else k' H3)
    (hd : ∀ D acc H', H D = none → Sx H H' → H' D = some (.lst acc) → I n acc H' → Q (.ref D) H') : LcOk J g tt te vs σ Q H := fun D hD => by
  refine ⟨fun i m H' => m = n - i ∧ i ≤ n ∧ ∃ acc, Sx H H' ∧ H' D = some (.lst acc) ∧ I i acc H', ⟨n, by omega, by omega, [], Same.sx (same_new hD), upd_same, h0 _ (same_new hD)⟩, fun i m H1 ⟨em, hi, acc, s1, hD1, w1⟩ => ?_⟩
  by_cases hlt : i < n
  · refine .inr ⟨hgo i acc H1 hlt s1 w1, fun H' => i + 1 ≤ n ∧ ∃ acc, Sx H H' ∧ H' D = some (.lst acc) ∧ I (i + 1) acc H', fun H' ⟨a, b⟩ => ⟨n - (i + 1), by omega, rfl, a, b⟩, fun x H' y => ?_⟩
    refine hs i acc x H1 H' hlt s1 w1 y _ _ (fun y H4 s4 w4 => ⟨acc, s4.keep _ _ hD1 rfl, ?_, hlt, _, sx_mut (s1.trans s4) hD, upd_same, hst _ _ _ _ _ _ (s4.keep _ _ hD1 rfl) w4⟩) fun H3 s3 w3 => ⟨hlt, acc, s1.trans s3, s3.keep _ _ hD1 rfl, w3⟩
    have l1 := hI i acc H1 w1
    exact Nat.lt_of_le_of_lt (m := 1000000) (by omega) (by decide)
  · have e : i = n := by omega
    subst e
    exact .inl ⟨hstop acc H1 s1 w1, hd D acc H1 hD s1 hD1 w1⟩
theorem lcRX (I : Nat → List V → Hp → Prop) (hst : Stb I) (hn : n ≤ 1000000) (hI : ∀ i acc H', I i acc H' → acc.length ≤ i) (h0 : ∀ H', Same H H' → I 0 [] H')
    (hs : ∀ (i : Nat) acc H', i < n → Sx H H' → I i acc H' → ∀ (k : VK) (k' : Hp → Prop), (∀ y H4, Sx H' H4 → I (i + 1) (acc ++ [y]) H4 → k y H4) → (∀ H3, Sx H' H3 → I (i + 1) acc H3 → k' H3) →
      g (.int (i : Int)) (wipe σ vs) H' fun σ2 H2 => wipe σ2 vs = wipe σ vs ∧ tt σ2 H2 fun b H3 => if b = true then te σ2 H3 k else k' H3)
    (hd : ∀ D acc H', H D = none → Sx H H' → H' D = some (.lst acc) → I n acc H' → Q (.ref D) H') : LcOk (Itr 0 n) g tt te vs σ Q H :=
  lc_genX I hst hn hI h0 (fun _ _ _ h _ _ => h) (fun _ _ _ _ => Nat.le_refl _) (fun i acc x H' H'' hi s1 w1 y => by
    obtain ⟨e1, e2⟩ := y
    rw [Int.zero_add] at e2
    subst e1
    subst e2
    exact hs i acc _ hi s1 w1) hd
theorem lcLX {a : Addr} {xs : List V} (hx : SqL K H a xs) (I : Nat → List V → Hp → Prop) (hst : Stb I) (hn : xs.length ≤ 1000000) (hI : ∀ i acc H', I i acc H' → acc.length ≤ i) (h0 : ∀ H', Same H H' → I 0 [] H')
    (hs : ∀ i x acc H', xs[i]? = some x → Sx H H' → I i acc H' → ∀ (k : VK) (k' : Hp → Prop), (∀ y H4, Sx H' H4 → I (i + 1) (acc ++ [y]) H4 → k y H4) → (∀ H3, Sx H' H3 → I (i + 1) acc H3 → k' H3) →
      g x (wipe σ vs) H' fun σ2 H2 => wipe σ2 vs = wipe σ vs ∧ tt σ2 H2 fun b H3 => if b = true then te σ2 H3 k else k' H3)
    (hd : ∀ D acc H', H D = none → Sx H H' → H' D = some (.lst acc) → I xs.length acc H' → Q (.ref D) H') : LcOk (Itl K a) g tt te vs σ Q H :=
  lc_genX I hst hn hI h0 (fun i acc H' hi s1 _ => ⟨xs, xs[i], sx_l s1 hx, List.getElem?_eq_getElem hi⟩) (fun _ _ s1 _ => ⟨xs, sx_l s1 hx, Nat.le_refl _⟩) (fun i acc x H' H'' hi s1 w1 y => by
    obtain ⟨e1, e2⟩ := y
    subst e1
    exact hs i x acc _ (e2 xs (sx_l s1 hx)) s1 w1) hd
theorem lcTX {a : Addr} {xs : List V} (hx : SqT K H a xs) (I : Nat → List V → Hp → Prop) (hst : Stb I) (hn : xs.length ≤ 1000000) (hI : ∀ i acc H', I i acc H' → acc.length ≤ i) (h0 : ∀ H', Same H H' → I 0 [] H')
    (hs : ∀ i x acc H', xs[i]? = some x → Sx H H' → I i acc H' → ∀ (k : VK) (k' : Hp → Prop), (∀ y H4, Sx H' H4 → I (i + 1) (acc ++ [y]) H4 → k y H4) → (∀ H3, Sx H' H3 → I (i + 1) acc H3 → k' H3) →
      g x (wipe σ vs) H' fun σ2 H2 => wipe σ2 vs = wipe σ vs ∧ tt σ2 H2 fun b H3 => if b = true then te σ2 H3 k else k' H3)
    (hd : ∀ D acc H', H D = none → Sx H H' → H' D = some (.lst acc) → I xs.length acc H' → Q (.ref D) H') : LcOk (Itt K a) g tt te vs σ Q H :=
  lc_genX I hst hn hI h0 (fun i acc H' hi s1 _ => ⟨xs, xs[i], sx_t s1 hx, List.getElem?_eq_getElem hi⟩) (fun _ _ s1 _ => ⟨xs, sx_t s1 hx, Nat.le_refl _⟩) (fun i acc x H' H'' hi s1 w1 y => by
    obtain ⟨e1, e2⟩ := y
    subst e1
    exact hs i x acc _ (e2 xs (sx_t s1 hx)) s1 w1) hd
end
section
variable {K : PySem.W.Frag} {σ : L2.St} {H : Hp} {tb : TS} {nx : L2.St → Hp → Prop} {rt : VK} {a : Addr} {xs : List V} {i1 i2 : Nat}
/-- for place, item in enumerate(a tuple) -/
theorem forET2 (I : Nat → L2.St → Hp → Prop) (h0 : I 0 σ H) (hI : ∀ i σ' H', I i σ' H' → SqT K H' a xs)
    (hs : ∀ (i : Nat) x σ' H', xs[i]? = some x → I i σ' H' → ∀ H2, Same H' H2 → tb ⟨I (i + 1), rt, nx, I (i + 1)⟩ ((σ'.set i1 (some (.int (i : Int)))).set i2 (some x)) H2) (hd : ∀ σ' H', I xs.length σ' H' → nx σ' H') :
    ForOk (IteT K a) (gTup K 2 (gCons (gName i1) (gCons (gName i2) gNil))) tb nx rt σ H := by
  refine ⟨fun i m σ' H' => m = xs.length - i ∧ i ≤ xs.length ∧ I i σ' H', ⟨_, rfl, Nat.zero_le _, h0⟩, fun i m σ' H1 ⟨em, hi, w1⟩ => ?_⟩
  have s1 := hI _ _ _ w1
  by_cases hlt : i < xs.length
  · refine .inr ⟨⟨xs, xs[i], s1, List.getElem?_eq_getElem hlt⟩, I (i + 1), fun σ2 H2 w2 => ⟨_, by omega, rfl, hlt, w2⟩, fun v H2 y => ?_⟩
    obtain ⟨T, x, rfl, hT, rfl, hy⟩ := y
    have ex := hy xs s1
    exact ⟨T, _, rfl, SqT.of upd_same, rfl, _, _, rfl, _, _, rfl, rfl, hs i x σ' H1 ex w1 _ (same_new hT)⟩
  · have e : i = xs.length := by omega
    subst e
    exact .inl ⟨⟨xs, s1, Nat.le_refl _⟩, hd σ' H1 w1⟩
end
end Sh
/-! forms; what is of what kind -/
namespace Sh
open PySem PySem.Spec PyProof.Rows L2
theorem dvd_oddF {c : Int} (hc : c % 2 = 1) : ∀ (n : Nat) (x : Int), (2 : Int) ^ n ∣ c * x → (2 : Int) ^ n ∣ x
  | 0, x, _ => by simp
  | n + 1, x, h => by
    obtain ⟨k, hk⟩ := h
    have e0 : (2 : Int) ^ (n + 1) = 2 * 2 ^ n := by rw [Int.pow_succ, Int.mul_comm]
    rw [e0, Int.mul_assoc] at hk
    have hx : x % 2 = 0 := by
      have z : (c * x) % 2 = 0 := by rw [hk]; exact Int.mul_emod_right 2 _
      rw [Int.mul_emod, hc] at z
      omega
    obtain ⟨y, rfl⟩ : ∃ y, x = 2 * y := ⟨x / 2, by omega⟩
    have h2 : (2 : Int) ^ n ∣ c * y := ⟨k, by
      have z : c * (2 * y) = 2 * (c * y) := by rw [← Int.mul_assoc, Int.mul_comm c 2, Int.mul_assoc]
      omega⟩
    obtain ⟨w, hw⟩ := dvd_oddF hc n y h2
    exact ⟨w, by rw [hw, e0, Int.mul_assoc]⟩
theorem turn_neF {b f c i j : Int} (hc : c % 2 = 1) (h0 : 0 ≤ i) (h1 : i < j) (h2 : j < p2 b) (e : (f + c * i) % p2 b = (f + c * j) % p2 b) : False := by
  have hd : p2 b ∣ c * (j - i) := by
    have z : (f + c * j) - (f + c * i) = c * (j - i) := by
      rw [Int.mul_sub]
      omega
    rw [← z]
    exact Int.dvd_of_emod_eq_zero (Int.emod_eq_emod_iff_emod_sub_eq_zero.mp e.symm)
  have h3 := dvd_oddF hc b.toNat _ hd
  have h4 := Int.le_of_dvd (by omega) h3
  have h5 : p2 b = 2 ^ b.toNat := rfl
  omega
inductive Wy where
  | keep
  | whole
  | low (w l : Int)
def wyD : Wy → PyData
  | .keep => .tuple [.str "keep"]
  | .whole => .tuple [.str "whole"]
  | .low w l => .tuple [.str "low", .int w, .int l]
structure Fm where
  r : Int
  c : Int
  ws : List Wy
def fmD (f : Fm) : PyData := .tuple [.int f.r, .int f.c, .tuple (f.ws.map wyD)]
def OkWy (b : Int) : Wy → Prop
  | .keep => True
  | .whole => True
  | .low w l => 1 ≤ w ∧ w ≤ b ∧ 0 ≤ l ∧ l < p2 w
structure OkFm (s : Shp) (f : Fm) : Prop where
  r0 : 1 ≤ f.r
  r1 : f.r ≤ 40
  c0 : 1 ≤ f.c
  c1 : f.c ≤ 40
  len : f.ws.length = s.fs.length
  ok : ∀ (i : Nat) w fd, f.ws[i]? = some w → s.fs[i]? = some fd → OkWy fd.br w
theorem tupO_wy (w : Wy) : tupO (wyD w) := by
  cases w <;> simp [wyD, tupO, tupOs]
theorem tupO_wys (ws : List Wy) : tupOs (ws.map wyD) := tupOs_of fun d hd => by
  obtain ⟨n, _, rfl⟩ := List.mem_map.mp hd
  exact tupO_wy n
theorem tupO_fm (f : Fm) : tupO (fmD f) := ⟨trivial, trivial, tupO_wys _, trivial⟩
/-- a whole number from lo to hi -/
def betwD (lo hi : Int) : PyData → Bool
  | .int i => decide (lo ≤ i) && decide (i ≤ hi)
  | _ => false
def lowD (b : Int) (s : Str) (d1 d2 : PyData) : Bool := decide (s = "low") && (betwD 1 b d1 && match d1 with
  | .int w => betwD 0 (p2 w - 1) d2
  | _ => false)
def wayD (b : Int) : PyData → Bool
  | .tuple [.str s, d1, d2] => lowD b s d1 d2
  | .tuple [.str s] => decide (s = "keep") || decide (s = "whole")
  | _ => false
def formD (s : Shp) : PyData → Bool
  | .tuple [d0, d1, .tuple ws] => betwD 1 40 d0 && (betwD 1 40 d1 && (decide (ws.length = s.fs.length) && (s.fs.zip ws).all fun fw => wayD fw.1.br fw.2))
  | _ => false
theorem betw_ok {lo hi i : Int} (h0 : lo ≤ i) (h1 : i ≤ hi) : betwD lo hi (.int i) = true := by
  show (decide (lo ≤ i) && decide (i ≤ hi)) = true
  rw [decide_eq_true h0, decide_eq_true h1]
  rfl
theorem way_ok {b : Int} {w : Wy} (h : OkWy b w) : wayD b (wyD w) = true := by
  cases w with
  | keep => rfl
  | whole => rfl
  | low w l =>
    obtain ⟨h0, h1, h2, h3⟩ := h
    show (decide (("low" : Str) = "low") && (betwD 1 b (.int w) && betwD 0 (p2 w - 1) (.int l))) = true
    rw [betw_ok h0 h1, betw_ok h2 (by omega), decide_eq_true rfl]
    rfl
theorem form_ok {s : Shp} {f : Fm} (h : OkFm s f) : formD s (fmD f) = true := by
  show (betwD 1 40 (.int f.r) && (betwD 1 40 (.int f.c) && (decide ((f.ws.map wyD).length = s.fs.length) && (s.fs.zip (f.ws.map wyD)).all fun fw => wayD fw.1.br fw.2))) = true
  rw [betw_ok h.r0 h.r1, betw_ok h.c0 h.c1, decide_eq_true (by rw [List.length_map]; exact h.len)]
  simp only [Bool.true_and]
  rw [List.all_eq_true]
  intro fw hfw
  obtain ⟨i, hi⟩ := List.getElem?_of_mem hfw
  obtain ⟨e1, e2⟩ := List.getElem?_zip_eq_some.mp hi
  rw [List.getElem?_map] at e2
  cases ew : f.ws[i]? with
  | none => rw [ew] at e2; cases e2
  | some w =>
    rw [ew] at e2
    rw [← Option.some.inj e2]
    exact way_ok (h.ok i w fw.1 ew e1)
section
variable {K : PySem.W.Frag} {H : Hp} {Q : VK} {a : Addr} {z : Str} {zs : List Str}
theorem inV_strs (z : Str) : ∀ zs : List Str, inV (.str z) (zs.map V.str) = zs.any fun y => decide (y = z)
  | [] => rfl
  | m :: r => by
    have e := inV_strs z r
    unfold inV at e ⊢
    rw [List.map_cons, List.any_cons, e, List.any_cons]
    have e2 : (m == z) = decide (m = z) := by
      by_cases h : m = z
      · subst h
        simp
      · simp [h]
    show (m == z || _) = _
    rw [e2]
theorem w_inTs (h : SqT K H a (zs.map V.str)) (q : Q (.bl (zs.any fun y => decide (y = z))) H) : rInU K (.str z) (.ref a) H Q :=
  .inl ⟨a, _, rfl, .inr h, rfl, (by
    rw [List.all_map]
    exact List.all_eq_true.mpr fun _ _ => rfl), by
    rw [inV_strs]
    exact q⟩
end
end Sh
/-! t * n of a tuple: the new one has no dict -/
namespace ShT
open PySem PySem.Spec PyProof.Rows L2
theorem tuple_mul1 (l : Addr) (items : Array Value) (n : Nat) (dd : Option Addr) (sl : Array (Option Value)) (u : Tok) :
    Meets (Builtin.«tuple.__mul__» ⟨[.ref l, .int 1 u], []⟩) (fun _ R s => s.heap.get? l = some { cls := .type "tuple", dict := dd, data := .seq items n, slots := sl } ∧ R (.ok (.ret (Value.ref l))) s) :=
  .of_wp fun prog w A R s h => by
    obtain ⟨hp, g, d, tk, os⟩ := s
    obtain ⟨hl, h⟩ := h
    have f1 := AutoSeq1.idx_int
    have c0 : (decide ((1 : Int) < -(2 ^ 63)) || decide ((1 : Int) ≥ 2 ^ 63)) = false := by decide
    have c1 : (items.isEmpty || (1 : Int) == 1) = true := by rw [show ((1 : Int) == 1) = true from rfl, Bool.or_true]
    wp_walk using PySem.AutoSeq1.wpAny_loadPart' hl
    repeat (first
      | (refine wpAny_ite_false (decide_eq_false (by rw [c0]; exact Bool.false_ne_true)) ?_; wp_walk using PySem.AutoSeq1.wpAny_loadPart' hl)
      | (refine wpAny_ite_true (decide_eq_true c1) ?_; wp_walk using PySem.AutoSeq1.wpAny_loadPart' hl))
    exact ⟨_, rfl, h⟩
end ShT
namespace Sh
open PySem PySem.Spec PyProof.Rows L2
def rRepN (K : PySem.W.Frag) : R2 := fun x y H Q => ∃ l k xs, x = .ref l ∧ y = .int k ∧ SqT K H l xs ∧ xs ≠ [] ∧ 1 ≤ k ∧ k ≤ 1000 ∧ xs.length ≤ 1000 ∧ (k = 1 → Q (.ref l) H) ∧ (2 ≤ k → ∀ (p : Addr) (o : Obj), H p = none → o.dict = none → Q (.ref p) (upd H p (.frz o (.tup (List.replicate k.toNat xs).flatten))))
theorem op_repN {X : Cx} : OpR X (binaryOp .Mult) (rRepN X.K) := by
  intro pins s σ H x y v u Q I rx ry h
  obtain ⟨l, k, xs, rfl, rfl, hT, hne, h1, h2, hz, q1, q2⟩ := h
  cases rx
  obtain ⟨t, rfl⟩ := ry
  obtain ⟨its, r, ⟨⟨cls, dd, data, sl⟩, ho, hc, n, hd⟩, hs⟩ := I.tuple hT
  simp only at hc hd
  subst hc hd
  have hle : its.length = xs.length := r.length.symm
  have hn : its ≠ [] := fun e => hne (by
    rw [e] at hle
    exact List.eq_nil_of_length_eq_zero hle.symm)
  by_cases hk : k = 1
  · subst hk
    exact wpAny_binaryOp_repeat_ref (T := "tuple") (U := "int") (by decide) ⟨_, ho, rfl⟩ (fun s' => typeIs_int s' 1 t) noFill_tuple_mul F.fills_int_mul F.slot_int_rmul repeat_tuple F.slot_int_index.lookup
      (call_meets F.slot_int_rmul (typeIs_int s 1 t) F.entry_int_rmul (F.args_int_rmul_2 _ _) (int_rmul_tuple 1 t l its.toArray n dd sl)
        ⟨ho, rfl, ⟨_, ho, rfl⟩, call_meets F.slot_tuple_mul ⟨_, ho, rfl⟩ F.entry_tuple_mul (F.args_tuple_mul_2 _ _) (ShT.tuple_mul1 l its.toArray n dd sl t) ⟨ho, ⟨.ref l, H, I, rfl, q1 rfl⟩⟩⟩)
  have hi : its.toArray.isEmpty = false := by
    cases its with
    | nil => exact absurd rfl hn
    | cons a b => rfl
  have hsz0 : its.toArray.size = xs.length := by rw [List.size_toArray, hle]
  have hm : ((its.toArray.size : Nat) : Int) * k ≤ 1000000 := by
    rw [hsz0]
    have a1 : ((xs.length : Nat) : Int) * k ≤ 1000 * k := Int.mul_le_mul_of_nonneg_right (by omega) (by omega)
    omega
  have flen : (List.replicate k.toNat its).flatten.length ≤ sizeLine := by
    rw [PyProof.Rows.lm_len_rep_flat, hle, sizeLine_eq]
    have a1 : k.toNat * xs.length ≤ 1000 * 1000 := Nat.mul_le_mul (by omega) hz
    omega
  have c0 : (decide (k < -(2 ^ 63)) || decide (k ≥ 2 ^ 63)) = false := by
    rw [decide_eq_false (by omega), decide_eq_false (by omega)] <;> rfl
  have c1 : (its.toArray.isEmpty || k == 1) = false := by
    rw [hi, Bool.false_or]
    exact beq_eq_false_iff_ne.mpr (by omega)
  have c2 : (decide (k ≤ 0) || its.toArray.isEmpty) = false := by
    rw [hi, Bool.or_false]
    exact decide_eq_false (by omega)
  have c4 : Builtin.Tuple.tupleTooMany (((its.toArray.size : Nat) : Int) * k) = false := by
    unfold Builtin.Tuple.tupleTooMany
    rw [sizeLine_eq]
    exact decide_eq_false (by omega)
  refine wpAny_binaryOp_repeat_ref (T := "tuple") (U := "int") (by decide) ⟨_, ho, rfl⟩ (fun s' => typeIs_int s' k t) noFill_tuple_mul F.fills_int_mul F.slot_int_rmul repeat_tuple F.slot_int_index.lookup
    (call_meets F.slot_int_rmul (typeIs_int s k t) F.entry_int_rmul (F.args_int_rmul_2 _ _) (int_rmul_tuple k t l its.toArray n dd sl)
      ⟨ho, rfl, ⟨_, ho, rfl⟩, call_meets F.slot_tuple_mul ⟨_, ho, rfl⟩ F.entry_tuple_mul (F.args_tuple_mul_2 _ _) (tuple_mulW l its.toArray n dd sl k t c0 c1 c2 (by omega) c4 (by rw [size_rep, List.size_toArray]; exact flen)) ⟨ho, ?_⟩⟩)
  rw [size_rep]
  have hg := Heap.get?_push_size s.heap (o := { cls := .type "tuple", data := .seq (List.replicate k.toNat its).flatten.toArray }) rfl
  refine ⟨.ref s.heap.objs.size, _, I.laid (t' := s.toks) (o := .frz { cls := .type "tuple", data := .seq (List.replicate k.toNat its).flatten.toArray } (.tup (List.replicate k.toNat xs).flatten)) (fun b ob q => Heap.get?_push_of_some _ q) (Nat.le_refl _) ?_, rfl, q2 (by omega) _ _ (I.hok.fresh (Nat.le_refl _)) rfl⟩
  exact ⟨hg, by rw [PyProof.Rows.lm_len_rep_flat, sizeLine_eq]; have a1 : k.toNat * xs.length ≤ 1000 * 1000 := Nat.mul_le_mul (by omega) hz; omega, _, r.rep k.toNat, IsTup.new _ _⟩
def rMulN (K : PySem.W.Frag) : R2 := fun x y H Q => rI CMul (fun i j => .int (i * j)) x y H Q ∨ rI CMulW (fun i j => .int (i * j)) x y H Q ∨ rMulS x y H Q ∨ rRep x y H Q ∨ rRepN K x y H Q
theorem u_mulN {X : Cx} : OpR X (binaryOp .Mult) (rMulN X.K) := opor op_mul (opor op_mulW (opor op_mulS (opor op_rep op_repN)))
section
variable {K : PySem.W.Frag} {H : Hp} {Q : VK} {i j n : Int} {a : Str} {v : V} {d : PyData}
theorem w_mulN (hc : CMul i j) (h : Q (.int (i * j)) H) : rMulN K (.int i) (.int j) H Q := .inl ⟨i, j, rfl, rfl, hc, h⟩
theorem w_mulNw (hc : CMulW i j) (h : Q (.int (i * j)) H) : rMulN K (.int i) (.int j) H Q := .inr (.inl ⟨i, j, rfl, rfl, hc, h⟩)
theorem w_mulNs (hm : MulOk a n) (q : Q (.str (Txt.mul a n)) H) : rMulN K (.str a) (.int n) H Q := .inr (.inr (.inl ⟨a, n, rfl, rfl, hm, q⟩))
theorem dqs_rep : ∀ (m : Nat) {x : V}, Dq K H x d → DqAll K H (List.replicate m [x]).flatten (List.replicate m d)
  | 0, _, _ => .nil
  | m + 1, _, h => .cons h (dqs_rep m h)
/-- (x,) * n -/
theorem w_mulN1 (h : Dq K H v (.tuple [d])) (h0 : 1 ≤ n) (h1 : n ≤ 1000) (q : ∀ x H', Same H H' → Dq K H' x (.tuple (List.replicate n.toNat d)) → Q x H') : rMulN K v (.int n) H Q := by
  obtain ⟨a, xs, rfl, hs, r⟩ := dq_tt h
  cases r with
  | cons hx r =>
    cases r
    refine .inr (.inr (.inr (.inr ⟨a, n, _, rfl, rfl, hs.t, (fun z => nomatch z), h0, h1, (show (1 : Nat) ≤ 1000 by decide), fun e => ?_, fun _ p o hp hd => ?_⟩)))
    · subst e
      exact q _ _ (Same.refl _) (.tup hs (dqs_one hx))
    · exact q _ _ (same_new hp) (.tup (.inl ⟨o, hd, upd_same⟩) (dqs_mono (same_new hp) (dqs_rep _ hx)))
end
end Sh
/-! zip of three tuples -/
namespace Sh
open PySem PySem.Spec PyProof.Rows L2
def ItzT3 (K : PySem.W.Frag) (a b c : Addr) : It :=
  ⟨fun i H => ∃ (xs ys zs : List V) (x y z : V), SqT K H a xs ∧ SqT K H b ys ∧ SqT K H c zs ∧ xs[i]? = some x ∧ ys[i]? = some y ∧ zs[i]? = some z,
    fun i H v H' => ∃ T x y z, v = .ref T ∧ H T = none ∧ H' = upd H T (.tup [x, y, z]) ∧ (∀ xs, SqT K H a xs → xs[i]? = some x) ∧ (∀ ys, SqT K H b ys → ys[i]? = some y) ∧ ∀ zs, SqT K H c zs → zs[i]? = some z,
    fun i H => ∃ xs ys zs : List V, SqT K H a xs ∧ SqT K H b ys ∧ SqT K H c zs ∧ i ≤ xs.length ∧ i ≤ ys.length ∧ i ≤ zs.length ∧ (i = xs.length ∨ i = ys.length ∨ i = zs.length)⟩
theorem iter_ne {h : Heap} {it t : Addr} {i : Nat} {t0 : Addr} {items : Array Value} (x : h.IsTupleIter it t0 i) (p : h.IsTuple t items) : t ≠ it := fun z => by
  obtain ⟨o1, h1, c1, _⟩ := p
  obtain ⟨o2, h2, c2, _⟩ := x
  rw [z, h2] at h1
  cases h1
  rw [c2] at c1
  injection c1 with c1
  exact absurd c1 (by decide)
theorem turn_zipT3 {P : Program} {w : World} {K : PySem.W.Frag} {elts : List Expr} {kk : Nat} {tpos : Pos} {a b c z TI TO i1 i2 i3 : Addr} (S : ZipSep3 z TI TO i1 i2 i3 [i1, a] [i2, b] [i3, c]) :
    Turn P w K (.Tuple elts kk tpos) (ItzT3 K a b c) [z, TI, TO, i1, i2, i3] z (fun i h => IsZip h z TI TO .none ∧ IsTupOf3 h TI (.ref i1) (.ref i2) (.ref i3) ∧ (∃ x y u, IsTupOf3 h TO x y u) ∧ h.IsTupleIter i1 a i ∧ h.IsTupleIter i2 b i ∧ h.IsTupleIter i3 c i) where
  mem := by simp
  obj := fun i h st q hq => by
    obtain ⟨hz, hTI, ⟨x, y, u, hTO⟩, ⟨o1, e1, _, d1⟩, ⟨o2, e2, _, d2⟩, ⟨o3, e3, _, d3⟩⟩ := st
    have e' : q = z ∨ q = TI ∨ q = TO ∨ q = i1 ∨ q = i2 ∨ q = i3 := by simpa using hq
    rcases e' with r | r | r | r | r | r
    · rw [r]; exact ⟨_, hz, fun v q => nomatch q⟩
    · rw [r]; exact ⟨_, hTI, fun v q => nomatch q⟩
    · rw [r]; exact ⟨_, hTO, fun v q => nomatch q⟩
    · rw [r]; exact ⟨o1, e1, fun v q => by rw [d1] at q; cases q⟩
    · rw [r]; exact ⟨o2, e2, fun v q => by rw [d2] at q; cases q⟩
    · rw [r]; exact ⟨o3, e3, fun v q => by rw [d3] at q; cases q⟩
  keep := fun i h h' st k => by
    obtain ⟨hz, hTI, ⟨x, y, u, hTO⟩, h1, h2, h3⟩ := st
    exact ⟨k z (by simp) _ hz, k TI (by simp) _ hTI, ⟨x, y, u, k TO (by simp) _ hTO⟩, h1.at fun o q => k i1 (by simp) o q, h2.at fun o q => k i2 (by simp) o q, h3.at fun o q => k i3 (by simp) o q⟩
  item := by
    intro X hP hw hK hc i pins s σ H E I hf st hg
    subst hP hw hK
    obtain ⟨hz, hTI, ⟨x0, y0, u0, hTO⟩, h1, h2, h3⟩ := st
    obtain ⟨xs, ys, zs, x, y, u, hqx, hqy, hqz, hx, hy, hu⟩ := hg
    obtain ⟨its, rv, p, _⟩ := I.tuple hqx
    obtain ⟨its2, rv2, p2, _⟩ := I.tuple hqy
    obtain ⟨its3, rv3, p3, _⟩ := I.tuple hqz
    have pt : s.heap.IsTuple a its.toArray := p
    have pt2 : s.heap.IsTuple b its2.toArray := p2
    have pt3 : s.heap.IsTuple c its3.toArray := p3
    obtain ⟨w1, hw1, r1⟩ := rv.get hx
    obtain ⟨w2, hw2, r2⟩ := rv2.get hy
    obtain ⟨w3, hw3, r3⟩ := rv3.get hu
    have hzl : z < s.heap.objs.size := Heap.lt_size hz
    have lt1 : i < its.toArray.size := by have l := (List.getElem?_eq_some_iff.mp hw1).1; simpa using l
    have lt2 : i < its2.toArray.size := by have l := (List.getElem?_eq_some_iff.mp hw2).1; simpa using l
    have lt3 : i < its3.toArray.size := by have l := (List.getElem?_eq_some_iff.mp hw3).1; simpa using l
    have hh : X.A.in1.handled = none := I.ok.hd hc
    refine wpAny_pyNext_zipD3_item S (Draws.tuple hh i1 a (iter_ne h1 pt) its.toArray) (Draws.tuple hh i2 b (iter_ne h2 pt2) its2.toArray) (Draws.tuple hh i3 c (iter_ne h3 pt3) its3.toArray) hz hTI hTO ⟨h1, pt⟩ ⟨h2, pt2⟩ ⟨h3, pt3⟩ lt1 lt2 lt3 fun x1 x2 x3 h' tk q1 q2 q3 z' TO' s1 s2 s3 hT hsz hk => ?_
    have e1 : x1 = w1 := by
      have px : its.toArray[i]? = some x1 := q1
      rw [List.getElem?_toArray, hw1] at px
      exact (Option.some.inj px).symm
    have e2 : x2 = w2 := by
      have px : its2.toArray[i]? = some x2 := q2
      rw [List.getElem?_toArray, hw2] at px
      exact (Option.some.inj px).symm
    have e3 : x3 = w3 := by
      have px : its3.toArray[i]? = some x3 := q3
      rw [List.getElem?_toArray, hw3] at px
      exact (Option.some.inj px).symm
    subst e1 e2 e3
    refine ⟨_, rfl, wpAny_letOwnedTupleGo_zip (s := { s with heap := h', toks := tk }) z' fun h'' z'' sb => ?_⟩
    have hT2 : h''.get? s.heap.objs.size = some { cls := .type "tuple", data := .seq #[x1, x2, x3] } := (sb.2 _ (Nat.ne_of_gt hzl)).trans hT
    have new : ObjOk X.prog X.w (upd H s.heap.objs.size (.tup [x, y, u])) h'' s.heap.objs.size (.tup [x, y, u]) :=
      ⟨by show 3 ≤ sizeLine; decide, [x1, x2, x3], .cons r1 (.cons r2 (.cons r3 .nil)), ⟨_, hT2, rfl, _, rfl⟩⟩
    have I1 : Inv X pins σ (upd H s.heap.objs.size (.tup [x, y, u])) { s with heap := h'', toks := tk } :=
      I.turnedNew (t' := tk) (ch := [z, TI, TO, i1, i2, i3]) (fun q o hb e => (sb.2 q (fun q' => hb (by simp [q']))).trans (hk q o (fun q' => hb (by simp [q'])) (fun q' => hb (by simp [q'])) (fun q' => hb (by simp [q'])) (fun q' => hb (by simp [q'])) (fun q' => hb (by simp [q'])) e)) hf (Nat.le_refl _) new
    have ni1 : i1 ≠ z := fun e => S.zf1 (by rw [← e]; exact S.mem1)
    have ni2 : i2 ≠ z := fun e => S.zf2 (by rw [← e]; exact S.mem2)
    have ni3 : i3 ≠ z := fun e => S.zf3 (by rw [← e]; exact S.mem3)
    refine ⟨.ref s.heap.objs.size, _, I1, rfl, ⟨_, x, y, u, rfl, I.hok.fresh (Nat.le_refl _), rfl, fun l hl => by rw [I.tuple_inj hl hqx]; exact hx, fun l hl => by rw [I.tuple_inj hl hqy]; exact hy, fun l hl => by rw [I.tuple_inj hl hqz]; exact hu⟩, ⟨z'', ?_, ⟨x1, x2, x3, ?_⟩, ?_, ?_, ?_⟩, fun q hcm => ?_⟩
    · exact (sb.2 _ S.TIz).trans (hk _ _ S.TIz S.TITO S.TIi1 S.TIi2 S.TIi3 hTI)
    · exact (sb.2 _ S.TOz).trans TO'
    · exact s1.1.at fun o q => (sb.2 _ ni1).trans q
    · exact s2.1.at fun o q => (sb.2 _ ni2).trans q
    · exact s3.1.at fun o q => (sb.2 _ ni3).trans q
    · have hlt : q < s.heap.objs.size := by
        have e' : q = z ∨ q = TI ∨ q = TO ∨ q = i1 ∨ q = i2 ∨ q = i3 := by simpa using hcm
        rcases e' with r | r | r | r | r | r
        · rw [r]; exact hzl
        · rw [r]; exact Heap.lt_size hTI
        · rw [r]; exact Heap.lt_size hTO
        · rw [r]; obtain ⟨_, e1, _⟩ := h1; exact Heap.lt_size e1
        · rw [r]; obtain ⟨_, e2, _⟩ := h2; exact Heap.lt_size e2
        · rw [r]; obtain ⟨_, e3, _⟩ := h3; exact Heap.lt_size e3
      rw [upd_ne (Nat.ne_of_lt hlt)]
      exact (hf q hcm).1
  done := by
    intro X hP hw hK hc i pins s σ H E I hf st hg
    subst hP hw hK
    obtain ⟨hz, hTI, ⟨x0, y0, u0, hTO⟩, h1, h2, h3⟩ := st
    obtain ⟨xs, ys, zs, hqx, hqy, hqz, g1, g2, g3, hend⟩ := hg
    obtain ⟨its, rv, p, _⟩ := I.tuple hqx
    obtain ⟨its2, rv2, p2, _⟩ := I.tuple hqy
    obtain ⟨its3, rv3, p3, _⟩ := I.tuple hqz
    have pt : s.heap.IsTuple a its.toArray := p
    have pt2 : s.heap.IsTuple b its2.toArray := p2
    have pt3 : s.heap.IsTuple c its3.toArray := p3
    have l1 := rv.length
    have l2 := rv2.length
    have l3 := rv3.length
    have hh : X.A.in1.handled = none := I.ok.hd hc
    refine wpAny_pyNext_zipD3_end S (Draws.tuple hh i1 a (iter_ne h1 pt) its.toArray) (Draws.tuple hh i2 b (iter_ne h2 pt2) its2.toArray) (Draws.tuple hh i3 c (iter_ne h3 pt3) its3.toArray) hz hTI hTO ⟨h1, pt⟩ ⟨h2, pt2⟩ ⟨h3, pt3⟩ (by simp; omega) (by simp; omega) (by simp; omega) (by simp; omega) fun h' tk hk => ⟨rfl, I.turnedL (t' := tk) (ch := [z, TI, TO, i1, i2, i3]) (fun q o hb e =>
      hk q o (fun q' => hb (by simp [q'])) (fun q' => hb (by simp [q'])) (fun q' => hb (by simp [q'])) (fun q' => hb (by simp [q'])) (fun q' => hb (by simp [q'])) e) hf⟩
  self := fun A i s Q E st h => wpAny_pyIter_zip st.1 h
def iZip3 (K : PySem.W.Frag) (ta : TA) : TI := fun σ H R => ta σ H fun vs H1 => ∃ a b c xs ys zs, vs = [.ref a, .ref b, .ref c] ∧ SqT K H1 a xs ∧ SqT K H1 b ys ∧ SqT K H1 c zs ∧ R (ItzT3 K a b c) H1
theorem pi_zip3 {X : Cx} {e e2 e3 : Expr} {ta : TA} {p pos tpos : Pos} {elts : List Expr} {kk : Nat} (hg : Gl X "zip") (hm : X.mg "zip" = none) (ha : PA X [e, e2, e3] ta)
    (hs : starEach [e, e2, e3] X.env = (false, eval e X.env) :: starEach [e2, e3] X.env := by rfl) (hpl : (backTo pos (starEach [e2, e3] X.env)).any (·.1) = false := by rfl) :
    PI X (.Tuple elts kk tpos) (.Call (.Name "zip" p) [e, e2, e3] [] pos) (iZip3 X.K ta) := by
  refine ⟨fun pins s σ H R I h => ?_⟩
  refine Call_ (ld_blt I hg hm PyProof.Rows.boot_zip (PyProof.Rows.callWith_type1 (thn (ha.run pos pins s σ H _ I h) fun us s1 z => ?_) hs hpl))
  obtain ⟨vs, H1, I1, r1, a, b, c, xs, ys, zs, ex, hqx, hqy, hqz, q⟩ := z
  subst ex
  cases r1 with
  | cons r rr =>
    cases rr with
    | cons r' rr =>
      cases rr with
      | cons r'' rr =>
        cases rr
        cases r
        cases r'
        cases r''
        obtain ⟨its, rv, p1, _⟩ := I1.tuple hqx
        obtain ⟨its2, rv2, p2, _⟩ := I1.tuple hqy
        obtain ⟨its3, rv3, p3, _⟩ := I1.tuple hqz
        have pt1 : s1.heap.IsTuple a its.toArray := p1
        have pt2 : s1.heap.IsTuple b its2.toArray := p2
        have pt3 : s1.heap.IsTuple c its3.toArray := p3
        obtain ⟨o1, ho1, _⟩ := _root_.id pt1
        obtain ⟨o2, ho2, _⟩ := _root_.id pt2
        obtain ⟨o3, ho3, _⟩ := _root_.id pt3
        refine zip_begins3 (begins_tuple a its.toArray) (begins_tuple b its2.toArray) (begins_tuple c its3.toArray) pt1 pt2 pt3 fun h' hz hTI hTO h1 h2 h3 hsz hk => wpAny_pyIter_zip hz ?_
        have I2 : Inv X pins σ H1 { s1 with heap := h' } := I1.kept (t' := s1.toks) hk
        have sep := zip_sep3 (N := s1.heap.objs.size) (fp1 := [a]) (fp2 := [b]) (fp3 := [c]) (fun q hq => by rw [List.mem_singleton.mp hq]; exact Heap.lt_size ho1) (fun q hq => by rw [List.mem_singleton.mp hq]; exact Heap.lt_size ho2) (fun q hq => by rw [List.mem_singleton.mp hq]; exact Heap.lt_size ho3)
        have fresh6 : ∀ q, q ∈ [s1.heap.objs.size + 5, s1.heap.objs.size + 3, s1.heap.objs.size + 4, s1.heap.objs.size, s1.heap.objs.size + 1, s1.heap.objs.size + 2] → FpOk X pins H1 q := fun q hcm => by
          have e' : q = s1.heap.objs.size + 5 ∨ q = s1.heap.objs.size + 3 ∨ q = s1.heap.objs.size + 4 ∨ q = s1.heap.objs.size ∨ q = s1.heap.objs.size + 1 ∨ q = s1.heap.objs.size + 2 := by simpa using hcm
          have hle : s1.heap.objs.size ≤ q := by
            rcases e' with z | z | z | z | z | z
            · rw [z]; exact Nat.le_add_right _ _
            · rw [z]; exact Nat.le_add_right _ _
            · rw [z]; exact Nat.le_add_right _ _
            · rw [z]; exact Nat.le_refl _
            · rw [z]; exact Nat.le_add_right _ _
            · rw [z]; exact Nat.le_add_right _ _
          exact I1.fpOk hle (I1.hok.fresh hle)
        exact ⟨s1.heap.objs.size + 5, [s1.heap.objs.size + 5, s1.heap.objs.size + 3, s1.heap.objs.size + 4, s1.heap.objs.size, s1.heap.objs.size + 1, s1.heap.objs.size + 2], _, _, H1, rfl, I2, turn_zipT3 sep, ⟨hz, hTI, ⟨_, _, _, hTO⟩, ⟨_, h1, rfl, rfl⟩, ⟨_, h2, rfl, rfl⟩, ⟨_, h3, rfl, rfl⟩⟩, fresh6, q⟩
section
variable {K : PySem.W.Frag} {σ : L2.St} {H : Hp} {Q : VK} {te : TE} {tt : TT} {tA : TA} {tb : TS} {nx : L2.St → Hp → Prop} {rt : VK} {a b c : Addr} {xs ys zs : List V} {i1 i2 i3 : Nat} {vs : List Nat}
def GoZip3 (K : PySem.W.Frag) (R : It → Hp → Prop) (vs : List V) (H1 : Hp) : Prop := ∃ a b c xs ys zs, vs = [.ref a, .ref b, .ref c] ∧ SqT K H1 a xs ∧ SqT K H1 b ys ∧ SqT K H1 c zs ∧ R (ItzT3 K a b c) H1
theorem w_izip3 {R : It → Hp → Prop} (h : tA σ H fun vs H1 => GoZip3 K R vs H1) : iZip3 K tA σ H R := h
theorem w_goZ3 {R : It → Hp → Prop} (h : SqT K H a xs) (h2 : SqT K H b ys) (h3 : SqT K H c zs) (q : R (ItzT3 K a b c) H) : GoZip3 K R [.ref a, .ref b, .ref c] H := ⟨a, b, c, xs, ys, zs, rfl, h, h2, h3, q⟩
/-- for x, y, z in zip(xs, ys, zs), tuples of one length -/
theorem forZ3 (l2 : ys.length = xs.length) (l3 : zs.length = xs.length) (I : Nat → L2.St → Hp → Prop) (h0 : I 0 σ H) (hI : ∀ i σ' H', I i σ' H' → SqT K H' a xs ∧ SqT K H' b ys ∧ SqT K H' c zs)
    (hs : ∀ (i : Nat) x y z σ' H', xs[i]? = some x → ys[i]? = some y → zs[i]? = some z → I i σ' H' → ∀ H2, Same H' H2 → tb ⟨I (i + 1), rt, nx, I (i + 1)⟩ (((σ'.set i1 (some x)).set i2 (some y)).set i3 (some z)) H2) (hd : ∀ σ' H', I xs.length σ' H' → nx σ' H') :
    ForOk (ItzT3 K a b c) (gTup K 3 (gCons (gName i1) (gCons (gName i2) (gCons (gName i3) gNil)))) tb nx rt σ H := by
  refine ⟨fun i m σ' H' => m = xs.length - i ∧ i ≤ xs.length ∧ I i σ' H', ⟨_, rfl, Nat.zero_le _, h0⟩, fun i m σ' H1 ⟨em, hi, w1⟩ => ?_⟩
  obtain ⟨s1, s2, s3⟩ := hI _ _ _ w1
  by_cases hlt : i < xs.length
  · refine .inr ⟨⟨xs, ys, zs, xs[i], ys[i]'(by omega), zs[i]'(by omega), s1, s2, s3, List.getElem?_eq_getElem hlt, List.getElem?_eq_getElem _, List.getElem?_eq_getElem _⟩, I (i + 1), fun σ2 H2 w2 => ⟨_, by omega, rfl, hlt, w2⟩, fun v H2 q => ?_⟩
    obtain ⟨T, x, y, z, rfl, hT, rfl, hx, hy, hz⟩ := q
    exact ⟨T, _, rfl, SqT.of upd_same, rfl, _, _, rfl, _, _, rfl, _, _, rfl, rfl, hs i x y z σ' H1 (hx xs s1) (hy ys s2) (hz zs s3) w1 _ (same_new hT)⟩
  · have e : i = xs.length := by omega
    refine .inl ⟨⟨xs, ys, zs, s1, s2, s3, by omega, by omega, by omega, .inl e⟩, hd σ' H1 ?_⟩
    rw [← e]
    exact w1
end
end Sh
/-! pieces; texts that grow -/
namespace Sh
open PySem PySem.Spec PyProof.Rows L2
def ipAddN (K : PySem.W.Frag) : TIp := fun x y H Q => ipI (fun i j => i + j) x y H Q ∨ rAddS x y H Q
theorem ip_addN {X : Cx} : PIp X .Add (ipAddN X.K) := by
  intro pins s σ H x y v u Q I rx ry h
  rcases h with h | h
  · exact ip_add pins s σ H x y v u Q I rx ry h
  · obtain ⟨i, j, rfl, rfl, hz, q⟩ := h
    obtain ⟨t, rfl⟩ := rx
    obtain ⟨t2, rfl⟩ := ry
    exact PyProof.Rows.iadd_str (fun t' tk => ⟨.str (i ++ j), H, I.tok _, ⟨_, rfl⟩, q⟩) hz
abbrev rStrU : List V → Hp → VK → Prop := fun xs H Q => ∃ i : Int, xs = [.int i] ∧ i.natAbs.log2 < 1920 ∧ Q (.str (toString i)) H
theorem u_str {X : Cx} : CallR X (.type "str") rStrU := call_str_int
section
variable {K : PySem.W.Frag} {H : Hp} {Q : VK} {i j : Int} {a b : Str} {p p2 : Addr} {xs ys : List V} {ns : List Int}
theorem w_ipaddN (h : Q (.int (i + j)) H) : ipAddN K (.int i) (.int j) H Q := .inl ⟨i, j, rfl, rfl, h⟩
theorem w_ipaddS (hz : a.length + b.length ≤ sizeLine) (h : Q (.str (a ++ b)) H) : ipAddN K (.str a) (.str b) H Q := .inr ⟨a, b, rfl, rfl, hz, h⟩
theorem w_strI (hz : i.natAbs.log2 < 1920) (h : Q (.str (toString i)) H) : rStrU [.int i] H Q := ⟨i, rfl, hz, h⟩
theorem w_sum (h : SqL K H p (ns.map V.int)) (q : Q (.int ns.sum) H) : rSum K [.ref p] H Q := ⟨p, ns, rfl, h, q⟩
theorem w_extend (h : H p = some (.lst xs)) (h2 : H p2 = some (.lst ys)) (hl : xs.length + ys.length ≤ 1000000) (q : Q .non (upd H p (.lst (xs ++ ys)))) : rExtend (.ref p) [.ref p2] H Q := ⟨p, p2, xs, ys, rfl, rfl, h, h2, Nat.le_trans hl (by decide), q⟩
end
/-- how wide a field's piece is -/
def wW (f : Fd) : Wy → Nat
  | .keep => 0
  | .whole => f.br.toNat
  | .low w _ => w.toNat
abbrev Tri := Fd × Wy × Int
def pieceT (t : Tri) : Str := bitsT (t.2.2 % p2 (wW t.1 t.2.1 : Nat)) (wW t.1 t.2.1)
def triL (fs : List Fd) (ws : List Wy) (vs : List Int) : List Tri := fs.zip (ws.zip vs)
def piecesT (ts : List Tri) : Str := ⟨(ts.map fun t => cz (pieceT t)).flatten.toArray⟩
theorem cz_pieces (ts : List Tri) : cz (piecesT ts) = (ts.map fun t => cz (pieceT t)).flatten := List.toList_toArray
theorem pieces_nil : piecesT [] = "" := rfl
theorem pieces_snoc (ts : List Tri) (t : Tri) : piecesT (ts ++ [t]) = piecesT ts ++ pieceT t := by
  refine cz_inj ?_
  rw [cz_pieces, cz_app, cz_pieces, List.map_append, List.flatten_append]
  simp
def triW (ts : List Tri) : Nat := (ts.map fun t => wW t.1 t.2.1).sum
theorem pieces_len : ∀ ts : List Tri, (piecesT ts).length = triW ts
  | [] => rfl
  | t :: r => by
    have ih := pieces_len r
    rw [← cz_len, cz_pieces] at ih ⊢
    rw [List.map_cons, List.flatten_cons, List.length_append, ih, cz_len]
    show (pieceT t).length + triW r = wW t.1 t.2.1 + triW r
    unfold pieceT
    rw [len_bitsT]
theorem tri_get {fs : List Fd} {ws : List Wy} {vs : List Int} {i : Nat} {f : Fd} {w : Wy} {v : Int} (h1 : fs[i]? = some f) (h2 : ws[i]? = some w) (h3 : vs[i]? = some v) : (triL fs ws vs)[i]? = some (f, w, v) :=
  List.getElem?_zip_eq_some.mpr ⟨h1, List.getElem?_zip_eq_some.mpr ⟨h2, h3⟩⟩
theorem tri_len {fs : List Fd} {ws : List Wy} {vs : List Int} (h1 : ws.length = fs.length) (h2 : vs.length = fs.length) : (triL fs ws vs).length = fs.length := by
  unfold triL
  rw [List.length_zip, List.length_zip]
  omega
theorem wW_le {f : Fd} {w : Wy} (h : OkWy f.br w) (b0 : 0 ≤ f.br) : (wW f w : Int) ≤ f.br := by
  cases w with
  | keep => exact b0
  | whole =>
    show ((f.br.toNat : Nat) : Int) ≤ f.br
    omega
  | low w l =>
    have := h.1
    have := h.2.1
    show ((w.toNat : Nat) : Int) ≤ f.br
    omega
theorem triW_snoc (ts : List Tri) (t : Tri) : triW (ts ++ [t]) = triW ts + wW t.1 t.2.1 := by
  unfold triW
  rw [List.map_append, List.sum_append]
  simp
theorem triW_le : ∀ ts : List Tri, (∀ t ∈ ts, wW t.1 t.2.1 ≤ 40) → triW ts ≤ 40 * ts.length
  | [], _ => Nat.le_refl _
  | t :: r, h => by
    have ih := triW_le r fun x hx => h x (List.mem_cons_of_mem _ hx)
    have h1 := h t List.mem_cons_self
    show wW t.1 t.2.1 + triW r ≤ _
    rw [List.length_cons]
    omega
end Sh
/-! any data, dicts too: its lists and dicts lie where P allows -/
namespace Sh
open PySem PySem.Spec PyProof.Rows L2
theorem cutD_mem {α : Type} {xs : List α} {lo hi : Option Int} {x : α} (h : x ∈ cutD xs lo hi) : x ∈ xs := List.mem_of_mem_drop (List.mem_of_mem_take h)
theorem cutD_map {α β : Type} (g : α → β) (xs : List α) (lo hi : Option Int) : cutD (xs.map g) lo hi = (cutD xs lo hi).map g := by
  unfold cutD
  rw [List.length_map, List.map_take, List.map_drop]
theorem w_slM {K : PySem.W.Frag} {H : Hp} {v : V} {Q : VK} {α : Type} {g : α → PyData} {l : List α} {lo hi : Option Int} (h : Dq K H v (.tuple (l.map g))) (q : ∀ x H', Same H H' → Dq K H' x (.tuple ((cutD l lo hi).map g)) → Q x H') : rSlU K v lo hi H Q :=
  w_slQT h fun x H' e hx => q x H' e (by rw [← cutD_map]; exact hx)
section
variable {K : PySem.W.Frag} {H H' : Hp} {v : V} {Q : VK}
theorem dq_t2 {d e : PyData} (h : Dq K H v (.tuple [d, e])) : ∃ a x y, v = .ref a ∧ SqN K H a [x, y] ∧ Dq K H x d ∧ Dq K H y e := by
  obtain ⟨a, xs, rfl, hx, r⟩ := dq_tt h
  cases r with
  | cons h1 r =>
    cases r with
    | cons h2 r =>
      cases r
      exact ⟨_, _, _, rfl, hx, h1, h2⟩
theorem dq_t3 {d e f : PyData} (h : Dq K H v (.tuple [d, e, f])) : ∃ a x y z, v = .ref a ∧ SqN K H a [x, y, z] ∧ Dq K H x d ∧ Dq K H y e ∧ Dq K H z f := by
  obtain ⟨a, xs, rfl, hx, r⟩ := dq_tt h
  cases r with
  | cons h1 r =>
    cases r with
    | cons h2 r =>
      cases r with
      | cons h3 r =>
        cases r
        exact ⟨_, _, _, _, rfl, hx, h1, h2, h3⟩
end
mutual
inductive Dz (K : PySem.W.Frag) (P : Addr → Prop) (H : Hp) : V → PyData → Prop
  | non : Dz K P H .non .none
  | bl (b : Bool) : Dz K P H (.bl b) (.bool b)
  | int (i : Int) : Dz K P H (.int i) (.int i)
  | str (x : Str) : Dz K P H (.str x) (.str x)
  | lst {a : Addr} {xs : List V} {ds : List PyData} : P a → SqL K H a xs → DzAll K P H xs ds → Dz K P H (.ref a) (.list ds)
  | tup {a : Addr} {xs : List V} {ds : List PyData} : SqT K H a xs → DzAll K P H xs ds → Dz K P H (.ref a) (.tuple ds)
  | dic {a : Addr} {kvs : List (Key × V)} : P a → H a = some (.dK kvs) → Dz K P H (.ref a) (.dict [])
inductive DzAll (K : PySem.W.Frag) (P : Addr → Prop) (H : Hp) : List V → List PyData → Prop
  | nil : DzAll K P H [] []
  | cons {v : V} {vs : List V} {d : PyData} {ds : List PyData} : Dz K P H v d → DzAll K P H vs ds → DzAll K P H (v :: vs) (d :: ds)
end
def Ever : Addr → Prop := fun _ => True
section
variable {K : PySem.W.Frag} {H H' : Hp} {P P' : Addr → Prop}
mutual
theorem dz_dp : ∀ {v : V} {d : PyData}, Dp K H v d → Dz K Ever H v d
  | _, _, .non => .non
  | _, _, .bl b => .bl b
  | _, _, .int i => .int i
  | _, _, .str x => .str x
  | _, _, .lst h r => .lst trivial h (dzs_dp r)
  | _, _, .tup h r => .tup h (dzs_dp r)
theorem dzs_dp : ∀ {vs : List V} {ds : List PyData}, DpAll K H vs ds → DzAll K Ever H vs ds
  | _, _, .nil => .nil
  | _, _, .cons h r => .cons (dz_dp h) (dzs_dp r)
end
theorem dz_dq {v : V} {d : PyData} (h : Dq K H v d) : Dz K Ever H v d := dz_dp (dq_dp h)
theorem dzs_dq {vs : List V} {ds : List PyData} (h : DqAll K H vs ds) : DzAll K Ever H vs ds := dzs_dp (dqs_dp h)
mutual
theorem dz_to : ∀ {v : V} {d : PyData}, Dq K H v d → tupO d → Dz K P H v d
  | _, _, .non, _ => .non
  | _, _, .bl b, _ => .bl b
  | _, _, .int i, _ => .int i
  | _, _, .str x, _ => .str x
  | _, _, .lst _ _, z => (show False from z).elim
  | _, _, .tup h r, z => .tup h.t (dzs_to r z)
theorem dzs_to : ∀ {vs : List V} {ds : List PyData}, DqAll K H vs ds → tupOs ds → DzAll K P H vs ds
  | _, _, .nil, _ => .nil
  | _, _, .cons h r, z => .cons (dz_to h z.1) (dzs_to r z.2)
end
mutual
theorem dz_wk (w : ∀ a, P a → P' a) : ∀ {v : V} {d : PyData}, Dz K P H v d → Dz K P' H v d
  | _, _, .non => .non
  | _, _, .bl b => .bl b
  | _, _, .int i => .int i
  | _, _, .str x => .str x
  | _, _, .lst p h r => .lst (w _ p) h (dzs_wk w r)
  | _, _, .tup h r => .tup h (dzs_wk w r)
  | _, _, .dic p h => .dic (w _ p) h
theorem dzs_wk (w : ∀ a, P a → P' a) : ∀ {vs : List V} {ds : List PyData}, DzAll K P H vs ds → DzAll K P' H vs ds
  | _, _, .nil => .nil
  | _, _, .cons h r => .cons (dz_wk w h) (dzs_wk w r)
end
theorem dz_ev {v : V} {d : PyData} (h : Dz K P H v d) : Dz K Ever H v d := dz_wk (fun _ _ => trivial) h
theorem dzs_ev {vs : List V} {ds : List PyData} (h : DzAll K P H vs ds) : DzAll K Ever H vs ds := dzs_wk (fun _ _ => trivial) h
mutual
theorem dzx (e : Sx H H') : ∀ {v : V} {d : PyData}, Dz K P H v d → Dz K P H' v d
  | _, _, .non => .non
  | _, _, .bl b => .bl b
  | _, _, .int i => .int i
  | _, _, .str x => .str x
  | _, _, .lst p h r => .lst p (sx_l e h) (dzsx e r)
  | _, _, .tup h r => .tup (sx_t e h) (dzsx e r)
  | _, _, .dic p h => .dic p (e.keep _ _ h rfl)
theorem dzsx (e : Sx H H') : ∀ {vs : List V} {ds : List PyData}, DzAll K P H vs ds → DzAll K P H' vs ds
  | _, _, .nil => .nil
  | _, _, .cons h r => .cons (dzx e h) (dzsx e r)
end
theorem dz_mono (e : Same H H') {v : V} {d : PyData} (h : Dz K P H v d) : Dz K P H' v d := dzx (Same.sx e) h
theorem dzs_mono (e : Same H H') {vs : List V} {ds : List PyData} (h : DzAll K P H vs ds) : DzAll K P H' vs ds := dzsx (Same.sx e) h
theorem sqt_mut {D a : Addr} {ys xs : List V} {o : HO} (h : SqT K H a xs) (hD : H D = some (.lst ys)) : SqT K (upd H D o) a xs := by
  rcases h with (h | ⟨b, h⟩) | h
  · refine .inl (.inl ?_)
    rw [upd_ne fun z => by rw [z, hD] at h; cases h]
    exact h
  · refine .inl (.inr ⟨b, ?_⟩)
    rw [upd_ne fun z => by rw [z, hD] at h; cases h]
    exact h
  · exact .inr h
theorem sql_mut {D a : Addr} {xs : List V} {o : HO} (h : SqL K H a xs) (n : a ≠ D) : SqL K (upd H D o) a xs := by
  rcases h with (h | ⟨b, h⟩) | h
  · refine .inl (.inl ?_)
    rw [upd_ne n]
    exact h
  · refine .inl (.inr ⟨b, ?_⟩)
    rw [upd_ne n]
    exact h
  · exact .inr h
mutual
theorem dz_mut {D : Addr} {ys : List V} {o : HO} (hD : H D = some (.lst ys)) (n : ∀ a, P a → a ≠ D) : ∀ {v : V} {d : PyData}, Dz K P H v d → Dz K P (upd H D o) v d
  | _, _, .non => .non
  | _, _, .bl b => .bl b
  | _, _, .int i => .int i
  | _, _, .str x => .str x
  | _, _, .lst p h r => .lst p (sql_mut h (n _ p)) (dzs_mut hD n r)
  | _, _, .tup h r => .tup (sqt_mut h hD) (dzs_mut hD n r)
  | _, _, .dic p h => .dic p (by rw [upd_ne (n _ p)]; exact h)
theorem dzs_mut {D : Addr} {ys : List V} {o : HO} (hD : H D = some (.lst ys)) (n : ∀ a, P a → a ≠ D) : ∀ {vs : List V} {ds : List PyData}, DzAll K P H vs ds → DzAll K P (upd H D o) vs ds
  | _, _, .nil => .nil
  | _, _, .cons h r => .cons (dz_mut hD n h) (dzs_mut hD n r)
end
theorem dzs_len : ∀ {vs : List V} {ds : List PyData}, DzAll K P H vs ds → vs.length = ds.length
  | _, _, .nil => rfl
  | _, _, .cons _ r => by rw [List.length_cons, List.length_cons, dzs_len r]
theorem dzs_get : ∀ {vs : List V} {ds : List PyData} {i : Nat} {d : PyData}, DzAll K P H vs ds → ds[i]? = some d → ∃ v, vs[i]? = some v ∧ Dz K P H v d
  | _, _, _, _, .nil, e => by simp at e
  | _, _, 0, _, .cons (v := v) h _, e => by
    simp at e
    subst e
    exact ⟨v, rfl, h⟩
  | _, _, i + 1, d, .cons _ r, e => by
    obtain ⟨v, h1, h2⟩ := dzs_get (i := i) (d := d) r (by simpa using e)
    exact ⟨v, by simpa using h1, h2⟩
theorem dzs_get2 {vs : List V} {ds : List PyData} {i : Nat} {v : V} (r : DzAll K P H vs ds) (e : vs[i]? = some v) : ∃ d, ds[i]? = some d ∧ Dz K P H v d := by
  have hl := dzs_len r
  have hi := (List.getElem?_eq_some_iff.mp e).1
  have e2 : ds[i]? = some (ds[i]'(hl ▸ hi)) := List.getElem?_eq_getElem _
  obtain ⟨v2, h1, h2⟩ := dzs_get r e2
  rw [e] at h1
  cases h1
  exact ⟨_, e2, h2⟩
theorem dzs_app : ∀ {vs ws : List V} {ds es : List PyData}, DzAll K P H vs ds → DzAll K P H ws es → DzAll K P H (vs ++ ws) (ds ++ es)
  | _, _, _, _, .nil, s => s
  | _, _, _, _, .cons h r, s => .cons h (dzs_app r s)
theorem dzs_at {vs : List V} {ds : List PyData} {i : Int} {d : PyData} (r : DzAll K P H vs ds) (e : atI ds i = some d) : ∃ v, atI vs i = some v ∧ Dz K P H v d := by
  unfold atI at e ⊢
  rw [dzs_len r]
  cases q : ixN ds.length i with
  | none => rw [q] at e; cases e
  | some j =>
    rw [q] at e
    exact dzs_get r e
variable {v u : V} {d : PyData} {Q : VK}
theorem dzs_one (h : Dz K P H v d) : DzAll K P H [v] [d] := .cons h .nil
theorem dzs_two {d2 : PyData} (h : Dz K P H v d) (h2 : Dz K P H u d2) : DzAll K P H [v, u] [d, d2] := .cons h (.cons h2 .nil)
theorem dz_int {i : Int} (h : Dz K P H v (.int i)) : v = .int i := by cases h; rfl
theorem dz_str {x : Str} (h : Dz K P H v (.str x)) : v = .str x := by cases h; rfl
theorem dz_bl {b : Bool} (h : Dz K P H v (.bool b)) : v = .bl b := by cases h; rfl
theorem dz_non (h : Dz K P H v .none) : v = .non := by cases h; rfl
theorem dz_tt {ds : List PyData} (h : Dz K P H v (.tuple ds)) : ∃ a xs, v = .ref a ∧ SqT K H a xs ∧ DzAll K P H xs ds := by
  cases h with
  | tup h r => exact ⟨_, _, rfl, h, r⟩
theorem dz_ll {ds : List PyData} (h : Dz K P H v (.list ds)) : ∃ a xs, v = .ref a ∧ P a ∧ SqL K H a xs ∧ DzAll K P H xs ds := by
  cases h with
  | lst p h r => exact ⟨_, _, rfl, p, h, r⟩
theorem dz_new {a : Addr} {xs : List V} {ds : List PyData} (h : TupN H a xs) (r : DzAll K P H xs ds) : Dz K P H (.ref a) (.tuple ds) := .tup (SqN.t (.inl h)) r
theorem dz_newl {a : Addr} {xs : List V} {ds : List PyData} (p : P a) (h : H a = some (.lst xs)) (r : DzAll K P H xs ds) : Dz K P H (.ref a) (.list ds) := .lst p (SqL.of h) r
theorem dz_tupx {H1 : Hp} {a : Addr} {xs : List V} {ds : List PyData} (e : Sx H1 H) (h : TupN H1 a xs) (r : DzAll K P H xs ds) : Dz K P H (.ref a) (.tuple ds) := dz_new (sx_tup e h) r
theorem dz_lstx {H1 : Hp} {a : Addr} {xs : List V} {ds : List PyData} (p : P a) (e : Sx H1 H) (h : H1 a = some (.lst xs)) (r : DzAll K P H xs ds) : Dz K P H (.ref a) (.list ds) := dz_newl p (e.keep _ _ h rfl) r
theorem dz_dicx {H1 : Hp} {a : Addr} {kvs : List (Key × V)} (p : P a) (e : Sx H1 H) (h : H1 a = some (.dK kvs)) : Dz K P H (.ref a) (.dict []) := .dic p (e.keep _ _ h rfl)
theorem ty_z (h : Dz K P H v d) : TyX K H v (.type (tyD d)) := by
  cases h with
  | non => exact .base .non
  | bl b => exact .base (.bl b)
  | int i => exact .base (.int i)
  | str x => exact .base (.str x)
  | lst _ h r =>
    rcases h with (h | ⟨o, h⟩) | ⟨o, its, n, h, c, _⟩
    · exact .base (.lst h)
    · exact .base (.frz h)
    · exact .kList h c
  | tup h r =>
    rcases h with (h | ⟨o, h⟩) | ⟨o, its, n, h, c, _⟩
    · exact .base (.tup h)
    · exact .fTuple h
    · exact .kTuple h c
  | dic _ h => exact .base (.dK h)
theorem w_isiz {b : String} {r : Bool} (h : Dz K P H v d) (hk : kitB (tyD d) b = some r) (q : Q (.bl r) H) : rIsi K [v, .ty b] H Q := ⟨v, .ty b, _, _, r, rfl, .ty b, ty_z h, kit_ty hk, q⟩
theorem w_isintz (h : Dz K P H v d) (q : Q (.bl (isIntB d)) H) : rIsi K [v, .ty "int"] H Q := w_isiz h (by cases d <;> (simp only [tyD, isIntB]; decide +kernel)) q
theorem w_isboolz (h : Dz K P H v d) (q : Q (.bl (isBoolD d)) H) : rIsi K [v, .ty "bool"] H Q := w_isiz h (by cases d <;> (simp only [tyD, isBoolD]; decide +kernel)) q
theorem w_isstrz (h : Dz K P H v d) (q : Q (.bl (isStrD d)) H) : rIsi K [v, .ty "str"] H Q := w_isiz h (by cases d <;> (simp only [tyD, isStrD]; decide +kernel)) q
theorem w_istupz (h : Dz K P H v d) (q : Q (.bl (isTupD d)) H) : rIsi K [v, .ty "tuple"] H Q := w_isiz h (by cases d <;> (simp only [tyD, isTupD]; decide +kernel)) q
theorem w_islistz (h : Dz K P H v d) (q : Q (.bl (isListD d)) H) : rIsi K [v, .ty "list"] H Q := w_isiz h (by cases d <;> (simp only [tyD, isListD]; decide +kernel)) q
theorem w_lenZT {ds : List PyData} (h : Dz K P H v (.tuple ds)) (q : Q (.int ds.length) H) : rLenU K [v] H Q := by
  obtain ⟨a, xs, rfl, h, r⟩ := dz_tt h
  exact w_lenT h (by rw [dzs_len r]; exact q)
theorem w_ixZT {ds : List PyData} {i : Int} (h : Dz K P H v (.tuple ds)) (e : atI ds i = some d) (q : ∀ x, Dz K P H x d → Q x H) : rIxU K v (.int i) H Q := by
  obtain ⟨a, xs, rfl, h, r⟩ := dz_tt h
  obtain ⟨x, e1, e2⟩ := dzs_at r e
  exact w_ixt h e1 (q x e2)
theorem w_catZT {ds es : List PyData} (h : Dz K P H v (.tuple ds)) (h' : Dz K P H u (.tuple es)) (hl : ds.length + es.length ≤ sizeLine) (q : ∀ x H', Same H H' → Dz K P H' x (.tuple (ds ++ es)) → Q x H') : rAddN K v u H Q := by
  obtain ⟨a, xs, rfl, hs, r⟩ := dz_tt h
  obtain ⟨b, ys, rfl, hs', r'⟩ := dz_tt h'
  have l1 := dzs_len r
  have l2 := dzs_len r'
  refine .inr (.inr (.inr ⟨a, b, xs, ys, rfl, rfl, hs, hs', by omega, fun e => ?_, fun _ e => ?_, fun _ _ p o hp hd => q _ _ (same_new hp) (dz_new ⟨o, hd, upd_same⟩ (dzs_mono (same_new hp) (dzs_app r r')))⟩))
  · subst e
    cases r
    exact q _ _ (Same.refl _) h'
  · subst e
    cases r'
    rw [List.append_nil] at q
    exact q _ _ (Same.refl _) h
theorem w_ixZTs {ds : List PyData} {i : Int} {z : Str} (h : Dz K P H v (.tuple ds)) (e : atI ds i = some (.str z)) (q : Q (.str z) H) : rIxU K v (.int i) H Q := w_ixZT h e fun x hx => by
  rw [dz_str hx]
  exact q
theorem w_ixZTi {ds : List PyData} {i n : Int} (h : Dz K P H v (.tuple ds)) (e : atI ds i = some (.int n)) (q : Q (.int n) H) : rIxU K v (.int i) H Q := w_ixZT h e fun x hx => by
  rw [dz_int hx]
  exact q
end
/-! lists of any data -/
def Bag (K : PySem.W.Frag) (P : Addr → Prop) (B : PyData → Prop) (H : Hp) (a : Addr) (n : Nat) : Prop := ∃ xs ds, H a = some (.lst xs) ∧ DzAll K P H xs ds ∧ (∀ d ∈ ds, B d) ∧ xs.length ≤ n
section
variable {K : PySem.W.Frag} {P P' : Addr → Prop} {B : PyData → Prop} {H H' : Hp} {a b p : Addr} {n : Nat} {xs ys : List V} {es : List PyData} {Q : VK} {x : V} {d : PyData} {o : HO} {W : Wd} {bb : Bool} {H1 : Hp} {F : Addr → Prop}
theorem all_nil : ∀ d ∈ ([] : List PyData), B d := fun _ h => nomatch h
theorem all_cons {r : List PyData} (h : B d) (hr : ∀ d ∈ r, B d) : ∀ e ∈ d :: r, B e := fun e he => by
  rcases List.mem_cons.mp he with rfl | he
  · exact h
  · exact hr e he
theorem all_app {r s : List PyData} (h : ∀ d ∈ r, B d) (hr : ∀ d ∈ s, B d) : ∀ e ∈ r ++ s, B e := fun e he => by
  rcases List.mem_append.mp he with he | he
  · exact h e he
  · exact hr e he
theorem bag_sx (e : Sx H H') (h : Bag K P B H a n) : Bag K P B H' a n := by
  obtain ⟨xs, ds, h1, h2, h3⟩ := h
  exact ⟨xs, ds, e.keep _ _ h1 rfl, dzsx e h2, h3⟩
theorem bag_wk (w : ∀ a, P a → P' a) (h : Bag K P B H a n) : Bag K P' B H a n := by
  obtain ⟨xs, ds, h1, h2, h3⟩ := h
  exact ⟨xs, ds, h1, dzs_wk w h2, h3⟩
theorem bag_le {m : Nat} (l : n ≤ m) (h : Bag K P B H a n) : Bag K P B H a m := by
  obtain ⟨xs, ds, h1, h2, h3, h4⟩ := h
  exact ⟨xs, ds, h1, h2, h3, Nat.le_trans h4 l⟩
theorem bag_lit (h : H a = some (.lst xs)) (r : DzAll K P H xs es) (hb : ∀ d ∈ es, B d) (l : xs.length ≤ n) : Bag K P B H a n := ⟨xs, es, h, r, hb, l⟩
theorem bag_cat {m : Nat} (e1 : Sx H1 H) (h : Bag K P B H1 a n) (h2 : H b = some (.lst ys)) (r : DzAll K P H ys es) (hb : ∀ d ∈ es, B d) (l : n + ys.length ≤ m) (lm : m ≤ 1000000) (q : ∀ p H', H p = none → Same H H' → Bag K P B H' p m → Q (.ref p) H') : rAddN K (.ref a) (.ref b) H Q := by
  obtain ⟨xs, ds, h1, h3, h4, h5⟩ := bag_sx e1 h
  refine w_catL h1 h2 (by omega) fun p H' np e hp => q p H' np e ⟨xs ++ ys, ds ++ es, hp, dzs_app (dzs_mono e h3) (dzs_mono e r), all_app h4 hb, by rw [List.length_append]; omega⟩
theorem bag_app (h : Bag K P B H a n) (w : ∀ p, P p → p ≠ a) (hx : Dz K P H x d) (hb : B d) (l : n < 1000000) (q : ∀ ys zs, H a = some (.lst ys) → Bag K P B (upd H a (.lst zs)) a (n + 1) → Q .non (upd H a (.lst zs))) : rAppend (.ref a) [x] H Q := by
  obtain ⟨xs, ds, h1, h3, h4, h5⟩ := h
  refine w_append h1 (by omega) ?_
  refine q xs _ h1 ⟨xs ++ [x], ds ++ [d], upd_same, dzs_app (dzs_mut h1 w h3) (dzs_one (dz_mut h1 w hx)), all_app h4 (all_cons hb all_nil), by rw [List.length_append]; exact Nat.succ_le_succ h5⟩
theorem bag_ne (h : Bag K P B H1 a n) (e : Sx H1 H) (np : H p = none) : p ≠ a := by
  obtain ⟨xs, ds, h1, _⟩ := h
  intro z
  subst z
  obtain ⟨w, hw⟩ := e.there _ _ h1
  rw [hw] at np
  cases np
theorem pres_of {H1 : Hp} (e : Sx H1 H) (h : H1 p = some o) : H p ≠ none := fun z => by
  obtain ⟨w, hw⟩ := e.there _ _ h
  rw [hw] at z
  cases z
theorem ne_fresh {H1 : Hp} (np : H p = none) (e : Sx H1 H) (h : H1 a = some o) : p ≠ a := fun z => by
  subst z
  exact pres_of e h np
theorem bag_ty {R : Prop} (h : Bag K P B H a n) (q : R) : tyV K "list" (.ref a) H ∧ R := by
  obtain ⟨xs, ds, h1, _⟩ := h
  exact w_tyL h1 q
/-- lies in the heap, and F -/
def PF (F : Addr → Prop) (H : Hp) : Addr → Prop := fun p => F p ∧ H p ≠ none
theorem pf_sx (e : Sx H H') : ∀ p, PF F H p → PF F H' p := fun p ⟨h1, h2⟩ => ⟨h1, by
  cases c : H p with
  | none => exact (h2 c).elim
  | some u => exact pres_of e c⟩
theorem bag_litx (h : H1 a = some (.lst xs)) (e : Sx H1 H) (r : DzAll K P H xs es) (hb : ∀ d ∈ es, B d) (l : xs.length ≤ n) : Bag K P B H a n := ⟨xs, es, e.keep _ _ h rfl, r, hb, l⟩
theorem bag_catF {m : Nat} (e : Sx H1 H) (h : Bag K (PF F H1) B H1 a n) (h2 : H b = some (.lst ys)) (r : DzAll K (PF F H) H ys es) (hb : ∀ d ∈ es, B d) (l : n + ys.length ≤ m) (lm : m ≤ 1000000) (q : ∀ p H', H p = none → Same H H' → Bag K (PF F H') B H' p m → Bag K (fun x => F x ∧ x ≠ p) B H' p m → Q (.ref p) H') : rAddN K (.ref a) (.ref b) H Q :=
  bag_cat (Sx.refl _) (bag_wk (pf_sx e) (bag_sx e h)) h2 r hb l lm fun p H' np e2 hb2 => q p H' np e2 (bag_wk (pf_sx (Same.sx e2)) hb2) (bag_wk (fun x ⟨h1, h2⟩ => ⟨h1, fun z => by
    subst z
    exact h2 np⟩) hb2)
end
theorem log2_sm {n : Nat} (h : n < 18446744073709551616) : n.log2 < 1920 := by
  by_cases z : n = 0
  · subst z
    decide
  · rw [Nat.log2_lt z]
    exact Nat.lt_of_lt_of_le h (show 2 ^ 64 ≤ 2 ^ 1920 from Nat.pow_le_pow_right (by decide) (by decide))
theorem take_iff {α : Type} {xs ys : List α} {i : Nat} {x y : α} (hx : xs[i]? = some x) (hy : ys[i]? = some y) : xs.take (i + 1) = ys.take (i + 1) ↔ xs.take i = ys.take i ∧ x = y := by
  have l1 := (List.getElem?_eq_some_iff.mp hx).1
  have l2 := (List.getElem?_eq_some_iff.mp hy).1
  rw [List.take_add_one, List.take_add_one, hx, hy]
  constructor
  · intro e
    have z := List.append_inj e (by rw [List.length_take, List.length_take]; omega)
    exact ⟨z.1, by simpa using z.2⟩
  · rintro ⟨e, rfl⟩
    rw [e]
/-! shapes of data, for == -/
theorem canAll : ∀ ds : List PyData, (∀ d ∈ ds, PyData.canLay0 d = true) → PyData.canLayAll0 ds = true
  | [], _ => by simp [PyData.canLayAll0]
  | d :: r, h => by
    rw [PyData.canLayAll0, h d List.mem_cons_self, canAll r fun x hx => h x (List.mem_cons_of_mem _ hx)]
    rfl
theorem depAll {k : Nat} : ∀ ds : List PyData, (∀ d ∈ ds, PyData.depth d ≤ k) → PyData.depthAll ds ≤ k
  | [], _ => by simp [PyData.depthAll]
  | d :: r, h => by
    have a := h d List.mem_cons_self
    have b := depAll r fun x hx => h x (List.mem_cons_of_mem _ hx)
    rw [PyData.depthAll]
    omega
theorem shaped_list {ds : List PyData} {k : Nat} (hk : k ≤ 60) (h : ∀ d ∈ ds, PyData.canLay0 d = true ∧ PyData.depth d ≤ k) : SeqAt.shaped (.list ds) = true := by
  have a := canAll ds fun d hd => (h d hd).1
  have b := depAll ds fun d hd => (h d hd).2
  show (PyData.canLay0 (.list ds) && decide (PyData.depth (.list ds) ≤ 64)) = true
  rw [Bool.and_eq_true]
  exact ⟨by simp only [PyData.canLay0]; exact a, decide_eq_true (by simp only [PyData.depth]; omega)⟩
theorem eqv_lnil (ds : List PyData) : PyData.eqv (.list ds) (.list []) = decide (ds = []) := by
  cases ds with
  | nil => rfl
  | cons n r => rfl
end Sh
/-! what bits tell -/
namespace Sh
open PySem PySem.Spec PyProof.Rows L2
def arnF (w base below n wd : Int) : Int := (base - below + (n - (base - below)) % p2 wd) % p2 w
/-- what a place's bits tell -/
def VO (fo ah : List Int) (m v : Int) (fd : Fd) (n : Int) : Wy → Int → Prop
  | .whole, x => x = n
  | .keep, x => ∃ r, ExpK fo ah m v fd.kd r ∧ x = r % p2 fd.br
  | .low wd bl, x => ∃ r, ExpK fo ah m v fd.kd r ∧ x = arnF fd.br (r % p2 fd.br) bl n wd
theorem VO.one {fo ah : List Int} {m v : Int} {fd : Fd} {n : Int} {w : Wy} {x y : Int} (h : VO fo ah m v fd n w x) (h' : VO fo ah m v fd n w y) : x = y := by
  cases w with
  | whole => exact Eq.trans h (Eq.symm h')
  | keep =>
    obtain ⟨r, h1, rfl⟩ := h
    obtain ⟨r', h2, rfl⟩ := h'
    rw [ExpK.one h1 h2]
  | low wd bl =>
    obtain ⟨r, h1, rfl⟩ := h
    obtain ⟨r', h2, rfl⟩ := h'
    rw [ExpK.one h1 h2]
/-- where a place's piece begins -/
def atW (fs : List Fd) (ws : List Wy) (j : Nat) : Nat := (((fs.zip ws).take j).map fun fw => wW fw.1 fw.2).sum
theorem atW_succ {fs : List Fd} {ws : List Wy} {j : Nat} {f : Fd} {w : Wy} (h1 : fs[j]? = some f) (h2 : ws[j]? = some w) : atW fs ws (j + 1) = atW fs ws j + wW f w := by
  have e : (fs.zip ws)[j]? = some (f, w) := List.getElem?_zip_eq_some.mpr ⟨h1, h2⟩
  unfold atW
  rw [List.take_add_one, e, List.map_append, List.sum_append]
  simp
theorem atW_mono (fs : List Fd) (ws : List Wy) {i j : Nat} (h : i ≤ j) : atW fs ws i ≤ atW fs ws j := by
  unfold atW
  have e : (fs.zip ws).take j = (fs.zip ws).take i ++ ((fs.zip ws).take j).drop i := by
    have z := (List.take_append_drop i ((fs.zip ws).take j)).symm
    rw [List.take_take, Nat.min_eq_left h] at z
    exact z
  rw [e, List.map_append, List.sum_append]
  exact Nat.le_add_right _ _
def sliceN (z : Str) (a l : Nat) : List Nat := ((cz z).drop a).take l
def numS (z : Str) (a l : Nat) : Int := valL (sliceN z a l).reverse
theorem cutD_mid {α : Type} {xs : List α} {a b : Int} (h0 : 0 ≤ a) (h1 : a ≤ b) (h2 : b ≤ xs.length) : cutD xs (some a) (some b) = (xs.drop a.toNat).take (b.toNat - a.toNat) := by
  obtain ⟨n, rfl⟩ : ∃ n : Nat, a = n := ⟨a.toNat, by omega⟩
  obtain ⟨k, rfl⟩ : ∃ k : Nat, b = k := ⟨b.toNat, by omega⟩
  unfold cutD
  rw [six_of _ (by omega), six_of _ (by omega), Int.toNat_natCast, Int.toNat_natCast]
theorem num_slice {y z : Str} {a l : Nat} (h : cz y = sliceN z a l) : numT y = numS z a l := by
  unfold numT numS
  rw [h]
theorem slice_len {z : Str} {a l : Nat} (h : a + l ≤ z.length) : (sliceN z a l).length = l := by
  unfold sliceN
  rw [List.length_take, List.length_drop, cz_len]
  omega
theorem slice_01 {z : Str} {a l : Nat} (h : ∀ c ∈ cz z, c = 48 ∨ c = 49) : ∀ c ∈ sliceN z a l, c = 48 ∨ c = 49 := fun c hc => h c (List.mem_of_mem_drop (List.mem_of_mem_take hc))
theorem numS_bd {z : Str} {a l : Nat} (h : ∀ c ∈ cz z, c = 48 ∨ c = 49) (hl : a + l ≤ z.length) : 0 ≤ numS z a l ∧ numS z a l < 2 ^ l := by
  have e := valL_bound (sliceN z a l).reverse fun c hc => slice_01 h c (List.mem_reverse.mp hc)
  rw [List.length_reverse, slice_len hl] at e
  exact e
/-- the head that bits tell, as far as place i -/
def OpN (s : Shp) (f : Fm) (fo : List Int) (m : Int) (z : Str) (i : Nat) (hd : List Int) : Prop :=
  hd.length = i ∧ ∀ (j : Nat) fd w v, j < i → s.fs[j]? = some fd → f.ws[j]? = some w → fo[j]? = some v → ∃ x, hd[j]? = some x ∧ VO fo (hd.take j) m v fd (numS z (atW s.fs f.ws j) (wW fd w)) w x
section
variable {s : Shp} {f : Fm} {fo : List Int} {m : Int} {z : Str} {i : Nat} {hd hd' : List Int}
theorem OpN.nil : OpN s f fo m z 0 [] := ⟨rfl, fun j _ _ _ h => by omega⟩
theorem OpN.snoc {fd : Fd} {w : Wy} {v x : Int} (h : OpN s f fo m z i hd) (h1 : s.fs[i]? = some fd) (h2 : f.ws[i]? = some w) (h3 : fo[i]? = some v) (hx : VO fo hd m v fd (numS z (atW s.fs f.ws i) (wW fd w)) w x) : OpN s f fo m z (i + 1) (hd ++ [x]) := by
  obtain ⟨hl, h⟩ := h
  refine ⟨by rw [List.length_append, hl]; rfl, fun j fd' w' v' hj e1 e2 e3 => ?_⟩
  by_cases c : j < i
  · obtain ⟨y, hy, hv⟩ := h j fd' w' v' c e1 e2 e3
    refine ⟨y, by rw [List.getElem?_append_left (by omega)]; exact hy, ?_⟩
    rw [List.take_append_of_le_length (by omega)]
    exact hv
  · have e : j = i := by omega
    subst e
    obtain rfl := Option.some.inj (h1.symm.trans e1)
    obtain rfl := Option.some.inj (h2.symm.trans e2)
    obtain rfl := Option.some.inj (h3.symm.trans e3)
    refine ⟨x, ?_, ?_⟩
    · rw [List.getElem?_append_right (by omega), hl, Nat.sub_self]
      rfl
    · rw [List.take_append_of_le_length (by omega), List.take_of_length_le (by omega)]
      exact hx
theorem OpN.one (lw : f.ws.length = s.fs.length) (lf : fo.length = s.fs.length) (hi : i ≤ s.fs.length) (h : OpN s f fo m z i hd) (h' : OpN s f fo m z i hd') : hd = hd' := by
  have key : ∀ j, j ≤ i → hd.take j = hd'.take j := fun j => by
    induction j with
    | zero => exact fun _ => rfl
    | succ j ih =>
      intro hj
      have e := ih (by omega)
      obtain ⟨fd, h1⟩ : ∃ fd, s.fs[j]? = some fd := ⟨_, List.getElem?_eq_getElem (by omega)⟩
      obtain ⟨w, h2⟩ : ∃ w, f.ws[j]? = some w := ⟨_, List.getElem?_eq_getElem (by omega)⟩
      obtain ⟨v, h3⟩ : ∃ v, fo[j]? = some v := ⟨_, List.getElem?_eq_getElem (by omega)⟩
      obtain ⟨x, hx, hv⟩ := h.2 j fd w v (by omega) h1 h2 h3
      obtain ⟨x', hx', hv'⟩ := h'.2 j fd w v (by omega) h1 h2 h3
      rw [e] at hv
      obtain rfl := VO.one hv hv'
      rw [List.take_add_one, List.take_add_one, e, hx, hx']
  have z1 := key i (Nat.le_refl _)
  rw [List.take_of_length_le (by rw [h.1]; exact Nat.le_refl _), List.take_of_length_le (by rw [h'.1]; exact Nat.le_refl _)] at z1
  exact z1
end
theorem atW_all {fs : List Fd} {ws : List Wy} {vs : List Int} (h1 : ws.length = fs.length) (h2 : vs.length = fs.length) : atW fs ws fs.length = triW (triL fs ws vs) := by
  unfold atW triW triL
  rw [List.take_of_length_le (by rw [List.length_zip]; omega)]
  congr 1
  induction fs generalizing ws vs with
  | nil => rfl
  | cons f fs ih =>
    cases ws with
    | nil => simp at h1
    | cons w ws =>
      cases vs with
      | nil => simp at h2
      | cons v vs =>
        show wW f w :: _ = wW f w :: _
        congr 1
        exact ih (by simpa using h1) (by simpa using h2)
theorem atW_le {s : Shp} {f : Fm} (ok : OkShp s) (okf : OkFm s f) : atW s.fs f.ws s.fs.length ≤ 480 := by
  have lw := okf.len
  have l1 := ok.l1
  have e : atW s.fs f.ws s.fs.length = triW (triL s.fs f.ws (List.replicate s.fs.length 0)) := atW_all lw List.length_replicate
  have z := triW_le (triL s.fs f.ws (List.replicate s.fs.length 0)) fun t ht => by
    obtain ⟨i, hi⟩ := List.getElem?_of_mem ht
    obtain ⟨e1, e2⟩ := List.getElem?_zip_eq_some.mp hi
    obtain ⟨e3, _⟩ := List.getElem?_zip_eq_some.mp e2
    have o := ok.fd i _ e1
    have z := wW_le (okf.ok i _ _ e3 e1) (by have := o.b0; omega)
    have := o.b1
    omega
  rw [tri_len lw List.length_replicate] at z
  omega
theorem pieces_01 (ts : List Tri) : ∀ c ∈ cz (piecesT ts), c = 48 ∨ c = 49 := fun c hc => by
  rw [cz_pieces] at hc
  obtain ⟨l, hl, hcl⟩ := List.mem_flatten.mp hc
  obtain ⟨t, _, rfl⟩ := List.mem_map.mp hl
  exact bits_01 c hcl
section
variable {K : PySem.W.Frag} {σ : L2.St} {H : Hp} {Q : VK} {te : TE} {tt : TT} {g : TG} {vs : List Nat} {z : Str}
/-- [.. for c in z], z a text, with draws -/
theorem lcSX (I : Nat → List V → Hp → Prop) (hst : Stb I) (hn : z.length ≤ 1000000) (hI : ∀ i acc H', I i acc H' → acc.length ≤ i) (h0 : ∀ H', Same H H' → I 0 [] H')
    (hs : ∀ i c acc H', z.cps.toList[i]? = some c → Sx H H' → I i acc H' → ∀ (k : VK) (k' : Hp → Prop), (∀ y H4, Sx H' H4 → I (i + 1) (acc ++ [y]) H4 → k y H4) → (∀ H3, Sx H' H3 → I (i + 1) acc H3 → k' H3) →
      g (.str ⟨#[c]⟩) (wipe σ vs) H' fun σ2 H2 => wipe σ2 vs = wipe σ vs ∧ tt σ2 H2 fun b H3 => if b = true then te σ2 H3 k else k' H3)
    (hd : ∀ D acc H', H D = none → Sx H H' → H' D = some (.lst acc) → I z.length acc H' → Q (.ref D) H') : LcOk (Its z) g tt te vs σ Q H :=
  lc_genX (n := z.length) I hst hn hI h0 (fun i acc H' hi _ _ => hi) (fun _ _ _ _ => Nat.le_refl _) (fun i acc x H' H'' hi s1 w1 y => by
    obtain ⟨e1, c, e2, e3⟩ := y
    subst e1
    subst e3
    exact hs i c acc _ (by rw [Array.getElem?_toList]; exact e2) s1 w1) hd
end
/-! single signs -/
def is01 (z : Str) : Prop := ∀ c ∈ cz z, c = 48 ∨ c = 49
def isBS (x : V) : Prop := ∃ y : Str, x = .str y ∧ y.length = 1 ∧ is01 y
theorem strs_of : ∀ {xs : List V}, (∀ x ∈ xs, isBS x) → ∃ ys : List Str, xs = ys.map V.str ∧ ∀ y ∈ ys, y.length = 1 ∧ is01 y
  | [], _ => ⟨[], rfl, fun _ h => nomatch h⟩
  | x :: r, h => by
    obtain ⟨ys, e, hn⟩ := strs_of (xs := r) fun y hy => h y (List.mem_cons_of_mem _ hy)
    obtain ⟨y, rfl, h1⟩ := h x List.mem_cons_self
    refine ⟨y :: ys, by rw [e]; rfl, fun m hm => ?_⟩
    rcases List.mem_cons.mp hm with rfl | hm
    · exact h1
    · exact hn m hm
theorem sum_ones : ∀ {ys : List Str}, (∀ y ∈ ys, y.length = 1 ∧ is01 y) → (ys.map (·.length)).sum = ys.length
  | [], _ => rfl
  | y :: r, h => by
    rw [List.map_cons, List.sum_cons, List.length_cons, (h y List.mem_cons_self).1, sum_ones fun z hz => h z (List.mem_cons_of_mem _ hz)]
    omega
theorem len_joinB {ys : List Str} (h : ∀ y ∈ ys, y.length = 1 ∧ is01 y) : (Txt.join "" ys).length = ys.length := by
  rw [← cz_len, cz_join, List.length_flatten, List.map_map]
  have e : (List.length ∘ cz) = fun y : Str => y.length := by
    funext y
    exact cz_len y
  rw [e]
  exact sum_ones h
theorem is01_join {ys : List Str} (h : ∀ y ∈ ys, y.length = 1 ∧ is01 y) : is01 (Txt.join "" ys) := fun c hc => by
  rw [cz_join] at hc
  obtain ⟨x, hx, hcx⟩ := List.mem_flatten.mp hc
  obtain ⟨y, hy, rfl⟩ := List.mem_map.mp hx
  exact (h y hy).2 c hcx
theorem mul_one {c : Nat} {n : Int} : cz (Txt.mul ⟨#[c]⟩ n) = List.replicate n.toNat c := by
  rw [cz_mul]
  show (List.replicate n.toNat [c]).flatten = _
  induction n.toNat with
  | zero => rfl
  | succ n ih => rw [List.replicate_succ, List.flatten_cons, ih, List.replicate_succ]; rfl
theorem w_ix01 {K : PySem.W.Frag} {H : Hp} {Q : VK} {i : Int} (h0 : 0 ≤ i) (h1 : i < 2) (q : ∀ c, c = 48 ∨ c = 49 → Q (.str ⟨#[c]⟩) H) : rIxU K (.str (Str.ofString "01")) (.int i) H Q := by
  have e : i = 0 ∨ i = 1 := by omega
  rcases e with rfl | rfl
  · exact w_ixs (by decide) (c := 48) rfl (q 48 (.inl rfl))
  · exact w_ixs (by decide) (c := 49) rfl (q 49 (.inr rfl))
theorem mul1_len {c n : Nat} : (Txt.mul ⟨#[c]⟩ (n : Int)).length = n := by
  rw [← cz_len, mul_one, List.length_replicate, Int.toNat_natCast]
theorem mul1_01 {c : Nat} {n : Int} (h : c = 48 ∨ c = 49) : is01 (Txt.mul ⟨#[c]⟩ n) := fun d hd => by
  rw [mul_one] at hd
  rw [List.eq_of_mem_replicate hd]
  exact h
theorem isBS_one {c : Nat} (h : c = 48 ∨ c = 49) : isBS (.str ⟨#[c]⟩) := ⟨_, rfl, rfl, fun d hd => by
  rw [List.mem_singleton.mp hd]
  exact h⟩
end Sh
/-! former heads; which heads are sure -/
namespace Sh
open PySem PySem.Spec PyProof.Rows L2
theorem shaped_tints (ns : List Int) : SeqAt.shaped (.tuple (ns.map PyData.int)) = true := PySem.W.shaped_ints ns
theorem eqvAll_ints : ∀ a b : List Int, PyData.eqvAll (a.map .int) (b.map .int) = decide (a = b)
  | [], [] => by simp [PyData.eqvAll]
  | [], _ :: _ => by simp [PyData.eqvAll]
  | _ :: _, [] => by simp [PyData.eqvAll]
  | x :: xs, y :: ys => by
    show PyData.eqvAll (.int x :: xs.map .int) (.int y :: ys.map .int) = _
    rw [PyData.eqvAll, eqvAll_ints xs ys, show PyData.eqv (.int x) (.int y) = decide (x = y) by by_cases h : x = y <;> simp [PyData.eqv, h]]
    by_cases h : x = y <;> by_cases g : xs = ys <;> simp [h, g]
def headD (h : List Int) : PyData := .tuple (h.map .int)
/-- == of two heads -/
theorem w_eqH {K : PySem.W.Frag} {H : Hp} {Q : VK} {v u : V} {a b : List Int} (h : Dq K H v (headD a)) (h' : Dq K H u (headD b)) (q : Q (.bl (decide (a = b))) H) : rEqU K v u H Q :=
  w_eqD h h' (shaped_tints a) (shaped_tints b) (by
    have e : PyData.eqv (headD a) (headD b) = decide (a = b) := by
      show PyData.eqv (.tuple (a.map .int)) (.tuple (b.map .int)) = _
      rw [PyData.eqv]
      exact eqvAll_ints a b
    rw [e]
    exact q)
/-- a former head with how many letters ahead it is -/
abbrev Fo := Int × List Int
def foD (p : Fo) : PyData := .tuple [.int p.1, headD p.2]
def fosD (ps : List Fo) : PyData := .tuple (ps.map foD)
def OkFo (s : Shp) (p : Fo) : Prop := p.2.length = s.fs.length ∧ 1 ≤ p.1 ∧ p.1 ≤ 1000
/-- a head's own bits are opened to it by a former one -/
def SuP (s : Shp) (f : Fm) (hd : List Int) (p : Fo) : Prop := OpN s f p.2 p.1 (piecesT (triL s.fs f.ws hd)) s.fs.length hd
def SuA (s : Shp) (f : Fm) (hd : List Int) (ps : List Fo) : Prop := ∀ p ∈ ps, SuP s f hd p
theorem suA_nil {s : Shp} {f : Fm} {hd : List Int} : SuA s f hd [] := fun _ h => nomatch h
theorem suA_snoc {s : Shp} {f : Fm} {hd o : List Int} {ps : List Fo} {p : Fo} {i : Nat} {bs : List Bool} (ok : f.ws.length = s.fs.length) (lp : p.2.length = s.fs.length) (h : bs.all id = true ↔ SuA s f hd (ps.take i)) (hp : ps[i]? = some p) (op : OpN s f p.2 p.1 (piecesT (triL s.fs f.ws hd)) s.fs.length o) : (bs ++ [decide (o = hd)]).all id = true ↔ SuA s f hd (ps.take (i + 1)) := by
  have e : decide (o = hd) = true ↔ SuP s f hd p := ⟨fun e => by
    have z := of_decide_eq_true e
    subst z
    exact op, fun e => decide_eq_true (op.one ok lp (Nat.le_refl _) e)⟩
  rw [List.all_append, Bool.and_eq_true, h, List.take_add_one, hp]
  show _ ∧ (([decide (o = hd)].all id) = true) ↔ _
  rw [show [decide (o = hd)].all id = decide (o = hd) from by simp, e]
  constructor
  · rintro ⟨a, b⟩ q hq
    rcases List.mem_append.mp hq with hq | hq
    · exact a q hq
    · rw [List.mem_singleton.mp hq]
      exact b
  · intro a
    exact ⟨fun q hq => a q (List.mem_append.mpr (.inl hq)), a p (List.mem_append.mpr (.inr (List.mem_singleton.mpr rfl)))⟩
section
variable {K : PySem.W.Frag} {H H' : Hp} {v : V} {Q : VK} {a : Addr} {i : Int}
theorem w_ixLm {α : Type} {g : α → PyData} {l : List α} (h : Dq K H v (.list (l.map g))) (h0 : -(l.length : Int) ≤ i) (h1 : i < l.length) (q : ∀ f x, f ∈ l → Dq K H x (g f) → Q x H) : rIxU K v (.int i) H Q := by
  obtain ⟨f, e, hm⟩ := atI_mem h0 h1
  exact w_ixQL h (d := g f) (by rw [atI_map, e]; rfl) fun x hx => q f x hm hx
theorem w_ixLM {α : Type} {g : α → PyData} {l : List α} (h : Dq K H v (.list (l.map g))) (h0 : 0 ≤ i) (h1 : i < l.length) (q : ∀ f x, l[i.toNat]? = some f → Dq K H x (g f) → Q x H) : rIxU K v (.int i) H Q := by
  obtain ⟨f, e, e2⟩ := atI_get h0 h1
  exact w_ixQL h (d := g f) (by rw [atI_map, e2]; rfl) fun x hx => q f x e hx
theorem w_ixQTx {ds : List PyData} {i : Int} {d : PyData} (h : Dq K H v (.tuple ds)) (e : Sx H H') (ea : atI ds i = some d) (q : ∀ x, Dq K H x d → Q x H') : rIxU K v (.int i) H' Q := by
  cases h with
  | tup h r =>
    obtain ⟨x, e1, e2⟩ := dqs_at r ea
    exact w_ixt (sx_t e h.t) e1 (q x e2)
theorem w_max {ns : List Int} (h : SqL K H a (ns.map V.int)) (h0 : 0 < ns.length) (q : ∀ m, m ∈ ns → (∀ y, y ∈ ns → y ≤ m) → Q (.int m) H) : rMax K [.ref a] H Q := ⟨a, ns, rfl, h, h0, q⟩
end
theorem tupO_head (h : List Int) : tupO (headD h) := tupOs_ints h
theorem tupO_fo (p : Fo) : tupO (foD p) := ⟨trivial, tupO_head _, trivial⟩
theorem tupOs_heads (hs : List (List Int)) : tupOs (hs.map headD) := tupOs_of fun d hd => by
  obtain ⟨h, _, rfl⟩ := List.mem_map.mp hd
  exact tupOs_ints h
def HeadsOk (s : Shp) (hs : List (List Int)) : Prop := ∀ h ∈ hs, OkHead s.fs h
section
variable {K : PySem.W.Frag} {σ : L2.St} {H : Hp} {Q : VK} {te : TE} {tt : TT} {g : TG} {vs : List Nat} {c : Int} {n : Nat}
/-- [.. for k in range(c, c + n)] -/
theorem lcR2 (I : Nat → List V → Hp → Prop) (hst : Stb I) (hn : n ≤ 1000000) (hI : ∀ i acc H', I i acc H' → acc.length ≤ i) (h0 : ∀ H', Same H H' → I 0 [] H')
    (hs : ∀ (i : Nat) acc H', i < n → Same H H' → I i acc H' → ∀ (k : VK) (k' : Hp → Prop), (∀ y H4, Same H' H4 → I (i + 1) (acc ++ [y]) H4 → k y H4) → (∀ H3, Same H' H3 → I (i + 1) acc H3 → k' H3) →
      g (.int (c + (i : Int))) (wipe σ vs) H' fun σ2 H2 => wipe σ2 vs = wipe σ vs ∧ tt σ2 H2 fun b H3 => if b = true then te σ2 H3 k else k' H3)
    (hd : ∀ D acc H', H D = none → Same H H' → H' D = some (.lst acc) → I n acc H' → Q (.ref D) H') : LcOk (Itr c n) g tt te vs σ Q H :=
  lc_gen I hst hn hI h0 (fun _ _ _ h _ _ => h) (fun _ _ _ _ => Nat.le_refl _) (fun i acc x H' H'' hi s1 w1 y => by
    obtain ⟨e1, e2⟩ := y
    subst e1
    subst e2
    exact hs i acc _ hi s1 w1) hd
end
section
variable {X : Cx}
theorem w_bits {to : TE} {σ : L2.St} {H : Hp} {Q : VK} (h : to σ H fun x H1 => ∃ i, x = .int i ∧ Q (.int (Builtin.Int.intBits i : Nat)) H1) : tBits to σ H Q := h
theorem bits_two {n : Int} (h : 2 ≤ n) : 2 ≤ Builtin.Int.intBits n := by
  unfold Builtin.Int.intBits
  rw [if_neg (by simpa using (show n ≠ 0 by omega))]
  have e : 1 ≤ n.natAbs.log2 := by
    rw [Nat.le_log2 (by omega)]
    omega
  omega
end
/-! a cut within an expression -/
section
variable {σ : L2.St} {H : Hp}
theorem w_cutA {t : TA} {k : List V → Hp → Prop} (C : List V → Hp → Prop) (key : ∀ xs H', C xs H' → k xs H') (h : ∀ k' : List V → Hp → Prop, (∀ xs H', C xs H' → k' xs H') → t σ H k') : t σ H k := h k key
theorem w_cutE {t : TE} {k : VK} (C : V → Hp → Prop) (key : ∀ x H', C x H' → k x H') (h : ∀ k' : VK, (∀ x H', C x H' → k' x H') → t σ H k') : t σ H k := h k key
end
end Sh
/-! doubts: the first former by which another head is opened -/
namespace Sh
open PySem PySem.Spec PyProof.Rows L2
/-- the first place at which two heads are unlike -/
def FstU (a b : List Int) : Option Nat → Prop
  | none => a = b
  | some k => a.take k = b.take k ∧ ∃ x y, a[k]? = some x ∧ b[k]? = some y ∧ x ≠ y
theorem FstU.one {a b : List Int} {r r' : Option Nat} (h : FstU a b r) (h' : FstU a b r') : r = r' := by
  have lt : ∀ i j, i < j → FstU a b (some i) → FstU a b (some j) → False := fun i j hij ⟨_, x, y, hx, hy, n⟩ ⟨e, _⟩ => by
    have z : (a.take j)[i]? = (b.take j)[i]? := by rw [e]
    rw [List.getElem?_take_of_lt hij, List.getElem?_take_of_lt hij, hx, hy] at z
    exact n (Option.some.inj z)
  cases r with
  | none => cases r' with
    | none => rfl
    | some k =>
      obtain ⟨_, x, y, hx, hy, n⟩ := h'
      have e : a = b := h
      rw [e, hy] at hx
      exact (n (Option.some.inj hx).symm).elim
  | some k => cases r' with
    | none =>
      obtain ⟨_, x, y, hx, hy, n⟩ := h
      have e : a = b := h'
      rw [e, hy] at hx
      exact (n (Option.some.inj hx).symm).elim
    | some k' =>
      have : k = k' := by
        by_cases c : k < k'
        · exact (lt _ _ c h h').elim
        · by_cases c2 : k' < k
          · exact (lt _ _ c2 h' h).elim
          · omega
      rw [this]
theorem take_snocI {a : List Int} {i : Nat} {x : Int} (h : a[i]? = some x) : a.take (i + 1) = a.take i ++ [x] := by
  rw [List.take_add_one, h]
  rfl
def pairD (d : Option (Int × Int × Int)) : PyData := match d with
  | none => .none
  | some (k, p, v) => .tuple [.int k, .int p, .int v]
/-- what a doubt tells -/
def DouR (s : Shp) (f : Fm) (hd : List Int) (ps : List Fo) : Option (Int × Int × Int) → Prop
  | none => SuA s f hd ps
  | some (k, pl, v) => ∃ (i j : Nat) (p : Fo) (o : List Int), k = i ∧ pl = j ∧ ps[i]? = some p ∧ SuA s f hd (ps.take i) ∧ OpN s f p.2 p.1 (piecesT (triL s.fs f.ws hd)) s.fs.length o ∧ FstU o hd (some j) ∧ o[j]? = some v
theorem DouR.not {s : Shp} {f : Fm} {hd : List Int} {ps : List Fo} {p : Fo} {o : List Int} {j : Nat} (okf : f.ws.length = s.fs.length) (lp : p.2.length = s.fs.length) (op : OpN s f p.2 p.1 (piecesT (triL s.fs f.ws hd)) s.fs.length o) (u : FstU o hd (some j)) : ¬ SuP s f hd p := fun h => by
  obtain rfl := OpN.one okf lp (Nat.le_refl _) op h
  obtain ⟨_, x, y, hx, hy, n⟩ := u
  rw [hx] at hy
  exact n (Option.some.inj hy)
theorem suA_lt {s : Shp} {f : Fm} {hd : List Int} {ps : List Fo} {p : Fo} {i j : Nat} (h : SuA s f hd (ps.take j)) (hp : ps[i]? = some p) (hij : i < j) : SuP s f hd p := h p (by
  have e : (ps.take j)[i]? = some p := by rw [List.getElem?_take_of_lt hij, hp]
  exact List.mem_of_getElem? e)
theorem DouR.one {s : Shp} {f : Fm} {hd : List Int} {ps : List Fo} {r r' : Option (Int × Int × Int)} (okf : f.ws.length = s.fs.length) (lp : ∀ p ∈ ps, OkFo s p) (h : DouR s f hd ps r) (h' : DouR s f hd ps r') : r = r' := by
  have key : ∀ {k pl v}, SuA s f hd ps → DouR s f hd ps (some (k, pl, v)) → False := fun su ⟨i, j, p, o, _, _, hp, _, op, u, _⟩ =>
    DouR.not (ps := ps) okf (lp p (List.mem_of_getElem? hp)).1 op u (su p (List.mem_of_getElem? hp))
  cases r with
  | none => cases r' with
    | none => rfl
    | some x => exact (key h h').elim
  | some x => cases r' with
    | none => exact (key h' h).elim
    | some y =>
      obtain ⟨k, pl, v⟩ := x
      obtain ⟨k', pl', v'⟩ := y
      obtain ⟨i, j, p, o, rfl, rfl, hp, su, op, u, hv⟩ := h
      obtain ⟨i', j', p', o', rfl, rfl, hp', su', op', u', hv'⟩ := h'
      have ei : i = i' := by
        by_cases c : i < i'
        · exact (DouR.not (ps := ps) okf (lp p (List.mem_of_getElem? hp)).1 op u (suA_lt su' hp c)).elim
        · by_cases c2 : i' < i
          · exact (DouR.not (ps := ps) okf (lp p' (List.mem_of_getElem? hp')).1 op' u' (suA_lt su hp' c2)).elim
          · omega
      subst ei
      obtain rfl := Option.some.inj (hp.symm.trans hp')
      obtain rfl := OpN.one okf (lp p (List.mem_of_getElem? hp)).1 (Nat.le_refl _) op op'
      obtain rfl := Option.some.inj (FstU.one u u')
      obtain rfl := Option.some.inj (hv.symm.trans hv')
      rfl
theorem suA_step {s : Shp} {f : Fm} {hd o : List Int} {ps : List Fo} {p : Fo} {i : Nat} (h : SuA s f hd (ps.take i)) (hp : ps[i]? = some p) (op : OpN s f p.2 p.1 (piecesT (triL s.fs f.ws hd)) s.fs.length o) (e : o = hd) : SuA s f hd (ps.take (i + 1)) := by
  subst e
  rw [List.take_add_one, hp]
  intro q hq
  rcases List.mem_append.mp hq with hq | hq
  · exact h q hq
  · have z : q ∈ [p] := hq
    rw [List.mem_singleton.mp z]
    exact op
theorem plD_pair (d : Option (Int × Int × Int)) : PlD 6 (pairD d) := by
  cases d with
  | none => trivial
  | some x => exact ⟨by show 3 ≤ 1000; omega, fun d hd => by
      simp only [List.mem_cons, List.not_mem_nil, or_false] at hd
      rcases hd with rfl | rfl | rfl <;> trivial⟩
/-- the places at which heads are unlike, as far as place i -/
def PlI (o hd : List Int) (i : Nat) (ns : List Int) : Prop := (ns = [] ∧ o.take i = hd.take i) ∨ ∃ (k : Nat) (r : List Int), ns = (k : Int) :: r ∧ FstU o hd (some k)
theorem PlI.zero {o hd : List Int} : PlI o hd 0 [] := .inl ⟨rfl, by rw [List.take_zero, List.take_zero]⟩
theorem PlI.same {o hd ns : List Int} {i : Nat} {x : Int} (h : PlI o hd i ns) (h1 : o[i]? = some x) (h2 : hd[i]? = some x) : PlI o hd (i + 1) ns := by
  rcases h with ⟨e, t⟩ | h
  · exact .inl ⟨e, by rw [take_snocI h1, take_snocI h2, t]⟩
  · exact .inr h
theorem PlI.unlike {o hd ns : List Int} {i : Nat} {x y : Int} (h : PlI o hd i ns) (h1 : o[i]? = some x) (h2 : hd[i]? = some y) (n : x ≠ y) : PlI o hd (i + 1) (ns ++ [(i : Int)]) := by
  rcases h with ⟨rfl, t⟩ | ⟨k, r, rfl, u⟩
  · exact .inr ⟨i, [], rfl, t, x, y, h1, h2, n⟩
  · exact .inr ⟨k, r ++ [(i : Int)], rfl, u⟩
section
variable {K : PySem.W.Frag} {σ : L2.St} {H : Hp} {tb : TS} {nx : L2.St → Hp → Prop} {rt : VK} {a : Addr} {xs : List V} {i1 i2 : Nat} {g2 : TG} {te : TE} {tt : TT} {vs : List Nat} {Q : VK}
/-- for place, (..) in enumerate(a tuple) -/
theorem forETg (I : Nat → L2.St → Hp → Prop) (h0 : I 0 σ H) (hI : ∀ i σ' H', I i σ' H' → SqT K H' a xs)
    (hs : ∀ (i : Nat) x σ' H', xs[i]? = some x → I i σ' H' → ∀ H2, Same H' H2 → g2 x (σ'.set i1 (some (.int (i : Int)))) H2 fun σ2 H3 => gNil [] σ2 H3 fun σ3 H4 => tb ⟨I (i + 1), rt, nx, I (i + 1)⟩ σ3 H4) (hd : ∀ σ' H', I xs.length σ' H' → nx σ' H') :
    ForOk (IteT K a) (gTup K 2 (gCons (gName i1) (gCons g2 gNil))) tb nx rt σ H := by
  refine ⟨fun i m σ' H' => m = xs.length - i ∧ i ≤ xs.length ∧ I i σ' H', ⟨_, rfl, Nat.zero_le _, h0⟩, fun i m σ' H1 ⟨em, hi, w1⟩ => ?_⟩
  have s1 := hI _ _ _ w1
  by_cases hlt : i < xs.length
  · refine .inr ⟨⟨xs, xs[i], s1, List.getElem?_eq_getElem hlt⟩, I (i + 1), fun σ2 H2 w2 => ⟨_, by omega, rfl, hlt, w2⟩, fun v H2 y => ?_⟩
    obtain ⟨T, x, rfl, hT, rfl, hy⟩ := y
    have ex := hy xs s1
    exact ⟨T, _, rfl, SqT.of upd_same, rfl, _, _, rfl, _, _, rfl, hs i x σ' H1 ex w1 _ (same_new hT)⟩
  · have e : i = xs.length := by omega
    subst e
    exact .inl ⟨⟨xs, s1, Nat.le_refl _⟩, hd σ' H1 w1⟩
/-- [.. for place, item in enumerate(t) if ..] -/
theorem lcET (hx : SqT K H a xs) (I : Nat → List V → Hp → Prop) (hst : Stb I) (hn : xs.length ≤ 1000000) (hI : ∀ i acc H', I i acc H' → acc.length ≤ i) (h0 : ∀ H', Same H H' → I 0 [] H')
    (hs : ∀ (i : Nat) x acc H', xs[i]? = some x → Same H H' → I i acc H' → ∀ H2, Same H' H2 → ∀ (k : VK) (k' : Hp → Prop), (∀ z H4, Same H2 H4 → I (i + 1) (acc ++ [z]) H4 → k z H4) → (∀ H3, Same H2 H3 → I (i + 1) acc H3 → k' H3) →
      wipe (((wipe σ vs).set i1 (some (.int (i : Int)))).set i2 (some x)) vs = wipe σ vs ∧ tt (((wipe σ vs).set i1 (some (.int (i : Int)))).set i2 (some x)) H2 fun b H3 => if b = true then te (((wipe σ vs).set i1 (some (.int (i : Int)))).set i2 (some x)) H3 k else k' H3)
    (hd : ∀ D acc H', H D = none → Same H H' → H' D = some (.lst acc) → I xs.length acc H' → Q (.ref D) H') :
    LcOk (IteT K a) (gTup K 2 (gCons (gName i1) (gCons (gName i2) gNil))) tt te vs σ Q H :=
  lc_gen (n := xs.length) I hst hn hI h0
    (fun i acc H' hi s1 _ => ⟨xs, xs[i], same_t s1 hx, List.getElem?_eq_getElem hi⟩)
    (fun _ _ s1 _ => ⟨xs, same_t s1 hx, Nat.le_refl _⟩)
    (fun i acc v H' H'' hi s1 w1 z => by
      obtain ⟨T, x, rfl, hT, rfl, ex⟩ := z
      intro k k' hk hk'
      refine ⟨T, _, rfl, SqT.of upd_same, rfl, _, _, rfl, _, _, rfl, rfl, ?_⟩
      exact hs i x acc H' (ex xs (same_t s1 hx)) s1 w1 _ (same_new hT) k k' (fun z H4 e => hk z H4 ((same_new hT).trans e)) fun H3 e => hk' H3 ((same_new hT).trans e))
    hd
end
/-! what shows a doubt -/
def trD (t : Int × Int × Int) : PyData := .tuple [.int t.1, .int t.2.1, .int t.2.2]
theorem trD_inj {t u : Int × Int × Int} (h : trD t = trD u) : t = u := by
  obtain ⟨a, b, c⟩ := t
  obtain ⟨a', b', c'⟩ := u
  injection h with h
  injection h with h1 h
  injection h with h2 h
  injection h with h3 h
  injection h1 with h1
  injection h2 with h2
  injection h3 with h3
  have e1 : a = a' := h1
  have e2 : b = b' := h2
  have e3 : c = c' := h3
  rw [e1, e2, e3]
theorem tupO_tr (t : Int × Int × Int) : tupO (trD t) := ⟨trivial, trivial, trivial, trivial⟩
theorem plD_tr (t : Int × Int × Int) : PlD 6 (trD t) := plD_pair (some t)
def Shw (s : Shp) (f : Fm) (hd : List Int) (ps : List Fo) (t : Int × Int × Int) : Prop := ∃ (i j : Nat) (p : Fo) (o : List Int), t.1 = i ∧ t.2.1 = j ∧ ps[i]? = some p ∧ OpN s f p.2 p.1 (piecesT (triL s.fs f.ws hd)) s.fs.length o ∧ FstU o hd (some j) ∧ o[j]? = some t.2.2
theorem shw_iff {s : Shp} {f : Fm} {hd o : List Int} {ps : List Fo} {p : Fo} {i : Nat} {r : Option Nat} (okf : f.ws.length = s.fs.length) (lp : p.2.length = s.fs.length) (hp : ps[i]? = some p) (op : OpN s f p.2 p.1 (piecesT (triL s.fs f.ws hd)) s.fs.length o) (u : FstU o hd r) {pl v : Int} : Shw s f hd ps ((i : Int), pl, v) ↔ ∃ j, r = some j ∧ pl = (j : Nat) ∧ o[j]? = some v := by
  constructor
  · rintro ⟨i', j, p', o', e1, e2, hp', op', u', hv⟩
    have e1 : (i : Int) = i' := e1
    obtain rfl : i = i' := by omega
    obtain rfl := Option.some.inj (hp.symm.trans hp')
    obtain rfl := OpN.one okf lp (Nat.le_refl _) op op'
    exact ⟨j, FstU.one u u', e2, hv⟩
  · rintro ⟨j, rfl, e, hv⟩
    exact ⟨i, j, p, o, rfl, e, hp, op, u, hv⟩
theorem shw_lt {s : Shp} {f : Fm} {hd : List Int} {ps : List Fo} {t : Int × Int × Int} (h : Shw s f hd ps t) : 0 ≤ t.1 ∧ t.1 < ps.length := by
  obtain ⟨i, j, p, o, e, _, hp, _⟩ := h
  have := (List.getElem?_eq_some_iff.mp hp).1
  omega
theorem shw_not {s : Shp} {f : Fm} {hd : List Int} {ps : List Fo} (okf : f.ws.length = s.fs.length) (lp : ∀ p ∈ ps, OkFo s p) (h : DouR s f hd ps none) (t : Int × Int × Int) : ¬ Shw s f hd ps t := fun ⟨i, j, p, o, _, _, hp, op, u, _⟩ =>
  DouR.not (ps := ps) okf (lp p (List.mem_of_getElem? hp)).1 op u (h p (List.mem_of_getElem? hp))
theorem shw_dou {s : Shp} {f : Fm} {hd : List Int} {ps : List Fo} {t : Int × Int × Int} (h : DouR s f hd ps (some t)) : Shw s f hd ps t := by
  obtain ⟨i, j, p, o, e1, e2, hp, _, op, u, hv⟩ := h
  exact ⟨i, j, p, o, e1, e2, hp, op, u, hv⟩
/-- those that are shown by formers ahead of place i -/
def AllS (s : Shp) (f : Fm) (hd : List Int) (ps : List Fo) (i : Nat) (ts : List (Int × Int × Int)) : Prop := ∀ t, t ∈ ts ↔ Shw s f hd ps t ∧ t.1 < i
theorem allS_zero {s : Shp} {f : Fm} {hd : List Int} {ps : List Fo} : AllS s f hd ps 0 [] := fun t => ⟨(fun h => nomatch h), fun h => by
  have := shw_lt h.1
  have := h.2
  omega⟩
theorem allS_step {s : Shp} {f : Fm} {hd o : List Int} {ps : List Fo} {p : Fo} {i : Nat} {r : Option Nat} {ts ts' : List (Int × Int × Int)} (okf : f.ws.length = s.fs.length) (lp : p.2.length = s.fs.length) (hp : ps[i]? = some p) (op : OpN s f p.2 p.1 (piecesT (triL s.fs f.ws hd)) s.fs.length o) (u : FstU o hd r) (h : AllS s f hd ps i ts)
    (hr : match r with | none => ts' = ts | some j => ∃ v, o[j]? = some v ∧ ts' = ts ++ [((i : Int), (j : Int), v)]) : AllS s f hd ps (i + 1) ts' := by
  intro t
  have lt : (Shw s f hd ps t ∧ t.1 < ((i + 1 : Nat) : Int)) ↔ (Shw s f hd ps t ∧ t.1 < i) ∨ (Shw s f hd ps t ∧ t.1 = i) := by
    constructor
    · rintro ⟨a, b⟩
      rcases (show t.1 < i ∨ t.1 = i by omega) with c | c
      · exact .inl ⟨a, c⟩
      · exact .inr ⟨a, c⟩
    · rintro (⟨a, b⟩ | ⟨a, b⟩)
      · exact ⟨a, by omega⟩
      · exact ⟨a, by omega⟩
  rw [lt, ← h t]
  obtain ⟨k, pl, v⟩ := t
  cases r with
  | none =>
    have e : ts' = ts := hr
    rw [e]
    constructor
    · exact .inl
    · rintro (a | ⟨a, b⟩)
      · exact a
      · have b : k = i := b
        subst b
        obtain ⟨j, z, _⟩ := (shw_iff okf lp hp op u).mp a
        cases z
  | some j =>
    obtain ⟨w, hw, rfl⟩ := hr
    rw [List.mem_append, List.mem_singleton]
    constructor
    · rintro (a | a)
      · exact .inl a
      · injection a with a1 a2
        injection a2 with a2 a3
        subst a1 a2 a3
        exact .inr ⟨(shw_iff okf lp hp op u).mpr ⟨j, rfl, rfl, hw⟩, rfl⟩
    · rintro (a | ⟨a, b⟩)
      · exact .inl a
      · have b : k = i := b
        subst b
        obtain ⟨j', z, z2, z3⟩ := (shw_iff okf lp hp op u).mp a
        obtain rfl := Option.some.inj z
        obtain rfl := Option.some.inj (hw.symm.trans z3)
        exact .inr (by rw [z2])
theorem allS_all {s : Shp} {f : Fm} {hd : List Int} {ps : List Fo} {ts : List (Int × Int × Int)} (h : AllS s f hd ps ps.length ts) (t : Int × Int × Int) : t ∈ ts ↔ Shw s f hd ps t := by
  rw [h t]
  exact ⟨fun h => h.1, fun h => ⟨h, (shw_lt h).2⟩⟩
theorem isIntD_ex {d : PyData} (h : isIntD d = true) : ∃ i, d = .int i := by
  cases d <;> first | exact ⟨_, rfl⟩ | cases h
theorem FstU.of_PlI {o hd ns : List Int} (l1 : o.length ≤ n) (l2 : hd.length ≤ n) (h : PlI o hd n ns) : (ns = [] ∧ FstU o hd none) ∨ ∃ (k : Nat) (r : List Int), ns = (k : Int) :: r ∧ FstU o hd (some k) := by
  rcases h with ⟨e, t⟩ | h
  · refine .inl ⟨e, ?_⟩
    rw [List.take_of_length_le l1, List.take_of_length_le l2] at t
    exact t
  · exact .inr h
theorem opN_bd {s : Shp} {f : Fm} {fo : List Int} {m : Int} {z : Str} {o : List Int} {j : Nat} {v : Int} (ok : OkShp s) (okf : OkFm s f) (lf : fo.length = s.fs.length) (h01 : ∀ c ∈ cz z, c = 48 ∨ c = 49) (hz : z.length = atW s.fs f.ws s.fs.length) (op : OpN s f fo m z s.fs.length o) (hv : o[j]? = some v) : 0 ≤ v ∧ v < 1099511627776 := by
  have hj := (List.getElem?_eq_some_iff.mp hv).1
  rw [op.1] at hj
  have lw := okf.len
  obtain ⟨fd, h1⟩ : ∃ fd, s.fs[j]? = some fd := ⟨_, List.getElem?_eq_getElem hj⟩
  obtain ⟨w, h2⟩ : ∃ w, f.ws[j]? = some w := ⟨_, List.getElem?_eq_getElem (by omega)⟩
  obtain ⟨y, h3⟩ : ∃ y, fo[j]? = some y := ⟨_, List.getElem?_eq_getElem (by omega)⟩
  obtain ⟨x, hx, hvo⟩ := op.2 j fd w y hj h1 h2 h3
  obtain rfl := Option.some.inj (hx.symm.trans hv)
  have okd := ok.fd j fd h1
  have b0 := okd.b0
  have pb := p2_pos fd.br
  have pl : p2 fd.br ≤ p2 40 := p2_le okd.b1
  have e40 : p2 40 = 1099511627776 := rfl
  cases w with
  | whole =>
    have e : x = numS z (atW s.fs f.ws j) (wW fd .whole) := hvo
    have z1 := atW_succ h1 h2
    have z2 := atW_mono s.fs f.ws (show j + 1 ≤ s.fs.length from hj)
    have z3 := numS_bd (a := atW s.fs f.ws j) (l := wW fd .whole) h01 (by omega)
    have e2 : (2 : Int) ^ (wW fd .whole) = p2 fd.br := rfl
    rw [e2] at z3
    omega
  | keep =>
    obtain ⟨r, _, rfl⟩ := hvo
    have a := Int.emod_nonneg r (Int.ne_of_gt pb)
    have b := Int.emod_lt_of_pos r pb
    omega
  | low wd bl =>
    obtain ⟨r, _, rfl⟩ := hvo
    have a := Int.emod_nonneg ((r % p2 fd.br) - bl + (numS z (atW s.fs f.ws j) (wW fd (.low wd bl)) - ((r % p2 fd.br) - bl)) % p2 wd) (Int.ne_of_gt pb)
    have b := Int.emod_lt_of_pos ((r % p2 fd.br) - bl + (numS z (atW s.fs f.ws j) (wW fd (.low wd bl)) - ((r % p2 fd.br) - bl)) % p2 wd) pb
    unfold arnF
    omega
theorem shw_bd {s : Shp} {f : Fm} {hd : List Int} {ps : List Fo} {t : Int × Int × Int} (ok : OkShp s) (okf : OkFm s f) (lh : hd.length = s.fs.length) (okp : ∀ p ∈ ps, OkFo s p) (h : Shw s f hd ps t) : 0 ≤ t.1 ∧ t.1 < ps.length ∧ 0 ≤ t.2.2 ∧ t.2.2 < 1099511627776 := by
  have z := shw_lt h
  obtain ⟨i, j, p, o, _, _, hp, op, u, hv⟩ := h
  have b := opN_bd ok okf (okp p (List.mem_of_getElem? hp)).1 (pieces_01 _) (by rw [pieces_len, atW_all okf.len lh]) op hv
  exact ⟨z.1, z.2, b.1, b.2⟩
theorem shaped_trs (ts : List (Int × Int × Int)) : SeqAt.shaped (.list (ts.map trD)) = true := shaped_list (k := 10) (by decide) fun d hd => by
  obtain ⟨t, _, rfl⟩ := List.mem_map.mp hd
  exact ⟨by simp [trD, PyData.canLay0, PyData.canLayAll0], by simp [trD, PyData.depth, PyData.depthAll]⟩
end Sh
/-! heads within the windows of a form, and beside them -/
namespace Sh
open PySem PySem.Spec PyProof.Rows L2
/-! the number of a piece -/
theorem drop_fl {α : Type} (g : α → List Nat) : ∀ (ts : List α) (j : Nat), ((ts.map g).flatten).drop (((ts.take j).map fun t => (g t).length).sum) = ((ts.drop j).map g).flatten
  | ts, 0 => by simp
  | [], j + 1 => by simp
  | t :: r, j + 1 => by
    rw [List.take_succ_cons, List.map_cons, List.map_cons, List.sum_cons, List.flatten_cons, List.drop_succ_cons, ← drop_fl g r j, ← List.drop_drop, List.drop_append]
    simp
theorem tri_zip : ∀ {fs : List Fd} {ws : List Wy} {vs : List Int}, ws.length = fs.length → vs.length = fs.length → (triL fs ws vs).map (fun t => (t.1, t.2.1)) = fs.zip ws
  | [], _, _, _, _ => rfl
  | _ :: _, [], _, h, _ => by simp at h
  | _ :: _, _ :: _, [], _, h => by simp at h
  | f :: fs, w :: ws, v :: vs, h1, h2 => by
    have ih := tri_zip (fs := fs) (ws := ws) (vs := vs) (by simpa using h1) (by simpa using h2)
    unfold triL at ih ⊢
    rw [List.zip_cons_cons, List.zip_cons_cons, List.map_cons, ih, List.zip_cons_cons]
theorem atW_tri {fs : List Fd} {ws : List Wy} {vs : List Int} (h1 : ws.length = fs.length) (h2 : vs.length = fs.length) (j : Nat) : atW fs ws j = (((triL fs ws vs).take j).map fun t => (cz (pieceT t)).length).sum := by
  unfold atW
  rw [← tri_zip h1 h2, ← List.map_take, List.map_map]
  congr 1
  refine List.map_congr_left fun t _ => ?_
  show wW t.1 t.2.1 = _
  rw [cz_len]
  unfold pieceT
  rw [len_bitsT]
theorem numS_piece {fs : List Fd} {ws : List Wy} {vs : List Int} {j : Nat} {f : Fd} {w : Wy} {v : Int} (l1 : ws.length = fs.length) (l2 : vs.length = fs.length) (h1 : fs[j]? = some f) (h2 : ws[j]? = some w) (h3 : vs[j]? = some v) : numS (piecesT (triL fs ws vs)) (atW fs ws j) (wW f w) = v % p2 (wW f w : Nat) := by
  have ht := tri_get h1 h2 h3
  unfold numS sliceN
  rw [cz_pieces, atW_tri l1 l2 j, drop_fl]
  have ed : (triL fs ws vs).drop j = (f, w, v) :: (triL fs ws vs).drop (j + 1) := by
    have hj := (List.getElem?_eq_some_iff.mp ht).1
    rw [List.drop_eq_getElem_cons hj, (List.getElem?_eq_some_iff.mp ht).2]
  rw [ed, List.map_cons, List.flatten_cons]
  have lp : (cz (pieceT (f, w, v))).length = wW f w := by
    rw [cz_len]
    unfold pieceT
    rw [len_bitsT]
  rw [List.take_append_of_le_length (by omega), List.take_of_length_le (by omega)]
  have pp := p2_pos (wW f w : Nat)
  have e2 : p2 ((wW f w : Nat) : Int) = 2 ^ wW f w := by
    unfold p2
    rw [Int.toNat_natCast]
  have a := Int.emod_nonneg v (Int.ne_of_gt pp)
  have b := Int.emod_lt_of_pos v pp
  exact numT_bits a (by rw [← e2]; exact b)
/-! windows -/
def belW : Wy → Int
  | .low _ l => l
  | _ => 0
def WinV (fo ah : List Int) (m v : Int) (fd : Fd) : Wy → Int → Prop
  | .whole, x => 0 ≤ x ∧ x < p2 fd.br
  | .keep, x => ∃ r, ExpK fo ah m v fd.kd r ∧ x = r % p2 fd.br
  | .low wd bl, x => ∃ r c, ExpK fo ah m v fd.kd r ∧ 0 ≤ c ∧ c < p2 wd ∧ x = (r % p2 fd.br - bl + c) % p2 fd.br
theorem p2_dvdI {a b : Int} (h : a ≤ b) : p2 a ∣ p2 b := by
  unfold p2
  refine ⟨2 ^ (b.toNat - a.toNat), ?_⟩
  rw [← Int.pow_add]
  congr 1
  omega
theorem back_mod {B P y t : Int} (hd : P ∣ B) : ((y + t) % B % P - y) % P = t % P := by
  rw [Int.emod_emod_of_dvd _ hd, Int.sub_emod, Int.emod_emod_of_dvd _ (Int.dvd_refl P), ← Int.sub_emod]
  congr 1
  omega
theorem vo_win {fo ah : List Int} {m v x : Int} {fd : Fd} {w : Wy} (b0 : 0 ≤ fd.br) (ok : OkWy fd.br w) (h : WinV fo ah m v fd w x) : VO fo ah m v fd (x % p2 (wW fd w : Nat)) w x := by
  cases w with
  | whole =>
    show x = x % p2 ((fd.br.toNat : Nat) : Int)
    rw [show ((fd.br.toNat : Nat) : Int) = fd.br by omega]
    exact (Int.emod_eq_of_lt h.1 h.2).symm
  | keep => exact h
  | low wd bl =>
    obtain ⟨r, c, hr, c0, c1, hx⟩ := h
    refine ⟨r, hr, ?_⟩
    have w0 := ok.1
    show x = arnF fd.br (r % p2 fd.br) bl (x % p2 ((wd.toNat : Nat) : Int)) wd
    rw [show ((wd.toNat : Nat) : Int) = wd by omega]
    unfold arnF
    rw [hx, back_mod (p2_dvdI ok.2.1), Int.emod_eq_of_lt c0 c1]
/-- the values lie in the windows, as far as place i -/
def WinN (s : Shp) (f : Fm) (fo : List Int) (m : Int) (i : Nat) (hd : List Int) : Prop :=
  hd.length = i ∧ ∀ (j : Nat) fd w v, j < i → s.fs[j]? = some fd → f.ws[j]? = some w → fo[j]? = some v → ∃ x, hd[j]? = some x ∧ WinV fo (hd.take j) m v fd w x
theorem WinN.nil {s : Shp} {f : Fm} {fo : List Int} {m : Int} : WinN s f fo m 0 [] := ⟨rfl, fun j _ _ _ h => by omega⟩
theorem WinN.snoc {s : Shp} {f : Fm} {fo hd : List Int} {m : Int} {i : Nat} {fd : Fd} {w : Wy} {v x : Int} (h : WinN s f fo m i hd) (h1 : s.fs[i]? = some fd) (h2 : f.ws[i]? = some w) (h3 : fo[i]? = some v) (hx : WinV fo hd m v fd w x) : WinN s f fo m (i + 1) (hd ++ [x]) := by
  obtain ⟨hl, h⟩ := h
  refine ⟨by rw [List.length_append, hl]; rfl, fun j fd' w' v' hj e1 e2 e3 => ?_⟩
  by_cases c : j < i
  · obtain ⟨y, hy, hv⟩ := h j fd' w' v' c e1 e2 e3
    refine ⟨y, by rw [List.getElem?_append_left (by omega)]; exact hy, ?_⟩
    rw [List.take_append_of_le_length (by omega)]
    exact hv
  · have e : j = i := by omega
    subst e
    obtain rfl := Option.some.inj (h1.symm.trans e1)
    obtain rfl := Option.some.inj (h2.symm.trans e2)
    obtain rfl := Option.some.inj (h3.symm.trans e3)
    refine ⟨x, ?_, ?_⟩
    · rw [List.getElem?_append_right (by omega), hl, Nat.sub_self]
      rfl
    · rw [List.take_append_of_le_length (by omega), List.take_of_length_le (by omega)]
      exact hx
theorem WinN.cut {s : Shp} {f : Fm} {fo hd : List Int} {m : Int} {i p : Nat} (h : WinN s f fo m i hd) (hp : p ≤ i) : WinN s f fo m p (hd.take p) := by
  refine ⟨by rw [List.length_take, h.1]; omega, fun j fd w v hj e1 e2 e3 => ?_⟩
  obtain ⟨x, hx, hv⟩ := h.2 j fd w v (by omega) e1 e2 e3
  refine ⟨x, by rw [List.getElem?_take_of_lt hj]; exact hx, ?_⟩
  rw [List.take_take, Nat.min_eq_left (by omega)]
  exact hv
theorem OpN.cut {s : Shp} {f : Fm} {fo hd : List Int} {m : Int} {z : Str} {i p : Nat} (h : OpN s f fo m z i hd) (hp : p ≤ i) : OpN s f fo m z p (hd.take p) := by
  refine ⟨by rw [List.length_take, h.1]; omega, fun j fd w v hj e1 e2 e3 => ?_⟩
  obtain ⟨x, hx, hv⟩ := h.2 j fd w v (by omega) e1 e2 e3
  refine ⟨x, by rw [List.getElem?_take_of_lt hj]; exact hx, ?_⟩
  rw [List.take_take, Nat.min_eq_left (by omega)]
  exact hv
theorem op_win {s : Shp} {f : Fm} {fo hd vs : List Int} {m : Int} {i : Nat} (ok : OkShp s) (okf : OkFm s f) (h : WinN s f fo m i hd) (lv : vs.length = s.fs.length) (ht : vs.take i = hd) : OpN s f fo m (piecesT (triL s.fs f.ws vs)) i hd := by
  refine ⟨h.1, fun j fd w v hj e1 e2 e3 => ?_⟩
  obtain ⟨x, hx, hv⟩ := h.2 j fd w v hj e1 e2 e3
  have hvx : vs[j]? = some x := by
    rw [← ht, List.getElem?_take_of_lt hj] at hx
    exact hx
  refine ⟨x, hx, ?_⟩
  rw [numS_piece okf.len lv e1 e2 hvx]
  exact vo_win (by have := (ok.fd j fd e1).b0; omega) (okf.ok j w fd e2 e1) hv
/-! one value beside its window -/
def Bes (s : Shp) (f : Fm) (fo : List Int) (m : Int) (hd : List Int) (p : Nat) (val : Int) : Prop :=
  ∃ fd w v r far, s.fs[p]? = some fd ∧ f.ws[p]? = some w ∧ fo[p]? = some v ∧ ((wW fd w : Nat) : Int) < fd.br ∧ ExpK fo (hd.take p) m v fd.kd r ∧ p2 (wW fd w : Nat) ≤ far ∧ far < p2 fd.br ∧ val = (r % p2 fd.br - belW w + far) % p2 fd.br
/-- the values that are told -/
theorem vo_bes {fo ah : List Int} {m v r far x : Int} {fd : Fd} {w : Wy} (ok : OkWy fd.br w) (hw : ((wW fd w : Nat) : Int) < fd.br) (hr : ExpK fo ah m v fd.kd r) (h : VO fo ah m v fd ((r % p2 fd.br - belW w + far) % p2 fd.br % p2 (wW fd w : Nat)) w x) : x = (r % p2 fd.br - belW w + far % p2 (wW fd w : Nat)) % p2 fd.br := by
  cases w with
  | whole =>
    have : ((fd.br.toNat : Nat) : Int) < fd.br := hw
    omega
  | keep =>
    obtain ⟨r', hr', e⟩ := h
    obtain rfl := ExpK.one hr hr'
    have pb := p2_pos fd.br
    have e1 : p2 ((wW fd .keep : Nat) : Int) = 1 := rfl
    rw [e1, Int.emod_one]
    show x = (r % p2 fd.br - 0 + 0) % p2 fd.br
    rw [Int.sub_zero, Int.add_zero, Int.emod_emod_of_dvd _ (Int.dvd_refl _)]
    exact e
  | low wd bl =>
    obtain ⟨r', hr', e⟩ := h
    obtain rfl := ExpK.one hr hr'
    have w0 := ok.1
    have e1 : ((wW fd (.low wd bl) : Nat) : Int) = wd := by
      show ((wd.toNat : Nat) : Int) = wd
      omega
    rw [e1] at e ⊢
    unfold arnF at e
    have e2 := back_mod (B := p2 fd.br) (P := p2 wd) (y := r % p2 fd.br - bl) (t := far) (p2_dvdI ok.2.1)
    have e3 : belW (.low wd bl) = bl := rfl
    rw [e3] at e ⊢
    rw [e2] at e
    exact e
section
variable {B P y far : Int}
theorem bes_ne (hP : 0 < P) (h0 : P ≤ far) (h1 : far < B) : (y + far % P) % B ≠ (y + far) % B := fun e => by
  have a := Int.emod_nonneg far (Int.ne_of_gt hP)
  have b := Int.emod_lt_of_pos far hP
  have d : B ∣ (y + far) - (y + far % P) := Int.dvd_of_emod_eq_zero (Int.emod_eq_emod_iff_emod_sub_eq_zero.mp e.symm)
  have le := Int.le_of_dvd (by omega) d
  omega
theorem bes_in (hP : 0 < P) (h0 : P ≤ far) (h1 : far < B) : ((y + far % P) % B - y) % B < P := by
  have a := Int.emod_nonneg far (Int.ne_of_gt hP)
  have b := Int.emod_lt_of_pos far hP
  have e : ((y + far % P) % B - y) % B = far % P % B := by
    rw [Int.sub_emod, Int.emod_emod_of_dvd _ (Int.dvd_refl B), ← Int.sub_emod]
    congr 1
    omega
  rw [e, Int.emod_eq_of_lt a (by omega)]
  exact b
theorem bes_rest (hd : P ∣ B) : ((y + far % P) % B - (y + far) % B) % P = 0 := by
  rw [Int.sub_emod, Int.emod_emod_of_dvd _ hd, Int.emod_emod_of_dvd _ hd, ← Int.sub_emod]
  have e : y + far % P - (y + far) = 0 - P * (far / P) := by
    have := Int.mul_ediv_add_emod far P
    omega
  rw [e, Int.zero_sub, ← Int.mul_neg, Int.mul_emod_right]
end
theorem w_neH {K : PySem.W.Frag} {H : Hp} {Q : VK} {v u : V} {a b : List Int} (h : Dq K H v (headD a)) (h' : Dq K H u (headD b)) (q : Q (.bl (!decide (a = b))) H) : rNeU K v u H Q :=
  w_neD h h' (shaped_tints a) (shaped_tints b) (by
    have e : PyData.eqv (headD a) (headD b) = decide (a = b) := by
      show PyData.eqv (.tuple (a.map .int)) (.tuple (b.map .int)) = _
      rw [PyData.eqv]
      exact eqvAll_ints a b
    rw [e]
    exact q)
end Sh
/-! pacts and letters -/
namespace Sh
open PySem PySem.Spec PyProof.Rows L2
/-- the least width of so many unlike numbers -/
def IsW (m : Int) (n : Nat) : Prop := m ≤ 2 ^ n ∧ ∀ u : Nat, u < n → (2 : Int) ^ u < m
theorem isW_one {m : Int} {a b : Nat} (h : IsW m a) (h' : IsW m b) : a = b := by
  rcases Nat.lt_trichotomy a b with q | q | q
  · have := h'.2 a q
    have := h.1
    omega
  · exact q
  · have := h.2 b q
    have := h'.1
    omega
theorem pow_lt_of {a b : Nat} (h : (2 : Int) ^ a < 2 ^ b) : a < b := by
  have h2 : (2 : Nat) ^ a < 2 ^ b := by
    have e1 : ((2 ^ a : Nat) : Int) = (2 : Int) ^ a := by simp
    have e2 : ((2 ^ b : Nat) : Int) = (2 : Int) ^ b := by simp
    omega
  exact (Nat.pow_lt_pow_iff_right (by decide)).mp h2
/-- each value, two more than its place times -/
def ckF : Nat → List Int → Int
  | _, [] => 0
  | i, v :: r => ((i : Int) + 2) * v + ckF (i + 1) r
theorem ckF_snoc : ∀ (l : List Int) (j : Nat) (v : Int), ckF j (l ++ [v]) = ckF j l + ((j : Int) + l.length + 2) * v
  | [], j, v => by
    show ((j : Int) + 2) * v + 0 = 0 + ((j : Int) + ((0 : Nat) : Int) + 2) * v
    rw [Int.add_zero, Int.zero_add, Int.natCast_zero, Int.add_zero]
  | w :: r, j, v => by
    show ((j : Int) + 2) * w + ckF (j + 1) (r ++ [v]) = ((j : Int) + 2) * w + ckF (j + 1) r + ((j : Int) + ((r.length + 1 : Nat) : Int) + 2) * v
    have e : ((j + 1 : Nat) : Int) + (r.length : Int) + 2 = (j : Int) + ((r.length + 1 : Nat) : Int) + 2 := by omega
    rw [ckF_snoc r (j + 1) v, e, ← Int.add_assoc]
theorem ckF_set : ∀ (l : List Int) (j i : Nat) (v w : Int), l[i]? = some v → ckF j (l.set i w) = ckF j l + ((j : Int) + i + 2) * (w - v)
  | [], _, _, _, _, h => by simp at h
  | x :: r, j, 0, v, w, h => by
    simp at h
    subst h
    show ((j : Int) + 2) * w + ckF (j + 1) r = ((j : Int) + 2) * x + ckF (j + 1) r + ((j : Int) + ((0 : Nat) : Int) + 2) * (w - x)
    rw [Int.mul_sub]
    have e : (j : Int) + ((0 : Nat) : Int) + 2 = (j : Int) + 2 := by omega
    rw [e]
    omega
  | x :: r, j, i + 1, v, w, h => by
    show ((j : Int) + 2) * x + ckF (j + 1) (r.set i w) = ((j : Int) + 2) * x + ckF (j + 1) r + ((j : Int) + ((i + 1 : Nat) : Int) + 2) * (w - v)
    have e : ((j + 1 : Nat) : Int) + (i : Int) + 2 = (j : Int) + ((i + 1 : Nat) : Int) + 2 := by omega
    rw [ckF_set r (j + 1) i v w (by simpa using h), e, ← Int.add_assoc]
theorem take_snoc {α : Type} {l : List α} {i : Nat} {x : α} (h : l[i]? = some x) : l.take (i + 1) = l.take i ++ [x] := by
  rw [List.take_add_one, h]
  rfl
theorem isW_to {m : Int} : ∀ k : Nat, m ≤ 2 ^ k → ∃ n, n ≤ k ∧ IsW m n
  | 0, h => ⟨0, Nat.le_refl _, h, fun u hu => by omega⟩
  | k + 1, h => by
    by_cases c : m ≤ 2 ^ k
    · obtain ⟨n, hn, hw⟩ := isW_to k c
      exact ⟨n, by omega, hw⟩
    · refine ⟨k + 1, Nat.le_refl _, h, fun u hu => ?_⟩
      have e : (2 : Int) ^ u ≤ 2 ^ k := by
        have z := ipow_le (a := 2) (by decide) (show u ≤ k by omega)
        exact z
      omega
theorem isW_le {m : Int} {n k : Nat} (h : IsW m n) (hk : m ≤ 2 ^ k) : n ≤ k := by
  obtain ⟨n', hn, hw⟩ := isW_to k hk
  rw [isW_one h hw]
  exact hn
theorem sgn_mod {n : Int} {w i : Nat} (h : i < w) : sgn (n % 2 ^ w) i = sgn n i := by
  unfold sgn
  have e : n % 2 ^ w / 2 ^ i % 2 = n / 2 ^ i % 2 := by
    have p : (0 : Int) < 2 ^ i := Int.pow_pos (by decide)
    have ew : (2 : Int) ^ w = 2 ^ i * (2 * 2 ^ (w - i - 1)) := by
      rw [← Int.mul_assoc, show (2 : Int) ^ i * 2 = 2 ^ (i + 1) from (Int.pow_succ 2 i).symm, ← Int.pow_add]
      congr 1
      omega
    have d := Int.mul_ediv_add_emod n (2 ^ w)
    have en : n = n % 2 ^ w + 2 ^ i * (2 * 2 ^ (w - i - 1) * (n / 2 ^ w)) := by
      rw [← Int.mul_assoc, ← ew]
      omega
    have e2 : n / 2 ^ i = n % 2 ^ w / 2 ^ i + 2 * (2 ^ (w - i - 1) * (n / 2 ^ w)) := by
      conv => lhs; rw [en]
      rw [Int.add_mul_ediv_left _ _ (Int.ne_of_gt p), Int.mul_assoc]
    rw [e2]
    omega
  rw [e]
theorem bitsT_mod (n : Int) (w : Nat) : bitsT (n % 2 ^ w) w = bitsT n w := by
  refine cz_inj ?_
  rw [cz_bitsT, cz_bitsT]
  congr 1
  unfold lowB
  exact List.map_congr_left fun i hi => sgn_mod (List.mem_range.mp hi)
theorem bitsT_p2 (n w : Int) : bitsT (n % p2 w) w.toNat = bitsT n w.toNat := bitsT_mod n w.toNat
structure Pt where
  s : Shp
  n : Int
  fs : List Fm
  sk : Int
  gp : Int
  lt : Int
  an : Int
  sw : Nat
  cw : Nat
def ptD (p : Pt) : PyData := .tuple [shD p.s, .int p.n, .tuple (p.fs.map fmD), .tuple [.int p.sk, .int p.gp, .int p.lt, .int p.an]]
structure OkPt (p : Pt) : Prop where
  ok : OkShp p.s
  n0 : 1 ≤ p.n
  n1 : p.n ≤ 40
  fl : p.fs.length ≤ 12
  fk : ∀ f ∈ p.fs, OkFm p.s f
  sw : IsW (1 + (p.fs.length : Int)) p.sw
  cw : IsW p.s.m p.cw
  sk0 : 0 ≤ p.sk
  sk1 : p.sk ≤ 39
  gp0 : p.sk ≤ p.gp
  gp1 : p.gp ≤ 400
  lt0 : 0 ≤ p.lt
  lt1 : p.lt ≤ 20
  an0 : 0 ≤ p.an
  an1 : p.an ≤ 400
theorem OkPt.sw4 {p : Pt} (h : OkPt p) : p.sw ≤ 4 := isW_le h.sw (by have := h.fl; show _ ≤ (16 : Int); omega)
theorem OkPt.cw20 {p : Pt} (h : OkPt p) : p.cw ≤ 20 := isW_le h.cw (by have := h.ok.m1; show _ ≤ (1048576 : Int); omega)
/-- whole, or by the form at a place -/
def AtOk (p : Pt) : Option Nat → Prop
  | none => True
  | some i => i < p.fs.length
def atV : Option Nat → V
  | none => .non
  | some i => .int (i : Int)
def wsP (p : Pt) : Option Nat → List Wy
  | none => p.s.fs.map fun _ => .whole
  | some i => match p.fs[i]? with
    | some f => f.ws
    | none => []
def cntP (p : Pt) : Option Nat → Int
  | none => p.n
  | some i => match p.fs[i]? with
    | some f => f.c
    | none => 0
def sortP : Option Nat → Int
  | none => 0
  | some i => 1 + (i : Int)
theorem at_form {p : Pt} {i : Nat} (ok : OkPt p) (h : i < p.fs.length) : ∃ f, p.fs[i]? = some f ∧ OkFm p.s f ∧ wsP p (some i) = f.ws ∧ cntP p (some i) = f.c := by
  have e : p.fs[i]? = some (p.fs[i]) := List.getElem?_eq_getElem h
  refine ⟨p.fs[i], e, ok.fk _ (List.getElem_mem h), ?_, ?_⟩
  · show (match p.fs[i]? with | some f => f.ws | none => []) = _
    rw [e]
  · show (match p.fs[i]? with | some f => f.c | none => 0) = _
    rw [e]
theorem cntP_bd {p : Pt} {t : Option Nat} (ok : OkPt p) (h : AtOk p t) : 1 ≤ cntP p t ∧ cntP p t ≤ 40 := by
  cases t with
  | none => exact ⟨ok.n0, ok.n1⟩
  | some i =>
    obtain ⟨f, _, okf, _, e⟩ := at_form ok h
    rw [e]
    exact ⟨okf.c0, okf.c1⟩
theorem wsP_len {p : Pt} {t : Option Nat} (ok : OkPt p) (h : AtOk p t) : (wsP p t).length = p.s.fs.length := by
  cases t with
  | none => exact List.length_map _
  | some i =>
    obtain ⟨f, _, okf, e, _⟩ := at_form ok h
    rw [e]
    exact okf.len
theorem wsP_ok {p : Pt} {t : Option Nat} (ok : OkPt p) (h : AtOk p t) {j : Nat} {w : Wy} {fd : Fd} (h1 : (wsP p t)[j]? = some w) (h2 : p.s.fs[j]? = some fd) : OkWy fd.br w := by
  cases t with
  | none =>
    have z : (p.s.fs.map fun _ => Wy.whole)[j]? = some w := h1
    rw [List.getElem?_map, h2] at z
    rw [← Option.some.inj z]
    trivial
  | some i =>
    obtain ⟨f, _, okf, e, _⟩ := at_form ok h
    rw [e] at h1
    exact okf.ok j w fd h1 h2
def szP (p : Pt) (t : Option Nat) : Nat := atW p.s.fs (wsP p t) p.s.fs.length
def pcsP (p : Pt) (t : Option Nat) (hd : List Int) : Str := piecesT (triL p.s.fs (wsP p t) hd)
theorem szP_le {p : Pt} {t : Option Nat} (ok : OkPt p) (h : AtOk p t) : szP p t ≤ 480 :=
  atW_le (f := ⟨1, 1, wsP p t⟩) ok.ok ⟨Int.le_refl 1, (show (1 : Int) ≤ 40 by decide), Int.le_refl 1, (show (1 : Int) ≤ 40 by decide), wsP_len ok h, fun _ _ _ h1 h2 => wsP_ok ok h h1 h2⟩
theorem pcsP_len {p : Pt} {t : Option Nat} {hd : List Int} (ok : OkPt p) (h : AtOk p t) (lh : hd.length = p.s.fs.length) : (pcsP p t hd).length = szP p t := by
  unfold pcsP szP
  rw [pieces_len, atW_all (wsP_len ok h) lh]
def aheadT (p : Pt) (t : Option Nat) (num : Int) : Str := bitsT (sortP t) p.sw ++ bitsT num (cntP p t).toNat
def letT (p : Pt) (t : Option Nat) (num : Int) (hd : List Int) : Str := aheadT p t num ++ pcsP p t hd ++ bitsT ((num + ckF 0 hd) % p.s.m) p.cw
def sizeP (p : Pt) (t : Option Nat) : Int := (p.sw : Int) + cntP p t + (szP p t : Nat) + (p.cw : Int)
theorem len_app (a b : Str) : (a ++ b).length = a.length + b.length := by
  rw [← cz_len, cz_app, List.length_append, cz_len, cz_len]
theorem ahead_len {p : Pt} {t : Option Nat} {num : Int} : (aheadT p t num).length = p.sw + (cntP p t).toNat := by
  unfold aheadT
  rw [len_app, len_bitsT, len_bitsT]
theorem letT_len {p : Pt} {t : Option Nat} {num : Int} {hd : List Int} (ok : OkPt p) (h : AtOk p t) (lh : hd.length = p.s.fs.length) : ((letT p t num hd).length : Int) = sizeP p t := by
  have z := cntP_bd ok h
  unfold letT sizeP
  rw [len_app, len_app, ahead_len, pcsP_len ok h lh, len_bitsT]
  omega
theorem sum_zip {fs : List Fd} {ws : List Wy} : ((fs.zip ws).map fun fw => ((wW fw.1 fw.2 : Nat) : Int)).sum = ((((fs.zip ws).map fun fw => wW fw.1 fw.2).sum : Nat) : Int) := by
  induction fs.zip ws with
  | nil => rfl
  | cons x r ih => rw [List.map_cons, List.map_cons, List.sum_cons, List.sum_cons, ih]; omega
theorem sz_form {p : Pt} {t : Option Nat} (ok : OkPt p) (h : AtOk p t) : ((p.s.fs.zip (wsP p t)).map fun fw => ((wW fw.1 fw.2 : Nat) : Int)).sum = ((szP p t : Nat) : Int) := by
  rw [sum_zip]
  unfold szP atW
  rw [List.take_of_length_le (by rw [List.length_zip, wsP_len ok h]; omega)]
theorem sum_whole : ∀ fs : List Fd, (∀ f ∈ fs, 0 ≤ f.br) → (fs.map fun f => f.br).sum = ((fs.zip (fs.map fun _ => Wy.whole)).map fun fw => ((wW fw.1 fw.2 : Nat) : Int)).sum
  | [], _ => rfl
  | f :: r, h => by
    have ih := sum_whole r fun g hg => h g (List.mem_cons_of_mem _ hg)
    have h0 := h f List.mem_cons_self
    rw [List.map_cons, List.map_cons, List.zip_cons_cons, List.map_cons, List.sum_cons, List.sum_cons, ih]
    show f.br + _ = ((f.br.toNat : Nat) : Int) + _
    rw [show ((f.br.toNat : Nat) : Int) = f.br by omega]
theorem OkPt.heads {p : Pt} {t : Option Nat} (ok : OkPt p) (h : AtOk p t) : OkFm p.s ⟨1, 1, wsP p t⟩ := ⟨Int.le_refl 1, (show (1 : Int) ≤ 40 by decide), Int.le_refl 1, (show (1 : Int) ≤ 40 by decide), wsP_len ok h, fun _ _ _ h1 h2 => wsP_ok ok h h1 h2⟩
section
variable {K : PySem.W.Frag} {H : Hp} {Q : VK} {v : V} {p : Pt}
theorem w_ptS (h : Dq K H v (ptD p)) (q : ∀ x, Dq K H x (shD p.s) → Q x H) : rIxU K v (.int 0) H Q := w_ixQT h (d := shD p.s) rfl q
theorem w_ptN (h : Dq K H v (ptD p)) (q : Q (.int p.n) H) : rIxU K v (.int 1) H Q := w_ixQTi h (n := p.n) rfl q
theorem w_ptF (h : Dq K H v (ptD p)) (q : ∀ x, Dq K H x (.tuple (p.fs.map fmD)) → Q x H) : rIxU K v (.int 2) H Q := w_ixQT h (d := .tuple (p.fs.map fmD)) rfl q
theorem w_shF {s : Shp} (h : Dq K H v (shD s)) (q : ∀ x, Dq K H x (.tuple (s.fs.map fdD)) → Q x H) : rIxU K v (.int 0) H Q := w_ixQT h (d := .tuple (s.fs.map fdD)) rfl q
theorem w_shM {s : Shp} (h : Dq K H v (shD s)) (q : Q (.int s.m) H) : rIxU K v (.int 1) H Q := w_ixQTi h (n := s.m) rfl q
theorem w_adT {a b : Str} (h : a.length + b.length ≤ 100000) (q : Q (.str (a ++ b)) H) : rAddN K (.str a) (.str b) H Q := w_addsN (Nat.le_trans h (by decide)) q
end
theorem join_pieces (ts : List Tri) : Txt.join "" (ts.map pieceT) = piecesT ts := by
  refine cz_inj ?_
  rw [cz_join, cz_pieces, List.map_map]
  rfl
theorem sum_pieces (ts : List Tri) : ((ts.map pieceT).map (·.length)).sum = triW ts := by
  unfold triW
  rw [List.map_map]
  congr 1
  refine List.map_congr_left fun t _ => ?_
  show (pieceT t).length = _
  unfold pieceT
  rw [len_bitsT]
theorem w_par3 {i j l : Nat} {tA : TA} {σ : L2.St} {H : Hp} {nx bk ct : L2.St → Hp → Prop} {rt : VK} (h : tA σ H fun vs H1 => ∃ u v w, vs = [u, v, w] ∧ nx (((σ.set i (some u)).set j (some v)).set l (some w)) H1) : tPar3 i j l tA ⟨nx, rt, bk, ct⟩ σ H := h
theorem w_three {x y z : V} {k : V → V → V → Prop} (h : k x y z) : ∃ u v w, [x, y, z] = [u, v, w] ∧ k u v w := ⟨x, y, z, rfl, h⟩
theorem ahead_mod {p : Pt} {t : Option Nat} {x : Int} : aheadT p t (x % p2 (cntP p t)) = aheadT p t x := by
  unfold aheadT
  rw [bitsT_p2]
theorem letT_le {p : Pt} {t : Option Nat} {num : Int} {hd : List Int} (ok : OkPt p) (h : AtOk p t) (lh : hd.length = p.s.fs.length) : (letT p t num hd).length ≤ 1000 := by
  have ll := letT_len (num := num) ok h lh
  have z := szP_le ok h
  have z2 := ok.sw4
  have z3 := ok.cw20
  have z4 := cntP_bd ok h
  unfold sizeP at ll
  omega
/-- a statement that is never reached -/
def tNever : TS := fun _ _ _ => False
theorem ps_never {X : Cx} {st : Stmt} : PS X st tNever := ⟨fun _ _ _ _ _ _ h => h.elim⟩
/-! a letter's parts -/
def genT (p : Pt) (t : Option Nat) (num : Int) (hd : List Int) (ck : Int) : Str := aheadT p t num ++ pcsP p t hd ++ bitsT ck p.cw
def atD : Option Nat → PyData
  | none => .none
  | some i => .int (i : Int)
theorem atV_dq {K : PySem.W.Frag} {H : Hp} (t : Option Nat) : Dq K H (atV t) (atD t) := by
  cases t with
  | none => exact .non
  | some i => exact .int _
section
variable {p : Pt} {t : Option Nat} {num ck : Int} {hd : List Int}
theorem genT_len (ok : OkPt p) (h : AtOk p t) (lh : hd.length = p.s.fs.length) : ((genT p t num hd ck).length : Int) = sizeP p t := by
  have z := cntP_bd ok h
  unfold genT sizeP
  rw [len_app, len_app, ahead_len, pcsP_len ok h lh, len_bitsT]
  omega
theorem genT_le (ok : OkPt p) (h : AtOk p t) (lh : hd.length = p.s.fs.length) : (genT p t num hd ck).length ≤ 1000 := by
  have ll := genT_len (num := num) (ck := ck) ok h lh
  have z := szP_le ok h
  have z2 := ok.sw4
  have z3 := ok.cw20
  have z4 := cntP_bd ok h
  unfold sizeP at ll
  omega
theorem gen_cz : cz (genT p t num hd ck) = cz (bitsT (sortP t) p.sw) ++ (cz (bitsT num (cntP p t).toNat) ++ (cz (pcsP p t hd) ++ cz (bitsT ck p.cw))) := by
  unfold genT aheadT
  rw [cz_app, cz_app, cz_app, List.append_assoc, List.append_assoc]
theorem gen_01 : ∀ c ∈ cz (genT p t num hd ck), c = 48 ∨ c = 49 := fun c hc => by
  rw [gen_cz] at hc
  rcases List.mem_append.mp hc with h | h
  · exact bits_01 c h
  · rcases List.mem_append.mp h with h | h
    · exact bits_01 c h
    · rcases List.mem_append.mp h with h | h
      · exact pieces_01 _ c h
      · exact bits_01 c h
theorem cut_01 {z : Str} {lo hi : Option Int} (h : ∀ c ∈ cz z, c = 48 ∨ c = 49) : ∀ c ∈ cz (cutS z lo hi), c = 48 ∨ c = 49 := fun c hc => by
  rw [cz_cut] at hc
  exact h c (cutD_mem hc)
theorem cut_len {z : Str} {lo hi : Option Int} : (cutS z lo hi).length ≤ z.length := by
  rw [← cz_len, ← cz_len, cz_cut]
  exact cutD_len
theorem num_cz {y z : Str} (h : cz y = cz z) : numT y = numT z := by
  unfold numT
  rw [h]
theorem czb (n : Int) (w : Nat) : (cz (bitsT n w)).length = w := by rw [cz_len, len_bitsT]
theorem gen_sort (ok : OkPt p) (h : AtOk p t) : numT (cutS (genT p t num hd ck) none (some (p.sw : Int))) = sortP t := by
  have e : cz (cutS (genT p t num hd ck) none (some (p.sw : Int))) = cz (bitsT (sortP t) p.sw) := by
    rw [cz_cut, gen_cz, cutD_to (by omega) (by rw [List.length_append, czb]; omega), Int.toNat_natCast, List.take_append_of_le_length (by rw [czb]; exact Nat.le_refl _), List.take_of_length_le (by rw [czb]; exact Nat.le_refl _)]
  rw [num_cz e]
  have z := ok.sw.1
  refine numT_bits ?_ ?_
  · cases t with
    | none => exact Int.le_refl 0
    | some i => show (0 : Int) ≤ 1 + (i : Int); omega
  · cases t with
    | none => show (0 : Int) < _; omega
    | some i =>
      have hi : i < p.fs.length := h
      show (1 : Int) + (i : Int) < _
      omega
theorem gen_num (ok : OkPt p) (h : AtOk p t) : numT (cutS (genT p t num hd ck) (some (p.sw : Int)) (some ((p.sw : Int) + cntP p t))) = num % p2 (cntP p t) := by
  have z4 := cntP_bd ok h
  have e : cz (cutS (genT p t num hd ck) (some (p.sw : Int)) (some ((p.sw : Int) + cntP p t))) = cz (bitsT num (cntP p t).toNat) := by
    rw [cz_cut, gen_cz, cutD_mid (by omega) (by omega) (by rw [List.length_append, List.length_append, czb, czb]; omega), Int.toNat_natCast, List.drop_append_of_le_length (by rw [czb]; exact Nat.le_refl _), List.drop_of_length_le (by rw [czb]; exact Nat.le_refl _), List.nil_append, show ((p.sw : Int) + cntP p t).toNat - p.sw = (cntP p t).toNat by omega, List.take_append_of_le_length (by rw [czb]; exact Nat.le_refl _), List.take_of_length_le (by rw [czb]; exact Nat.le_refl _)]
  rw [num_cz e, ← bitsT_p2]
  have pp := p2_pos (cntP p t)
  exact numT_bits (Int.emod_nonneg _ (Int.ne_of_gt pp)) (Int.emod_lt_of_pos _ pp)
theorem gen_pcs (ok : OkPt p) (h : AtOk p t) (lh : hd.length = p.s.fs.length) : cutS (genT p t num hd ck) (some ((p.sw : Int) + cntP p t)) (some ((p.sw : Int) + cntP p t + (szP p t : Nat))) = pcsP p t hd := by
  have z4 := cntP_bd ok h
  have lp : (cz (pcsP p t hd)).length = szP p t := by rw [cz_len, pcsP_len ok h lh]
  refine cz_inj ?_
  rw [cz_cut, gen_cz, cutD_mid (by omega) (by omega) (by rw [List.length_append, List.length_append, List.length_append, czb, czb, lp]; omega), show ((p.sw : Int) + cntP p t + (szP p t : Nat)).toNat - ((p.sw : Int) + cntP p t).toNat = szP p t by omega, show ((p.sw : Int) + cntP p t).toNat = p.sw + (cntP p t).toNat by omega, ← List.append_assoc, List.drop_left' (by rw [List.length_append, czb, czb]), List.take_left' lp]
theorem gen_chk (ok : OkPt p) (h : AtOk p t) (lh : hd.length = p.s.fs.length) (c0 : 0 ≤ ck) (c1 : ck < p.s.m) : numT (cutS (genT p t num hd ck) (some ((p.sw : Int) + cntP p t + (szP p t : Nat))) none) = ck := by
  have z4 := cntP_bd ok h
  have lp : (cz (pcsP p t hd)).length = szP p t := by rw [cz_len, pcsP_len ok h lh]
  have e : cz (cutS (genT p t num hd ck) (some ((p.sw : Int) + cntP p t + (szP p t : Nat))) none) = cz (bitsT ck p.cw) := by
    rw [cz_cut, gen_cz, cutD_from (by omega) (by rw [List.length_append, List.length_append, List.length_append, czb, czb, lp]; omega), show ((p.sw : Int) + cntP p t + (szP p t : Nat)).toNat = p.sw + ((cntP p t).toNat + szP p t) by omega, ← List.append_assoc (cz (bitsT num (cntP p t).toNat)), ← List.append_assoc, List.drop_left' (by rw [List.length_append, List.length_append, czb, czb, lp])]
  rw [num_cz e]
  have z := ok.cw.1
  exact numT_bits c0 (by omega)
theorem gen_cut (ok : OkPt p) (h : AtOk p t) (lh : hd.length = p.s.fs.length) : cutS (genT p t num hd ck) none (some (((genT p t num hd ck).length : Int) - (p.cw : Int))) = aheadT p t num ++ pcsP p t hd := by
  have z4 := cntP_bd ok h
  have ll := genT_len (num := num) (ck := ck) ok h lh
  have la : (aheadT p t num ++ pcsP p t hd).length = p.sw + (cntP p t).toNat + szP p t := by rw [len_app, ahead_len, pcsP_len ok h lh]
  have lc : (cz (aheadT p t num ++ pcsP p t hd)).length = p.sw + (cntP p t).toNat + szP p t := by rw [cz_len, la]
  unfold sizeP at ll
  refine cz_inj ?_
  rw [cz_cut, ll, show cz (genT p t num hd ck) = cz (aheadT p t num ++ pcsP p t hd) ++ cz (bitsT ck p.cw) from cz_app _ _, cutD_to (by omega) (by rw [List.length_append, lc, czb]; omega), show ((p.sw : Int) + cntP p t + (szP p t : Nat) + (p.cw : Int) - (p.cw : Int)).toNat = p.sw + (cntP p t).toNat + szP p t by omega, List.take_append_of_le_length (by rw [lc]; exact Nat.le_refl _), List.take_of_length_le (by rw [lc]; exact Nat.le_refl _)]
end
end Sh
/-! what is a name, a row, a kind, a field, a shape, a road, a pact -/
namespace Sh
open PySem PySem.Spec PyProof.Rows L2
def nameD : PyData → Bool
  | .str z => decide (1 ≤ z.length) && (decide (z.length ≤ 8) && (cz z).all fun c => decide (c ∈ ("abcdefghijklmnopqrstuvwxyz" : Str).cps.toList))
  | _ => false
def intsD : List PyData → List Int
  | [] => []
  | .int i :: r => i :: intsD r
  | _ :: r => intsD r
def turnD (b : Int) : PyData → Bool
  | .tuple ds => decide (2 ≤ ds.length) && (decide (ds.length ≤ 12) && (ds.all (betwD 0 (p2 b - 1)) && decide ((intsD ds).Nodup)))
  | _ => false
theorem intsD_of {lo hi : Int} : ∀ {ds : List PyData}, ds.all (betwD lo hi) = true → ds = (intsD ds).map PyData.int
  | [], _ => rfl
  | d :: r, h => by
    rw [List.all_cons, Bool.and_eq_true] at h
    cases d with
    | int i =>
      show PyData.int i :: r = PyData.int i :: (intsD r).map PyData.int
      rw [← intsD_of h.2]
    | _ => cases h.1
theorem dzs_intsD {K : PySem.W.Frag} {P : Addr → Prop} {H : Hp} : ∀ {xs : List V} {ns : List Int}, DzAll K P H xs (ns.map PyData.int) → xs = ns.map V.int
  | _, [], h => by cases h; rfl
  | _, n :: r, h => by
    cases h with
    | cons h1 h2 => rw [dz_int h1, dzs_intsD h2]; rfl
def kindE (pl b : Int) (s : Str) : List PyData → Bool
  | [] => decide (s = "still") || decide (s = "drawn")
  | [d1] => (decide (s = "step") && betwD 0 (p2 b - 1) d1) || (decide (s = "turn") && turnD b d1)
  | [d1, d2] => decide (s = "with") && (betwD 0 (pl - 1) d1 && betwD (-99) 99 d2)
  | _ => false
def kindD (pl b : Int) : PyData → Bool
  | .tuple (.str s :: r) => kindE pl b s r
  | _ => false
def fieldE (pl : Int) (d2 : PyData) : PyData → Bool
  | .int b => kindD pl b d2
  | _ => false
def fieldD (pl : Int) : PyData → Bool
  | .tuple [d0, d1, d2] => nameD d0 && (betwD 1 40 d1 && fieldE pl d2 d1)
  | _ => false
def nmD : PyData → Str
  | .tuple (.str z :: _) => z
  | _ => ""
def fieldsB (ds : List PyData) : Bool := (ds.mapIdx fun i d => fieldD (i : Int) d).all id
def fieldsD : PyData → Bool
  | .tuple ds => decide (1 ≤ ds.length) && (decide (ds.length ≤ 12) && (fieldsB ds && decide ((ds.map nmD).Nodup)))
  | _ => false
def shapeD : PyData → Bool
  | .tuple [d0, d1] => betwD 1 1000000 d1 && fieldsD d0
  | _ => false
def SmNm (d : PyData) : Prop := ∀ z r, d = .tuple (.str z :: r) → z.length ≤ 1000000
def SmSh (d : PyData) : Prop := ∀ ds r, d = .tuple (.tuple ds :: r) → ∀ e ∈ ds, SmNm e
theorem field_nm {pl : Int} {d : PyData} (h : fieldD pl d = true) : ∃ z a b, d = .tuple [.str z, a, b] := by
  cases d with
  | tuple ds =>
    rcases ds with _ | ⟨d0, _ | ⟨d1, _ | ⟨d2, _ | ⟨d3, r⟩⟩⟩⟩
    · cases h
    · cases h
    · cases h
    · have e : (nameD d0 && (betwD 1 40 d1 && fieldE pl d2 d1)) = true := h
      rw [Bool.and_eq_true] at e
      cases d0 with
      | str z => exact ⟨z, _, _, rfl⟩
      | _ => cases e.1
    · cases h
  | _ => cases h
theorem fields_get {ds : List PyData} {i : Nat} {d : PyData} (h : fieldsB ds = true) (e : ds[i]? = some d) : fieldD (i : Int) d = true := by
  unfold fieldsB at h
  rw [List.all_eq_true] at h
  refine h _ (List.mem_of_getElem? (i := i) ?_)
  rw [List.getElem?_mapIdx, e]
  rfl
theorem nm_ok {z : Str} (h : OkNm z) : nameD (.str z) = true := by
  show (decide (1 ≤ z.length) && (decide (z.length ≤ 8) && (cz z).all fun c => decide (c ∈ ("abcdefghijklmnopqrstuvwxyz" : Str).cps.toList))) = true
  rw [decide_eq_true h.1, decide_eq_true h.2.1, Bool.true_and, Bool.true_and, List.all_eq_true]
  intro c hc
  have z := h.2.2 c hc
  obtain ⟨k, rfl⟩ : ∃ k, c = 97 + k := ⟨c - 97, by omega⟩
  have hk : k < 26 := by omega
  refine decide_eq_true ?_
  rw [show ("abcdefghijklmnopqrstuvwxyz" : Str).cps.toList = (List.range 26).map (97 + ·) by decide +kernel]
  exact List.mem_map.mpr ⟨k, List.mem_range.mpr hk, rfl⟩
theorem kd_ok {pl : Nat} {b : Int} {k : Kd} (h : OkKd pl b k) : kindD (pl : Int) b (kdD k) = true := by
  cases k with
  | still => rfl
  | drawn => rfl
  | step n =>
    have e : kindD (pl : Int) b (kdD (.step n)) = ((decide (("step" : Str) = "step") && betwD 0 (p2 b - 1) (.int n)) || (decide (("step" : Str) = "turn") && turnD b (.int n))) := rfl
    rw [e, betw_ok h.1 (by have := h.2; omega), decide_eq_true rfl]
    rfl
  | turn ns =>
    have e : kindD (pl : Int) b (kdD (.turn ns)) = ((decide (("turn" : Str) = "step") && betwD 0 (p2 b - 1) (.tuple (ns.map .int))) || (decide (("turn" : Str) = "turn") && turnD b (.tuple (ns.map .int)))) := rfl
    have ei : ∀ l : List Int, intsD (l.map PyData.int) = l := fun l => by
      induction l with
      | nil => rfl
      | cons x r ih =>
        show x :: intsD (r.map PyData.int) = x :: r
        rw [ih]
    have et : turnD b (.tuple (ns.map .int)) = true := by
      show (decide (2 ≤ (ns.map PyData.int).length) && (decide ((ns.map PyData.int).length ≤ 12) && ((ns.map PyData.int).all (betwD 0 (p2 b - 1)) && decide ((intsD (ns.map PyData.int)).Nodup)))) = true
      rw [ei, List.length_map, decide_eq_true h.1, decide_eq_true h.2.1, decide_eq_true h.2.2.2, Bool.true_and, Bool.true_and, Bool.and_true, List.all_map, List.all_eq_true]
      intro n hn
      have z := h.2.2.1 n hn
      exact betw_ok z.1 (by omega)
    rw [e, et, decide_eq_true (rfl : ("turn" : Str) = "turn"), Bool.true_and, Bool.or_true]
  | wth p z =>
    have e : kindD (pl : Int) b (kdD (.wth p z)) = (decide (("with" : Str) = "with") && (betwD 0 ((pl : Int) - 1) (.int p) && betwD (-99) 99 (.int z))) := rfl
    obtain ⟨h0, h1, h2, h3⟩ := h
    rw [e, betw_ok h0 (by omega), betw_ok h2 h3, decide_eq_true rfl]
    rfl
theorem fd_ok {i : Nat} {f : Fd} (h : OkFd i f) : fieldD (i : Int) (fdD f) = true := by
  have e : fieldD (i : Int) (fdD f) = (nameD (.str f.nm) && (betwD 1 40 (.int f.br) && kindD (i : Int) f.br (kdD f.kd))) := rfl
  rw [e, nm_ok h.nm, betw_ok h.b0 h.b1, kd_ok h.kd]
  rfl
theorem shape_ok {s : Shp} (h : OkShp s) : shapeD (shD s) = true := by
  have e : shapeD (shD s) = (betwD 1 1000000 (.int s.m) && (decide (1 ≤ (s.fs.map fdD).length) && (decide ((s.fs.map fdD).length ≤ 12) && (fieldsB (s.fs.map fdD) && decide (((s.fs.map fdD).map nmD).Nodup))))) := rfl
  have en : (s.fs.map fdD).map nmD = s.fs.map Fd.nm := by
    rw [List.map_map]
    rfl
  have ef : fieldsB (s.fs.map fdD) = true := by
    unfold fieldsB
    rw [List.all_eq_true]
    intro x hx
    obtain ⟨i, hi⟩ := List.getElem?_of_mem hx
    rw [List.getElem?_mapIdx, List.getElem?_map] at hi
    cases c : s.fs[i]? with
    | none => rw [c] at hi; cases hi
    | some f =>
      rw [c] at hi
      rw [← Option.some.inj hi]
      exact fd_ok (h.fd i f c)
  rw [e, en, ef, betw_ok h.m0 h.m1, List.length_map, decide_eq_true h.l0, decide_eq_true h.l1, decide_eq_true h.nd]
  rfl
theorem smnm_ok {s : Shp} (h : OkShp s) : ∀ e ∈ s.fs.map fdD, SmNm e := fun e he z r ez => by
  obtain ⟨f, hf, rfl⟩ := List.mem_map.mp he
  obtain ⟨i, hi⟩ := List.getElem?_of_mem hf
  have hn := (h.fd i f hi).nm.2.1
  injection ez with ez
  injection ez with e1 _
  injection e1 with e1
  rw [← e1]
  omega
theorem smsh_ok {s : Shp} (h : OkShp s) : SmSh (shD s) := fun ds r e => by
  injection e with e
  injection e with e1 _
  injection e1 with e1
  rw [← e1]
  exact smnm_ok h
def roadE (d1 d2 d3 : PyData) : PyData → Bool
  | .int a => betwD a 400 d1 && (betwD 0 20 d2 && betwD 0 400 d3)
  | _ => false
def roadD : PyData → Bool
  | .tuple [d0, d1, d2, d3] => betwD 0 39 d0 && roadE d1 d2 d3 d0
  | _ => false
def formsD (s : Shp) : PyData → Bool
  | .tuple fs => decide (fs.length ≤ 12) && fs.all (formD s)
  | _ => false
def PaC (d : PyData) (r : Bool) : Prop :=
  (r = false ∧ ∀ d0 d1 d2 d3, d ≠ .tuple [d0, d1, d2, d3]) ∨ (∃ d0 d1 d2 d3, d = .tuple [d0, d1, d2, d3] ∧ r = false ∧ shapeD d0 = false ∧ SmSh d0) ∨
  ∃ (s : Shp) (d1 d2 d3 : PyData), OkShp s ∧ d = .tuple [shD s, d1, d2, d3] ∧ r = (betwD 1 40 d1 && (formsD s d2 && roadD d3))
theorem OkShp.brs {s : Shp} (h : OkShp s) : ∀ f ∈ s.fs, f.br ≤ 1000 := fun f hf => by
  obtain ⟨i, hi⟩ := List.getElem?_of_mem hf
  have := (h.fd i f hi).b1
  omega
theorem dz_4 {K : PySem.W.Frag} {P : Addr → Prop} {H : Hp} {v : V} {d0 d1 d2 d3 : PyData} (hd : Dz K P H v (.tuple [d0, d1, d2, d3])) : ∃ a x0 x1 x2 x3, v = .ref a ∧ SqT K H a [x0, x1, x2, x3] ∧ Dz K P H x0 d0 ∧ Dz K P H x1 d1 ∧ Dz K P H x2 d2 ∧ Dz K P H x3 d3 := by
  obtain ⟨a, xs, rfl, hxs, hds⟩ := dz_tt hd
  cases hds with
  | cons a0 r => cases r with
    | cons a1 r => cases r with
      | cons a2 r => cases r with
        | cons a3 r =>
          cases r
          exact ⟨_, _, _, _, _, rfl, hxs, a0, a1, a2, a3⟩
theorem rd0 {d0 d1 d2 d3 : PyData} (h : betwD 0 39 d0 = false) : roadD (.tuple [d0, d1, d2, d3]) = false := by
  show (betwD 0 39 d0 && roadE d1 d2 d3 d0) = false
  rw [h, Bool.false_and]
theorem rd1 {a : Int} {d1 d2 d3 : PyData} (h : betwD a 400 d1 = false) : roadD (.tuple [.int a, d1, d2, d3]) = false := by
  show (betwD 0 39 (.int a) && (betwD a 400 d1 && (betwD 0 20 d2 && betwD 0 400 d3))) = false
  rw [h, Bool.false_and, Bool.and_false]
theorem rd2 {a : Int} {d1 d2 d3 : PyData} (h : betwD 0 20 d2 = false) : roadD (.tuple [.int a, d1, d2, d3]) = false := by
  show (betwD 0 39 (.int a) && (betwD a 400 d1 && (betwD 0 20 d2 && betwD 0 400 d3))) = false
  rw [h, Bool.false_and, Bool.and_false, Bool.and_false]
theorem rd3 {a : Int} {d1 d2 d3 : PyData} (h : betwD 0 400 d3 = false) : roadD (.tuple [.int a, d1, d2, d3]) = false := by
  show (betwD 0 39 (.int a) && (betwD a 400 d1 && (betwD 0 20 d2 && betwD 0 400 d3))) = false
  rw [h, Bool.and_false, Bool.and_false, Bool.and_false]
theorem dq_i4 {K : PySem.W.Frag} {H : Hp} {v : V} {a b c d : Int} (h : Dq K H v (.tuple [.int a, .int b, .int c, .int d])) : ∃ p, v = .ref p ∧ SqN K H p [.int a, .int b, .int c, .int d] := by
  obtain ⟨p, xs, rfl, hx, r⟩ := dq_tt h
  cases r with
  | cons h1 r => cases r with
    | cons h2 r => cases r with
      | cons h3 r => cases r with
        | cons h4 r =>
          cases r
          cases dq_int h1
          cases dq_int h2
          cases dq_int h3
          cases dq_int h4
          exact ⟨p, rfl, hx⟩
theorem pac_w {s : Shp} {d1 d2 d3 : PyData} (ok : OkShp s) (h : betwD 1 40 d1 = false) : PaC (.tuple [shD s, d1, d2, d3]) false := .inr (.inr ⟨s, d1, d2, d3, ok, rfl, by rw [h, Bool.false_and]⟩)
theorem pac_f {s : Shp} {d1 d2 d3 : PyData} (ok : OkShp s) (h : formsD s d2 = false) : PaC (.tuple [shD s, d1, d2, d3]) false := .inr (.inr ⟨s, d1, d2, d3, ok, rfl, by rw [h, Bool.false_and, Bool.and_false]⟩)
theorem pac_r {s : Shp} {d1 d2 d3 : PyData} (ok : OkShp s) (h : roadD d3 = false) : PaC (.tuple [shD s, d1, d2, d3]) false := .inr (.inr ⟨s, d1, d2, d3, ok, rfl, by rw [h, Bool.and_false, Bool.and_false]⟩)
theorem pac_s {d0 d1 d2 d3 : PyData} (h : shapeD d0 = false) (hz : SmSh d0) : PaC (.tuple [d0, d1, d2, d3]) false := .inr (.inl ⟨d0, d1, d2, d3, rfl, rfl, h, hz⟩)
theorem pac_n {d : PyData} (h : ∀ d0 d1 d2 d3, d ≠ .tuple [d0, d1, d2, d3]) : PaC d false := .inl ⟨rfl, h⟩
theorem forms_bad {s : Shp} {l : List PyData} {d : PyData} (h : formD s d = false) (hd : d ∈ l) : formsD s (.tuple l) = false := by
  show (decide (l.length ≤ 12) && l.all (formD s)) = false
  have e : l.all (formD s) = false := by
    rw [List.all_eq_false]
    exact ⟨d, hd, by rw [h]; decide⟩
  rw [e, Bool.and_false]
theorem form_lenO {s : Shp} {a b : PyData} {ws : List PyData} (h : ws.length ≠ s.fs.length) : formD s (.tuple [a, b, .tuple ws]) = false := by
  show (betwD 1 40 a && (betwD 1 40 b && (decide (ws.length = s.fs.length) && _))) = false
  rw [decide_eq_false h, Bool.false_and, Bool.and_false, Bool.and_false]
theorem lc_genF {K : PySem.W.Frag} {σ : L2.St} {H : Hp} {Q : VK} {te : TE} {tt : TT} {g : TG} {vs : List Nat} {a : Addr} {xs : List V} (hx : SqL K H a xs) (I : Nat → List V → Hp → Prop) (hst : ∀ D, H D = none → ∀ i acc H' xs ys, H' D = some (.lst xs) → I i acc H' → I i acc (upd H' D (.lst ys))) (hn : xs.length ≤ 1000000) (hI : ∀ i acc H', I i acc H' → acc.length ≤ i) (h0 : ∀ H', Same H H' → I 0 [] H')
    (hs : ∀ i x acc H', xs[i]? = some x → Same H H' → I i acc H' → ∀ (k : VK) (k' : Hp → Prop), (∀ y H4, Same H' H4 → I (i + 1) (acc ++ [y]) H4 → k y H4) → (∀ H3, Same H' H3 → I (i + 1) acc H3 → k' H3) →
      g x (wipe σ vs) H' fun σ2 H2 => wipe σ2 vs = wipe σ vs ∧ tt σ2 H2 fun b H3 => if b = true then te σ2 H3 k else k' H3)
    (hd : ∀ D acc H', H D = none → Same H H' → H' D = some (.lst acc) → I xs.length acc H' → Q (.ref D) H') : LcOk (Itl K a) g tt te vs σ Q H := fun D hD => by
  refine ⟨fun i m H' => m = xs.length - i ∧ i ≤ xs.length ∧ ∃ acc, Same H H' ∧ H' D = some (.lst acc) ∧ I i acc H', ⟨xs.length, by omega, by omega, [], same_new hD, upd_same, h0 _ (same_new hD)⟩, fun i m H1 ⟨em, hi, acc, s1, hD1, w1⟩ => ?_⟩
  by_cases hlt : i < xs.length
  · refine .inr ⟨⟨xs, xs[i], s1.seq hx, List.getElem?_eq_getElem hlt⟩, fun H' => i + 1 ≤ xs.length ∧ ∃ acc, Same H H' ∧ H' D = some (.lst acc) ∧ I (i + 1) acc H', fun H' ⟨a, b⟩ => ⟨xs.length - (i + 1), by omega, rfl, a, b⟩, fun x H' y => ?_⟩
    obtain ⟨e1, e2⟩ := y
    subst e1
    refine hs i x acc _ (e2 xs (s1.seq hx)) s1 w1 _ _ (fun y H4 s4 w4 => ⟨acc, s4 _ _ hD1, ?_, hlt, _, same_mut (s1.trans s4) hD, upd_same, hst D hD _ _ _ _ _ (s4 _ _ hD1) w4⟩) fun H3 s3 w3 => ⟨hlt, acc, s1.trans s3, s3 _ _ hD1, w3⟩
    have l1 := hI i acc _ w1
    exact Nat.lt_of_le_of_lt (m := 1000000) (by omega) (by decide)
  · have e : i = xs.length := by omega
    subst e
    exact .inl ⟨⟨xs, s1.seq hx, Nat.le_refl _⟩, hd D acc H1 hD s1 hD1 w1⟩
theorem tupOs_mem : ∀ {ds : List PyData} {d : PyData}, tupOs ds → d ∈ ds → tupO d
  | e :: r, d, h, hd => by
    rcases List.mem_cons.mp hd with rfl | hd
    · exact h.1
    · exact tupOs_mem h.2 hd
  | [], _, _, hd => nomatch hd
end Sh
/-! own classes: their methods, fields, new instances -/
namespace Sh
open PySem PySem.Spec PyProof.Rows L2
/-- where a class of the text stands -/
@[irreducible] def clsOf (K : PySem.W.Frag) (x : Str) : Addr := match PySem.W.nsIn K mainGlobals x with
  | some (some (.ref C)) => C
  | _ => 0
theorem clsOf_eq {K : PySem.W.Frag} {x : Str} {C : Addr} (h : PySem.W.nsIn K mainGlobals x = some (some (.ref C))) : clsOf K x = C := by
  unfold clsOf
  rw [h]
def KTup (K : PySem.W.Frag) (a : Addr) (xs : List V) : Prop := ∃ (o : Obj) (its : Array Value) (n : Nat), K.lookup a = some o ∧ o.dict = none ∧ o.cls = .type "tuple" ∧ o.data = .seq its n ∧ its.size ≤ sizeLine ∧ Vals xs its.toList
theorem ktup_mk {K : PySem.W.Frag} {a : Addr} {xs : List V} {c : Value} {d : Option Addr} {its : Array Value} {n : Nat} {sl : Array (Option Value)} (l : K.lookup a = some ⟨c, d, .seq its n, sl⟩) (hc : c = .type "tuple") (hd : d = none) (hs : its.size ≤ sizeLine) (hv : Vals xs its.toList) : KTup K a xs :=
  ⟨_, its, n, l, hd, hc, rfl, hs, hv⟩
theorem KTup.n {K : PySem.W.Frag} {a : Addr} {xs : List V} {H : Hp} (h : KTup K a xs) : SqN K H a xs := .inr h
structure KlsOk (K : PySem.W.Frag) (mg : Str → Option Value) (x : Str) : Prop where
  cl : Cls K (clsOf K x)
  mg : mg x = some (.ref (clsOf K x))
def SrcM (K : PySem.W.Frag) (C : Addr) (m qual : Str) (st : Stmt) : Prop := ∃ f fd, Meth K C m f ∧ Fun K m qual st f fd
def SrcI (K : PySem.W.Frag) (C : Addr) (qual : Str) (st : Stmt) : Prop := ∃ f fd, Mk K C f ∧ Fun K "__init__" qual st f fd
def CalM (W : Wd) (mg : Str → Option Value) (base : Heap) (C : Addr) (m : Str) (k : Nat) (ps : List Str) (sp : Sp) : Prop :=
  ∃ f fd, Meth W.K C m f ∧ FnOk W.P W.w W.K mg base CX0 k f fd ps sp ∧ Binds W.K fd ps []
def CalI (W : Wd) (mg : Str → Option Value) (base : Heap) (C : Addr) (k : Nat) (ps : List Str) (sp : Sp) : Prop :=
  ∃ f fd, Mk W.K C f ∧ FnOk W.P W.w W.K mg base CX0 k f fd ps sp ∧ Binds W.K fd ps []
section
variable {K : PySem.W.Frag} {mg : Str → Option Value} {h : Heap} {x m qual : Str} {C f : Addr} {st : Stmt} {oc : Value} {od an : Option Addr} {osl : Array (Option Value)} {kV doc pm cdv ct : Value}
theorem kls_mk (X : K.In h) (G : h.Ns mainGlobals mg) (a : PySem.W.nsIn K mainGlobals x = some (some (.ref C))) (pg : PySem.W.plainGet K C Str.empty = true) (hd : PySem.W.hasDictIn K C = true) (po : PySem.W.plainOver K C = true)
    (sa : PySem.W.findIn K (.ref C) "__setattr__" = some (some (.builtin "object.__setattr__"))) : KlsOk K mg x := by
  have e := clsOf_eq a
  exact ⟨by rw [e]; exact ⟨pg, hd, po, sa⟩, by rw [e]; exact PySem.W.mg_of X G a⟩
theorem no_mk {g : Str} (a : PySem.W.nsIn K mainGlobals x = some (some (.ref C))) (n : PySem.W.findIn K (.ref C) g = some none) : NoAttr K (clsOf K x) g := by
  rw [clsOf_eq a]
  exact n
theorem src_mkM (e : PySem.W.nsIn K mainGlobals x = some (some (.ref C))) (a : PySem.W.findIn K (.ref C) m = some (some (.ref f))) (i : PySem.W.isFn K (.ref f) = true)
    (l : K.lookup f = some ⟨oc, od, .func (PySem.W.fnOf m qual (defArgs st) (defBody st) (defScope st) .none kV doc pm an cdv ct), osl⟩) (c : PySem.W.codeIn K cdv qual = true) (k : PySem.W.keepIn K (.ref f) = true) : SrcM K (clsOf K x) m qual st := by
  rw [clsOf_eq e]
  exact ⟨f, _, ⟨a, i, k⟩, fun_mk l c k⟩
theorem src_mkI (e : PySem.W.nsIn K mainGlobals x = some (some (.ref C))) (a : PySem.W.findIn K (.ref C) "__init__" = some (some (.ref f))) (i : PySem.W.isFn K (.ref f) = true) (mk : PySem.W.makesIn K C = true) (kc : PySem.W.keepIn K (.ref C) = true)
    (l : K.lookup f = some ⟨oc, od, .func (PySem.W.fnOf "__init__" qual (defArgs st) (defBody st) (defScope st) .none kV doc pm an cdv ct), osl⟩) (c : PySem.W.codeIn K cdv qual = true) (k : PySem.W.keepIn K (.ref f) = true) : SrcI K (clsOf K x) qual st := by
  rw [clsOf_eq e]
  exact ⟨f, _, ⟨mk, a, i, kc⟩, fun_mk l c k⟩
end
/-! ### fields -/
def FdOk (C : Addr) (f : Str) (Q : VK) (x : V) (H : Hp) : Prop := ∃ a dx fs v, x = .ref a ∧ H a = some (.ins C dx fs) ∧ fs.lookup f = some v ∧ Q v H
def tFd (C : Addr) (ta : TE) (f : Str) : TE := fun σ H Q => ta σ H fun x H1 => FdOk C f Q x H1
def SfOk (C : Addr) (f : Str) (y : V) (k : Hp → Prop) (x : V) (H : Hp) : Prop := ∃ a dx fs, x = .ref a ∧ H a = some (.ins C dx fs) ∧ fs.length < 1000 ∧ k (upd H a (.ins C dx (putF f y fs)))
def sFd (C : Addr) (ta tv : TE) (f : Str) : TS := fun D σ H => tv σ H fun y H1 => ta σ H1 fun x H2 => SfOk C f y (D.nx σ) x H2
section
variable {X : Cx} {o e value : Expr} {f : Str} {pos pos' tpos : Pos} {ta tv : TE} {C : Addr}
theorem pe_fd (c : Cls X.K C) (n : NoAttr X.K C f) (he : PE X e ta) (hb : attributeBase e f X.env (eval e X.env) = eval e X.env) : PE X (.Attribute e f pos) (tFd C ta f) := by
  refine ⟨fun pins s σ H Q I h => ?_⟩
  refine attr_of hb (thn (he.run pins s σ H _ I h) fun u s1 ⟨x, H1, I1, rx, a, dx, fs, v, ex, ea, l, q⟩ => ?_)
  subst ex
  obtain rfl : u = Value.ref a := rx
  exact getattr_ok I1 ea c n l fun u' s2 I2 ru => ⟨v, H1, I2, ru, q⟩
theorem ps_fd (c : Cls X.K C) (n : NoAttr X.K C f) (ha : PE X o ta) (hv : PE X value tv) (hs : swapsWith value (some (.Attribute o f pos')) pos.line X.env = pure false) : PS X (.Assign [.Attribute o f pos'] value pos) (sFd C ta tv f) := by
  refine ⟨fun pins s σ H D I h => ?_⟩
  refine plainObj_wpAny_Assign_Attribute (thn (hv.run pins s σ H _ I h) fun u s1 ⟨y, H1, I1, ry, q⟩ => thn (ha.run pins s1 σ H1 _ I1 q) fun ov s2 ⟨x, H2, I2, rx, a, dx, fs, ex, ea, l, q2⟩ => ?_) hs
  subst ex
  obtain rfl : ov = Value.ref a := rx
  exact setattr_ok I2 ea c n l ry fun s3 I3 => ⟨σ, _, I3, q2⟩
end
/-! ### calls of methods, new instances -/
def MtOk (C : Addr) (m : Str) (t : TA) (sp : Sp) (E : XK) (σ : L2.St) (Q : VK) (x : V) (H1 : Hp) : Prop := ∃ a dx fs, x = .ref a ∧ H1 a = some (.ins C dx fs) ∧ fs.lookup m = none ∧ t σ H1 fun vs H2 => sp (x :: vs) H2 Q E
def MkOk (C : Addr) (sp : Sp) (E : XK) (Q : VK) (vs : List V) (H1 : Hp) : Prop := ∀ x dx, H1 x = none → H1 dx = none → dx ≠ x → sp (.ref x :: vs) (upd (upd H1 dx (.own x)) x (.ins C dx [])) (fun v H2 => v = .non ∧ Q (.ref x) H2) E
section
variable {C a dx : Addr} {m f : Str} {sp : Sp} {E : XK} {ta tv : TE} {t : TA} {σ : L2.St} {H : Hp} {Q : VK} {fs : List (Str × V)} {v y : V} {nx bk ct : L2.St → Hp → Prop} {rt : VK} {k : Hp → Prop}
theorem w_fd (h : ta σ H fun x H1 => FdOk C f Q x H1) : tFd C ta f σ H Q := h
theorem w_fdok (h : H a = some (.ins C dx fs)) (l : fs.lookup f = some v) (q : Q v H) : FdOk C f Q (.ref a) H := ⟨a, dx, fs, v, rfl, h, l, q⟩
theorem w_sfd (h : tv σ H fun y H1 => ta σ H1 fun x H2 => SfOk C f y (nx σ) x H2) : sFd C ta tv f ⟨nx, rt, bk, ct⟩ σ H := h
theorem w_sfok (h : H a = some (.ins C dx fs)) (l : fs.length < 1000) (q : k (upd H a (.ins C dx (putF f y fs)))) : SfOk C f y k (.ref a) H := ⟨a, dx, fs, rfl, h, l, q⟩
theorem w_meth (h : ta σ H fun x H1 => MtOk C m t sp E σ Q x H1) : tMeth C m sp [] E ta t σ H Q := by
  have e : tMeth C m sp [] E ta t σ H Q = (ta σ H fun x H1 => MtOk C m t sp E σ Q x H1) := by
    unfold tMeth MtOk
    simp only [List.append_nil]
  rw [e]
  exact h
theorem w_mtok (h : H a = some (.ins C dx fs)) (l : fs.lookup m = none) (q : t σ H fun vs H2 => sp (.ref a :: vs) H2 Q E) : MtOk C m t sp E σ Q (.ref a) H := ⟨a, dx, fs, rfl, h, l, q⟩
theorem w_make (h : t σ H fun vs H1 => MkOk C sp E Q vs H1) : tMake C sp [] E t σ H Q := by
  have e : tMake C sp [] E t σ H Q = (t σ H fun vs H1 => MkOk C sp E Q vs H1) := by
    unfold tMake MkOk
    simp only [List.append_nil]
  rw [e]
  exact h
theorem lk_hit {r : List (Str × V)} : List.lookup f ((f, v) :: r) = some v := by
  rw [List.lookup_cons, beq_self_eq_true]
theorem lk_miss {g : Str} {r : List (Str × V)} (h : (f == g) = false) : List.lookup f ((g, v) :: r) = List.lookup f r := by
  rw [List.lookup_cons, h]
theorem pf_hit {r : List (Str × V)} : putF f y ((f, v) :: r) = (f, y) :: r := if_pos rfl
theorem pf_miss {g : Str} {r : List (Str × V)} (h : ¬ g = f) : putF f y ((g, v) :: r) = (g, v) :: putF f y r := if_neg h
end
/-! ### heaps in which an object's own parts change -/
def isTup : HO → Prop
  | .tup _ => True
  | .frz _ (.tup _) => True
  | _ => False
/-- tuples stay -/
def St (H H' : Hp) : Prop := ∀ a u, H a = some u → isTup u → H' a = some u
theorem St.refl (H : Hp) : St H H := fun _ _ h _ => h
theorem St.trans {H H1 H2 : Hp} (a : St H H1) (b : St H1 H2) : St H H2 := fun c o h t => b c o (a c o h t) t
theorem Same.st {H H' : Hp} (e : Same H H') : St H H' := fun a u h _ => e a u h
theorem tup_noE {u : HO} (h : isTup u) : noE u = true := by
  cases u <;> first | rfl | exact h.elim
theorem Sx.st {H H' : Hp} (e : Sx H H') : St H H' := fun a u h t => e.keep a u h (tup_noE t)
section
variable {K : PySem.W.Frag} {H H' : Hp} {a : Addr} {xs : List V}
theorem st_t (e : St H H') (h : SqT K H a xs) : SqT K H' a xs := by
  rcases h with (h | ⟨o, h⟩) | h
  · exact .inl (.inl (e _ _ h trivial))
  · exact .inl (.inr ⟨o, e _ _ h trivial⟩)
  · exact .inr h
theorem st_tup (e : St H H') (h : TupN H a xs) : TupN H' a xs := by
  obtain ⟨o, d, h⟩ := h
  exact ⟨o, d, e _ _ h trivial⟩
theorem st_n (e : St H H') (h : SqN K H a xs) : SqN K H' a xs := by
  rcases h with h | h
  · exact .inl (st_tup e h)
  · exact .inr h
mutual
theorem dqt (e : St H H') : ∀ {v : V} {d : PyData}, Dq K H v d → tupO d → Dq K H' v d
  | _, _, .non, _ => .non
  | _, _, .bl b, _ => .bl b
  | _, _, .int i, _ => .int i
  | _, _, .str x, _ => .str x
  | _, _, .lst _ _, z => (show False from z).elim
  | _, _, .tup h r, z => .tup (st_n e h) (dqst e r z)
theorem dqst (e : St H H') : ∀ {vs : List V} {ds : List PyData}, DqAll K H vs ds → tupOs ds → DqAll K H' vs ds
  | _, _, .nil, _ => .nil
  | _, _, .cons h r, z => .cons (dqt e h z.1) (dqst e r z.2)
end
end
/-- all but the objects at p and l stays -/
def Mv (p l : Addr) (H H' : Hp) : Prop := ∀ a u, H a = some u → a ≠ p → a ≠ l → H' a = some u
section
variable {W : Wd} {K : PySem.W.Frag} {H0 H H' H2 : Hp} {p l : Addr} {C dx : Addr} {fs : List (Str × V)} {hs : List V} {v : V} {b : Bool} {n : Int}
theorem Mv.same (e : Same H H') : Mv p l H H' := fun a u h _ _ => e a u h
theorem Mv.trans (e : Mv p l H H') (e' : Mv p l H' H2) : Mv p l H H2 := fun a u h n1 n2 => e' a u (e a u h n1 n2) n1 n2
theorem mv_st (h1 : H p = some (.ins C dx fs)) (h2 : H l = some (.lst hs)) (e : Mv p l H H') : St H H' := fun a u h t => e a u h (fun z => by
  rw [z, h1] at h
  cases h
  exact t) fun z => by
  rw [z, h2] at h
  cases h
  exact t
theorem mv_box (h1 : H p = some (.ins C dx fs)) (h2 : H l = some (.lst hs)) (e : Mv p l H H') (h : BoxAt W b n H v) : BoxAt W b n H' v := by
  obtain ⟨q, o, k, rfl, hpo, hk, hp, ho⟩ := h
  refine ⟨q, o, k, rfl, hpo, hk, e _ _ hp (fun z => ?_) fun z => ?_, e _ _ ho (fun z => ?_) fun z => ?_⟩
  · rw [z, h1] at hp
    cases hp
  · rw [z, h2] at hp
    cases hp
  · rw [z, h1] at ho
    cases ho
  · rw [z, h2] at ho
    cases ho
theorem mv_sx (e0 : Sx H0 H) (n1 : H0 p = none) (n2 : H0 l = none) (e : Mv p l H H') : Sx H0 H' := by
  have ne : ∀ a u, H0 a = some u → a ≠ p ∧ a ≠ l := fun a u h => ⟨fun z => (by rw [z, n1] at h; cases h), fun z => (by rw [z, n2] at h; cases h)⟩
  refine ⟨fun a u h hn => e a u (e0.keep a u h hn) (ne a u h).1 (ne a u h).2, fun a u h => ?_⟩
  obtain ⟨w, hw⟩ := e0.there a u h
  exact ⟨w, e a w hw (ne a u h).1 (ne a u h).2⟩
end
/-! max of three -/
abbrev rMax3 : List V → Hp → VK → Prop := fun xs H Q => ∃ i j k, xs = [V.int i, V.int j, V.int k] ∧ Q (.int (if j > i then (if k > j then k else j) else (if k > i then k else i))) H
theorem call_max3 {X : Cx} (hc : X.calm = true) : CallR X (.builtin "max") rMax3 := by
  intro pins s σ H xs us Q I r h
  obtain ⟨i, j, k, rfl, q⟩ := h
  obtain ⟨t1, t2, t3, rfl⟩ : ∃ t1 t2 t3, us = [Value.int i t1, Value.int j t2, Value.int k t3] := by
    cases r with
    | cons r1 r => cases r with
      | cons r2 r => cases r with
        | cons r3 r =>
          cases r
          obtain ⟨t1, e1⟩ := r1
          obtain ⟨t2, e2⟩ := r2
          obtain ⟨t3, e3⟩ := r3
          exact ⟨t1, t2, t3, by rw [e1, e2, e3]⟩
  refine max_three_ints (I.ok.hd hc) fun h' tk kp => ⟨_, H, I.kept kp, ?_, q⟩
  split
  · split <;> exact ⟨_, rfl⟩
  · split <;> exact ⟨_, rfl⟩
theorem w_max3 {i j k : Int} {H : Hp} {Q : VK} (h : Q (.int (if j > i then (if k > j then k else j) else (if k > i then k else i))) H) : rMax3 [.int i, .int j, .int k] H Q := ⟨i, j, k, rfl, h⟩
end Sh
/-! pressers: what they remember, what hinders a form -/
namespace Sh
open PySem PySem.Spec PyProof.Rows L2
def oV : Option Int → V
  | none => .non
  | some i => .int i
def oD : Option Int → PyData
  | none => .none
  | some i => .int i
theorem oV_dq {K : PySem.W.Frag} {H : Hp} (t : Option Int) : Dq K H (oV t) (oD t) := by
  cases t with
  | none => exact .non
  | some i => exact .int i
/-- the greater one, none being less than all -/
def grt : Option Int → Option Int → Option Int
  | none, b => b
  | some x, none => some x
  | some x, some y => if x < y then some y else some x
structure PrS where
  P : Pt
  past : List (List Int)
  had : Option Int
  base : Option Int
  fresh : Int
def inO (n : Int) : Option Int → Prop
  | none => True
  | some x => 0 ≤ x ∧ x < n
structure OkPr (s : PrS) : Prop where
  ok : OkPt s.P
  hds : ∀ h ∈ s.past, OkHead s.P.s.fs h
  len : s.past.length ≤ 1000
  f0 : 0 ≤ s.fresh
  f1 : s.fresh ≤ s.past.length
  had : inO s.past.length s.had
  base : inO s.past.length s.base
def prF (vp : V) (l : Addr) (h b : Option Int) (f : Int) : List (Str × V) := [("pact", vp), ("past", .ref l), ("had_most", oV h), ("base_most", oV b), ("fresh_from", .int f)]
/-- a presser stands at p, its past at l -/
def PrAt (W : Wd) (H : Hp) (p l : Addr) (s : PrS) : Prop := ∃ (dx : Addr) (vp : V) (hs : List V), H p = some (.ins (clsOf W.K "Presser") dx (prF vp l s.had s.base s.fresh)) ∧ Dq W.K H vp (ptD s.P) ∧ H l = some (.lst hs) ∧ DqAll W.K H hs (s.past.map headD)
def headB (fs : List Fd) : PyData → Bool
  | .tuple ds => decide (ds.length = fs.length) && (fs.zip ds).all fun fd => betwD 0 (p2 fd.1.br - 1) fd.2
  | _ => false
theorem headB_ok : ∀ {fs : List Fd} {hd : List Int}, OkHead fs hd → headB fs (headD hd) = true := fun {fs hd} h => by
  have l := okHead_len h
  show (decide ((hd.map PyData.int).length = fs.length) && (fs.zip (hd.map PyData.int)).all fun fd => betwD 0 (p2 fd.1.br - 1) fd.2) = true
  rw [List.length_map, decide_eq_true l, Bool.true_and, List.all_eq_true]
  intro x hx
  obtain ⟨i, hi⟩ := List.getElem?_of_mem hx
  obtain ⟨e1, e2⟩ := List.getElem?_zip_eq_some.mp hi
  rw [List.getElem?_map] at e2
  cases c : hd[i]? with
  | none => rw [c] at e2; cases e2
  | some n =>
    rw [c] at e2
    rw [← Option.some.inj e2]
    have z := okHead_get h e1 c
    exact betw_ok z.1 (by omega)
theorem tupO_pt (P : Pt) : tupO (ptD P) := ⟨⟨tupO_fds _, trivial, trivial⟩, trivial, tupOs_of (fun d hd => by
  obtain ⟨g, _, rfl⟩ := List.mem_map.mp hd
  exact tupO_fm g), ⟨trivial, trivial, trivial, trivial, trivial⟩, trivial⟩
def prNo (m : Str) : Bool := !(m == "pact") && (!(m == "past") && (!(m == "had_most") && (!(m == "base_most") && !(m == "fresh_from"))))
section
variable {W : Wd} {H H' H0 : Hp} {p l : Addr} {s : PrS} {Q : VK} {k : Hp → Prop} {v : V} {hd : List Int} {b : Option Int}
theorem pr_sx (e : Sx H H') (h : PrAt W H p l s) : PrAt W H' p l s := by
  obtain ⟨dx, vp, hs, h1, h2, h3, h4⟩ := h
  exact ⟨dx, vp, hs, e.keep _ _ h1 rfl, dqx e h2, e.keep _ _ h3 rfl, dqsx e h4⟩
theorem pr_same (e : Same H H') (h : PrAt W H p l s) : PrAt W H' p l s := pr_sx (Same.sx e) h
theorem pr_ne (h : PrAt W H p l s) : p ≠ l := fun z => by
  obtain ⟨dx, vp, hs, h1, h2, h3, h4⟩ := h
  rw [← z, h1] at h3
  cases h3
theorem prm_st (h : PrAt W H p l s) (e : Mv p l H H') : St H H' := by
  obtain ⟨dx, vp, hs, h1, h2, h3, h4⟩ := h
  exact mv_st h1 h3 e
theorem prm_box {c : Bool} {n : Int} (h : PrAt W H p l s) (e : Mv p l H H') (hb : BoxAt W c n H v) : BoxAt W c n H' v := by
  obtain ⟨dx, vp, hs, h1, h2, h3, h4⟩ := h
  exact mv_box h1 h3 e hb
theorem w_prPact (h : PrAt W H p l s) (q : ∀ v, Dq W.K H v (ptD s.P) → Q v H) : FdOk (clsOf W.K "Presser") "pact" Q (.ref p) H := by
  obtain ⟨dx, vp, hs, h1, h2, h3, h4⟩ := h
  exact w_fdok h1 lk_hit (q vp h2)
theorem w_prPast (h : PrAt W H p l s) (q : Q (.ref l) H) : FdOk (clsOf W.K "Presser") "past" Q (.ref p) H := by
  obtain ⟨dx, vp, hs, h1, h2, h3, h4⟩ := h
  exact w_fdok h1 ((lk_miss (by decide +kernel)).trans lk_hit) q
theorem w_prHad (h : PrAt W H p l s) (q : Q (oV s.had) H) : FdOk (clsOf W.K "Presser") "had_most" Q (.ref p) H := by
  obtain ⟨dx, vp, hs, h1, h2, h3, h4⟩ := h
  exact w_fdok h1 ((lk_miss (by decide +kernel)).trans ((lk_miss (by decide +kernel)).trans lk_hit)) q
theorem w_prBase (h : PrAt W H p l s) (q : Q (oV s.base) H) : FdOk (clsOf W.K "Presser") "base_most" Q (.ref p) H := by
  obtain ⟨dx, vp, hs, h1, h2, h3, h4⟩ := h
  exact w_fdok h1 ((lk_miss (by decide +kernel)).trans ((lk_miss (by decide +kernel)).trans ((lk_miss (by decide +kernel)).trans lk_hit))) q
theorem w_prFresh (h : PrAt W H p l s) (q : Q (.int s.fresh) H) : FdOk (clsOf W.K "Presser") "fresh_from" Q (.ref p) H := by
  obtain ⟨dx, vp, hs, h1, h2, h3, h4⟩ := h
  exact w_fdok h1 ((lk_miss (by decide +kernel)).trans ((lk_miss (by decide +kernel)).trans ((lk_miss (by decide +kernel)).trans ((lk_miss (by decide +kernel)).trans lk_hit)))) q
theorem w_mtPr {m : Str} {t : TA} {sp : Sp} {E : XK} {σ : L2.St} (h : PrAt W H p l s) (n : prNo m = true) (q : t σ H fun vs H2 => sp (.ref p :: vs) H2 Q E) : MtOk (clsOf W.K "Presser") m t sp E σ Q (.ref p) H := by
  obtain ⟨dx, vp, hs, h1, h2, h3, h4⟩ := h
  unfold prNo at n
  simp only [Bool.and_eq_true, Bool.not_eq_true'] at n
  obtain ⟨n1, n2, n3, n4, n5⟩ := n
  exact w_mtok h1 ((lk_miss n1).trans ((lk_miss n2).trans ((lk_miss n3).trans ((lk_miss n4).trans ((lk_miss n5).trans rfl))))) q
theorem w_lenPast (h : PrAt W H p l s) (q : Q (.int s.past.length) H) : rLenU W.K [.ref l] H Q := by
  obtain ⟨dx, vp, hs, h1, h2, h3, h4⟩ := h
  refine w_lenL (SqL.of h3) ?_
  rw [dqs_len h4, List.length_map]
  exact q
theorem w_tyPast {R : Prop} (h : PrAt W H p l s) (q : R) : tyV W.K "list" (.ref l) H ∧ R := by
  obtain ⟨dx, vp, hs, h1, h2, h3, h4⟩ := h
  exact w_tyL h3 q
theorem w_ixPast {m : Nat} (h : PrAt W H p l s) (m0 : 1 ≤ m) (m1 : m ≤ s.past.length) (q : ∀ v, Dq W.K H v (headD (s.past.getD (s.past.length - m) [])) → Q v H) : rIxU W.K (.ref l) (.int (-(m : Int))) H Q := by
  obtain ⟨dx, vp, hs, h1, h2, h3, h4⟩ := h
  have hl : hs.length = s.past.length := by rw [dqs_len h4, List.length_map]
  have e : (s.past.map headD)[s.past.length - m]? = some (headD (s.past.getD (s.past.length - m) [])) := by
    rw [List.getElem?_map, List.getD_eq_getElem?_getD, List.getElem?_eq_getElem (by omega)]
    rfl
  obtain ⟨v, e1, e2⟩ := dqs_get h4 e
  refine w_ixl (SqL.of h3) (x := v) ?_ (q v e2)
  unfold atI ixN
  rw [if_neg (by omega), if_pos (by omega), show (-(m : Int) + (hs.length : Int)).toNat = s.past.length - m by omega]
  exact e1
theorem mv_upd1 {u : HO} : Mv p l H (upd H p u) := fun a o h n1 _ => by
  rw [upd_ne n1]
  exact h
theorem mv_upd2 {u : HO} : Mv p l H (upd H l u) := fun a o h _ n2 => by
  rw [upd_ne n2]
  exact h
theorem pr_put (h : PrAt W H p l s) {f : Str} {y : V} {s' : PrS} (eP : s'.P = s.P) (ep : s'.past = s.past) (hf : ∀ vp, putF f y (prF vp l s.had s.base s.fresh) = prF vp l s'.had s'.base s'.fresh) (q : ∀ H', Mv p l H H' → PrAt W H' p l s' → k H') : SfOk (clsOf W.K "Presser") f y k (.ref p) H := by
  have np := pr_ne h
  have h0 := h
  obtain ⟨dx, vp, hs, h1, h2, h3, h4⟩ := h
  refine w_sfok h1 (by show 5 < 1000; decide) (q _ mv_upd1 ?_)
  have e := prm_st h0 (mv_upd1 (p := p) (l := l) (H := H) (u := .ins (clsOf W.K "Presser") dx (putF f y (prF vp l s.had s.base s.fresh))))
  exact ⟨dx, vp, hs, by rw [upd_same, hf], by rw [eP]; exact dqt e h2 (tupO_pt _), by rw [upd_ne np.symm]; exact h3, by rw [ep]; exact dqst e h4 (tupOs_heads _)⟩
theorem w_prSetHad (h : PrAt W H p l s) (q : ∀ H', Mv p l H H' → PrAt W H' p l ⟨s.P, s.past, b, s.base, s.fresh⟩ → k H') : SfOk (clsOf W.K "Presser") "had_most" (oV b) k (.ref p) H :=
  pr_put h (s' := ⟨s.P, s.past, b, s.base, s.fresh⟩) rfl rfl (fun vp => by
    unfold prF
    rw [pf_miss (by decide +kernel), pf_miss (by decide +kernel), pf_hit]) q
theorem w_prSetBase (h : PrAt W H p l s) (q : ∀ H', Mv p l H H' → PrAt W H' p l ⟨s.P, s.past, s.had, b, s.fresh⟩ → k H') : SfOk (clsOf W.K "Presser") "base_most" (oV b) k (.ref p) H :=
  pr_put h (s' := ⟨s.P, s.past, s.had, b, s.fresh⟩) rfl rfl (fun vp => by
    unfold prF
    rw [pf_miss (by decide +kernel), pf_miss (by decide +kernel), pf_miss (by decide +kernel), pf_hit]) q
theorem w_prSetFresh {f : Int} (h : PrAt W H p l s) (q : ∀ H', Mv p l H H' → PrAt W H' p l ⟨s.P, s.past, s.had, s.base, f⟩ → k H') : SfOk (clsOf W.K "Presser") "fresh_from" (.int f) k (.ref p) H :=
  pr_put h (s' := ⟨s.P, s.past, s.had, s.base, f⟩) rfl rfl (fun vp => by
    unfold prF
    rw [pf_miss (by decide +kernel), pf_miss (by decide +kernel), pf_miss (by decide +kernel), pf_miss (by decide +kernel), pf_hit]) q
theorem w_prAppend (h : PrAt W H p l s) (hh : Dq W.K H v (headD hd)) (hl : s.past.length < 100000) (q : ∀ H', Mv p l H H' → PrAt W H' p l ⟨s.P, s.past ++ [hd], s.had, s.base, s.fresh⟩ → Q .non H') : rAppend (.ref l) [v] H Q := by
  have np := pr_ne h
  have h0 := h
  obtain ⟨dx, vp, hs, h1, h2, h3, h4⟩ := h
  have hln : hs.length = s.past.length := by rw [dqs_len h4, List.length_map]
  refine w_append h3 (by omega) (q _ mv_upd2 ?_)
  have e := prm_st h0 (mv_upd2 (p := p) (l := l) (H := H) (u := .lst (hs ++ [v])))
  refine ⟨dx, vp, hs ++ [v], by rw [upd_ne np]; exact h1, dqt e h2 (tupO_pt _), upd_same, ?_⟩
  rw [List.map_append]
  exact dqst e (dqs_app h4 (dqs_one hh)) (tupOs_of fun d hd' => by
    rcases List.mem_append.mp hd' with z | z
    · obtain ⟨g, _, rfl⟩ := List.mem_map.mp z
      exact tupO_head g
    · rw [List.mem_singleton.mp z]
      exact tupO_head hd)
theorem pf_m {g f : Str} {x y : V} {r r2 : List (Str × V)} (h : ¬ g = f) (e : putF f y r = r2) : putF f y ((g, x) :: r) = (g, x) :: r2 := (pf_miss h).trans (by rw [e])
theorem prF_mk {vp : V} : putF "fresh_from" (.int 0) (putF "base_most" .non (putF "had_most" .non (putF "past" (.ref l) (putF "pact" vp [])))) = prF vp l none none 0 := by
  rw [show putF "pact" vp [] = ([("pact", vp)] : List (Str × V)) from rfl,
    show putF "past" (V.ref l) [("pact", vp)] = ([("pact", vp), ("past", V.ref l)] : List (Str × V)) from pf_m (by decide +kernel) rfl,
    show putF "had_most" V.non [("pact", vp), ("past", V.ref l)] = ([("pact", vp), ("past", V.ref l), ("had_most", V.non)] : List (Str × V)) from pf_m (by decide +kernel) (pf_m (by decide +kernel) rfl),
    show putF "base_most" V.non [("pact", vp), ("past", V.ref l), ("had_most", V.non)] = ([("pact", vp), ("past", V.ref l), ("had_most", V.non), ("base_most", V.non)] : List (Str × V)) from pf_m (by decide +kernel) (pf_m (by decide +kernel) (pf_m (by decide +kernel) rfl)),
    show putF "fresh_from" (V.int 0) [("pact", vp), ("past", V.ref l), ("had_most", V.non), ("base_most", V.non)] = ([("pact", vp), ("past", V.ref l), ("had_most", V.non), ("base_most", V.non), ("fresh_from", V.int 0)] : List (Str × V)) from pf_m (by decide +kernel) (pf_m (by decide +kernel) (pf_m (by decide +kernel) (pf_m (by decide +kernel) rfl)))]
  rfl
end
section
variable {K : PySem.W.Frag} {H : Hp} {Q : VK} {v : V} {P : Pt} {a b c d : Int}
theorem w_ptR (h : Dq K H v (ptD P)) (q : ∀ x, Dq K H x (.tuple [.int P.sk, .int P.gp, .int P.lt, .int P.an]) → Q x H) : rIxU K v (.int 3) H Q := w_ixQT h (d := .tuple [.int P.sk, .int P.gp, .int P.lt, .int P.an]) rfl q
theorem w_rd0 (h : Dq K H v (.tuple [.int a, .int b, .int c, .int d])) (q : Q (.int a) H) : rIxU K v (.int 0) H Q := w_ixQTi h (n := a) rfl q
theorem w_rd1 (h : Dq K H v (.tuple [.int a, .int b, .int c, .int d])) (q : Q (.int b) H) : rIxU K v (.int 1) H Q := w_ixQTi h (n := b) rfl q
theorem w_rd2 (h : Dq K H v (.tuple [.int a, .int b, .int c, .int d])) (q : Q (.int c) H) : rIxU K v (.int 2) H Q := w_ixQTi h (n := c) rfl q
theorem w_rd3 (h : Dq K H v (.tuple [.int a, .int b, .int c, .int d])) (q : Q (.int d) H) : rIxU K v (.int 3) H Q := w_ixQTi h (n := d) rfl q
theorem w_fmAt {l : List Fm} {i : Nat} {f : Fm} (h : Dq K H v (.tuple (l.map fmD))) (e : l[i]? = some f) (q : ∀ x, Dq K H x (fmD f) → Q x H) : rIxU K v (.int (i : Int)) H Q := by
  have hi := (List.getElem?_eq_some_iff.mp e).1
  exact w_ixM h (by omega) (by omega) fun g x hg hx => by
    rw [Int.toNat_natCast, e] at hg
    rw [← Option.some.inj hg] at hx
    exact q x hx
end
/-! ### the plain rules -/
/-- the former heads with how many letters ahead -/
def foP (past : List (List Int)) (n : Nat) : List Fo := (List.range (min n past.length)).map fun (k : Nat) => ((k : Int) + 1, past.getD (past.length - (k + 1)) [])
def shM (s : PrS) : Option Int := grt s.base (if (s.past.length : Int) - 1 - s.P.sk < s.fresh then none else some ((s.past.length : Int) - 1 - s.P.sk))
def shB (s : PrS) (r : Int) : Bool := match shM s with
  | none => false
  | some m => decide ((s.past.length : Int) - r ≤ m)
def maxI (i j : Int) : Int := if j > i then j else i
def ltI (s : PrS) : Int := match s.had with
  | none => maxI 0 ((s.past.length : Int) - 1 - s.P.gp)
  | some h => maxI (maxI 0 ((s.past.length : Int) - 1 - s.P.gp)) (h - s.P.lt)
def cntB (s : PrS) (c : Int) : Bool := decide ((s.past.length : Int) + s.P.lt - ltI s < p2 c)
def tnB (s : PrS) : Bool := decide (0 < s.P.an) && decide ((s.past.length : Int) % s.P.an = 0)
inductive Hin where
  | anew
  | shared
  | count
  | dou (d : Option (Int × Int × Int))
def hinD : Hin → PyData
  | .anew => .str "anew"
  | .shared => .str "shared"
  | .count => .str "count"
  | .dou d => pairD d
def HinR (s : PrS) (hd : List Int) (f : Fm) (r : Hin) : Prop :=
  if tnB s = true then r = .anew else if shB s f.r = false then r = .shared else if cntB s f.c = false then r = .count else ∃ d, r = .dou d ∧ DouR s.P.s f hd (foP s.past f.r.toNat) d
theorem foP_ok {s : PrS} {n : Nat} (ok : OkPr s) (hn : n ≤ 1000) : ∀ p ∈ foP s.past n, OkFo s.P.s p := fun p hp => by
  unfold foP at hp
  obtain ⟨k, hk, rfl⟩ := List.mem_map.mp hp
  have hk := List.mem_range.mp hk
  refine ⟨?_, by show 1 ≤ (k : Int) + 1; omega, by show (k : Int) + 1 ≤ 1000; omega⟩
  show (s.past.getD (s.past.length - (k + 1)) []).length = _
  have hi : s.past.length - (k + 1) < s.past.length := by omega
  rw [List.getD_eq_getElem?_getD, List.getElem?_eq_getElem hi]
  exact okHead_len (ok.hds _ (List.getElem_mem hi))
theorem foP_len {past : List (List Int)} {n : Nat} : (foP past n).length ≤ n := by
  unfold foP
  rw [List.length_map, List.length_range]
  omega
theorem HinR.one {s : PrS} {hd : List Int} {f : Fm} {r r' : Hin} (ok : OkPr s) (okf : OkFm s.P.s f) (h : HinR s hd f r) (h' : HinR s hd f r') : r = r' := by
  unfold HinR at h h'
  split at h
  · rw [if_pos (by assumption)] at h'
    rw [h, h']
  · rw [if_neg (by assumption)] at h'
    split at h
    · rw [if_pos (by assumption)] at h'
      rw [h, h']
    · rw [if_neg (by assumption)] at h'
      split at h
      · rw [if_pos (by assumption)] at h'
        rw [h, h']
      · rw [if_neg (by assumption)] at h'
        obtain ⟨d, rfl, h⟩ := h
        obtain ⟨d', rfl, h'⟩ := h'
        have z1 := okf.r1
        rw [DouR.one okf.len (foP_ok ok (by omega)) h h']
/-- the places of the forms that may tell a head -/
def UseR (s : PrS) (hd : List Int) (us : List Nat) : Prop := ∃ g : Nat → Bool, us = (List.range s.P.fs.length).filter g ∧ ∀ i f, s.P.fs[i]? = some f → ∃ r, HinR s hd f r ∧ (g i = true ↔ r = .dou none)
/-- the form that is taken -/
def choF (P : Pt) (t : Option Nat) (i : Nat) : Option Nat := if sizeP P (some i) < sizeP P t then some i else t
def cho (P : Pt) (us : List Nat) : Option Nat := us.foldl (choF P) none
theorem UseR.mem {s : PrS} {hd : List Int} {us : List Nat} (h : UseR s hd us) {i : Nat} (hi : i ∈ us) : i < s.P.fs.length := by
  obtain ⟨g, rfl, _⟩ := h
  exact List.mem_range.mp (List.mem_filter.mp hi).1
theorem cho_in {P : Pt} : ∀ (us : List Nat) (t : Option Nat) (i : Nat), us.foldl (choF P) t = some i → i ∈ us ∨ t = some i
  | [], t, i, h => .inr h
  | u :: r, t, i, h => by
    rw [List.foldl_cons] at h
    rcases cho_in r _ i h with z | z
    · exact .inl (List.mem_cons_of_mem _ z)
    · unfold choF at z
      split at z
      · exact .inl (by rw [Option.some.inj z]; exact List.mem_cons_self)
      · exact .inr z
theorem cho_ok {s : PrS} {hd : List Int} {us : List Nat} (h : UseR s hd us) : AtOk s.P (cho s.P us) := by
  cases c : cho s.P us with
  | none => trivial
  | some i =>
    rcases cho_in us none i c with z | z
    · exact h.mem z
    · cases z
/-! ### words -/
def wdD : Option Int → PyData
  | none => .tuple [.str "anew"]
  | some n => .tuple [.str "have", .int n]
def heaP (s : PrS) : Option Int → PrS
  | none => ⟨s.P, s.past, s.had, none, s.past.length⟩
  | some n => ⟨s.P, s.past, grt s.had (some n), if s.fresh ≤ n then grt s.base (some n) else s.base, s.fresh⟩
theorem sok_anew : PyData.strOk ("anew" : Str) = true := by decide +kernel
theorem sok_have : PyData.strOk ("have" : Str) = true := by decide +kernel
theorem shp_anew : SeqAt.shaped (.tuple [.str "anew"]) = true := by simp [sok_anew, SeqAt.shaped, PyData.canLay0, PyData.canLayAll0, PyData.depth, PyData.depthAll]
theorem shp_have (n : Int) : SeqAt.shaped (.tuple [.str "have", .int n]) = true := by simp [sok_have, SeqAt.shaped, PyData.canLay0, PyData.canLayAll0, PyData.depth, PyData.depthAll]
theorem w_ifn {x : Int} {A B : Prop} (q : B) : if decide (V.int x = V.non) = true then A else B := w_if (fun z => by cases z) q
/-! ### fields that stay, forms that keep all -/
theorem still_su {s : Shp} {f : Fm} {hd : List Int} {m : Int} (hs : ∀ g ∈ s.fs, g.kd = .still) (hw : ∀ w ∈ f.ws, w = .keep) (oh : OkHead s.fs hd) : SuP s f hd (m, hd) := by
  refine ⟨okHead_len oh, fun j fd w v hj hfd hww hv => ⟨v, hv, ?_⟩⟩
  rw [hw w (List.mem_of_getElem? hww)]
  refine ⟨v, by rw [hs fd (List.mem_of_getElem? hfd)]; rfl, ?_⟩
  have z := okHead_get oh hfd hv
  exact (Int.emod_eq_of_lt z.1 z.2).symm
theorem grt_ge {a : Option Int} {y : Int} : ∃ z, grt a (some y) = some z ∧ y ≤ z := by
  cases a with
  | none => exact ⟨y, rfl, Int.le_refl _⟩
  | some x =>
    by_cases c : x < y
    · exact ⟨y, if_pos c, Int.le_refl _⟩
    · exact ⟨x, if_neg c, by omega⟩
theorem foP_rep {n k : Nat} {hd : List Int} : ∀ p ∈ foP (List.replicate n hd) k, p.2 = hd := fun p hp => by
  unfold foP at hp
  obtain ⟨j, hj, rfl⟩ := List.mem_map.mp hp
  have hj := List.mem_range.mp hj
  rw [List.length_replicate] at hj
  show (List.replicate n hd).getD _ [] = hd
  rw [List.getD_eq_getElem?_getD, List.getElem?_replicate, if_pos (by rw [List.length_replicate]; omega)]
  rfl
theorem still_hin {s : PrS} {hd : List Int} {f : Fm} {r : Hin} {n : Nat} (ok : OkPr s) (okf : OkFm s.P.s f) (ep : s.past = List.replicate n hd) (hs : ∀ g ∈ s.P.s.fs, g.kd = .still) (hw : ∀ w ∈ f.ws, w = .keep) (oh : OkHead s.P.s.fs hd) (h : HinR s hd f r) :
    r = if tnB s = true then .anew else if shB s f.r = false then .shared else if cntB s f.c = false then .count else .dou none := by
  refine HinR.one ok okf h ?_
  unfold HinR
  split
  · rfl
  · split
    · rfl
    · split
      · rfl
      · refine ⟨none, rfl, fun p hp => ?_⟩
        have e := foP_rep (n := n) (hd := hd) p (by rw [← ep]; exact hp)
        obtain ⟨m, h2⟩ := p
        have e : h2 = hd := e
        rw [e]
        exact still_su hs hw oh
section
variable {K : PySem.W.Frag} {H : Hp} {Q : VK} {A B : Prop}
theorem w_neNN (q : Q (.bl false) H) : rNeU K .non .non H Q := .inl ⟨rfl, q⟩
theorem w_neSN {z : Str} (q : Q (.bl true) H) : rNeU K (.str z) .non H Q := .inl ⟨rfl, by
  have e : decide (V.str z = V.non) = false := decide_eq_false (fun h => by cases h)
  rw [e]
  exact q⟩
end
/-! ### a model of what is known -/
def enc : Option Int → Int
  | none => -1
  | some x => x
def mdlK (s : PrS) : List (Key × V) := [(.inr "had", .int (enc s.had)), (.inr "base", .int (enc s.base)), (.inr "fresh", .int s.fresh)]
theorem enc_grt {n x : Int} {a : Option Int} (ha : inO n a) (hx : 0 ≤ x) : enc (grt a (some x)) = if x > enc a then x else enc a := by
  cases a with
  | none =>
    show x = if x > -1 then x else -1
    rw [if_pos (by omega)]
  | some y =>
    show enc (if y < x then some x else some y) = if x > y then x else y
    split
    · rfl
    · rfl
section
variable {W : Wd} {H H' H0 : Hp} {p l d : Addr} {s : PrS} {v : V} {kvs : List (Key × V)}
theorem mvd_st (h : H d = some (.dK kvs)) (e : Mv d d H H') : St H H' := fun a u ha t => e a u ha (fun z => by
  rw [z, h] at ha
  cases ha
  exact t) fun z => by
  rw [z, h] at ha
  cases ha
  exact t
theorem mvd_box {b : Bool} {n : Int} (h : H d = some (.dK kvs)) (e : Mv d d H H') (hb : BoxAt W b n H v) : BoxAt W b n H' v := by
  obtain ⟨q, o, k, rfl, hpo, hk, hp, ho⟩ := hb
  have n1 : q ≠ d := fun z => by
    rw [z, h] at hp
    cases hp
  have n2 : o ≠ d := fun z => by
    rw [z, h] at ho
    cases ho
  exact ⟨q, o, k, rfl, hpo, hk, e _ _ hp n1 n1, e _ _ ho n2 n2⟩
theorem mvd_pr (h : H d = some (.dK kvs)) (e : Mv d d H H') (hp : PrAt W H p l s) : PrAt W H' p l s := by
  obtain ⟨dx, vp, hs, h1, h2, h3, h4⟩ := hp
  have n1 : p ≠ d := fun z => by
    rw [z, h] at h1
    cases h1
  have n2 : l ≠ d := fun z => by
    rw [z, h] at h3
    cases h3
  have t := mvd_st h e
  exact ⟨dx, vp, hs, e _ _ h1 n1 n1, dqt t h2 (tupO_pt _), e _ _ h3 n2 n2, dqst t h4 (tupOs_heads _)⟩
theorem prm_md (hp : PrAt W H p l s) (e : Mv p l H H') (h : H d = some (.dK kvs)) : H' d = some (.dK kvs) := by
  obtain ⟨dx, vp, hs, h1, h2, h3, h4⟩ := hp
  exact e _ _ h (fun z => by
    rw [z, h1] at h
    cases h) fun z => by
    rw [z, h3] at h
    cases h
end
end Sh
/-! readers: dicts by number, max(.., default=..) -/
namespace Sh
open PySem PySem.Spec PyProof.Rows L2 RZ
theorem alike_ints (ns : List Int) : PySem.W.AlikeAll (ns.map PyData.int) := by
  refine ⟨fun x hx y hy => ?_, fun x hx => ?_⟩
  · obtain ⟨i, _, rfl⟩ := List.mem_map.mp hx
    obtain ⟨j, _, rfl⟩ := List.mem_map.mp hy
    rfl
  · obtain ⟨i, _, rfl⟩ := List.mem_map.mp hx
    exact fun h => nomatch h
theorem foldMax : ∀ (xs : List Int) (x : Int), xs.foldl max x ∈ x :: xs ∧ ∀ y ∈ x :: xs, y ≤ xs.foldl max x
  | [], x => ⟨.head _, fun y hy => by cases hy with | head => exact Int.le_refl _ | tail _ h => cases h⟩
  | z :: xs, x => by
    obtain ⟨h1, h2⟩ := foldMax xs (max x z)
    have hm := h2 (max x z) (.head _)
    rw [List.foldl_cons]
    refine ⟨?_, fun y hy => ?_⟩
    · rcases List.mem_cons.mp h1 with e | h
      · rw [e]
        by_cases c : x ≤ z
        · rw [Int.max_eq_right c]; exact .tail _ (.head _)
        · rw [Int.max_eq_left (by omega)]; exact .head _
      · exact .tail _ (.tail _ h)
    · cases hy with
      | head => exact Int.le_trans (Int.le_max_left _ _) hm
      | tail _ h =>
        cases h with
        | head => exact Int.le_trans (Int.le_max_right _ _) hm
        | tail _ h => exact h2 y (.tail _ h)
theorem depth_ints : ∀ ns : List Int, PyData.depthAll (ns.map PyData.int) ≤ 1
  | [] => by show PyData.depthAll [] ≤ 1; unfold PyData.depthAll; omega
  | n :: ns => by
    have := depth_ints ns
    rw [List.map_cons]
    unfold PyData.depthAll PyData.depth
    omega
/-- max(xs, default=d) of a list of ints -/
def rMaxD (K : PySem.W.Frag) : List V → List V → Hp → VK → Prop := fun vs zs H Q => ∃ (a : Addr) (ns : List Int) (d : V), vs = [V.ref a] ∧ zs = [d] ∧ SqL K H a (ns.map V.int) ∧ (ns = [] → Q d H) ∧ ∀ m, m ∈ ns → (∀ y, y ∈ ns → y ≤ m) → Q (.int m) H
theorem cr_maxDef {X : Cx} (hc : X.calm = true) (hu : X.A.units + 64 < cLine) : CallRK X (.builtin "max") [Str.ofString "default"] (rMaxD X.K) := by
  intro pins s σ H vs zs us ws Q I r rz h
  obtain ⟨a, ns, d, rfl, rfl, hs, q0, q1⟩ := h
  obtain rfl := Vals.ref1 r
  obtain ⟨w1, rfl, e1⟩ := vals1 rz
  obtain ⟨its, rv, hl, _⟩ := I.list hs
  refine PySem.W.max_list_default (xs := ns.map PyData.int) (as := []) (I.ok.hd hc) hl.isList ?_ (alike_ints ns) ?_ (fun h0 h' tk hk => ?_) (fun y ys i v h' tk bs hy hi hr hk => ?_)
  · exact ints_readAll _ rv.ints
  · have := depth_ints ns
    omega
  · refine ⟨d, H, I.kept hk, e1, q0 ?_⟩
    cases ns with
    | nil => rfl
    | cons _ _ => cases h0
  · cases ns with
    | nil => cases hy
    | cons n ns =>
      cases hy
      obtain ⟨h2, h3⟩ := foldMax ns n
      rw [PySem.W.maxD_ints] at hr
      generalize hm : ns.foldl max n = m at hr h2 h3
      cases hr with
      | int _ t => exact ⟨.int m, H, I.kept hk, ⟨t, rfl⟩, q1 m h2 h3⟩
/-- dict(pairs) -/
def rDictP (K : PySem.W.Frag) : List V → Hp → VK → Prop := fun xs H Q => ∃ (a : Addr) (ps : List Addr) (kvs : List (Key × V)), xs = [.ref a] ∧ SqL K H a (ps.map V.ref) ∧ Paired (fun p kv => SqT K H p [kV kv.1, kv.2]) ps kvs ∧
    ∀ p, H p = none → Q (.ref p) (upd H p (.dK (mergeK [] kvs)))
theorem call_dictPU {X : Cx} (hc : X.calm = true) : CallR X (.type "dict") (rDictP X.K) := call_dictP hc
/-- sorted(a dict by number) -/
def rSortedDI : List V → Hp → VK → Prop := fun xs H Q => ∃ (a : Addr) (kvs : List (Key × V)) (ks : List Int), xs = [.ref a] ∧ Rd H a (.dK kvs) ∧ kvs.map (·.1) = ks.map Sum.inl ∧ ks.length < 64 ∧
    ∀ (ys : List Int) (p : Addr), ys.Perm ks → ys.Pairwise (· ≤ ·) → H p = none → Q (.ref p) (upd H p (.lst (ys.map V.int)))
theorem call_sortedDIU {X : Cx} (hc : X.calm = true) : CallR X (.builtin "sorted") rSortedDI := call_sortedDI hc
/-- list(d): its keys -/
def rListD : List V → Hp → VK → Prop := fun xs H Q => ∃ (a : Addr) (kvs : List (Key × V)), xs = [.ref a] ∧ Rd H a (.dK kvs) ∧ ∀ p, H p = none → Q (.ref p) (upd H p (.lst (kvs.map fun kv => kV kv.1)))
theorem call_listDU {X : Cx} (hc : X.calm = true) : CallR X (.type "list") rListD := call_listD hc
structure RdS where
  P : Pt
  top : Option Int
  held : List (Int × List Int)
structure OkRd (s : RdS) : Prop where
  ok : OkPt s.P
  hds : ∀ h ∈ s.held, OkHead s.P.s.fs h.2
  nd : (s.held.map (·.1)).Nodup
/-- the entries of a dict of heads by number -/
def HdK (K : PySem.W.Frag) (H : Hp) : List (Key × V) → List (Int × List Int) → Prop := Paired fun kv h => kv.1 = .inl h.1 ∧ Dq K H kv.2 (headD h.2)
def rdF (vp : V) (l : Addr) (t : Option Int) : List (Str × V) := [("pact", vp), ("greatest", oV t), ("held", .ref l)]
/-- a reader stands at p, its heads' dict at l -/
def RdAt (W : Wd) (H : Hp) (p l : Addr) (s : RdS) : Prop := ∃ (dx : Addr) (vp : V) (kvs : List (Key × V)), H p = some (.ins (clsOf W.K "Reader") dx (rdF vp l s.top)) ∧ Dq W.K H vp (ptD s.P) ∧ H l = some (.dK kvs) ∧ HdK W.K H kvs s.held
theorem hdk_mono {K : PySem.W.Frag} {H H' : Hp} (f : ∀ {v : V} {h : List Int}, Dq K H v (headD h) → Dq K H' v (headD h)) : ∀ {kvs : List (Key × V)} {hs : List (Int × List Int)}, HdK K H kvs hs → HdK K H' kvs hs
  | _, _, .nil => .nil
  | _, _, .cons ⟨e, h⟩ t => .cons ⟨e, f h⟩ (hdk_mono f t)
theorem hdk_keys {K : PySem.W.Frag} {H : Hp} : ∀ {kvs : List (Key × V)} {hs : List (Int × List Int)}, HdK K H kvs hs → kvs.map (·.1) = (hs.map (·.1)).map Sum.inl
  | _, _, .nil => rfl
  | _, _, .cons ⟨e, h⟩ t => by rw [List.map_cons, List.map_cons, List.map_cons, hdk_keys t, e]
/-- the head kept by a number -/
def hdV : List (Int × List Int) → Int → Option (List Int)
  | [], _ => none
  | h :: r, n => if h.1 = n then some h.2 else hdV r n
theorem hdk_val {K : PySem.W.Frag} {H : Hp} (n : Int) : ∀ {kvs : List (Key × V)} {hs : List (Int × List Int)}, HdK K H kvs hs → (hdV hs n = none ∧ valV kvs (.inl n) = none) ∨ ∃ h v, hdV hs n = some h ∧ valV kvs (.inl n) = some v ∧ Dq K H v (headD h)
  | _, _, .nil => .inl ⟨rfl, rfl⟩
  | kv :: _, h :: _, .cons ⟨e, d⟩ t => by
    by_cases c : h.1 = n
    · exact .inr ⟨h.2, kv.2, if_pos c, valV_pos (e.trans (by rw [c])), d⟩
    · have z : ¬ kv.1 = .inl n := fun z => c (Sum.inl.inj (e.symm.trans z))
      rcases hdk_val n t with ⟨a, b⟩ | ⟨h2, v, a, b, d2⟩
      · exact .inl ⟨(if_neg c).trans a, (valV_neg z).trans b⟩
      · exact .inr ⟨h2, v, (if_neg c).trans a, (valV_neg z).trans b, d2⟩
section
variable {W : Wd} {H H' : Hp} {p l : Addr} {s : RdS} {Q : VK}
theorem rd_sx (e : Sx H H') (h : RdAt W H p l s) : RdAt W H' p l s := by
  obtain ⟨dx, vp, ks, h1, h2, h3, h4⟩ := h
  exact ⟨dx, vp, ks, e.keep _ _ h1 rfl, dqx e h2, e.keep _ _ h3 rfl, hdk_mono (fun h => dqx e h) h4⟩
theorem rd_same (e : Same H H') (h : RdAt W H p l s) : RdAt W H' p l s := rd_sx (Same.sx e) h
theorem rd_ne (h : RdAt W H p l s) : p ≠ l := fun z => by
  obtain ⟨dx, vp, hs, h1, h2, h3, h4⟩ := h
  rw [← z, h1] at h3
  cases h3
theorem w_rdPact (h : RdAt W H p l s) (q : ∀ v, Dq W.K H v (ptD s.P) → Q v H) : FdOk (clsOf W.K "Reader") "pact" Q (.ref p) H := by
  obtain ⟨dx, vp, hs, h1, h2, h3, h4⟩ := h
  exact w_fdok h1 lk_hit (q vp h2)
theorem w_rdTop (h : RdAt W H p l s) (q : Q (oV s.top) H) : FdOk (clsOf W.K "Reader") "greatest" Q (.ref p) H := by
  obtain ⟨dx, vp, hs, h1, h2, h3, h4⟩ := h
  exact w_fdok h1 ((lk_miss (by decide +kernel)).trans lk_hit) q
theorem w_rdHeld (h : RdAt W H p l s) (q : Q (.ref l) H) : FdOk (clsOf W.K "Reader") "held" Q (.ref p) H := by
  obtain ⟨dx, vp, hs, h1, h2, h3, h4⟩ := h
  exact w_fdok h1 ((lk_miss (by decide +kernel)).trans ((lk_miss (by decide +kernel)).trans lk_hit)) q
def rdNo (m : Str) : Bool := !(m == "pact") && (!(m == "greatest") && !(m == "held"))
theorem w_mtRd {m : Str} {t : TA} {sp : Sp} {E : XK} {σ : L2.St} (h : RdAt W H p l s) (n : rdNo m = true) (q : t σ H fun vs H2 => sp (.ref p :: vs) H2 Q E) : MtOk (clsOf W.K "Reader") m t sp E σ Q (.ref p) H := by
  obtain ⟨dx, vp, hs, h1, h2, h3, h4⟩ := h
  unfold rdNo at n
  simp only [Bool.and_eq_true, Bool.not_eq_true'] at n
  obtain ⟨n1, n2, n3⟩ := n
  exact w_mtok h1 ((lk_miss n1).trans ((lk_miss n2).trans ((lk_miss n3).trans rfl))) q
end
end Sh
/-! readers: heaps, keys, what comes -/
namespace Sh
open PySem PySem.Spec PyProof.Rows L2
/-! dicts of heads, compared -/
def rNeHD (K : PySem.W.Frag) : R2 := fun x y H Q => ∃ (a b : Addr) (ks ls : List (Key × V)), x = .ref a ∧ y = .ref b ∧ H a = some (.dK ks) ∧ H b = some (.dK ls) ∧ ks.length = ls.length ∧ (∀ p ∈ ks, ∃ u h, valV ls p.1 = some u ∧ Dq K H p.2 (headD h) ∧ Dq K H u (headD h)) ∧ Q (.bl false) H
theorem depth_head (h : List Int) : PyData.depth (headD h) ≤ 2 := by
  have := depth_ints h
  unfold headD PyData.depth
  omega
theorem hits_hd {X : Cx} {pins : List (Addr × Obj)} {σ : L2.St} {H : Hp} {s : Shared} {A : Around} (I : Inv X pins σ H s) (hu : A.units + 2 < cLine) {ls : List (Key × V)} {vb : List (Key × Value)} (rb : KV ls vb) {ks : List (Key × V)} {va : List (Key × Value)} (ra : KV ks va) :
    (∀ p ∈ ks, ∃ u h, valV ls p.1 = some u ∧ Dq X.K H p.2 (headD h) ∧ Dq X.K H u (headD h)) → PySem.W.KeqHits A s vb va true := by
  unfold KV at ra
  induction ra with
  | nil => intro _; exact .nil
  | @cons p q ps qs h t ih =>
    intro hp
    obtain ⟨h1, h2⟩ := h
    obtain ⟨u, hd, e, f1, f2⟩ := hp p List.mem_cons_self
    have rr : RelO (some u) (valueAt vb p.1) := by rw [← e]; exact rb.val p.1
    obtain ⟨y, hy, ry⟩ := rr.some_of
    obtain ⟨k, v⟩ := q
    have h1' : p.1 = k := h1
    rw [h1'] at hy
    obtain ⟨as, r1⟩ := Dp.reads I _ _ _ (dq_dp f1) h2
    obtain ⟨bs, r2⟩ := Dp.reads I _ _ _ (dq_dp f2) ry
    have sh := SeqAt.canLay_of_shaped (shaped_tints hd)
    have e2 := SeqAt.eqAt_reads (headD hd) (headD hd) A s v y as bs r1 r2 sh sh (by
      have := depth_head hd
      omega)
    have e3 : PyData.eqv (headD hd) (headD hd) = true := by
      show PyData.eqv (.tuple (hd.map .int)) (.tuple (hd.map .int)) = _
      rw [PyData.eqv, eqvAll_ints]
      exact decide_eq_true rfl
    rw [e3] at e2
    show PySem.W.KeqHits A s vb ((k, v) :: qs) (true && true)
    exact .hit hy e2 (ih fun p' hm => hp p' (List.mem_cons_of_mem _ hm))
theorem op_neHD {X : Cx} (hu : X.A.units + 64 < cLine) : OpR X (compareOp .NotEq) (rNeHD X.K) := by
  intro pins s σ H x y v u Q I rx ry h
  obtain ⟨a, b, ks, ls, rfl, rfl, ea, eb, hlen, hp, q⟩ := h
  obtain rfl : v = Value.ref a := rx
  obtain rfl : u = Value.ref b := ry
  obtain ⟨_, ya, va, ra, da⟩ := (show ObjOk X.prog X.w H s.heap a (.dK ks) from I.hok a _ ea)
  obtain ⟨_, yb, vb, rb, db⟩ := (show ObjOk X.prog X.w H s.heap b (.dK ls) from I.hok b _ eb)
  have hl : va.length = vb.length := by rw [← ra.length, ← rb.length]; exact hlen
  exact PySem.W.keq_ne (knd := mixKind X.prog X.w) (r := true) ya yb da db (by omega) (fun _ => hits_hd I (by show X.A.units + 1 + 2 < cLine; omega) rb ra hp) (fin_bl I q (by simp [hl]))
/-! keys -/
section
variable {K : PySem.W.Frag} {H : Hp}
theorem hdk_get : ∀ {kvs : List (Key × V)} {hs : List (Int × List Int)} {i : Nat} {kv : Key × V}, HdK K H kvs hs → kvs[i]? = some kv → ∃ h, hs[i]? = some h ∧ kv.1 = .inl h.1 ∧ Dq K H kv.2 (headD h.2)
  | _, _, _, _, .nil, e => by simp at e
  | _, _, 0, _, .cons ⟨a, b⟩ t, e => by
    simp at e
    subst e
    exact ⟨_, rfl, a, b⟩
  | _, _, i + 1, kv, .cons _ t, e => by
    obtain ⟨h, h1, h2⟩ := hdk_get (i := i) (kv := kv) t (by simpa using e)
    exact ⟨h, by simpa using h1, h2⟩
theorem hdk_len {kvs : List (Key × V)} {hs : List (Int × List Int)} (h : HdK K H kvs hs) : kvs.length = hs.length := Paired.length h
def kI : Key → Int
  | .inl i => i
  | .inr _ => 0
theorem hdk_filter (F : Int → Bool) : ∀ {kvs : List (Key × V)} {hs : List (Int × List Int)}, HdK K H kvs hs → HdK K H (kvs.filter fun kv => F (kI kv.1)) (hs.filter fun h => F h.1)
  | _, _, .nil => .nil
  | kv :: _, h :: _, .cons ⟨e, d⟩ t => by
    have ih := hdk_filter F t
    have ek : kI kv.1 = h.1 := by rw [e]; rfl
    rw [List.filter_cons, List.filter_cons, ek]
    by_cases c : F h.1 = true
    · rw [if_pos c, if_pos c]
      exact .cons ⟨e, d⟩ ih
    · rw [if_neg c, if_neg c]
      exact ih
theorem hdk_app : ∀ {kvs ls : List (Key × V)} {hs gs : List (Int × List Int)}, HdK K H kvs hs → HdK K H ls gs → HdK K H (kvs ++ ls) (hs ++ gs)
  | _, _, _, _, .nil, s => s
  | _, _, _, _, .cons h r, s => .cons h (hdk_app r s)
theorem hdk_nd {kvs : List (Key × V)} {hs : List (Int × List Int)} (h : HdK K H kvs hs) (nd : (hs.map (·.1)).Nodup) : (kvs.map (·.1)).Nodup := by
  rw [hdk_keys h]
  exact List.Pairwise.map _ (fun a b n z => n (Sum.inl.inj z)) nd
theorem hdk_st {H' : Hp} (e : St H H') {kvs : List (Key × V)} {hs : List (Int × List Int)} (h : HdK K H kvs hs) : HdK K H' kvs hs := hdk_mono (fun h => dqt e h (tupO_head _)) h
theorem mergeK_app : ∀ (more kvs : List (Key × V)), ((kvs ++ more).map (·.1)).Nodup → mergeK kvs more = kvs ++ more
  | [], kvs, _ => (List.append_nil kvs).symm
  | p :: r, kvs, nd => by
    have e : putK kvs p.1 p.2 = kvs ++ [p] := by
      refine putK_new p.2 ?_
      cases c : valV kvs p.1 with
      | none => rfl
      | some v =>
        exfalso
        have a : (kvs.any fun kv => decide (kv.1 = p.1)) = true := by rw [valV_any, c]; rfl
        obtain ⟨kv, hm, hk⟩ := List.any_eq_true.mp a
        rw [List.map_append, List.nodup_append] at nd
        exact nd.2.2 kv.1 (List.mem_map.mpr ⟨kv, hm, rfl⟩) p.1 (List.mem_map.mpr ⟨p, List.mem_cons_self, rfl⟩) (of_decide_eq_true hk)
    show mergeK (putK kvs p.1 p.2) r = _
    rw [e, mergeK_app r (kvs ++ [p]) (by rw [List.append_assoc]; exact nd), List.append_assoc]
    rfl
theorem mergeK_nd {kvs : List (Key × V)} (nd : (kvs.map (·.1)).Nodup) : mergeK [] kvs = kvs := mergeK_app kvs [] nd
theorem hdV_mem : ∀ {hs : List (Int × List Int)} {n : Int} {h : List Int}, hdV hs n = some h → (n, h) ∈ hs
  | g :: r, n, h, e => by
    by_cases c : g.1 = n
    · have e2 : some g.2 = some h := (if_pos c).symm.trans e
      rw [← Option.some.inj e2, ← c]
      exact List.mem_cons_self
    · exact List.mem_cons_of_mem _ (hdV_mem ((if_neg c).symm.trans e))
theorem hdV_nd : ∀ {hs : List (Int × List Int)} {g : Int × List Int}, (hs.map (·.1)).Nodup → g ∈ hs → hdV hs g.1 = some g.2
  | q :: r, g, nd, h => by
    rw [List.map_cons, List.nodup_cons] at nd
    rcases List.mem_cons.mp h with e | h'
    · rw [e]
      exact if_pos rfl
    · refine (if_neg fun z => nd.1 (List.mem_map.mpr ⟨g, h', z.symm⟩)).trans (hdV_nd nd.2 h')
theorem hdV_none {hs : List (Int × List Int)} {n : Int} : hdV hs n = none ↔ n ∉ hs.map (·.1) := by
  induction hs with
  | nil => exact ⟨fun _ h => (nomatch h), fun _ => rfl⟩
  | cons g r ih =>
    rw [List.map_cons, List.mem_cons]
    by_cases c : g.1 = n
    · exact ⟨fun e => (nomatch (if_pos c).symm.trans e), fun h => (h (.inl c.symm)).elim⟩
    · exact ⟨fun e h => h.elim (fun z => c z.symm) (ih.mp ((if_neg c).symm.trans e)), fun h => (if_neg c).trans (ih.mpr fun z => h (.inr z))⟩
theorem hdk_in {kvs : List (Key × V)} {hs : List (Int × List Int)} (h : HdK K H kvs hs) (n : Int) : (valV kvs (.inl n)).isSome = (hdV hs n).isSome := by
  rcases hdk_val n h with ⟨a, b⟩ | ⟨x, v, a, b, _⟩
  · rw [a, b]; rfl
  · rw [a, b]; rfl
theorem hdk_put {kvs : List (Key × V)} {hs : List (Int × List Int)} {n : Int} {v : V} {hd : List Int} (h : HdK K H kvs hs) (nn : hdV hs n = none) (hv : Dq K H v (headD hd)) : HdK K H (putK kvs (.inl n) v) (hs ++ [(n, hd)]) := by
  have e : valV kvs (.inl n) = none := by
    rcases hdk_val n h with ⟨_, b⟩ | ⟨x, w, a, _⟩
    · exact b
    · rw [nn] at a; cases a
  rw [putK_new v e]
  exact hdk_app h (.cons ⟨rfl, hv⟩ .nil)
end
/-! what comes -/
def belF (ks : List Int) (n : Int) : Option Int := (ks.filter fun k => decide (k < n)).max?
theorem belF_nil {ks : List Int} {n : Int} (h : (ks.filter fun k => decide (k < n)) = []) : belF ks n = none := by
  unfold belF
  rw [h]
  rfl
theorem belF_max {ks : List Int} {n m : Int} (h : m ∈ ks.filter fun k => decide (k < n)) (g : ∀ y ∈ ks.filter fun k => decide (k < n), y ≤ m) : belF ks n = some m := by
  unfold belF
  exact List.max?_eq_some_iff.mpr ⟨h, g⟩
theorem belF_mem {ks : List Int} {n m : Int} (h : belF ks n = some m) : m ∈ ks ∧ m < n := by
  have z := (List.max?_eq_some_iff.mp h).1
  obtain ⟨a, b⟩ := List.mem_filter.mp z
  exact ⟨a, of_decide_eq_true b⟩
def topF (t : Option Int) (n : Int) : Int := match t with
  | none => n
  | some g => if g < n then n else g
/-- which numbers stay -/
def stayB (e : Int) (o : Option Int) (k : Int) : Bool := decide (e ≤ k) || decide (some k = o)
def keyH (hs : List (Int × List Int)) : List Int := hs.map (·.1)
def comeH (hs : List (Int × List Int)) (e : Int) : List (Int × List Int) := hs.filter fun h => stayB e (belF (keyH hs) e) h.1
def comeF (s : RdS) (n : Int) : RdS := ⟨s.P, some (topF s.top n), comeH s.held (topF s.top n - s.P.lt)⟩
theorem nd_filter {hs : List (Int × List Int)} (F : Int × List Int → Bool) (nd : (hs.map (·.1)).Nodup) : ((hs.filter F).map (·.1)).Nodup := List.Nodup.sublist (List.Sublist.map _ List.filter_sublist) nd
theorem okRd_come {s : RdS} {n : Int} (ok : OkRd s) : OkRd (comeF s n) := ⟨ok.ok, fun h hm => ok.hds h ((List.mem_filter.mp hm).1), nd_filter _ ok.nd⟩
theorem okRd_put {s : RdS} {n : Int} {hd : List Int} (ok : OkRd s) (oh : OkHead s.P.s.fs hd) (nn : hdV s.held n = none) : OkRd ⟨s.P, s.top, s.held ++ [(n, hd)]⟩ := by
  refine ⟨ok.ok, fun h hm => ?_, ?_⟩
  · rcases List.mem_append.mp hm with z | z
    · exact ok.hds h z
    · rw [List.mem_singleton.mp z]
      exact oh
  · show ((s.held ++ [(n, hd)]).map (·.1)).Nodup
    rw [List.map_append, List.nodup_append]
    refine ⟨ok.nd, List.nodup_cons.mpr ⟨(fun z => nomatch z), List.nodup_nil⟩, fun a ha b hb z => ?_⟩
    have z2 : a = n := z.trans (List.mem_singleton.mp hb)
    rw [z2] at ha
    exact hdV_none.mp nn ha
/-! heaps -/
section
variable {W : Wd} {K : PySem.W.Frag} {H H' H0 : Hp} {p l d k : Addr} {s : RdS} {Q : VK} {v : V} {u : HO} {od : Obj}
theorem same_lock (hl : H l = some u) (e : Same (upd H l (.frz od u)) H') : Same H (upd H' l u) := fun a w h => by
  by_cases c : a = l
  · subst c
    rw [upd_same, ← hl, h]
  · rw [upd_ne c]
    exact e a w (by rw [upd_ne c]; exact h)
theorem rdm_st (h : RdAt W H p l s) (e : Mv p l H H') : St H H' := by
  obtain ⟨dx, vp, ks, h1, _, h3, _⟩ := h
  exact fun a u h t => e a u h (fun z => by
    rw [z, h1] at h
    cases h
    exact t) fun z => by
    rw [z, h3] at h
    cases h
    exact t
theorem rdm_box {b : Bool} {n : Int} (h : RdAt W H p l s) (e : Mv p l H H') (hb : BoxAt W b n H v) : BoxAt W b n H' v := by
  obtain ⟨dx, vp, ks, h1, _, h3, _⟩ := h
  obtain ⟨q, o, k, rfl, hpo, hk, hp, ho⟩ := hb
  refine ⟨q, o, k, rfl, hpo, hk, e _ _ hp (fun z => ?_) fun z => ?_, e _ _ ho (fun z => ?_) fun z => ?_⟩
  · rw [z, h1] at hp
    cases hp
  · rw [z, h3] at hp
    cases hp
  · rw [z, h1] at ho
    cases ho
  · rw [z, h3] at ho
    cases ho
theorem rd_st (st : St H H') (e1 : ∀ u, H p = some u → H' p = some u) (e2 : ∀ u, H l = some u → H' l = some u) (h : RdAt W H p l s) : RdAt W H' p l s := by
  obtain ⟨dx, vp, ks, h1, h2, h3, h4⟩ := h
  exact ⟨dx, vp, ks, e1 _ h1, dqt st h2 (tupO_pt _), e2 _ h3, hdk_st st h4⟩
/-- a law's own book stands at d, its heads at k -/
def MdAt (W : Wd) (H : Hp) (d k : Addr) (s : RdS) : Prop := H d = some (.dK [(.inr "top", oV s.top), (.inr "kept", .ref k)]) ∧ ∃ kvs, H k = some (.dK kvs) ∧ HdK W.K H kvs s.held
theorem md_sx (e : Sx H H') (h : MdAt W H d k s) : MdAt W H' d k s := by
  obtain ⟨h1, kvs, h3, h4⟩ := h
  exact ⟨e.keep _ _ h1 rfl, kvs, e.keep _ _ h3 rfl, hdk_mono (fun h => dqx e h) h4⟩
theorem md_same (e : Same H H') (h : MdAt W H d k s) : MdAt W H' d k s := md_sx (Same.sx e) h
theorem md_st (st : St H H') (e1 : ∀ u, H d = some u → H' d = some u) (e2 : ∀ u, H k = some u → H' k = some u) (h : MdAt W H d k s) : MdAt W H' d k s := by
  obtain ⟨h1, kvs, h3, h4⟩ := h
  exact ⟨e1 _ h1, kvs, e2 _ h3, hdk_st st h4⟩
theorem mdm_st (h : MdAt W H d k s) (e : Mv d k H H') : St H H' := by
  obtain ⟨h1, ks, h3, _⟩ := h
  exact fun a u h t => e a u h (fun z => by
    rw [z, h1] at h
    cases h
    exact t) fun z => by
    rw [z, h3] at h
    cases h
    exact t
theorem mdm_box {b : Bool} {n : Int} (h : MdAt W H d k s) (e : Mv d k H H') (hb : BoxAt W b n H v) : BoxAt W b n H' v := by
  obtain ⟨h1, ks, h3, _⟩ := h
  obtain ⟨q, o, j, rfl, hpo, hk, hp, ho⟩ := hb
  refine ⟨q, o, j, rfl, hpo, hk, e _ _ hp (fun z => ?_) fun z => ?_, e _ _ ho (fun z => ?_) fun z => ?_⟩
  · rw [z, h1] at hp
    cases hp
  · rw [z, h3] at hp
    cases hp
  · rw [z, h1] at ho
    cases ho
  · rw [z, h3] at ho
    cases ho
/-- a reader that moves, a book that stays -/
theorem rdm_md (h : RdAt W H p l s) (e : Mv p l H H') (n1 : d ≠ l) (n2 : k ≠ l) {s' : RdS} (hm : MdAt W H d k s') : MdAt W H' d k s' := by
  have st := rdm_st h e
  obtain ⟨dx, vp, ks, h1, _, _, _⟩ := h
  obtain ⟨g1, kvs, g3, g4⟩ := hm
  have m1 : d ≠ p := fun z => by rw [z, h1] at g1; cases g1
  have m2 : k ≠ p := fun z => by rw [z, h1] at g3; cases g3
  exact ⟨e _ _ g1 m1 n1, kvs, e _ _ g3 m2 n2, hdk_st st g4⟩
theorem mdm_rd {s' : RdS} (hm : MdAt W H d k s') (e : Mv d k H H') (n1 : l ≠ d) (n2 : l ≠ k) (h : RdAt W H p l s) : RdAt W H' p l s := by
  have st := mdm_st hm e
  obtain ⟨dx, vp, ks, h1, h2, h3, h4⟩ := h
  obtain ⟨g1, kvs, g3, g4⟩ := hm
  have m1 : p ≠ d := fun z => by rw [← z, h1] at g1; cases g1
  have m2 : p ≠ k := fun z => by rw [← z, h1] at g3; cases g3
  exact ⟨dx, vp, ks, e _ _ h1 m1 m2, dqt st h2 (tupO_pt _), e _ _ h3 n1 n2, hdk_st st h4⟩
end
/-! walks over keys -/
section
variable {K : PySem.W.Frag} {σ : L2.St} {H : Hp} {Q : VK} {te td : TE} {tt : TT} {g : TG} {vs : List Nat} {d : Addr} {o : Obj} {kvs : List (Key × V)}
def KyOk (R : It → Hp → Prop) (x : V) (H1 : Hp) : Prop := ∃ d o, x = .ref d ∧ ((∃ kvs, H1 d = some (.frz o (.dK kvs)) ∧ R (Itk d o kvs) H1) ∨ ∃ kvs, H1 d = some (.frz o (.dT kvs)) ∧ R (Itkt d o kvs) H1)
theorem w_ikeys {R : It → Hp → Prop} (h : td σ H fun x H1 => KyOk R x H1) : iKeys td σ H R := h
theorem w_kyok {R : It → Hp → Prop} (h : H d = some (.frz o (.dK kvs))) (q : R (Itk d o kvs) H) : KyOk R (.ref d) H := ⟨d, o, rfl, .inl ⟨kvs, h, q⟩⟩
theorem w_lock (h : H d = some (.dK kvs)) (q : ∀ od, te σ (upd H d (.frz od (.dK kvs))) fun v H' => H' d = some (.frz od (.dK kvs)) ∧ Q v (upd H' d (.dK kvs))) : tLockE te σ H Q := ⟨d, .dK kvs, h, trivial, q⟩
theorem lcK (hd : H d = some (.frz o (.dK kvs))) (I : Nat → List V → Hp → Prop) (hst : Stb I) (hn : kvs.length ≤ 1000000) (hI : ∀ i acc H', I i acc H' → acc.length ≤ i) (h0 : ∀ H', Same H H' → I 0 [] H')
    (hs : ∀ i kv acc H', kvs[i]? = some kv → Same H H' → I i acc H' → ∀ (k : VK) (k' : Hp → Prop), (∀ y H4, Same H' H4 → I (i + 1) (acc ++ [y]) H4 → k y H4) → (∀ H3, Same H' H3 → I (i + 1) acc H3 → k' H3) →
      g (kV kv.1) (wipe σ vs) H' fun σ2 H2 => wipe σ2 vs = wipe σ vs ∧ tt σ2 H2 fun b H3 => if b = true then te σ2 H3 k else k' H3)
    (hq : ∀ D acc H', H D = none → Same H H' → H' D = some (.lst acc) → I kvs.length acc H' → Q (.ref D) H') : LcOk (Itk d o kvs) g tt te vs σ Q H :=
  lc_gen I hst hn hI h0 (fun i acc H' hi s1 _ => ⟨s1 _ _ hd, hi⟩) (fun _ _ s1 _ => ⟨s1 _ _ hd, Nat.le_refl _⟩) (fun i acc x H' H'' hi s1 w1 y => by
    obtain ⟨e1, k, v, e2, e3⟩ := y
    subst e1
    subst e3
    exact hs i (k, v) acc _ e2 s1 w1) hq
theorem w_maxD {a : Addr} {ns : List Int} {z : V} (h : SqL K H a (ns.map V.int)) (q0 : ns = [] → Q z H) (q1 : ∀ m, m ∈ ns → (∀ y, y ∈ ns → y ≤ m) → Q (.int m) H) : rMaxD K [.ref a] [z] H Q := ⟨a, ns, z, rfl, rfl, h, q0, q1⟩
theorem w_ckw {r : List V → List V → Hp → VK → Prop} {ta tk : TA} (h : ta σ H fun vs H1 => tk σ H1 fun zs H2 => r vs zs H2 Q) : tCKw r ta tk σ H Q := h
theorem w_din {tk : TE} (h : tk σ H fun y H1 => td σ H1 fun x H2 => ∃ a o, x = .ref a ∧ DGet H2 a y o ∧ Q (.bl o.isSome) H2) : tDIn tk td σ H Q := h
theorem w_dgi {n : Int} {v : V} (h : Rd H d (.dK kvs)) (e : valV kvs (.inl n) = some v) (q : Q v H) : DG Q (.ref d) (.int n) H := ⟨d, v, rfl, .inl ⟨kvs, .inl n, h, rfl, e.symm⟩, q⟩
theorem w_dini {n : Int} {b : Bool} (h : H d = some (.dK kvs)) (e : (valV kvs (.inl n)).isSome = b) (q : Q (.bl b) H) : ∃ a o, V.ref d = .ref a ∧ DGet H a (.int n) o ∧ Q (.bl o.isSome) H := ⟨d, _, rfl, DGet.k (k := .inl n) h, by rw [e]; exact q⟩
theorem w_dint {n : Int} {b : Bool} {R : Bool → Prop} (h : H d = some (.dK kvs)) (e : (valV kvs (.inl n)).isSome = b) (q : R b) : ∃ a o, V.ref d = .ref a ∧ DGet H a (.int n) o ∧ ∃ k, V.bl o.isSome = V.bl k ∧ R k := ⟨d, _, rfl, DGet.k (k := .inl n) h, _, rfl, by rw [e]; exact q⟩
theorem w_dputi {k : Hp → Prop} {n : Int} {v : V} (h : H d = some (.dK kvs)) (hl : kvs.length < 1000000) (q : k (upd H d (.dK (putK kvs (.inl n) v)))) : rSetU (.ref d) (.int n) v H k :=
  .inr ⟨d, _, rfl, DPut.k (k := .inl n) h (Nat.lt_trans hl (by decide)), q⟩
theorem w_dictP {a : Addr} {ps : List Addr} (h : SqL K H a (ps.map V.ref)) (hp : Paired (fun p kv => TupN H p [kV kv.1, kv.2]) ps kvs) (nd : (kvs.map (·.1)).Nodup) (q : ∀ p H', H p = none → Same H H' → H' p = some (.dK kvs) → Q (.ref p) H') : rDictP K [.ref a] H Q :=
  ⟨a, ps, kvs, rfl, h, Paired.mapP hp fun _ _ z => SqN.t (SqN.of z), fun p hn => q p _ hn (same_new hn) (by rw [upd_same, mergeK_nd nd])⟩
/-- pairs in tuples, on a list that grows -/
def PairI (i : Nat) (F : Nat → List (Key × V)) (acc : List V) (H' : Hp) : Prop := ∃ ps : List Addr, acc = ps.map V.ref ∧ Paired (fun p kv => TupN H' p [kV kv.1, kv.2]) ps (F i)
theorem pairI_stb (F : Nat → List (Key × V)) : Stb fun i acc H' => PairI i F acc H' := fun i acc H' D xs ys hD ⟨ps, e, h⟩ => ⟨ps, e, Paired.mapP h fun _ _ ⟨o, hd, z⟩ => ⟨o, hd, by
  rw [upd_ne fun c => by rw [c, hD] at z; cases z]
  exact z⟩⟩
theorem pairI_len {i : Nat} {F : Nat → List (Key × V)} {acc : List V} {H' : Hp} (h : PairI i F acc H') (hl : (F i).length ≤ i) : acc.length ≤ i := by
  obtain ⟨ps, e, h⟩ := h
  rw [e, List.length_map, Paired.length h]
  exact hl
theorem pairI_skip {i : Nat} {F : Nat → List (Key × V)} {acc : List V} {H' : Hp} (h : PairI i F acc H') (e : F (i + 1) = F i) : PairI (i + 1) F acc H' := by
  unfold PairI
  rw [e]
  exact h
theorem pairI_add {i : Nat} {F : Nat → List (Key × V)} {acc : List V} {H' H'' : Hp} {p : Addr} {kv : Key × V} (h : PairI i F acc H') (s : Same H' H'') (hp : TupN H'' p [kV kv.1, kv.2]) (e : F (i + 1) = F i ++ [kv]) : PairI (i + 1) F (acc ++ [.ref p]) H'' := by
  obtain ⟨ps, ea, h⟩ := h
  refine ⟨ps ++ [p], by rw [ea, List.map_append]; rfl, ?_⟩
  rw [e]
  exact Paired.snoc (Paired.mapP h fun _ _ z => z.mono s) hp
theorem w_eqo {n : Int} {o : Option Int} (q : Q (.bl (decide (some n = o))) H) : rEqU K (.int n) (oV o) H Q := by
  cases o with
  | none => exact .inl ⟨rfl, by
      rw [show decide (V.int n = oV none) = decide (some n = none) from (decide_eq_false (fun z => nomatch z)).trans (decide_eq_false (fun z => nomatch z)).symm]
      exact q⟩
  | some m => exact w_eqi (by
      rw [show decide (n = m) = decide (some n = some m) by simp]
      exact q)
theorem w_neo {n : Int} {o : Option Int} (q : Q (.bl (!decide (some n = o))) H) : rNeU K (.int n) (oV o) H Q := by
  cases o with
  | none => exact .inl ⟨rfl, by
      rw [show decide (V.int n = oV none) = decide (some n = none) from (decide_eq_false (fun z => nomatch z)).trans (decide_eq_false (fun z => nomatch z)).symm]
      exact q⟩
  | some m => exact w_nei (by
      rw [show decide (n = m) = decide (some n = some m) by simp]
      exact q)
theorem filter_snoc {ks : List Int} {P : Int → Bool} {i : Nat} {k : Int} (h : ks[i]? = some k) : (ks.take (i + 1)).filter P = (ks.take i).filter P ++ (if P k = true then [k] else []) := by
  rw [take_snoc h, List.filter_append]
  by_cases c : P k = true
  · simp [c]
  · simp [c]
theorem filter_snocK {ks : List (Key × V)} {P : Key × V → Bool} {i : Nat} {k : Key × V} (h : ks[i]? = some k) : (ks.take (i + 1)).filter P = (ks.take i).filter P ++ (if P k = true then [k] else []) := by
  rw [take_snoc h, List.filter_append]
  by_cases c : P k = true
  · simp [c]
  · simp [c]
end
section
variable {W : Wd} {H H' : Hp} {p l : Addr} {s : RdS} {k : Hp → Prop} {n : Int}
theorem rd_upd {u : HO} (h : RdAt W H p l s) : Mv p l H (upd H p u) ∧ ∀ a, upd H p u a = none → H a = none := by
  obtain ⟨dx, vp, ks, h1, _⟩ := h
  refine ⟨fun a o h n1 _ => by rw [upd_ne n1]; exact h, fun a e => ?_⟩
  by_cases c : a = p
  · rw [c, upd_same] at e
    cases e
  · rw [upd_ne c] at e
    exact e
theorem w_rdSetTop (h : RdAt W H p l s) (q : ∀ H', Mv p l H H' → (∀ a, H' a = none → H a = none) → RdAt W H' p l ⟨s.P, some n, s.held⟩ → k H') : SfOk (clsOf W.K "Reader") "greatest" (.int n) k (.ref p) H := by
  have np := rd_ne h
  have h0 := h
  obtain ⟨dx, vp, ks, h1, h2, h3, h4⟩ := h
  obtain ⟨m1, m2⟩ := rd_upd (u := .ins (clsOf W.K "Reader") dx (putF "greatest" (.int n) (rdF vp l s.top))) h0
  have e := rdm_st h0 m1
  refine w_sfok h1 (by show 3 < 1000; decide) (q _ m1 m2 ⟨dx, vp, ks, ?_, dqt e h2 (tupO_pt _), ?_, hdk_st e h4⟩)
  · rw [upd_same]
    unfold rdF
    rw [pf_miss (by decide +kernel), pf_hit]
    rfl
  · rw [upd_ne np.symm]
    exact h3
theorem w_rdSetHeld {l' : Addr} {kvs : List (Key × V)} {hs : List (Int × List Int)} (h : RdAt W H p l s) (hl : H l' = some (.dK kvs)) (hk : HdK W.K H kvs hs) (q : ∀ H', Mv p l H H' → (∀ a, H' a = none → H a = none) → RdAt W H' p l' ⟨s.P, s.top, hs⟩ → k H') : SfOk (clsOf W.K "Reader") "held" (.ref l') k (.ref p) H := by
  have h0 := h
  obtain ⟨dx, vp, ks, h1, h2, h3, h4⟩ := h
  have np : l' ≠ p := fun z => by rw [z, h1] at hl; cases hl
  obtain ⟨m1, m2⟩ := rd_upd (u := .ins (clsOf W.K "Reader") dx (putF "held" (.ref l') (rdF vp l s.top))) h0
  have e := rdm_st h0 m1
  refine w_sfok h1 (by show 3 < 1000; decide) (q _ m1 m2 ⟨dx, vp, kvs, ?_, dqt e h2 (tupO_pt _), ?_, hdk_st e hk⟩)
  · rw [upd_same]
    unfold rdF
    rw [pf_miss (by decide +kernel), pf_miss (by decide +kernel), pf_hit]
  · rw [upd_ne np]
    exact hl
end
section
variable {K : PySem.W.Frag} {σ : L2.St} {H : Hp} {Q : VK} {a : Addr} {kvs : List (Key × V)} {td ty : TE}
theorem w_sortedDI {ks : List Int} (h : H a = some (.dK kvs)) (e : kvs.map (·.1) = ks.map Sum.inl) (l : ks.length < 64) (q : ∀ (ys : List Int) p H', ys.Perm ks → ys.Pairwise (· ≤ ·) → H p = none → Same H H' → H' p = some (.lst (ys.map V.int)) → Q (.ref p) H') : rSortedDI [.ref a] H Q :=
  ⟨a, kvs, ks, rfl, .inl h, e, l, fun ys p h1 h2 hp => q ys p _ h1 h2 hp (same_new hp) upd_same⟩
theorem kV_map {ks : List Int} (e : kvs.map (·.1) = ks.map Sum.inl) : (kvs.map fun kv => kV kv.1) = ks.map V.int := by
  have e2 : (kvs.map fun kv => kV kv.1) = (kvs.map (·.1)).map kV := by rw [List.map_map]; rfl
  rw [e2, e, List.map_map]
  rfl
theorem w_listDI {ks : List Int} (h : H a = some (.dK kvs)) (e : kvs.map (·.1) = ks.map Sum.inl) (q : ∀ p H', H p = none → Same H H' → H' p = some (.lst (ks.map V.int)) → Q (.ref p) H') : rListD [.ref a] H Q :=
  ⟨a, kvs, rfl, .inl h, fun p hp => q p _ hp (same_new hp) (by rw [upd_same, kV_map e])⟩
def PopOk (Q : VK) (a : Addr) (y : V) (H2 : Hp) : Prop := ∃ kvs k v, H2 a = some (.dK kvs) ∧ y = kV k ∧ valV kvs k = some v ∧ Q v (upd H2 a (.dK (dropK kvs k)))
def PopAt (ty : TE) (σ : L2.St) (Q : VK) (x : V) (H1 : Hp) : Prop := ∃ a, x = .ref a ∧ IsD H1 a ∧ ty σ H1 fun y H2 => PopOk Q a y H2
theorem w_dpop1 (h : td σ H fun x H1 => PopAt ty σ Q x H1) : tDPop1 td ty σ H Q := h
theorem w_popat (h : H a = some (.dK kvs)) (q : ty σ H fun y H2 => PopOk Q a y H2) : PopAt ty σ Q (.ref a) H := ⟨a, rfl, .inl ⟨kvs, .inl h⟩, q⟩
theorem w_popok {n : Int} {v : V} (h : H a = some (.dK kvs)) (e : valV kvs (.inl n) = some v) (q : Q v (upd H a (.dK (dropK kvs (.inl n))))) : PopOk Q a (.int n) H := ⟨kvs, .inl n, v, h, rfl, e, q⟩
theorem w_tyD {R : Prop} (h : H a = some (.dK kvs)) (q : R) : tyV K "dict" (.ref a) H ∧ R := ⟨.inr (.inr (.inl ⟨rfl, .inl ⟨kvs, h⟩⟩)), q⟩
theorem w_dclear (h : H a = some (.dK kvs)) (q : Q .non (upd H a (.dK []))) : rDClear (.ref a) [] H Q := ⟨a, kvs, rfl, rfl, h, q⟩
end
/-- what stays behind a pop -/
theorem drop_pop {kvs : List (Key × V)} {F : Key × V → Bool} {i : Nat} {kv : Key × V} (nd : (kvs.map (·.1)).Nodup) (h : kvs[i]? = some kv) (c : F kv = false) :
    dropK ((kvs.take i).filter F ++ kvs.drop i) kv.1 = (kvs.take (i + 1)).filter F ++ kvs.drop (i + 1) := by
  have e : kvs.drop i = kv :: kvs.drop (i + 1) := by
    obtain ⟨hi, e⟩ := List.getElem?_eq_some_iff.mp h
    rw [← e]
    exact List.drop_eq_getElem_cons hi
  have ek : kvs = kvs.take i ++ (kv :: kvs.drop (i + 1)) := by rw [← e, List.take_append_drop]
  have nd2 := nd
  rw [ek, List.map_append, List.map_cons, List.nodup_append, List.nodup_cons] at nd2
  obtain ⟨_, ⟨n1, _⟩, n3⟩ := nd2
  have a1 : ∀ x ∈ kvs.take i, x.1 ≠ kv.1 := fun x hx => n3 x.1 (List.mem_map.mpr ⟨x, hx, rfl⟩) kv.1 List.mem_cons_self
  have a2 : ∀ x ∈ kvs.drop (i + 1), x.1 ≠ kv.1 := fun x hx z => n1 (List.mem_map.mpr ⟨x, hx, z⟩)
  rw [filter_snocK h, if_neg (by rw [c]; decide), List.append_nil, e]
  unfold dropK
  rw [List.filter_append, List.filter_cons, if_neg (by simp), List.filter_eq_self.mpr fun x hx => decide_eq_true (a1 x (List.mem_filter.mp hx).1), List.filter_eq_self.mpr fun x hx => decide_eq_true (a2 x hx)]
theorem stay_skip {kvs : List (Key × V)} {F : Key × V → Bool} {i : Nat} {kv : Key × V} (h : kvs[i]? = some kv) (c : F kv = true) : (kvs.take i).filter F ++ kvs.drop i = (kvs.take (i + 1)).filter F ++ kvs.drop (i + 1) := by
  have e : kvs.drop i = kv :: kvs.drop (i + 1) := by
    obtain ⟨hi, e⟩ := List.getElem?_eq_some_iff.mp h
    rw [← e]
    exact List.drop_eq_getElem_cons hi
  rw [filter_snocK h, if_pos c, e, List.append_assoc]
  rfl
section
variable {A B : Prop} {g : Int} {i : Nat}
theorem w_ifO (q : B) : if decide (oV (some g) = V.non) = true then A else B := w_if (fun z => by cases z) q
theorem w_ifON (q : A) : if decide (oV none = V.non) = true then A else B := w_it rfl q
theorem w_ifNO (q : A) : if (!decide (oV (some g) = V.non)) = true then A else B := w_nn (w_ifO q)
theorem w_ifNON (q : B) : if (!decide (oV none = V.non)) = true then A else B := w_nn (w_ifON q)
theorem w_ifAt (q : B) : if decide (atV (some i) = V.non) = true then A else B := w_if (fun z => by cases z) q
theorem w_ifNAt (q : A) : if (!decide (atV (some i) = V.non)) = true then A else B := w_nn (w_ifAt q)
end
/-! what a letter is told -/
def lateB (s : RdS) (n : Int) : Bool := decide (n < 0) || match s.top with
  | none => false
  | some t => decide (n < t - s.P.lt)
inductive Tld where
  | blank
  | late
  | twice (n : Int)
  | far
  | check
  | read (n : Int) (hd : List Int)
def tlD : Tld → PyData
  | .blank => .tuple [.str "not", .str "blank"]
  | .late => .tuple [.str "not", .str "late"]
  | .twice n => .tuple [.str "twice", .int n]
  | .far => .tuple [.str "not", .str "far"]
  | .check => .tuple [.str "not", .str "check"]
  | .read n hd => .tuple [.str "read", .int n, headD hd]
/-- the number that a letter tells, x its number or the rest -/
def numR (s : RdS) (t : Option Nat) (x : Int) : Int := match t with
  | none => x
  | some i => match s.top with
    | none => 0
    | some g => (g - s.P.lt) + (x - (g - s.P.lt)) % p2 (cntP s.P (some i))
/-- the head that a letter tells -/
def HdR (s : RdS) (t : Option Nat) (n : Int) (hd : List Int) (o : Option (List Int)) : Prop := match t with
  | none => o = some hd
  | some i => ∃ f, s.P.fs[i]? = some f ∧ match belF (keyH s.held) n with
    | none => o = none
    | some b => (f.r < n - b → o = none) ∧ (n - b ≤ f.r → ∃ fo h, hdV s.held b = some fo ∧ o = some h ∧ OpN s.P.s f fo (n - b) (pcsP s.P (some i) hd) s.P.s.fs.length h)
def putH (s : RdS) (n : Int) (hd : List Int) : RdS := ⟨s.P, s.top, s.held ++ [(n, hd)]⟩
def ReadR (s : RdS) (t : Option Nat) (x ck : Int) (hd : List Int) (r : Tld) (s' : RdS) : Prop :=
  ((t ≠ none ∧ s.top = none) ∧ r = .blank ∧ s' = s) ∨
  (¬ (t ≠ none ∧ s.top = none) ∧ (
    (lateB s (numR s t x) = true ∧ r = .late ∧ s' = s) ∨
    (lateB s (numR s t x) = false ∧ (∃ h, hdV s.held (numR s t x) = some h) ∧ r = .twice (numR s t x) ∧ s' = s) ∨
    (lateB s (numR s t x) = false ∧ hdV s.held (numR s t x) = none ∧ (
      (HdR s t (numR s t x) hd none ∧ r = .far ∧ s' = comeF s (numR s t x)) ∨
      ∃ h, HdR s t (numR s t x) hd (some h) ∧ (((numR s t x + ckF 0 h) % s.P.s.m ≠ ck ∧ r = .check ∧ s' = s) ∨ ((numR s t x + ckF 0 h) % s.P.s.m = ck ∧ r = .read (numR s t x) h ∧ s' = comeF (putH s (numR s t x) h) (numR s t x)))))))
/-- .. of a whole letter, with its own check -/
def readW (s : RdS) (x : Int) (hd : List Int) : Tld × RdS := if lateB s x = true then (.late, s) else match hdV s.held x with
  | some _ => (.twice x, s)
  | none => (.read x hd, comeF (putH s x hd) x)
theorem readR_whole {s s' : RdS} {x : Int} {hd : List Int} {r : Tld} (h : ReadR s none x ((x + ckF 0 hd) % s.P.s.m) hd r s') : r = (readW s x hd).1 ∧ s' = (readW s x hd).2 := by
  unfold readW
  rcases h with ⟨⟨h, _⟩, _⟩ | ⟨_, h⟩
  · exact (h rfl).elim
  · rcases h with ⟨a, b, c⟩ | ⟨a, ⟨g, e⟩, b, c⟩ | ⟨a, e, h⟩
    · have a : lateB s x = true := a
      rw [if_pos a]
      exact ⟨b, c⟩
    · have a : lateB s x = false := a
      have e : hdV s.held x = some g := e
      rw [if_neg (by rw [a]; decide), e]
      exact ⟨b, c⟩
    · have a : lateB s x = false := a
      have e : hdV s.held x = none := e
      rw [if_neg (by rw [a]; decide), e]
      rcases h with ⟨z, _⟩ | ⟨g, z, h⟩
      · exact nomatch (show none = some hd from z)
      · have z : some g = some hd := z
        obtain rfl := Option.some.inj z
        rcases h with ⟨z, _⟩ | ⟨_, b, c⟩
        · exact (z rfl).elim
        · exact ⟨b, c⟩
theorem come_len {s : RdS} {n : Int} : (comeF s n).held.length ≤ s.held.length := List.length_filter_le _ _
theorem readR_len {s s' : RdS} {t : Option Nat} {x ck : Int} {hd : List Int} {r : Tld} (h : ReadR s t x ck hd r s') : s'.held.length ≤ s.held.length + 1 ∧ s'.P = s.P := by
  have key : s' = s ∨ (∃ n, s' = comeF s n) ∨ ∃ n h, s' = comeF (putH s n h) n := by
    rcases h with ⟨_, _, e⟩ | ⟨_, ⟨_, _, e⟩ | ⟨_, _, _, e⟩ | ⟨_, _, ⟨_, _, e⟩ | ⟨h, _, ⟨_, _, e⟩ | ⟨_, _, e⟩⟩⟩⟩
    · exact .inl e
    · exact .inl e
    · exact .inl e
    · exact .inr (.inl ⟨_, e⟩)
    · exact .inl e
    · exact .inr (.inr ⟨_, _, e⟩)
  clear h
  rcases key with rfl | ⟨n, rfl⟩ | ⟨n, h, rfl⟩
  · exact ⟨Nat.le_succ _, rfl⟩
  · exact ⟨Nat.le_trans come_len (Nat.le_succ _), rfl⟩
  · refine ⟨Nat.le_trans come_len ?_, rfl⟩
    show (s.held ++ [(n, h)]).length ≤ _
    rw [List.length_append]
    exact Nat.le_refl _
theorem okHead_of : ∀ {fs : List Fd} {hd : List Int}, hd.length = fs.length → (∀ (i : Nat) (f : Fd) (n : Int), fs[i]? = some f → hd[i]? = some n → 0 ≤ n ∧ n < p2 f.br) → OkHead fs hd
  | [], [], _, _ => trivial
  | _ :: fs, _ :: hd, l, h => ⟨h 0 _ _ rfl rfl, okHead_of (by simpa using l) fun i f n e1 e2 => h (i + 1) f n (by simpa using e1) (by simpa using e2)⟩
theorem opn_ok {s : Shp} {f : Fm} {fo h : List Int} {m : Int} {z : Str} (ok : OkShp s) (okf : OkFm s f) (lf : fo.length = s.fs.length) (h01 : ∀ c ∈ cz z, c = 48 ∨ c = 49) (hz : z.length = atW s.fs f.ws s.fs.length) (op : OpN s f fo m z s.fs.length h) : OkHead s.fs h := by
  refine okHead_of op.1 fun i fd n e1 e2 => ?_
  have hi := (List.getElem?_eq_some_iff.mp e1).1
  have lw := okf.len
  obtain ⟨w, hw⟩ : ∃ w, f.ws[i]? = some w := ⟨_, List.getElem?_eq_getElem (by omega)⟩
  obtain ⟨v, hv⟩ : ∃ v, fo[i]? = some v := ⟨_, List.getElem?_eq_getElem (by omega)⟩
  obtain ⟨x, hx, vo⟩ := op.2 i fd w v hi e1 hw hv
  obtain rfl := Option.some.inj (e2.symm.trans hx)
  have pp := p2_pos fd.br
  cases w with
  | whole =>
    have e : n = numS z (atW s.fs f.ws i) fd.br.toNat := vo
    rw [e]
    refine numS_bd h01 ?_
    have a := atW_succ e1 hw
    have b := atW_mono s.fs f.ws (show i + 1 ≤ s.fs.length from hi)
    have a2 : atW s.fs f.ws (i + 1) = atW s.fs f.ws i + fd.br.toNat := a
    omega
  | keep =>
    obtain ⟨r, _, rfl⟩ := vo
    exact ⟨Int.emod_nonneg _ (Int.ne_of_gt pp), Int.emod_lt_of_pos _ pp⟩
  | low wd bl =>
    obtain ⟨r, _, rfl⟩ := vo
    exact ⟨Int.emod_nonneg _ (Int.ne_of_gt pp), Int.emod_lt_of_pos _ pp⟩
end Sh
/-! readers: a law's own book, forms that keep all -/
namespace Sh
open PySem PySem.Spec PyProof.Rows L2
section
variable {W : Wd} {H : Hp} {d k : Addr} {s : RdS} {kk : Hp → Prop} {n : Int}
theorem upd_stD {u : HO} {kvs : List (Key × V)} (h : H k = some (.dK kvs)) : St H (upd H k u) := fun a o e t => by
  by_cases c : a = k
  · rw [c, h] at e
    rw [← Option.some.inj e] at t
    exact t.elim
  · rw [upd_ne c]
    exact e
theorem upd_noneD {u : HO} {a : Addr} (e : upd H k u a = none) : H a = none := by
  by_cases c : a = k
  · rw [c, upd_same] at e
    cases e
  · rw [upd_ne c] at e
    exact e
theorem md_setTop (nk : d ≠ k) (h : MdAt W H d k s) (q : ∀ H', Mv d k H H' → (∀ a, H' a = none → H a = none) → MdAt W H' d k ⟨s.P, some n, s.held⟩ → kk H') : rSetU (.ref d) (.str "top") (.int n) H kk := by
  obtain ⟨h1, kvs, h2, h3⟩ := h
  refine w_dputs h1 (by show 2 < 1000; decide) (q _ mv_upd1 (fun a e => upd_noneD e) ⟨?_, kvs, ?_, hdk_st (upd_stD h1) h3⟩)
  · rw [upd_same]
    rfl
  · rw [upd_ne nk.symm]
    exact h2
end
theorem md_put {W : Wd} {H : Hp} {d k : Addr} {s : RdS} {kk : Hp → Prop} {n : Int} {v : V} {hd : List Int} (nk : d ≠ k) (h : MdAt W H d k s) (nn : hdV s.held n = none) (hl : s.held.length ≤ 1000) (hv : Dq W.K H v (headD hd)) (q : ∀ H', Mv d k H H' → (∀ a, H' a = none → H a = none) → St H H' → MdAt W H' d k (putH s n hd) → kk H') : rSetU (.ref k) (.int n) v H kk := by
  obtain ⟨h1, kvs, h2, h3⟩ := h
  have kl := hdk_len h3
  have e : St H (upd H k (.dK (putK kvs (.inl n) v))) := upd_stD h2
  refine w_dputi h2 (by omega) (q _ mv_upd2 (fun a z => upd_noneD z) e ⟨?_, _, upd_same, hdk_st e (hdk_put h3 nn hv)⟩)
  rw [upd_ne nk]
  exact h1
theorem w_DB2 {Q : VK} {H : Hp} {p : Addr} {x1 x2 : V} (h : H p = some (.dK [])) (q : Q (.ref p) (upd H p (.dK [(.inr "top", x1), (.inr "kept", x2)]))) : DB Q p [(.str "top", x1), (.str "kept", x2)] H :=
  ⟨h, [(.inr "top", x1), (.inr "kept", x2)], rfl, (by decide : 2 ≤ 15), q⟩
/-- a new book -/
theorem md_new {W : Wd} {H H7 : Hp} {d k : Addr} (P : Pt) (nd : H d = none) (nk : upd H d (.dK []) k = none) (e7 : Same (upd H d (.dK [])) H7) (hk : H7 k = some (.dK [])) :
    Same H (upd H7 d (.dK [(.inr "top", .non), (.inr "kept", .ref k)])) ∧ d ≠ k ∧ H k = none ∧ MdAt W (upd H7 d (.dK [(.inr "top", .non), (.inr "kept", .ref k)])) d k ⟨P, none, []⟩ := by
  have ndk : d ≠ k := fun z => by rw [← z, upd_same] at nk; cases nk
  rw [upd_ne ndk.symm] at nk
  refine ⟨fun a u h => ?_, ndk, nk, upd_same, [], ?_, .nil⟩
  · have na : a ≠ d := fun z => by rw [z, nd] at h; cases h
    rw [upd_ne na]
    exact e7 a u (by rw [upd_ne na]; exact h)
  · rw [upd_ne ndk.symm]
    exact hk
theorem w_keptNe {W : Wd} {H : Hp} {Q : VK} {q k : Addr} {ks ls : List (Key × V)} {hs gs : List (Int × List Int)} (nd : (gs.map (·.1)).Nodup) (h1 : H q = some (.dK ks)) (g1 : HdK W.K H ks hs) (h2 : H k = some (.dK ls)) (g2 : HdK W.K H ls gs) (pm : hs.Perm gs) (q' : Q (.bl false) H) : rNeHD W.K (.ref q) (.ref k) H Q := by
  refine ⟨q, k, ks, ls, rfl, rfl, h1, h2, by rw [hdk_len g1, hdk_len g2, pm.length_eq], fun p hp => ?_, q'⟩
  obtain ⟨i, hi⟩ := List.getElem?_of_mem hp
  obtain ⟨h, hh, e1, e2⟩ := hdk_get g1 hi
  have hm : h ∈ gs := pm.mem_iff.mp (List.mem_of_getElem? hh)
  have hv := hdV_nd nd hm
  rcases hdk_val h.1 g2 with ⟨a, _⟩ | ⟨x, v, a, b, c⟩
  · rw [a] at hv
    cases hv
  · obtain rfl := Option.some.inj (hv.symm.trans a)
    exact ⟨v, _, by rw [e1]; exact b, e2, c⟩
theorem perm_sorted {a b : List Int} (p : a.Perm b) (ha : a.Pairwise (· ≤ ·)) (hb : b.Pairwise (· ≤ ·)) : a = b :=
  p.eq_of_pairwise (fun _ _ _ _ h1 h2 => Int.le_antisymm h1 h2) ha hb
theorem w_neLL {K : PySem.W.Frag} {H : Hp} {Q : VK} {a p : Addr} {ns : List Int} (h : SqL K H a (ns.map V.int)) (h' : SqL K H p (ns.map V.int)) (q : Q (.bl false) H) : rNeU K (.ref a) (.ref p) H Q :=
  w_neD (.lst h (dqs_ints ns)) (.lst h' (dqs_ints ns)) (PySem.W.shaped_ints ns) (PySem.W.shaped_ints ns) (by
    have e : PyData.eqv (.list (ns.map .int)) (.list (ns.map .int)) = true := by
      rw [PyData.eqv, eqvAll_ints]
      exact decide_eq_true rfl
    rw [e]
    exact q)
theorem w_neOO {K : PySem.W.Frag} {H : Hp} {Q : VK} {o : Option Int} (q : Q (.bl false) H) : rNeU K (oV o) (oV o) H Q := by
  cases o with
  | none => exact w_neNN q
  | some m => exact w_nei (by
      rw [decide_eq_true (rfl : m = m)]
      exact q)
theorem plD_head {n : Nat} {hd : List Int} (h : hd.length ≤ 1000) : PlD (n + 1) (headD hd) := ⟨by rw [List.length_map]; exact h, fun d hd' => by
  obtain ⟨m, _, rfl⟩ := List.mem_map.mp hd'
  cases n <;> trivial⟩
theorem plD_tl {r : Tld} (h : ∀ n hd, r = .read n hd → hd.length ≤ 1000) : PlD 6 (tlD r) := by
  cases r with
  | read n hd => exact ⟨(by show 3 ≤ 1000; decide), fun d hm => by
      simp only [List.mem_cons, List.not_mem_nil, or_false] at hm
      rcases hm with rfl | rfl | rfl
      · exact trivial
      · exact trivial
      · exact plD_head (h n hd rfl)⟩
  | _ => exact ⟨(by show 2 ≤ 1000; decide), fun d hm => by
      simp only [List.mem_cons, List.not_mem_nil, or_false] at hm
      rcases hm with rfl | rfl
      all_goals exact trivial⟩
theorem tupO_tl (r : Tld) : tupO (tlD r) := by
  cases r with
  | read n hd => exact ⟨trivial, trivial, tupO_head _, trivial⟩
  | _ => exact ⟨trivial, trivial, trivial⟩
section
variable {σ : L2.St} {H : Hp} {ts : TS} {nx bk ct : L2.St → Hp → Prop} {rt : VK} {d : Addr} {kvs : List (Key × V)} {K : PySem.W.Frag} {Q : VK} {a p : Addr}
theorem w_lockS (h : H d = some (.dK kvs)) (q : ∀ od, ts ⟨fun σ' H' => H' d = some (.frz od (.dK kvs)) ∧ nx σ' (upd H' d (.dK kvs)), fun v H' => H' d = some (.frz od (.dK kvs)) ∧ rt v (upd H' d (.dK kvs)), fun σ' H' => H' d = some (.frz od (.dK kvs)) ∧ bk σ' (upd H' d (.dK kvs)), fun σ' H' => H' d = some (.frz od (.dK kvs)) ∧ ct σ' (upd H' d (.dK kvs))⟩ σ (upd H d (.frz od (.dK kvs)))) : tLock ts ⟨nx, rt, bk, ct⟩ σ H := ⟨d, .dK kvs, h, trivial, q⟩
theorem w_eqNil {ns : List Int} (h : SqL K H a (ns.map V.int)) (h' : SqL K H p []) (q : Q (.bl (decide (ns = []))) H) : rEqU K (.ref a) (.ref p) H Q :=
  w_eqD (.lst h (dqs_ints ns)) (.lst h' .nil) (PySem.W.shaped_ints ns) (PySem.W.shaped_ints []) (by rw [eqv_nil]; exact q)
theorem w_maxL {ns : List Int} (h : SqL K H a (ns.map V.int)) (h0 : 0 < ns.length) (q : ∀ m, m ∈ ns → (∀ y, y ∈ ns → y ≤ m) → Q (.int m) H) : rMax K [.ref a] H Q := ⟨a, ns, rfl, h, h0, q⟩
end
/-- a letter of a form that keeps a head which stays -/
def readF (s : RdS) (r n : Int) (hd : List Int) : Tld × RdS := if lateB s n = true then (.late, s) else match hdV s.held n with
  | some _ => (.twice n, s)
  | none => match belF (keyH s.held) n with
    | none => (.far, comeF s n)
    | some b => if r < n - b then (.far, comeF s n) else (.read n hd, comeF (putH s n hd) n)
theorem opn_still {s : Shp} {f : Fm} {hd h : List Int} {m : Int} {z : Str} (hs : ∀ g ∈ s.fs, g.kd = .still) (hw : ∀ w ∈ f.ws, w = .keep) (lw : f.ws.length = s.fs.length) (oh : OkHead s.fs hd) (op : OpN s f hd m z s.fs.length h) : h = hd := by
  have lh := okHead_len oh
  refine List.ext_getElem? fun i => ?_
  by_cases hi : i < s.fs.length
  · obtain ⟨fd, e1⟩ : ∃ fd, s.fs[i]? = some fd := ⟨_, List.getElem?_eq_getElem hi⟩
    obtain ⟨w, e2⟩ : ∃ w, f.ws[i]? = some w := ⟨_, List.getElem?_eq_getElem (by omega)⟩
    obtain ⟨v, e3⟩ : ∃ v, hd[i]? = some v := ⟨_, List.getElem?_eq_getElem (by omega)⟩
    obtain ⟨x, hx, vo⟩ := op.2 i fd w v hi e1 e2 e3
    rw [hw w (List.mem_of_getElem? e2)] at vo
    obtain ⟨r, hr, rfl⟩ := vo
    rw [hs fd (List.mem_of_getElem? e1)] at hr
    have hr : r = v := hr
    have z := okHead_get oh e1 e3
    rw [hx, e3, hr, Int.emod_eq_of_lt z.1 z.2]
  · rw [List.getElem?_eq_none (by have := op.1; omega), List.getElem?_eq_none (by omega)]
theorem readR_still {s s' : RdS} {i : Nat} {f : Fm} {g x : Int} {hd h0 : List Int} {r : Tld} (ok : OkRd s) (hf : s.P.fs[i]? = some f) (hg : s.top = some g) (hm : s.P.s.m = 1) (hs : ∀ g ∈ s.P.s.fs, g.kd = .still) (hw : ∀ w ∈ f.ws, w = .keep)
    (all : ∀ h ∈ s.held, h.2 = hd) (h : ReadR s (some i) x 0 h0 r s') : r = (readF s f.r (numR s (some i) x) hd).1 ∧ s' = (readF s f.r (numR s (some i) x) hd).2 := by
  unfold readF
  unfold ReadR at h
  generalize numR s (some i) x = n at h ⊢
  have lw := (ok.ok.fk f (List.mem_of_getElem? hf)).len
  rcases h with ⟨⟨_, h⟩, _⟩ | ⟨_, h⟩
  · rw [hg] at h
    cases h
  · rcases h with ⟨a, b, c⟩ | ⟨a, ⟨y, e⟩, b, c⟩ | ⟨a, e, h⟩
    · rw [if_pos a]
      exact ⟨b, c⟩
    · rw [if_neg (by rw [a]; decide), e]
      exact ⟨b, c⟩
    · rw [if_neg (by rw [a]; decide), e]
      rcases h with ⟨⟨f', hf', z⟩, b, c⟩ | ⟨y, ⟨f', hf', z⟩, h⟩
      · obtain rfl := Option.some.inj (hf.symm.trans hf')
        cases hb : belF (keyH s.held) n with
        | none => exact ⟨b, c⟩
        | some b' =>
          rw [hb] at z
          by_cases q : f.r < n - b'
          · show r = (if f.r < n - b' then _ else _ : Tld × RdS).1 ∧ s' = (if f.r < n - b' then _ else _ : Tld × RdS).2
            rw [if_pos q]
            exact ⟨b, c⟩
          · obtain ⟨_, _, _, w, _⟩ := z.2 (by omega)
            cases w
      · obtain rfl := Option.some.inj (hf.symm.trans hf')
        cases hb : belF (keyH s.held) n with
        | none =>
          rw [hb] at z
          cases z
        | some b' =>
          rw [hb] at z
          have q : ¬ f.r < n - b' := fun q => nomatch z.1 q
          obtain ⟨fo, y', hfo, e1, op⟩ := z.2 (by omega)
          obtain rfl := Option.some.inj e1
          have hm2 := hdV_mem hfo
          have efo : fo = hd := all _ hm2
          rw [efo] at op
          have oh : OkHead s.P.s.fs hd := by
            have w := ok.hds _ hm2
            rw [← efo]
            exact w
          obtain rfl := opn_still hs hw lw oh op
          show r = (if f.r < n - b' then _ else _ : Tld × RdS).1 ∧ s' = (if f.r < n - b' then _ else _ : Tld × RdS).2
          rw [if_neg q]
          rcases h with ⟨w, _⟩ | ⟨_, b, c⟩
          · rw [hm, Int.emod_one] at w
            exact (w rfl).elim
          · exact ⟨b, c⟩
theorem readF_P {s : RdS} {r n : Int} {hd : List Int} : (readF s r n hd).2.P = s.P ∧ (readF s r n hd).2.held.length ≤ s.held.length + 1 := by
  have c1 : ∀ m, (comeF s m).held.length ≤ s.held.length + 1 := fun m => Nat.le_trans come_len (Nat.le_succ _)
  unfold readF
  split
  · exact ⟨rfl, Nat.le_succ _⟩
  · split
    · exact ⟨rfl, Nat.le_succ _⟩
    · split
      · exact ⟨rfl, c1 _⟩
      · split
        · exact ⟨rfl, c1 _⟩
        · refine ⟨rfl, Nat.le_trans come_len ?_⟩
          show (s.held ++ [(n, hd)]).length ≤ _
          rw [List.length_append]
          exact Nat.le_refl _
theorem come_all {s : RdS} {n : Int} {hd : List Int} (all : ∀ h ∈ s.held, h.2 = hd) : ∀ h ∈ (comeF s n).held, h.2 = hd := fun h hm => all h (List.mem_filter.mp hm).1
theorem put_all {s : RdS} {n : Int} {hd : List Int} (all : ∀ h ∈ s.held, h.2 = hd) : ∀ h ∈ (putH s n hd).held, h.2 = hd := fun h hm => by
  rcases List.mem_append.mp hm with z | z
  · exact all h z
  · rw [List.mem_singleton.mp z]
theorem readF_all {s : RdS} {r n : Int} {hd : List Int} (all : ∀ h ∈ s.held, h.2 = hd) : ∀ h ∈ (readF s r n hd).2.held, h.2 = hd := by
  unfold readF
  split
  · exact all
  · split
    · exact all
    · split
      · exact come_all all
      · split
        · exact come_all all
        · exact come_all (put_all all)
theorem readF_top {s : RdS} {r n : Int} {hd : List Int} {g : Int} (hg : s.top = some g) : ∃ g', (readF s r n hd).2.top = some g' := by
  unfold readF
  split
  · exact ⟨g, hg⟩
  · split
    · exact ⟨g, hg⟩
    · split
      · exact ⟨_, rfl⟩
      · split
        · exact ⟨_, rfl⟩
        · exact ⟨_, rfl⟩
theorem plD_readF {s : RdS} {r n : Int} {hd : List Int} (h : hd.length ≤ 1000) : PlD 6 (tlD (readF s r n hd).1) := plD_tl fun m g e => by
  unfold readF at e
  split at e
  · cases e
  · split at e
    · cases e
    · split at e
      · cases e
      · split at e
        · cases e
        · cases e
          exact h
/-! pacts of one field that stays -/
def oneP (b n lt : Int) (fs : List Fm) (sw : Nat) : Pt := ⟨⟨[⟨"n", b, .still⟩], 1⟩, n, fs, 0, 0, lt, 0, sw, 0⟩
theorem nm_n : OkNm ("n" : Str) := ⟨by decide +kernel, by decide +kernel, by decide +kernel⟩
theorem oneP_ok {b n lt : Int} {fs : List Fm} {sw : Nat} (b0 : 1 ≤ b) (b1 : b ≤ 40) (n0 : 1 ≤ n) (n1 : n ≤ 40) (l0 : 0 ≤ lt) (l1 : lt ≤ 20) (fl : fs.length ≤ 12) (hsw : IsW (1 + (fs.length : Int)) sw) (fk : ∀ f ∈ fs, f.ws = [.keep] ∧ 1 ≤ f.r ∧ f.r ≤ 40 ∧ 1 ≤ f.c ∧ f.c ≤ 40) : OkPt (oneP b n lt fs sw) := by
  have oks : OkShp ⟨[⟨"n", b, .still⟩], 1⟩ := by
    refine ⟨by show 1 ≤ 1; decide, by show 1 ≤ 12; decide, fun i f hi => ?_, List.nodup_cons.mpr ⟨(fun h => nomatch h), List.nodup_nil⟩, by show (1 : Int) ≤ 1; decide, by show (1 : Int) ≤ 1000000; decide⟩
    have hi0 : i = 0 := by
      have := (List.getElem?_eq_some_iff.mp hi).1
      simp only [List.length_cons, List.length_nil] at this
      omega
    subst hi0
    obtain rfl := Option.some.inj hi
    exact ⟨nm_n, b0, b1, trivial⟩
  refine ⟨oks, n0, n1, fl, fun f hf => ?_, hsw, ⟨by show (1 : Int) ≤ 2 ^ 0; decide, fun u hu => absurd hu (Nat.not_lt_zero u)⟩, by show (0 : Int) ≤ 0; decide, by show (0 : Int) ≤ 39; decide, by show (0 : Int) ≤ 0; decide, by show (0 : Int) ≤ 400; decide, l0, l1, by show (0 : Int) ≤ 0; decide, by show (0 : Int) ≤ 400; decide⟩
  obtain ⟨z1, z2, z3, z4, z5⟩ := fk f hf
  refine ⟨z2, z3, z4, z5, by rw [z1]; rfl, fun i w fd hw hfd => ?_⟩
  rw [z1] at hw
  have hi0 : i = 0 := by
    have := (List.getElem?_eq_some_iff.mp hw).1
    simp only [List.length_cons, List.length_nil] at this
    omega
  subst hi0
  obtain rfl := Option.some.inj hw
  trivial
theorem oneP_still {b n lt : Int} {fs : List Fm} {sw : Nat} : ∀ g ∈ (oneP b n lt fs sw).s.fs, g.kd = .still := fun g hg => by rw [List.mem_singleton.mp hg]
theorem cz_b0 (x : Int) : cz (bitsT x 0) = [] := rfl
theorem one_pcs {b n lt : Int} {fs : List Fm} {sw : Nat} {v : Int} (t : Option Nat) {w : Wy} (hw : wsP (oneP b n lt fs sw) t = [w]) : cz (pcsP (oneP b n lt fs sw) t [v]) = cz (pieceT (⟨"n", b, .still⟩, w, v)) := by
  unfold pcsP
  rw [hw, cz_pieces]
  exact List.append_nil _
/-- a whole letter of such a pact -/
theorem one_whole {b n lt : Int} {fs : List Fm} {sw : Nat} {x v : Int} : genT (oneP b n lt fs sw) none x [v] 0 = (bitsT 0 sw ++ bitsT x n.toNat) ++ bitsT v b.toNat := by
  refine cz_inj ?_
  rw [gen_cz, one_pcs none (w := .whole) rfl, cz_app, cz_app, List.append_assoc]
  show _ ++ (_ ++ (cz (bitsT (v % p2 ((b.toNat : Nat) : Int)) b.toNat) ++ cz (bitsT 0 0))) = _
  rw [cz_b0, List.append_nil]
  have e : bitsT (v % p2 ((b.toNat : Nat) : Int)) b.toNat = bitsT v b.toNat := by
    have z := bitsT_p2 v ((b.toNat : Nat) : Int)
    rw [Int.toNat_natCast] at z
    exact z
  rw [e]
  rfl
/-- one of a form -/
theorem one_form {b n lt : Int} {fs : List Fm} {sw : Nat} {x v : Int} {i : Nat} {f : Fm} (hf : fs[i]? = some f) (hw : f.ws = [.keep]) : genT (oneP b n lt fs sw) (some i) x [v] 0 = bitsT (1 + (i : Int)) sw ++ bitsT x f.c.toNat := by
  have e1 : wsP (oneP b n lt fs sw) (some i) = [.keep] := by
    show (match fs[i]? with | some f => f.ws | none => []) = _
    rw [hf]
    exact hw
  have e2 : cntP (oneP b n lt fs sw) (some i) = f.c := by
    show (match fs[i]? with | some f => f.c | none => 0) = _
    rw [hf]
  refine cz_inj ?_
  rw [gen_cz, one_pcs (some i) e1, cz_app, e2]
  show _ ++ (_ ++ ([] ++ cz (bitsT 0 0))) = _
  rw [cz_b0, List.append_nil, List.append_nil]
  rfl
theorem one_let {b n lt : Int} {fs : List Fm} {sw : Nat} {x v : Int} (t : Option Nat) : letT (oneP b n lt fs sw) t x [v] = genT (oneP b n lt fs sw) t x [v] 0 := by
  unfold letT genT
  rw [show (oneP b n lt fs sw).s.m = 1 from rfl, Int.emod_one]
theorem w_DB1i {Q : VK} {H : Hp} {p : Addr} {n : Int} {x : V} (h : H p = some (.dK [])) (q : Q (.ref p) (upd H p (.dK [(.inl n, x)]))) : DB Q p [(.int n, x)] H :=
  ⟨h, [(.inl n, x)], rfl, (by decide : 1 ≤ 15), q⟩
/-- a new book that has a head -/
theorem md_new1 {W : Wd} {H : Hp} {d k : Addr} {hv : V} {hd : List Int} (P : Pt) (x : Int) (nd : H d = none) (nk : upd H d (.dK []) k = none) (hh : Dq W.K H hv (headD hd)) :
    Same H (upd (upd (upd (upd H d (.dK [])) k (.dK [])) k (.dK [(.inl x, hv)])) d (.dK [(.inr "top", .int x), (.inr "kept", .ref k)])) ∧ d ≠ k ∧ H k = none ∧ MdAt W (upd (upd (upd (upd H d (.dK [])) k (.dK [])) k (.dK [(.inl x, hv)])) d (.dK [(.inr "top", .int x), (.inr "kept", .ref k)])) d k ⟨P, some x, [(x, hd)]⟩ := by
  have ndk : d ≠ k := fun z => by rw [← z, upd_same] at nk; cases nk
  rw [upd_ne ndk.symm] at nk
  have e : Same H (upd (upd (upd (upd H d (.dK [])) k (.dK [])) k (.dK [(.inl x, hv)])) d (.dK [(.inr "top", .int x), (.inr "kept", .ref k)])) := fun a u h => by
    have na : a ≠ d := fun z => by rw [z, nd] at h; cases h
    have nb : a ≠ k := fun z => by rw [z, nk] at h; cases h
    rw [upd_ne na, upd_ne nb, upd_ne nb, upd_ne na]
    exact h
  refine ⟨e, ndk, nk, upd_same, [(.inl x, hv)], ?_, .cons ⟨rfl, dq_mono e hh⟩ .nil⟩
  rw [upd_ne ndk.symm, upd_same]
theorem eqv_read (x : Int) (v : Int) : PyData.eqv (tlD (.read x [v])) (tlD (.read x [v])) = true := by
  show PyData.eqv (.tuple [.str "read", .int x, .tuple [.int v]]) (.tuple [.str "read", .int x, .tuple [.int v]]) = true
  simp [PyData.eqv, PyData.eqvAll]
theorem sok_read : PyData.strOk ("read" : Str) = true := by decide +kernel
theorem shp_read (x v : Int) : SeqAt.shaped (tlD (.read x [v])) = true := by
  show SeqAt.shaped (.tuple [.str "read", .int x, .tuple [.int v]]) = true
  simp [sok_read, SeqAt.shaped, PyData.canLay0, PyData.canLayAll0, PyData.depth, PyData.depthAll]
end Sh
/-! readers: what is kept of all that was read -/
namespace Sh
open PySem PySem.Spec PyProof.Rows L2
theorem stay_iff {e k : Int} {o : Option Int} : stayB e o k = true ↔ e ≤ k ∨ o = some k := by
  unfold stayB
  rw [Bool.or_eq_true, decide_eq_true_iff, decide_eq_true_iff]
  exact ⟨fun h => h.elim .inl fun z => .inr z.symm, fun h => h.elim .inl fun z => .inr z.symm⟩
theorem belF_of {ks : List Int} {n m : Int} (h : m ∈ ks) (h2 : m < n) (h3 : ∀ k ∈ ks, k < n → k ≤ m) : belF ks n = some m :=
  belF_max (List.mem_filter.mpr ⟨h, decide_eq_true h2⟩) fun y hy => h3 y (List.mem_filter.mp hy).1 (of_decide_eq_true (List.mem_filter.mp hy).2)
theorem belF_no {ks : List Int} {n : Int} (h : ∀ k ∈ ks, ¬ k < n) : belF ks n = none :=
  belF_nil (List.filter_eq_nil_iff.mpr fun k hk z => h k hk (of_decide_eq_true z))
theorem belF_spec (ks : List Int) (n : Int) : (belF ks n = none ∧ ∀ k ∈ ks, ¬ k < n) ∨ ∃ m, belF ks n = some m ∧ m ∈ ks ∧ m < n ∧ ∀ k ∈ ks, k < n → k ≤ m := by
  cases h : belF ks n with
  | none =>
    refine .inl ⟨rfl, fun k hk z => ?_⟩
    unfold belF at h
    have e := List.max?_eq_none_iff.mp h
    have : k ∈ ks.filter fun k => decide (k < n) := List.mem_filter.mpr ⟨hk, decide_eq_true z⟩
    rw [e] at this
    cases this
  | some m =>
    obtain ⟨h1, h2⟩ := belF_mem h
    unfold belF at h
    have e := (List.max?_eq_some_iff.mp h).2
    exact .inr ⟨m, rfl, h1, h2, fun k hk z => e k (List.mem_filter.mpr ⟨hk, decide_eq_true z⟩)⟩
/-- K is what stays of rd at the edge e -/
def KpL (K rd : List Int) (e : Int) : Prop := ∀ n, n ∈ K ↔ n ∈ rd ∧ stayB e (belF rd e) n = true
theorem bel_eq {K rd : List Int} {e e' : Int} (le : e ≤ e') (h : KpL K rd e) : belF K e' = belF rd e' := by
  rcases belF_spec rd e' with ⟨a, b⟩ | ⟨m, a, b, c, d⟩
  · rw [a]
    exact belF_no fun k hk => b k ((h k).mp hk).1
  · rw [a]
    refine belF_of ((h m).mpr ⟨b, stay_iff.mpr ?_⟩) c fun k hk => d k ((h k).mp hk).1
    by_cases q : e ≤ m
    · exact .inl q
    · exact .inr (belF_of b (by omega) fun k hk z => d k hk (by omega))
theorem kpL_mono {K rd : List Int} {e e' : Int} (le : e ≤ e') (h : KpL K rd e) : KpL (K.filter (stayB e' (belF K e'))) rd e' := fun n => by
  have eb := bel_eq le h
  rw [List.mem_filter, eb]
  refine ⟨fun ⟨a, b⟩ => ⟨((h n).mp a).1, b⟩, fun ⟨a, b⟩ => ⟨?_, b⟩⟩
  rcases stay_iff.mp b with z | z
  · exact (h n).mpr ⟨a, stay_iff.mpr (.inl (by omega))⟩
  · rw [← eb] at z
    exact (belF_mem z).1
theorem kpL_app {K rd : List Int} {e n : Int} (le : e ≤ n) (h : KpL K rd e) : KpL (K ++ [n]) (rd ++ [n]) e := fun m => by
  have eb : belF (rd ++ [n]) e = belF rd e := by
    unfold belF
    rw [List.filter_append, List.filter_cons, if_neg (by rw [decide_eq_true_iff]; omega), List.filter_nil, List.append_nil]
  rw [eb, List.mem_append, List.mem_append, List.mem_singleton, h m]
  refine ⟨fun z => ?_, fun ⟨a, b⟩ => ?_⟩
  · rcases z with ⟨a, b⟩ | a
    · exact ⟨.inl a, b⟩
    · exact ⟨.inr a, stay_iff.mpr (.inl (by omega))⟩
  · rcases a with a | a
    · exact .inl ⟨a, b⟩
    · exact .inr a
theorem key_filter (F : Int → Bool) (hs : List (Int × List Int)) : keyH (hs.filter fun h => F h.1) = (keyH hs).filter F := by
  unfold keyH
  rw [List.filter_map]
  rfl
def edgeO (lt : Int) : Option Int → Int
  | none => 0
  | some g => g - lt
/-- a reader that keeps what it should of the numbers rd -/
structure KpI (s : RdS) (rd : List Int) : Prop where
  no : s.top = none → s.held = [] ∧ rd = []
  kp : ∀ g, s.top = some g → KpL (keyH s.held) rd (g - s.P.lt)
theorem kpI_come {s : RdS} {rd : List Int} {n : Int} (h : KpI s rd) : KpI (comeF s n) rd := by
  refine ⟨(fun z => nomatch z), fun g hg => ?_⟩
  have hg : some (topF s.top n) = some g := hg
  obtain rfl := Option.some.inj hg
  show KpL (keyH (s.held.filter fun h => stayB (topF s.top n - s.P.lt) (belF (keyH s.held) (topF s.top n - s.P.lt)) h.1)) rd (topF s.top n - s.P.lt)
  rw [key_filter]
  cases ht : s.top with
  | none =>
    obtain ⟨a, b⟩ := h.no ht
    rw [a, b]
    exact fun m => ⟨(fun z => nomatch z), fun z => nomatch z.1⟩
  | some g =>
    refine kpL_mono ?_ (h.kp g ht)
    show g - s.P.lt ≤ (if g < n then n else g) - s.P.lt
    split <;> omega
theorem kpI_read {s : RdS} {rd : List Int} {n : Int} {hd : List Int} (h : KpI s rd) (hn : ∀ g, s.top = some g → g - s.P.lt ≤ n) : KpI (comeF (putH s n hd) n) (rd ++ [n]) := by
  refine ⟨(fun z => nomatch z), fun g hg => ?_⟩
  have hg : some (topF s.top n) = some g := hg
  obtain rfl := Option.some.inj hg
  show KpL (keyH ((s.held ++ [(n, hd)]).filter fun h => stayB (topF s.top n - s.P.lt) (belF (keyH (s.held ++ [(n, hd)])) (topF s.top n - s.P.lt)) h.1)) (rd ++ [n]) (topF s.top n - s.P.lt)
  rw [key_filter, show keyH (s.held ++ [(n, hd)]) = keyH s.held ++ [n] by unfold keyH; rw [List.map_append]; rfl]
  cases ht : s.top with
  | none =>
    obtain ⟨a, b⟩ := h.no ht
    rw [a, b]
    show KpL ([n].filter _) [n] (n - s.P.lt)
    exact kpL_mono (e := n - s.P.lt) (Int.le_refl _) (K := [n]) fun m => by
      refine ⟨fun z => ⟨z, ?_⟩, fun z => z.1⟩
      obtain rfl := List.mem_singleton.mp z
      rcases belF_spec [m] (m - s.P.lt) with ⟨a, b⟩ | ⟨k, a, b, c, d⟩
      · have := b m (List.mem_singleton.mpr rfl)
        exact stay_iff.mpr (.inl (by omega))
      · obtain rfl := List.mem_singleton.mp b
        exact stay_iff.mpr (.inr a)
  | some g =>
    refine kpL_mono ?_ (kpL_app (hn g ht) (h.kp g ht))
    show g - s.P.lt ≤ (if g < n then n else g) - s.P.lt
    split <;> omega
theorem kpI_new {s : RdS} {rd : List Int} {n : Int} (h : KpI s rd) (hn : ∀ g, s.top = some g → g - s.P.lt ≤ n) (nn : hdV s.held n = none) : n ∉ rd := fun z => by
  cases ht : s.top with
  | none =>
    rw [(h.no ht).2] at z
    cases z
  | some g =>
    exact hdV_none.mp nn ((h.kp g ht n).mpr ⟨z, stay_iff.mpr (.inl (hn g ht))⟩)
theorem nodup_snoc {rd : List Int} {n : Int} (h : rd.Nodup) (hn : n ∉ rd) : (rd ++ [n]).Nodup := by
  rw [List.nodup_append]
  exact ⟨h, List.nodup_cons.mpr ⟨(fun z => nomatch z), List.nodup_nil⟩, fun a ha b hb z => hn (by rw [← List.mem_singleton.mp hb, ← z]; exact ha)⟩
theorem kpI_perm {s : RdS} {rd ys : List Int} (h : KpI s rd) (nd : (s.held.map (·.1)).Nodup) (nr : rd.Nodup) (py : ys.Perm (rd.filter (stayB (edgeO s.P.lt s.top) (belF rd (edgeO s.P.lt s.top))))) : (keyH s.held).Perm ys := by
  refine List.Perm.trans ?_ py.symm
  cases ht : s.top with
  | none =>
    obtain ⟨a, b⟩ := h.no ht
    rw [a, b]
    exact .refl _
  | some g =>
    refine (List.perm_ext_iff_of_nodup nd (nr.filter _)).mpr fun n => ?_
    rw [List.mem_filter]
    exact h.kp g ht n
theorem held_all {hs : List (Int × List Int)} {hd : List Int} (all : ∀ h ∈ hs, h.2 = hd) : (keyH hs).map (fun y => (y, hd)) = hs := by
  unfold keyH
  rw [List.map_map]
  exact (List.map_congr_left fun h hm => by
    show (h.1, hd) = h
    rw [← all h hm]).trans (List.map_id _)
theorem kpI_heads {s : RdS} {rd ys : List Int} {hd : List Int} (all : ∀ h ∈ s.held, h.2 = hd) (p : (keyH s.held).Perm ys) : s.held.Perm (ys.map fun y => (y, hd)) := by
  rw [← held_all all]
  exact p.map _
/-- a law's own book of all that was read -/
def MkAt (H : Hp) (d l : Addr) (t : Option Int) (rd : List Int) : Prop := H d = some (.dK [(.inr "top", oV t), (.inr "read", .ref l)]) ∧ H l = some (.lst (rd.map V.int))
section
variable {W : Wd} {H H' : Hp} {p l d k : Addr} {s : RdS} {t : Option Int} {rd : List Int} {v : V}
theorem mk_sx (e : Sx H H') (h : MkAt H d k t rd) : MkAt H' d k t rd := ⟨e.keep _ _ h.1 rfl, e.keep _ _ h.2 rfl⟩
theorem mk_same (e : Same H H') (h : MkAt H d k t rd) : MkAt H' d k t rd := ⟨e _ _ h.1, e _ _ h.2⟩
theorem mkm_st (h : MkAt H d k t rd) (e : Mv d k H H') : St H H' := fun a u ha q => e a u ha (fun z => by
    rw [z, h.1] at ha
    cases ha
    exact q) fun z => by
    rw [z, h.2] at ha
    cases ha
    exact q
theorem mkm_box {b : Bool} {n : Int} (h : MkAt H d k t rd) (e : Mv d k H H') (hb : BoxAt W b n H v) : BoxAt W b n H' v := by
  obtain ⟨q, o, j, rfl, hpo, hj, hp, ho⟩ := hb
  refine ⟨q, o, j, rfl, hpo, hj, e _ _ hp (fun z => ?_) fun z => ?_, e _ _ ho (fun z => ?_) fun z => ?_⟩
  · rw [z, h.1] at hp
    cases hp
  · rw [z, h.2] at hp
    cases hp
  · rw [z, h.1] at ho
    cases ho
  · rw [z, h.2] at ho
    cases ho
theorem mkm_rd (hm : MkAt H d k t rd) (e : Mv d k H H') (n1 : l ≠ d) (h : RdAt W H p l s) : RdAt W H' p l s := by
  have st := mkm_st hm e
  obtain ⟨dx, vp, ks, h1, h2, h3, h4⟩ := h
  obtain ⟨g1, g2⟩ := hm
  have m1 : p ≠ d := fun z => by rw [← z, h1] at g1; cases g1
  have m2 : p ≠ k := fun z => by rw [← z, h1] at g2; cases g2
  have m3 : l ≠ k := fun z => by rw [← z, h3] at g2; cases g2
  exact ⟨dx, vp, ks, e _ _ h1 m1 m2, dqt st h2 (tupO_pt _), e _ _ h3 n1 m3, hdk_st st h4⟩
theorem rdm_mk (h : RdAt W H p l s) (e : Mv p l H H') (n1 : d ≠ l) (hm : MkAt H d k t rd) : MkAt H' d k t rd := by
  obtain ⟨dx, vp, ks, h1, _, h3, _⟩ := h
  obtain ⟨g1, g2⟩ := hm
  have m1 : d ≠ p := fun z => by rw [z, h1] at g1; cases g1
  have m2 : k ≠ p := fun z => by rw [z, h1] at g2; cases g2
  have m3 : k ≠ l := fun z => by rw [z, h3] at g2; cases g2
  exact ⟨e _ _ g1 m1 n1, e _ _ g2 m2 m3⟩
end
theorem mk_setTop {H : Hp} {d l : Addr} {t : Option Int} {rd : List Int} {n : Int} {kk : Hp → Prop} (h : MkAt H d l t rd) (q : ∀ H', Mv d l H H' → (∀ a, H' a = none → H a = none) → MkAt H' d l (some n) rd → kk H') : rSetU (.ref d) (.str "top") (.int n) H kk := by
  obtain ⟨h1, h2⟩ := h
  have n1 : l ≠ d := fun z => by rw [z, h1] at h2; cases h2
  refine w_dputs h1 (by show 2 < 1000; decide) (q _ mv_upd1 (fun a e => upd_noneD e) ⟨?_, ?_⟩)
  · rw [upd_same]
    rfl
  · rw [upd_ne n1]
    exact h2
theorem mk_app {H : Hp} {d l : Addr} {t : Option Int} {rd : List Int} {n : Int} {Q : VK} (h : MkAt H d l t rd) (hl : rd.length ≤ 1000) (q : ∀ H', Mv d l H H' → (∀ a, H' a = none → H a = none) → MkAt H' d l t (rd ++ [n]) → Q .non H') : rAppend (.ref l) [.int n] H Q := by
  obtain ⟨h1, h2⟩ := h
  have n1 : d ≠ l := fun z => by rw [← z, h1] at h2; cases h2
  refine w_append h2 (by rw [List.length_map]; omega) (q _ mv_upd2 (fun a e => upd_noneD e) ⟨?_, ?_⟩)
  · rw [upd_ne n1]
    exact h1
  · rw [upd_same, List.map_append]
    rfl
theorem topF_max {t : Option Int} {n : Int} : topF t n = match t with
  | none => n
  | some g => if g > n then g else n := by
  cases t with
  | none => rfl
  | some g =>
    show (if g < n then n else g) = if g > n then g else n
    split <;> split <;> omega
theorem w_DB2r {Q : VK} {H : Hp} {p : Addr} {x1 x2 : V} (h : H p = some (.dK [])) (q : Q (.ref p) (upd H p (.dK [(.inr "top", x1), (.inr "read", x2)]))) : DB Q p [(.str "top", x1), (.str "read", x2)] H :=
  ⟨h, [(.inr "top", x1), (.inr "read", x2)], rfl, (by decide : 2 ≤ 15), q⟩
theorem mk_new {H H7 : Hp} {d k : Addr} (nd : H d = none) (nk : upd H d (.dK []) k = none) (e7 : Same (upd H d (.dK [])) H7) (hk : H7 k = some (.lst [])) :
    Same H (upd H7 d (.dK [(.inr "top", .non), (.inr "read", .ref k)])) ∧ d ≠ k ∧ H k = none ∧ MkAt (upd H7 d (.dK [(.inr "top", .non), (.inr "read", .ref k)])) d k none [] := by
  have ndk : d ≠ k := fun z => by rw [← z, upd_same] at nk; cases nk
  rw [upd_ne ndk.symm] at nk
  refine ⟨fun a u h => ?_, ndk, nk, upd_same, ?_⟩
  · have na : a ≠ d := fun z => by rw [z, nd] at h; cases h
    rw [upd_ne na]
    exact e7 a u (by rw [upd_ne na]; exact h)
  · rw [upd_ne ndk.symm]
    exact hk
theorem plD_readW {s : RdS} {n : Int} {hd : List Int} (h : hd.length ≤ 1000) : PlD 6 (tlD (readW s n hd).1) := plD_tl fun m g e => by
  unfold readW at e
  split at e
  · cases e
  · split at e
    · cases e
    · cases e
      exact h
theorem readW_all {s : RdS} {n : Int} {hd : List Int} (all : ∀ h ∈ s.held, h.2 = hd) : ∀ h ∈ (readW s n hd).2.held, h.2 = hd := by
  unfold readW
  split
  · exact all
  · split
    · exact all
    · exact come_all (put_all all)
theorem readW_P {s : RdS} {n : Int} {hd : List Int} : (readW s n hd).2.P = s.P ∧ (readW s n hd).2.held.length ≤ s.held.length + 1 := by
  unfold readW
  split
  · exact ⟨rfl, Nat.le_succ _⟩
  · split
    · exact ⟨rfl, Nat.le_succ _⟩
    · refine ⟨rfl, Nat.le_trans come_len ?_⟩
      show (s.held ++ [(n, hd)]).length ≤ _
      rw [List.length_append]
      exact Nat.le_refl _
theorem readW_tops {s : RdS} {n : Int} {hd : List Int} : (readW s n hd).2.top = s.top ∨ (readW s n hd).2.top = some (topF s.top n) := by
  unfold readW
  split
  · exact .inl rfl
  · split
    · exact .inl rfl
    · exact .inr rfl
theorem readF_tops {s : RdS} {r n : Int} {hd : List Int} : (readF s r n hd).2.top = s.top ∨ (readF s r n hd).2.top = some (topF s.top n) := by
  unfold readF
  split
  · exact .inl rfl
  · split
    · exact .inl rfl
    · split
      · exact .inr rfl
      · split
        · exact .inr rfl
        · exact .inr rfl
theorem ints_filter {P : Int → Bool} {ns : List Int} {i : Nat} {n : Int} {acc : List V} (h : ns[i]? = some n) (ea : acc = ((ns.take i).filter P).map V.int) (c : P n = true) : acc ++ [V.int n] = ((ns.take (i + 1)).filter P).map V.int := by
  rw [filter_snoc h, if_pos c, List.map_append, ea]
  rfl
theorem ints_skip {P : Int → Bool} {ns : List Int} {i : Nat} {n : Int} {acc : List V} (h : ns[i]? = some n) (ea : acc = ((ns.take i).filter P).map V.int) (c : P n = false) : acc = ((ns.take (i + 1)).filter P).map V.int := by
  rw [filter_snoc h, if_neg (by rw [c]; decide), List.append_nil, ea]
theorem ints_len {P : Int → Bool} {ns : List Int} {i : Nat} {acc : List V} (ea : acc = ((ns.take i).filter P).map V.int) : acc.length ≤ i := by
  rw [ea, List.length_map]
  exact Nat.le_trans (List.length_filter_le _ _) (by rw [List.length_take]; omega)
theorem w_sortedI {K : PySem.W.Frag} {H : Hp} {Q : VK} {a : Addr} {ns : List Int} (h : SqL K H a (ns.map V.int)) (q : ∀ (ys : List Int) p H', ys.Perm ns → ys.Pairwise (· ≤ ·) → H p = none → Same H H' → H' p = some (.lst (ys.map V.int)) → Q (.ref p) H') : rSortedI K [.ref a] H Q :=
  ⟨a, ns, rfl, h, fun ys p h1 h2 hp => q ys p _ h1 h2 hp (same_new hp) upd_same⟩
end Sh
/-! pairs of a number and a dict of heads, compared -/
namespace Sh
open PySem PySem.Spec PyProof.Rows L2
def EqH (K : PySem.W.Frag) (H : Hp) (x y : V) : Prop := (x = y ∧ flatB x = true) ∨ ∃ (a b : Addr) (ks ls : List (Key × V)), x = .ref a ∧ y = .ref b ∧ H a = some (.dK ks) ∧ H b = some (.dK ls) ∧ ks.length = ls.length ∧ ∀ p ∈ ks, ∃ u h, valV ls p.1 = some u ∧ Dq K H p.2 (headD h) ∧ Dq K H u (headD h)
def rEqTK (K : PySem.W.Frag) : R2 := fun x y H Q => ∃ (a b : Addr) (xs ys : List V), x = .ref a ∧ y = .ref b ∧ SqT K H a xs ∧ SqT K H b ys ∧ Paired (EqH K H) xs ys ∧ Q (.bl true) H
theorem eqH_run {X : Cx} {pins : List (Addr × Obj)} {σ : L2.St} {H : Hp} {s : Shared} {A : Around} (I : Inv X pins σ H s) (hu : A.units + 8 < cLine) {x y : V} {v u : Value} (h : EqH X.K H x y) (rx : RelV x v) (ry : RelV y u) : SeqAt.EqIn X.prog X.w A s v u true := by
  rcases h with ⟨rfl, f⟩ | ⟨a, b, ks, ls, rfl, rfl, ea, eb, hlen, hp⟩
  · exact (eqAt_same rx ry f).inModel _ _
  · obtain rfl : v = Value.ref a := rx
    obtain rfl : u = Value.ref b := ry
    by_cases e : a = b
    · subst e
      exact (SeqAt.EqAt.same _).inModel _ _
    · obtain ⟨_, ya, va, ra, da⟩ := (show ObjOk X.prog X.w H s.heap a (.dK ks) from I.hok a _ ea)
      obtain ⟨_, yb, vb, rb, db⟩ := (show ObjOk X.prog X.w H s.heap b (.dK ls) from I.hok b _ eb)
      have hl : va.length = vb.length := by rw [← ra.length, ← rb.length]; exact hlen
      refine SeqAt.EqIn.of_refs e fun E Q q => ?_
      exact PySem.W.keq_eq (knd := mixKind X.prog X.w) (r := true) ya yb da db (by omega) (fun _ => hits_hd I (by show A.units + 1 + 2 < cLine; omega) rb ra hp) (by
        rw [show (va.length == vb.length && true) = true by simp [hl]]
        exact q)
theorem op_eqTK {X : Cx} (hu : X.A.units + 64 < cLine) : OpR X (compareOp .Eq) (rEqTK X.K) := by
  intro pins s σ H x y v u Q I rx ry h
  obtain ⟨a, b, xs, ys, rfl, rfl, ha, hb, hp, q⟩ := h
  obtain rfl : v = Value.ref a := rx
  obtain rfl : u = Value.ref b := ry
  obtain ⟨us, r1, p1, _⟩ := I.tuple ha
  obtain ⟨ws, r2, p2, _⟩ := I.tuple hb
  have hsz : us.toArray.size = ws.toArray.size := by
    rw [List.size_toArray, List.size_toArray, ← r1.length, ← r2.length]
    exact Paired.length hp
  have it : ∀ {xs ys : List V}, Paired (EqH X.K H) xs ys → ∀ {us ws : List Value}, Vals xs us → Vals ys ws → ∀ j (h1 : j < us.length) (h2 : j < ws.length), SeqAt.EqIn X.prog X.w X.A.in1 s us[j] ws[j] true := by
    intro xs ys hp
    induction hp with
    | nil =>
      intro us ws r1 r2 j h1 h2
      cases r1
      exact absurd h1 (Nat.not_lt_zero j)
    | cons h _ k =>
      intro us ws r1 r2 j h1 h2
      cases r1 with
      | cons a1 b1 =>
        cases r2 with
        | cons a2 b2 =>
          cases j with
          | zero => exact eqH_run I (by show X.A.units + 1 + 8 < cLine; omega) h a1 a2
          | succ j => exact k b1 b2 j (Nat.lt_of_succ_lt_succ h1) (Nat.lt_of_succ_lt_succ h2)
  refine SeqAt.rcIn_tuples (e := fun _ => true) p1 p2 (by omega) (fun j h1 h2 => ?_) ?_
  · have k := it hp r1 r2 j (by simpa using h1) (by simpa using h2)
    simpa using k
  · rw [hsz, show ((List.range (min ws.toArray.size ws.toArray.size)).all fun _ => true) = true from List.all_eq_true.mpr fun _ _ => rfl, Bool.true_and, beq_self_eq_true]
    exact ⟨.bl true, H, I, rfl, q⟩
/-- what is kept, told twice, ahead of and behind what changes nothing -/
theorem w_eqKept {W : Wd} {H : Hp} {Q : VK} {a b q k : Addr} {t : Option Int} {ks ls : List (Key × V)} {hs gs : List (Int × List Int)} (ha : SqT W.K H a [oV t, .ref q]) (hb : SqT W.K H b [oV t, .ref k]) (nd : (gs.map (·.1)).Nodup) (h1 : H q = some (.dK ks)) (g1 : HdK W.K H ks hs) (h2 : H k = some (.dK ls)) (g2 : HdK W.K H ls gs) (pm : hs.Perm gs) (q' : Q (.bl true) H) : rEqTK W.K (.ref a) (.ref b) H Q := by
  refine ⟨a, b, _, _, rfl, rfl, ha, hb, .cons ?_ (.cons ?_ .nil), q'⟩
  · refine .inl ⟨rfl, ?_⟩
    cases t <;> rfl
  · refine .inr ⟨q, k, ks, ls, rfl, rfl, h1, h2, by rw [hdk_len g1, hdk_len g2, pm.length_eq], fun p hp => ?_⟩
    obtain ⟨i, hi⟩ := List.getElem?_of_mem hp
    obtain ⟨h, hh, e1, e2⟩ := hdk_get g1 hi
    have hm : h ∈ gs := pm.mem_iff.mp (List.mem_of_getElem? hh)
    have hv := hdV_nd nd hm
    rcases hdk_val h.1 g2 with ⟨a, _⟩ | ⟨x, v, a, b, c⟩
    · rw [a] at hv
      cases hv
    · obtain rfl := Option.some.inj (hv.symm.trans a)
      exact ⟨v, _, by rw [e1]; exact b, e2, c⟩
theorem dq_pt4 {K : PySem.W.Frag} {H : Hp} {v : V} {P : Pt} (h : Dq K H v (ptD P)) : ∃ a x0 xf r, v = .ref a ∧ SqN K H a [x0, .int P.n, xf, .ref r] ∧ Dq K H x0 (shD P.s) ∧ Dq K H xf (.tuple (P.fs.map fmD)) ∧ SqN K H r [.int P.sk, .int P.gp, .int P.lt, .int P.an] ∧ Dq K H (.ref r) (.tuple [.int P.sk, .int P.gp, .int P.lt, .int P.an]) := by
  obtain ⟨a, xs, rfl, hxs, hds⟩ := dq_tt h
  cases hds with
  | cons a0 r => cases r with
    | cons a1 r => cases r with
      | cons a2 r => cases r with
        | cons a3 r =>
          cases r
          obtain rfl := dq_int a1
          obtain ⟨r, ys, rfl, hys, hds⟩ := dq_tt a3
          cases hds with
          | cons b0 s => cases s with
            | cons b1 s => cases s with
              | cons b2 s => cases s with
                | cons b3 s =>
                  cases s
                  obtain rfl := dq_int b0
                  obtain rfl := dq_int b1
                  obtain rfl := dq_int b2
                  obtain rfl := dq_int b3
                  exact ⟨_, _, _, _, rfl, hxs, a0, a2, hys, a3⟩
theorem snoc_at {α : Type} {l : List α} {x y : α} {i : Nat} {P : Nat → α → Prop} (h : ∀ i y, l[i]? = some y → P i y) (hx : P l.length x) (e : (l ++ [x])[i]? = some y) : P i y := by
  by_cases hi : i < l.length
  · rw [List.getElem?_append_left hi] at e
    exact h i y e
  · rw [List.getElem?_append_right (by omega)] at e
    have z : i = l.length := by
      by_cases c : i - l.length = 0
      · omega
      · rw [List.getElem?_eq_none (by simp; omega)] at e
        cases e
    subst z
    rw [Nat.sub_self] at e
    rw [← Option.some.inj e]
    exact hx
end Sh
/-! roads: a presser, a reader, two rows between -/
namespace Sh
open PySem PySem.Spec PyProof.Rows L2
/-! frames: all but some objects stays -/
def mutU : HO → Prop
  | .lst _ => True
  | .dK _ => True
  | .ins _ _ _ => True
  | _ => False
theorem mut_noT {u : HO} (h : mutU u) : ¬ isTup u := fun z => by
  cases u with
  | frz o w => exact h
  | lst _ => exact z
  | dK _ => exact z
  | ins _ _ _ => exact z
  | _ => exact h
def Mo (A : List Addr) (H H' : Hp) : Prop := ∀ x u, H x = some u → x ∉ A → H' x = some u
def MutA (A : List Addr) (H : Hp) : Prop := ∀ x ∈ A, ∃ u, H x = some u ∧ mutU u
def NewA (A A' : List Addr) (H : Hp) : Prop := ∀ x ∈ A', x ∈ A ∨ H x = none
section
variable {W : Wd} {A A' A2 : List Addr} {H H' H2 H0 : Hp} {p l x : Addr} {v : V} {b : Bool} {n : Int} {u : HO}
theorem Mo.same (e : Same H H') : Mo A H H' := fun x u h _ => e x u h
theorem Mo.mv (e : Mv p l H H') (hp : p ∈ A) (hl : l ∈ A) : Mo A H H' := fun x u h n => e x u h (fun z => n (z ▸ hp)) fun z => n (z ▸ hl)
theorem mo_upd (hx : x ∈ A) : Mo A H (upd H x u) := fun y w h n => by
  rw [upd_ne (show y ≠ x from fun z => n (by rw [z]; exact hx))]
  exact h
theorem mo_trans (e : Mo A H H') (w : NewA A A' H) (e' : Mo A' H' H2) : Mo A H H2 := fun x u h n => e' x u (e x u h n) fun z => by
  rcases w x z with z | z
  · exact n z
  · rw [z] at h
    cases h
theorem NewA.refl : NewA A A H := fun _ h => .inl h
theorem newA_trans (e : Mo A H H') (w : NewA A A' H) (w' : NewA A' A2 H') : NewA A A2 H := fun x h => by
  rcases w' x h with z | z
  · exact w x z
  · cases c : H x with
    | none => exact .inr rfl
    | some u =>
      by_cases m : x ∈ A
      · exact .inl m
      · rw [e x u c m] at z
        cases z
theorem newA_out (w : NewA A A' H) (h : H x = some u) (n : x ∉ A) : x ∉ A' := fun z => by
  rcases w x z with z | z
  · exact n z
  · rw [z] at h
    cases h
theorem mo_st (m : MutA A H) (e : Mo A H H') : St H H' := fun x u h t => e x u h fun z => by
  obtain ⟨w, h2, mw⟩ := m x z
  rw [h] at h2
  rw [← Option.some.inj h2] at mw
  exact mut_noT mw t
theorem mo_box (m : MutA A H) (e : Mo A H H') (hb : BoxAt W b n H v) : BoxAt W b n H' v := by
  obtain ⟨q, o, k, rfl, hpo, hk, hp, ho⟩ := hb
  have key : ∀ y w, H y = some (.ext w) → H' y = some (.ext w) := fun y w h => e y _ h fun z => by
    obtain ⟨u, h2, mu⟩ := m y z
    rw [h] at h2
    rw [← Option.some.inj h2] at mu
    exact mu
  exact ⟨q, o, k, rfl, hpo, hk, key _ _ hp, key _ _ ho⟩
theorem mo_sx (e0 : Sx H0 H) (n : ∀ x ∈ A, H0 x = none) (e : Mo A H H') : Sx H0 H' := by
  have ne : ∀ x u, H0 x = some u → x ∉ A := fun x u h z => by
    rw [n x z] at h
    cases h
  refine ⟨fun x u h hn => e x u (e0.keep x u h hn) (ne x u h), fun x u h => ?_⟩
  obtain ⟨w, hw⟩ := e0.there x u h
  exact ⟨w, e x w hw (ne x u h)⟩
theorem newA_none (e0 : Sx H0 H) (n : ∀ x ∈ A, H0 x = none) (w : NewA A A' H) : ∀ x ∈ A', H0 x = none := fun x h => by
  rcases w x h with z | z
  · exact n x z
  · exact none_sx e0 z
end
/-! the road -/
structure RoA where
  r : Addr
  p : Addr
  l : Addr
  q : Addr
  h : Addr
  L : Addr
  B : Addr
  R : Addr
def RoA.all (a : RoA) : List Addr := [a.r, a.p, a.l, a.q, a.h, a.L, a.B, a.R]
structure RoS where
  pr : PrS
  rd : RdS
  line : List (Int × Str)
  back : List (Option Int)
  row : List (List Int)
  came : Option Int
def roF (vp : V) (a : RoA) (c : Option Int) : List (Str × V) := [("pact", vp), ("one_end", .ref a.p), ("other_end", .ref a.q), ("line", .ref a.L), ("back", .ref a.B), ("whole_row", .ref a.R), ("came_most", oV c)]
def lnD (x : Int × Str) : PyData := .tuple [.int x.1, .str x.2]
structure RoAt (W : Wd) (H : Hp) (a : RoA) (s : RoS) : Prop where
  nd : a.all.Nodup
  ob : ∃ (dx : Addr) (vp : V), H a.r = some (.ins (clsOf W.K "Road") dx (roF vp a s.came)) ∧ Dq W.K H vp (ptD s.pr.P)
  pr : PrAt W H a.p a.l s.pr
  rd : RdAt W H a.q a.h s.rd
  L : ∃ ls, H a.L = some (.lst ls) ∧ DqAll W.K H ls (s.line.map lnD)
  B : ∃ bs, H a.B = some (.lst bs) ∧ DqAll W.K H bs (s.back.map wdD)
  R : ∃ hs, H a.R = some (.lst hs) ∧ DqAll W.K H hs (s.row.map headD)
theorem tupO_wd (o : Option Int) : tupO (wdD o) := by
  cases o
  · exact ⟨trivial, trivial⟩
  · exact ⟨trivial, trivial, trivial⟩
theorem tupOs_wds (bs : List (Option Int)) : tupOs (bs.map wdD) := tupOs_of fun d hd => by
  obtain ⟨g, _, rfl⟩ := List.mem_map.mp hd
  exact tupO_wd g
theorem tupO_ln (x : Int × Str) : tupO (lnD x) := ⟨trivial, trivial, trivial⟩
theorem tupOs_lns (ls : List (Int × Str)) : tupOs (ls.map lnD) := tupOs_of fun d hd => by
  obtain ⟨g, _, rfl⟩ := List.mem_map.mp hd
  exact tupO_ln g
theorem nd_ne {A : List Addr} (nd : A.Nodup) {i j : Nat} {x y : Addr} (hx : A[i]? = some x) (hy : A[j]? = some y) (h : i ≠ j) : x ≠ y := fun z => by
  obtain ⟨h1, e1⟩ := List.getElem?_eq_some_iff.mp hx
  obtain ⟨h2, e2⟩ := List.getElem?_eq_some_iff.mp hy
  rcases Nat.lt_or_gt_of_ne h with c | c
  · exact List.pairwise_iff_getElem.mp nd i j h1 h2 c (by rw [e1, e2, z])
  · exact List.pairwise_iff_getElem.mp nd j i h2 h1 c (by rw [e1, e2, z])
section
variable {W : Wd} {H H' H0 : Hp} {a : RoA} {s : RoS} {Q : VK} {k : Hp → Prop} {v : V}
theorem ro_mut (h : RoAt W H a s) : MutA a.all H := fun x hx => by
  obtain ⟨dx, vp, h1, _⟩ := h.ob
  obtain ⟨dx2, vp2, hs2, p1, _, p3, _⟩ := h.pr
  obtain ⟨dx3, vp3, hs3, r1, _, r3, _⟩ := h.rd
  obtain ⟨ls, l1, _⟩ := h.L
  obtain ⟨bs, b1, _⟩ := h.B
  obtain ⟨rs, w1, _⟩ := h.R
  have hx : x ∈ [a.r, a.p, a.l, a.q, a.h, a.L, a.B, a.R] := hx
  simp only [List.mem_cons, List.not_mem_nil, or_false] at hx
  rcases hx with rfl | rfl | rfl | rfl | rfl | rfl | rfl | rfl
  · exact ⟨_, h1, trivial⟩
  · exact ⟨_, p1, trivial⟩
  · exact ⟨_, p3, trivial⟩
  · exact ⟨_, r1, trivial⟩
  · exact ⟨_, r3, trivial⟩
  · exact ⟨_, l1, trivial⟩
  · exact ⟨_, b1, trivial⟩
  · exact ⟨_, w1, trivial⟩
theorem ro_sx (e : Sx H H') (h : RoAt W H a s) : RoAt W H' a s := by
  obtain ⟨dx, vp, h1, h2⟩ := h.ob
  obtain ⟨ls, l1, l2⟩ := h.L
  obtain ⟨bs, b1, b2⟩ := h.B
  obtain ⟨rs, w1, w2⟩ := h.R
  exact ⟨h.nd, ⟨dx, vp, e.keep _ _ h1 rfl, dqx e h2⟩, pr_sx e h.pr, rd_sx e h.rd, ⟨ls, e.keep _ _ l1 rfl, dqsx e l2⟩, ⟨bs, e.keep _ _ b1 rfl, dqsx e b2⟩, ⟨rs, e.keep _ _ w1 rfl, dqsx e w2⟩⟩
theorem ro_same (e : Same H H') (h : RoAt W H a s) : RoAt W H' a s := ro_sx (Same.sx e) h
/-- what lies outside is changed -/
theorem ro_mo {A : List Addr} (m : MutA A H) (d : ∀ x ∈ a.all, x ∉ A) (e : Mo A H H') (h : RoAt W H a s) : RoAt W H' a s := by
  have st := mo_st m e
  obtain ⟨dx, vp, h1, h2⟩ := h.ob
  obtain ⟨dx2, vp2, hs2, p1, p2, p3, p4⟩ := h.pr
  obtain ⟨dx3, vp3, hs3, r1, r2, r3, r4⟩ := h.rd
  obtain ⟨ls, l1, l2⟩ := h.L
  obtain ⟨bs, b1, b2⟩ := h.B
  obtain ⟨rs, w1, w2⟩ := h.R
  have k : ∀ {i : Nat} {x u}, a.all[i]? = some x → H x = some u → H' x = some u := fun hi hx => e _ _ hx (d _ (List.mem_of_getElem? hi))
  exact ⟨h.nd, ⟨dx, vp, k (i := 0) rfl h1, dqt st h2 (tupO_pt _)⟩, ⟨dx2, vp2, hs2, k (i := 1) rfl p1, dqt st p2 (tupO_pt _), k (i := 2) rfl p3, dqst st p4 (tupOs_heads _)⟩, ⟨dx3, vp3, hs3, k (i := 3) rfl r1, dqt st r2 (tupO_pt _), k (i := 4) rfl r3, hdk_st st r4⟩,
    ⟨ls, k (i := 5) rfl l1, dqst st l2 (tupOs_lns _)⟩, ⟨bs, k (i := 6) rfl b1, dqst st b2 (tupOs_wds _)⟩, ⟨rs, k (i := 7) rfl w1, dqst st w2 (tupOs_heads _)⟩⟩
/-- the presser moves -/
theorem ro_pr {s' : PrS} (h : RoAt W H a s) (e : Mv a.p a.l H H') (hp : PrAt W H' a.p a.l s') (eP : s'.P = s.pr.P) : RoAt W H' a ⟨s', s.rd, s.line, s.back, s.row, s.came⟩ := by
  have m : ∀ x ∈ [a.p, a.l], x ∈ a.all := fun x hx => by
    simp only [List.mem_cons, List.not_mem_nil, or_false] at hx
    rcases hx with rfl | rfl
    · exact List.mem_of_getElem? (i := 1) rfl
    · exact List.mem_of_getElem? (i := 2) rfl
  have st := prm_st h.pr e
  obtain ⟨dx, vp, h1, h2⟩ := h.ob
  obtain ⟨dx3, vp3, hs3, r1, r2, r3, r4⟩ := h.rd
  obtain ⟨ls, l1, l2⟩ := h.L
  obtain ⟨bs, b1, b2⟩ := h.B
  obtain ⟨rs, w1, w2⟩ := h.R
  have k : ∀ {i : Nat} {x u}, i ≠ 1 → i ≠ 2 → a.all[i]? = some x → H x = some u → H' x = some u := fun n1 n2 hi hx => e _ _ hx (nd_ne h.nd hi (j := 1) rfl n1) (nd_ne h.nd hi (j := 2) rfl n2)
  exact ⟨h.nd, ⟨dx, vp, k (i := 0) (by decide) (by decide) rfl h1, by show Dq W.K H' vp (ptD s'.P); rw [eP]; exact dqt st h2 (tupO_pt _)⟩, hp, ⟨dx3, vp3, hs3, k (i := 3) (by decide) (by decide) rfl r1, dqt st r2 (tupO_pt _), k (i := 4) (by decide) (by decide) rfl r3, hdk_st st r4⟩,
    ⟨ls, k (i := 5) (by decide) (by decide) rfl l1, dqst st l2 (tupOs_lns _)⟩, ⟨bs, k (i := 6) (by decide) (by decide) rfl b1, dqst st b2 (tupOs_wds _)⟩, ⟨rs, k (i := 7) (by decide) (by decide) rfl w1, dqst st w2 (tupOs_heads _)⟩⟩
def RoA.setH (a : RoA) (h : Addr) : RoA := ⟨a.r, a.p, a.l, a.q, h, a.L, a.B, a.R⟩
theorem setH_new {h' : Addr} (n : h' = a.h ∨ H h' = none) : NewA a.all (a.setH h').all H := fun x hx => by
  have hx : x ∈ [a.r, a.p, a.l, a.q, h', a.L, a.B, a.R] := hx
  simp only [List.mem_cons, List.not_mem_nil, or_false] at hx
  rcases hx with rfl | rfl | rfl | rfl | rfl | rfl | rfl | rfl
  · exact .inl (List.mem_of_getElem? (i := 0) rfl)
  · exact .inl (List.mem_of_getElem? (i := 1) rfl)
  · exact .inl (List.mem_of_getElem? (i := 2) rfl)
  · exact .inl (List.mem_of_getElem? (i := 3) rfl)
  · rcases n with z | z
    · exact .inl (z ▸ List.mem_of_getElem? (i := 4) rfl)
    · exact .inr z
  · exact .inl (List.mem_of_getElem? (i := 5) rfl)
  · exact .inl (List.mem_of_getElem? (i := 6) rfl)
  · exact .inl (List.mem_of_getElem? (i := 7) rfl)
theorem setH_nd {h' : Addr} (nd : a.all.Nodup) (n : h' = a.h ∨ ∀ x ∈ a.all, x ≠ h') : (a.setH h').all.Nodup := by
  rcases n with z | z
  · rw [z]; exact nd
  · have nd : [a.r, a.p, a.l, a.q, a.h, a.L, a.B, a.R].Nodup := nd
    have z : ∀ x ∈ [a.r, a.p, a.l, a.q, a.h, a.L, a.B, a.R], x ≠ h' := z
    show [a.r, a.p, a.l, a.q, h', a.L, a.B, a.R].Nodup
    simp only [List.nodup_cons, List.mem_cons, List.not_mem_nil, or_false, not_or, List.nodup_nil, and_true, not_false_eq_true, forall_eq_or_imp, forall_eq] at nd z ⊢
    obtain ⟨⟨a1, a2, a3, a4, a5, a6, a7⟩, ⟨b2, b3, b4, b5, b6, b7⟩, ⟨c3, c4, c5, c6, c7⟩, ⟨d4, d5, d6, d7⟩, ⟨f5, f6, f7⟩, ⟨g6, g7⟩, i7⟩ := nd
    obtain ⟨z0, z1, z2, z3, z4, z5, z6, z7⟩ := z
    exact ⟨⟨a1, a2, a3, z0, a5, a6, a7⟩, ⟨b2, b3, z1, b5, b6, b7⟩, ⟨c3, z2, c5, c6, c7⟩, ⟨z3, d5, d6, d7⟩, ⟨Ne.symm z5, Ne.symm z6, Ne.symm z7⟩, ⟨g6, g7⟩, i7⟩
/-- the reader moves -/
theorem ro_rd {s' : RdS} {h' : Addr} (h : RoAt W H a s) (e : Mv a.q a.h H H') (n : h' = a.h ∨ H h' = none) (hp : RdAt W H' a.q h' s') : RoAt W H' (a.setH h') ⟨s.pr, s', s.line, s.back, s.row, s.came⟩ := by
  have st := rdm_st h.rd e
  have mu := ro_mut h
  have nd' : (a.setH h').all.Nodup := setH_nd h.nd (n.imp id fun z x hx w => by
    obtain ⟨u, hu, _⟩ := mu x hx
    rw [w, z] at hu
    cases hu)
  obtain ⟨dx, vp, h1, h2⟩ := h.ob
  obtain ⟨dx2, vp2, hs2, p1, p2, p3, p4⟩ := h.pr
  obtain ⟨ls, l1, l2⟩ := h.L
  obtain ⟨bs, b1, b2⟩ := h.B
  obtain ⟨rs, w1, w2⟩ := h.R
  have k : ∀ {i : Nat} {x u}, i ≠ 3 → i ≠ 4 → a.all[i]? = some x → H x = some u → H' x = some u := fun n1 n2 hi hx => e _ _ hx (nd_ne h.nd hi (j := 3) rfl n1) (nd_ne h.nd hi (j := 4) rfl n2)
  exact ⟨nd', ⟨dx, vp, k (i := 0) (by decide) (by decide) rfl h1, dqt st h2 (tupO_pt _)⟩, ⟨dx2, vp2, hs2, k (i := 1) (by decide) (by decide) rfl p1, dqt st p2 (tupO_pt _), k (i := 2) (by decide) (by decide) rfl p3, dqst st p4 (tupOs_heads _)⟩, hp,
    ⟨ls, k (i := 5) (by decide) (by decide) rfl l1, dqst st l2 (tupOs_lns _)⟩, ⟨bs, k (i := 6) (by decide) (by decide) rfl b1, dqst st b2 (tupOs_wds _)⟩, ⟨rs, k (i := 7) (by decide) (by decide) rfl w1, dqst st w2 (tupOs_heads _)⟩⟩
theorem ro_st1 {i : Nat} {x : Addr} {u : HO} (h : RoAt W H a s) (hi : a.all[i]? = some x) : St H (upd H x u) := mo_st (A := [x]) (fun y hy => by
  rw [List.mem_singleton.mp hy]
  exact ro_mut h _ (List.mem_of_getElem? hi)) (mo_upd (List.mem_singleton.mpr rfl))
/-- a row changes -/
theorem ro_L {ls : List V} {l' : List (Int × Str)} (h : RoAt W H a s) (d : DqAll W.K H ls (l'.map lnD)) : RoAt W (upd H a.L (.lst ls)) a ⟨s.pr, s.rd, l', s.back, s.row, s.came⟩ := by
  have st := ro_st1 (i := 5) (u := .lst ls) h rfl
  obtain ⟨dx, vp, h1, h2⟩ := h.ob
  obtain ⟨dx2, vp2, hs2, p1, p2, p3, p4⟩ := h.pr
  obtain ⟨dx3, vp3, hs3, r1, r2, r3, r4⟩ := h.rd
  obtain ⟨bs, b1, b2⟩ := h.B
  obtain ⟨rs, w1, w2⟩ := h.R
  have k : ∀ {i : Nat} {x w}, i ≠ 5 → a.all[i]? = some x → H x = some w → upd H a.L (.lst ls) x = some w := fun n1 hi hx => by
    rw [upd_ne (nd_ne h.nd hi (j := 5) rfl n1)]
    exact hx
  exact ⟨h.nd, ⟨dx, vp, k (i := 0) (by decide) rfl h1, dqt st h2 (tupO_pt _)⟩, ⟨dx2, vp2, hs2, k (i := 1) (by decide) rfl p1, dqt st p2 (tupO_pt _), k (i := 2) (by decide) rfl p3, dqst st p4 (tupOs_heads _)⟩, ⟨dx3, vp3, hs3, k (i := 3) (by decide) rfl r1, dqt st r2 (tupO_pt _), k (i := 4) (by decide) rfl r3, hdk_st st r4⟩,
    ⟨ls, upd_same, dqst st d (tupOs_lns _)⟩, ⟨bs, k (i := 6) (by decide) rfl b1, dqst st b2 (tupOs_wds _)⟩, ⟨rs, k (i := 7) (by decide) rfl w1, dqst st w2 (tupOs_heads _)⟩⟩
theorem ro_B {bs : List V} {b' : List (Option Int)} (h : RoAt W H a s) (d : DqAll W.K H bs (b'.map wdD)) : RoAt W (upd H a.B (.lst bs)) a ⟨s.pr, s.rd, s.line, b', s.row, s.came⟩ := by
  have st := ro_st1 (i := 6) (u := .lst bs) h rfl
  obtain ⟨dx, vp, h1, h2⟩ := h.ob
  obtain ⟨dx2, vp2, hs2, p1, p2, p3, p4⟩ := h.pr
  obtain ⟨dx3, vp3, hs3, r1, r2, r3, r4⟩ := h.rd
  obtain ⟨ls, l1, l2⟩ := h.L
  obtain ⟨rs, w1, w2⟩ := h.R
  have k : ∀ {i : Nat} {x w}, i ≠ 6 → a.all[i]? = some x → H x = some w → upd H a.B (.lst bs) x = some w := fun n1 hi hx => by
    rw [upd_ne (nd_ne h.nd hi (j := 6) rfl n1)]
    exact hx
  exact ⟨h.nd, ⟨dx, vp, k (i := 0) (by decide) rfl h1, dqt st h2 (tupO_pt _)⟩, ⟨dx2, vp2, hs2, k (i := 1) (by decide) rfl p1, dqt st p2 (tupO_pt _), k (i := 2) (by decide) rfl p3, dqst st p4 (tupOs_heads _)⟩, ⟨dx3, vp3, hs3, k (i := 3) (by decide) rfl r1, dqt st r2 (tupO_pt _), k (i := 4) (by decide) rfl r3, hdk_st st r4⟩,
    ⟨ls, k (i := 5) (by decide) rfl l1, dqst st l2 (tupOs_lns _)⟩, ⟨bs, upd_same, dqst st d (tupOs_wds _)⟩, ⟨rs, k (i := 7) (by decide) rfl w1, dqst st w2 (tupOs_heads _)⟩⟩
theorem ro_R {hs : List V} {r' : List (List Int)} (h : RoAt W H a s) (d : DqAll W.K H hs (r'.map headD)) : RoAt W (upd H a.R (.lst hs)) a ⟨s.pr, s.rd, s.line, s.back, r', s.came⟩ := by
  have st := ro_st1 (i := 7) (u := .lst hs) h rfl
  obtain ⟨dx, vp, h1, h2⟩ := h.ob
  obtain ⟨dx2, vp2, hs2, p1, p2, p3, p4⟩ := h.pr
  obtain ⟨dx3, vp3, hs3, r1, r2, r3, r4⟩ := h.rd
  obtain ⟨ls, l1, l2⟩ := h.L
  obtain ⟨bs, b1, b2⟩ := h.B
  have k : ∀ {i : Nat} {x w}, i ≠ 7 → a.all[i]? = some x → H x = some w → upd H a.R (.lst hs) x = some w := fun n1 hi hx => by
    rw [upd_ne (nd_ne h.nd hi (j := 7) rfl n1)]
    exact hx
  exact ⟨h.nd, ⟨dx, vp, k (i := 0) (by decide) rfl h1, dqt st h2 (tupO_pt _)⟩, ⟨dx2, vp2, hs2, k (i := 1) (by decide) rfl p1, dqt st p2 (tupO_pt _), k (i := 2) (by decide) rfl p3, dqst st p4 (tupOs_heads _)⟩, ⟨dx3, vp3, hs3, k (i := 3) (by decide) rfl r1, dqt st r2 (tupO_pt _), k (i := 4) (by decide) rfl r3, hdk_st st r4⟩,
    ⟨ls, k (i := 5) (by decide) rfl l1, dqst st l2 (tupOs_lns _)⟩, ⟨bs, k (i := 6) (by decide) rfl b1, dqst st b2 (tupOs_wds _)⟩, ⟨hs, upd_same, dqst st d (tupOs_heads _)⟩⟩
theorem w_roSetCame {c : Option Int} (h : RoAt W H a s) (q : ∀ H', Mo a.all H H' → RoAt W H' a ⟨s.pr, s.rd, s.line, s.back, s.row, c⟩ → k H') : SfOk (clsOf W.K "Road") "came_most" (oV c) k (.ref a.r) H := by
  obtain ⟨dx, vp, h1, h2⟩ := h.ob
  have st := ro_st1 (i := 0) (u := .ins (clsOf W.K "Road") dx (putF "came_most" (oV c) (roF vp a s.came))) h rfl
  obtain ⟨dx2, vp2, hs2, p1, p2, p3, p4⟩ := h.pr
  obtain ⟨dx3, vp3, hs3, r1, r2, r3, r4⟩ := h.rd
  obtain ⟨ls, l1, l2⟩ := h.L
  obtain ⟨bs, b1, b2⟩ := h.B
  obtain ⟨rs, w1, w2⟩ := h.R
  have k : ∀ {i : Nat} {x w}, i ≠ 0 → a.all[i]? = some x → H x = some w → upd H a.r (.ins (clsOf W.K "Road") dx (putF "came_most" (oV c) (roF vp a s.came))) x = some w := fun n1 hi hx => by
    rw [upd_ne (nd_ne h.nd hi (j := 0) rfl n1)]
    exact hx
  refine w_sfok h1 (by show 7 < 1000; decide) (q _ (mo_upd (List.mem_of_getElem? (i := 0) rfl)) ⟨h.nd, ⟨dx, vp, ?_, dqt st h2 (tupO_pt _)⟩, ⟨dx2, vp2, hs2, k (i := 1) (by decide) rfl p1, dqt st p2 (tupO_pt _), k (i := 2) (by decide) rfl p3, dqst st p4 (tupOs_heads _)⟩, ⟨dx3, vp3, hs3, k (i := 3) (by decide) rfl r1, dqt st r2 (tupO_pt _), k (i := 4) (by decide) rfl r3, hdk_st st r4⟩,
    ⟨ls, k (i := 5) (by decide) rfl l1, dqst st l2 (tupOs_lns _)⟩, ⟨bs, k (i := 6) (by decide) rfl b1, dqst st b2 (tupOs_wds _)⟩, ⟨rs, k (i := 7) (by decide) rfl w1, dqst st w2 (tupOs_heads _)⟩⟩)
  rw [upd_same]
  unfold roF
  rw [pf_miss (by decide +kernel), pf_miss (by decide +kernel), pf_miss (by decide +kernel), pf_miss (by decide +kernel), pf_miss (by decide +kernel), pf_miss (by decide +kernel), pf_hit]
theorem w_roPact (h : RoAt W H a s) (q : ∀ v, Dq W.K H v (ptD s.pr.P) → Q v H) : FdOk (clsOf W.K "Road") "pact" Q (.ref a.r) H := by
  obtain ⟨dx, vp, h1, h2⟩ := h.ob
  exact w_fdok h1 lk_hit (q vp h2)
theorem w_roOne (h : RoAt W H a s) (q : Q (.ref a.p) H) : FdOk (clsOf W.K "Road") "one_end" Q (.ref a.r) H := by
  obtain ⟨dx, vp, h1, h2⟩ := h.ob
  exact w_fdok h1 ((lk_miss (by decide +kernel)).trans lk_hit) q
theorem w_roOther (h : RoAt W H a s) (q : Q (.ref a.q) H) : FdOk (clsOf W.K "Road") "other_end" Q (.ref a.r) H := by
  obtain ⟨dx, vp, h1, h2⟩ := h.ob
  exact w_fdok h1 ((lk_miss (by decide +kernel)).trans ((lk_miss (by decide +kernel)).trans lk_hit)) q
theorem w_roLine (h : RoAt W H a s) (q : Q (.ref a.L) H) : FdOk (clsOf W.K "Road") "line" Q (.ref a.r) H := by
  obtain ⟨dx, vp, h1, h2⟩ := h.ob
  exact w_fdok h1 ((lk_miss (by decide +kernel)).trans ((lk_miss (by decide +kernel)).trans ((lk_miss (by decide +kernel)).trans lk_hit))) q
theorem w_roBack (h : RoAt W H a s) (q : Q (.ref a.B) H) : FdOk (clsOf W.K "Road") "back" Q (.ref a.r) H := by
  obtain ⟨dx, vp, h1, h2⟩ := h.ob
  exact w_fdok h1 ((lk_miss (by decide +kernel)).trans ((lk_miss (by decide +kernel)).trans ((lk_miss (by decide +kernel)).trans ((lk_miss (by decide +kernel)).trans lk_hit)))) q
theorem w_roRow (h : RoAt W H a s) (q : Q (.ref a.R) H) : FdOk (clsOf W.K "Road") "whole_row" Q (.ref a.r) H := by
  obtain ⟨dx, vp, h1, h2⟩ := h.ob
  exact w_fdok h1 ((lk_miss (by decide +kernel)).trans ((lk_miss (by decide +kernel)).trans ((lk_miss (by decide +kernel)).trans ((lk_miss (by decide +kernel)).trans ((lk_miss (by decide +kernel)).trans lk_hit))))) q
theorem w_roCame (h : RoAt W H a s) (q : Q (oV s.came) H) : FdOk (clsOf W.K "Road") "came_most" Q (.ref a.r) H := by
  obtain ⟨dx, vp, h1, h2⟩ := h.ob
  exact w_fdok h1 ((lk_miss (by decide +kernel)).trans ((lk_miss (by decide +kernel)).trans ((lk_miss (by decide +kernel)).trans ((lk_miss (by decide +kernel)).trans ((lk_miss (by decide +kernel)).trans ((lk_miss (by decide +kernel)).trans lk_hit)))))) q
def roNo (m : Str) : Bool := !(m == "pact") && (!(m == "one_end") && (!(m == "other_end") && (!(m == "line") && (!(m == "back") && (!(m == "whole_row") && !(m == "came_most"))))))
theorem w_mtRo {m : Str} {t : TA} {sp : Sp} {E : XK} {σ : L2.St} (h : RoAt W H a s) (n : roNo m = true) (q : t σ H fun vs H2 => sp (.ref a.r :: vs) H2 Q E) : MtOk (clsOf W.K "Road") m t sp E σ Q (.ref a.r) H := by
  obtain ⟨dx, vp, h1, h2⟩ := h.ob
  unfold roNo at n
  simp only [Bool.and_eq_true, Bool.not_eq_true'] at n
  obtain ⟨n1, n2, n3, n4, n5, n6, n7⟩ := n
  exact w_mtok h1 ((lk_miss n1).trans ((lk_miss n2).trans ((lk_miss n3).trans ((lk_miss n4).trans ((lk_miss n5).trans ((lk_miss n6).trans ((lk_miss n7).trans rfl))))))) q
end
/-! rows, cut at a place -/
theorem dqs_erase {K : PySem.W.Frag} {H : Hp} : ∀ {vs : List V} {ds : List PyData} (k : Nat), DqAll K H vs ds → DqAll K H (vs.eraseIdx k) (ds.eraseIdx k)
  | _, _, _, .nil => .nil
  | _, _, 0, .cons _ r => r
  | _, _, k + 1, .cons h r => .cons h (dqs_erase k r)
theorem map_erase {α β : Type} (f : α → β) : ∀ (l : List α) (k : Nat), (l.eraseIdx k).map f = (l.map f).eraseIdx k
  | [], _ => rfl
  | _ :: _, 0 => rfl
  | x :: r, k + 1 => by
    show f x :: (r.eraseIdx k).map f = f x :: (r.map f).eraseIdx k
    rw [map_erase f r k]
theorem w_popK {H : Hp} {Q : VK} {a : Addr} {xs : List V} {k : Nat} {y : V} (h : H a = some (.lst xs)) (hk : xs[k]? = some y) (hl : xs.length ≤ 1000000) (q : Q y (upd H a (.lst (xs.eraseIdx k)))) : rPopAt (.ref a) [.int (k : Int)] H Q := by
  have hk2 := (List.getElem?_eq_some_iff.mp hk).1
  refine ⟨a, xs, (k : Int), k, y, rfl, rfl, h, by omega, by omega, ?_, hk, q⟩
  unfold seqIndex?
  simp
  omega
/-! new roads -/
def Liv (A : List Addr) (H : Hp) : Prop := ∀ x ∈ A, ∃ u, H x = some u
theorem nd_snoc {A : List Addr} {H : Hp} {n : Addr} (nd : A.Nodup) (l : Liv A H) (h : H n = none) : (A ++ [n]).Nodup := by
  rw [List.nodup_append]
  exact ⟨nd, List.nodup_cons.mpr ⟨(fun z => nomatch z), List.nodup_nil⟩, fun x hx y hy z => by
    rw [List.mem_singleton.mp hy] at z
    obtain ⟨u, hu⟩ := l x hx
    rw [z, h] at hu
    cases hu⟩
theorem nd_snoc2 {A : List Addr} {H : Hp} {n m : Addr} (nd : A.Nodup) (l : Liv A H) (h : H n = none) (h2 : H m = none) (nm : n ≠ m) : (A ++ [n] ++ [m]).Nodup := by
  have a := nd_snoc nd l h
  rw [List.nodup_append]
  exact ⟨a, List.nodup_cons.mpr ⟨(fun z => nomatch z), List.nodup_nil⟩, fun x hx y hy z => by
    rw [List.mem_singleton.mp hy] at z
    rcases List.mem_append.mp hx with c | c
    · obtain ⟨u, hu⟩ := l x c
      rw [z, h2] at hu
      cases hu
    · exact nm ((List.mem_singleton.mp c).symm.trans z)⟩
theorem liv_same {A : List Addr} {H H' : Hp} (l : Liv A H) (e : Same H H') : Liv A H' := fun x hx => by
  obtain ⟨u, hu⟩ := l x hx
  exact ⟨u, e _ _ hu⟩
theorem liv_upd {A : List Addr} {H : Hp} {r : Addr} {w : HO} (l : Liv A H) : Liv A (upd H r w) := fun x hx => by
  by_cases c : x = r
  · rw [c, upd_same]
    exact ⟨w, rfl⟩
  · rw [upd_ne c]
    exact l x hx
theorem liv_add {A : List Addr} {H : Hp} {n : Addr} {u : HO} (l : Liv A H) (h : H n = some u) : Liv (A ++ [n]) H := fun x hx => by
  rcases List.mem_append.mp hx with c | c
  · exact l x c
  · rw [List.mem_singleton.mp c]
    exact ⟨u, h⟩
theorem pr_mo {W : Wd} {H H' : Hp} {A : List Addr} {p l : Addr} {s : PrS} (m : MutA A H) (n1 : p ∉ A) (n2 : l ∉ A) (e : Mo A H H') (h : PrAt W H p l s) : PrAt W H' p l s := by
  have st := mo_st m e
  obtain ⟨dx2, vp2, hs2, p1, p2, p3, p4⟩ := h
  exact ⟨dx2, vp2, hs2, e _ _ p1 n1, dqt st p2 (tupO_pt _), e _ _ p3 n2, dqst st p4 (tupOs_heads _)⟩
theorem rd_mo {W : Wd} {H H' : Hp} {A : List Addr} {p l : Addr} {s : RdS} (m : MutA A H) (n1 : p ∉ A) (n2 : l ∉ A) (e : Mo A H H') (h : RdAt W H p l s) : RdAt W H' p l s := by
  have st := mo_st m e
  obtain ⟨dx3, vp3, hs3, r1, r2, r3, r4⟩ := h
  exact ⟨dx3, vp3, hs3, e _ _ r1 n1, dqt st r2 (tupO_pt _), e _ _ r3 n2, hdk_st st r4⟩
theorem mut_one {H : Hp} {r C dx : Addr} {fs : List (Str × V)} (h : H r = some (.ins C dx fs)) : MutA [r] H := fun x hx => by
  rw [List.mem_singleton.mp hx]
  exact ⟨_, h, trivial⟩
theorem roF_mk {vp : V} {a : RoA} : putF "came_most" .non (putF "whole_row" (.ref a.R) (putF "back" (.ref a.B) (putF "line" (.ref a.L) (putF "other_end" (.ref a.q) (putF "one_end" (.ref a.p) (putF "pact" vp [])))))) = roF vp a none := by
  rw [show putF "pact" vp [] = ([("pact", vp)] : List (Str × V)) from rfl,
    show putF "one_end" (V.ref a.p) [("pact", vp)] = ([("pact", vp), ("one_end", V.ref a.p)] : List (Str × V)) from pf_m (by decide +kernel) rfl,
    show putF "other_end" (V.ref a.q) [("pact", vp), ("one_end", V.ref a.p)] = ([("pact", vp), ("one_end", V.ref a.p), ("other_end", V.ref a.q)] : List (Str × V)) from pf_m (by decide +kernel) (pf_m (by decide +kernel) rfl),
    show putF "line" (V.ref a.L) [("pact", vp), ("one_end", V.ref a.p), ("other_end", V.ref a.q)] = ([("pact", vp), ("one_end", V.ref a.p), ("other_end", V.ref a.q), ("line", V.ref a.L)] : List (Str × V)) from pf_m (by decide +kernel) (pf_m (by decide +kernel) (pf_m (by decide +kernel) rfl)),
    show putF "back" (V.ref a.B) [("pact", vp), ("one_end", V.ref a.p), ("other_end", V.ref a.q), ("line", V.ref a.L)] = ([("pact", vp), ("one_end", V.ref a.p), ("other_end", V.ref a.q), ("line", V.ref a.L), ("back", V.ref a.B)] : List (Str × V)) from pf_m (by decide +kernel) (pf_m (by decide +kernel) (pf_m (by decide +kernel) (pf_m (by decide +kernel) rfl))),
    show putF "whole_row" (V.ref a.R) [("pact", vp), ("one_end", V.ref a.p), ("other_end", V.ref a.q), ("line", V.ref a.L), ("back", V.ref a.B)] = ([("pact", vp), ("one_end", V.ref a.p), ("other_end", V.ref a.q), ("line", V.ref a.L), ("back", V.ref a.B), ("whole_row", V.ref a.R)] : List (Str × V)) from pf_m (by decide +kernel) (pf_m (by decide +kernel) (pf_m (by decide +kernel) (pf_m (by decide +kernel) (pf_m (by decide +kernel) rfl)))),
    show putF "came_most" V.non [("pact", vp), ("one_end", V.ref a.p), ("other_end", V.ref a.q), ("line", V.ref a.L), ("back", V.ref a.B), ("whole_row", V.ref a.R)] = ([("pact", vp), ("one_end", V.ref a.p), ("other_end", V.ref a.q), ("line", V.ref a.L), ("back", V.ref a.B), ("whole_row", V.ref a.R), ("came_most", V.non)] : List (Str × V)) from pf_m (by decide +kernel) (pf_m (by decide +kernel) (pf_m (by decide +kernel) (pf_m (by decide +kernel) (pf_m (by decide +kernel) (pf_m (by decide +kernel) rfl)))))]
  rfl
/-! deeds -/
inductive Dk where
  | come
  | copy
  | lose
  | word
  | echo
  | drop
def Dk.str : Dk → Str
  | .come => "come"
  | .copy => "copy"
  | .lose => "lose"
  | .word => "word"
  | .echo => "echo"
  | .drop => "drop"
def Dk.let : Dk → Bool
  | .come => true
  | .copy => true
  | .lose => true
  | _ => false
def Dk.arr : Dk → Bool
  | .come => true
  | .copy => true
  | _ => false
def Dk.hea : Dk → Bool
  | .word => true
  | .echo => true
  | _ => false
theorem dk_forget (k : Dk) : decide (k.str = "forget") = false := by cases k <;> decide +kernel
theorem dk_press (k : Dk) : decide (k.str = "press") = false := by cases k <;> decide +kernel
theorem dk_let (k : Dk) : ((["come", "copy", "lose"] : List Str).any fun y => decide (y = k.str)) = k.let := by cases k <;> decide +kernel
theorem dk_six (k : Dk) : ((["come", "copy", "lose", "word", "echo", "drop"] : List Str).any fun y => decide (y = k.str)) = true := by cases k <;> decide +kernel
theorem dk_arr (k : Dk) : ((["come", "copy"] : List Str).any fun y => decide (y = k.str)) = k.arr := by cases k <;> decide +kernel
theorem dk_hea (k : Dk) : ((["word", "echo"] : List Str).any fun y => decide (y = k.str)) = k.hea := by cases k <;> decide +kernel
theorem dk_come (k : Dk) : decide (k.str = "come") = (match k with | .come => true | _ => false) := by cases k <;> decide +kernel
theorem dk_echo (k : Dk) : decide (k.str = "echo") = (match k with | .echo => true | _ => false) := by cases k <;> decide +kernel
theorem dqs_strs {K : PySem.W.Frag} {H : Hp} : ∀ zs : List Str, DqAll K H (zs.map V.str) (zs.map PyData.str)
  | [] => .nil
  | _ :: r => .cons (.str _) (dqs_strs r)
theorem ktup_dq {K : PySem.W.Frag} {H : Hp} {a : Addr} {zs : List Str} (h : KTup K a (zs.map V.str)) : Dq K H (.ref a) (.tuple (zs.map PyData.str)) := .tup h.n (dqs_strs zs)
theorem dqs_str_of {K : PySem.W.Frag} {H : Hp} : ∀ {vs : List V} {zs : List Str}, DqAll K H vs (zs.map PyData.str) → vs = zs.map V.str
  | _, [], .nil => rfl
  | _, _ :: _, .cons h r => by
    rw [dq_str h, dqs_str_of r]
    rfl
theorem w_inQT {K : PySem.W.Frag} {H : Hp} {Q : VK} {v : V} {z : Str} {zs : List Str} (h : Dq K H v (.tuple (zs.map PyData.str))) (q : Q (.bl (zs.any fun y => decide (y = z))) H) : rInU K (.str z) v H Q := by
  obtain ⟨a, xs, rfl, hx, r⟩ := dq_tt h
  rw [dqs_str_of r] at hx
  exact w_inTs hx.t q
/-! frames with views: pots move, too -/
structure MoX (A : List Addr) (H H' : Hp) : Prop where
  keep : ∀ x u, H x = some u → noE u = true → x ∉ A → H' x = some u
  there : ∀ x u, H x = some u → x ∉ A → ∃ w, H' x = some w
section
variable {W : Wd} {A A' A2 : List Addr} {H H' H2 H0 : Hp} {c : Addr} {u : HO}
theorem MoX.refl : MoX A H H := ⟨fun _ _ h _ _ => h, fun _ u h _ => ⟨u, h⟩⟩
theorem Sx.mox (e : Sx H H') : MoX A H H' := ⟨fun x u h n _ => e.keep x u h n, fun x u h _ => e.there x u h⟩
theorem Same.mox (e : Same H H') : MoX A H H' := (Same.sx e).mox
theorem Mo.mox (e : Mo A H H') : MoX A H H' := ⟨fun x u h _ n => e x u h n, fun x u h n => ⟨u, e x u h n⟩⟩
theorem mox_sub (s : ∀ x ∈ A, x ∈ A') (e : MoX A H H') : MoX A' H H' := ⟨fun x u h n m => e.keep x u h n fun z => m (s x z), fun x u h m => e.there x u h fun z => m (s x z)⟩
theorem mox_trans (e : MoX A H H') (w : NewA A A' H) (e' : MoX A' H' H2) : MoX A H H2 := by
  have out : ∀ x u, H x = some u → x ∉ A → x ∉ A' := fun x u h n z => by
    rcases w x z with z | z
    · exact n z
    · rw [z] at h
      cases h
  refine ⟨fun x u h n m => e'.keep x u (e.keep x u h n m) n (out x u h m), fun x u h m => ?_⟩
  obtain ⟨v, hv⟩ := e.there x u h m
  exact e'.there x v hv (out x u h m)
theorem newX_trans (e : MoX A H H') (w : NewA A A' H) (w' : NewA A' A2 H') : NewA A A2 H := fun x h => by
  rcases w' x h with z | z
  · exact w x z
  · cases c : H x with
    | none => exact .inr rfl
    | some u =>
      by_cases m : x ∈ A
      · exact .inl m
      · obtain ⟨v, hv⟩ := e.there x u c m
        rw [hv] at z
        cases z
theorem mox_st (m : MutA A H) (e : MoX A H H') : St H H' := fun x u h t => e.keep x u h (tup_noE t) fun z => by
  obtain ⟨w, h2, mw⟩ := m x z
  rw [h] at h2
  rw [← Option.some.inj h2] at mw
  exact mut_noT mw t
theorem mox_sx (e0 : Sx H0 H) (n : ∀ x ∈ A, H0 x = none) (e : MoX A H H') : Sx H0 H' := by
  have ne : ∀ x u, H0 x = some u → x ∉ A := fun x u h z => by
    rw [n x z] at h
    cases h
  refine ⟨fun x u h hn => e.keep x u (e0.keep x u h hn) hn (ne x u h), fun x u h => ?_⟩
  obtain ⟨w, hw⟩ := e0.there x u h
  exact e.there x w hw (ne x u h)
theorem newA_cons (w : NewA A A' H) : NewA (c :: A) (c :: A') H := fun x h => by
  rcases List.mem_cons.mp h with z | z
  · exact .inl (z ▸ List.mem_cons_self)
  · exact (w x z).imp (List.mem_cons_of_mem _) id
theorem mut_cons (m : MutA A H) (h : H c = some u) (hu : mutU u) : MutA (c :: A) H := fun x hx => by
  rcases List.mem_cons.mp hx with z | z
  · rw [z]
    exact ⟨u, h, hu⟩
  · exact m x z
end
/-- whether a letter may not come by now -/
def frmB : Option Nat → Bool
  | none => false
  | some _ => true
def lateC (c : Option Int) (lt n : Int) : Bool := match c with
  | none => false
  | some c => decide (lt < c - n)
def gapB (g : Option Int) (gp n : Int) (t : Option Nat) : Bool := match g with
  | none => false
  | some g => decide (g + gp + 1 < n) && frmB t
def beyB (s : RoS) (t : Option Nat) (n : Int) : Bool := lateC s.came s.pr.P.lt n || gapB s.rd.top s.pr.P.gp n t
/-! what is told, compared -/
theorem sok_twice : PyData.strOk ("twice" : Str) = true := by decide +kernel
theorem eqvR (x : Int) (hd : List Int) : PyData.eqv (tlD (.read x hd)) (tlD (.read x hd)) = true := by
  have e3 : PyData.eqv (headD hd) (headD hd) = true := by
    show PyData.eqv (.tuple (hd.map .int)) (.tuple (hd.map .int)) = _
    rw [PyData.eqv, eqvAll_ints]
    exact decide_eq_true rfl
  show PyData.eqv (.tuple [.str "read", .int x, headD hd]) (.tuple [.str "read", .int x, headD hd]) = true
  simp [PyData.eqv, PyData.eqvAll, e3]
theorem shpR (x : Int) (hd : List Int) : SeqAt.shaped (tlD (.read x hd)) = true := by
  have c : (headD hd).canLay0 = true := SeqAt.canLay_of_shaped (shaped_tints hd)
  have d := depth_head hd
  show SeqAt.shaped (.tuple [.str "read", .int x, headD hd]) = true
  unfold SeqAt.shaped
  rw [Bool.and_eq_true, decide_eq_true_iff]
  refine ⟨?_, ?_⟩
  · simp [PyData.canLay0, PyData.canLayAll0, sok_read, c]
  · unfold PyData.depth PyData.depthAll PyData.depthAll PyData.depthAll PyData.depthAll
    simp [PyData.depth]
    omega
theorem eqvT (x : Int) : PyData.eqv (tlD (.twice x)) (tlD (.twice x)) = true := by
  show PyData.eqv (.tuple [.str "twice", .int x]) (.tuple [.str "twice", .int x]) = true
  simp [PyData.eqv, PyData.eqvAll]
theorem shpT (x : Int) : SeqAt.shaped (tlD (.twice x)) = true := by
  show SeqAt.shaped (.tuple [.str "twice", .int x]) = true
  simp [sok_twice, SeqAt.shaped, PyData.canLay0, PyData.canLayAll0, PyData.depth, PyData.depthAll]
theorem newX_transC {A A' A2 : List Addr} {H H' : Hp} {c : Addr} {u : HO} (e : MoX (c :: A) H H') (hc : H' c = some u) (w : NewA A A' H) (w' : NewA A' A2 H') : NewA A A2 H := fun x h => by
  rcases w' x h with z | z
  · exact w x z
  · cases k : H x with
    | none => exact .inr rfl
    | some u =>
      by_cases m : x ∈ A
      · exact .inl m
      · obtain ⟨v, hv⟩ := e.there x u k fun y => by
          rcases List.mem_cons.mp y with y | y
          · rw [y, hc] at z
            cases z
          · exact m y
        rw [hv] at z
        cases z
/-- the word that goes back -/
def wrdO : Tld → Option Int
  | .twice n => some n
  | .read n _ => some n
  | _ => none
end Sh
/-! own exceptions: raised, let out, caught; calls where one is handled -/
namespace Sh
open PySem PySem.Spec PyProof.Rows L2
/-- what the text says of an exception class of its own -/
structure ExOk (K : PySem.W.Frag) (mg : Str → Option Value) (x : Str) : Prop where
  mg : mg x = some (.ref (clsOf K x))
  ex : ∃ bmB newId initId B, ExcBaseFacts B newId initId bmB ∧ PySem.W.excIn K (clsOf K x) bmB newId = true
  kp : PySem.W.keepIn K (.ref (clsOf K x)) = true
  su : PySem.W.subIn K (.ref (clsOf K x)) (.type "BaseException") = some true
  ty : PySem.W.typeIn K (.ref (clsOf K x)) = some (.type "type")
  te : PySem.W.exmOne K (.ref (clsOf K x)) (.ref (clsOf K x)) = some true
theorem ex_mk {K : PySem.W.Frag} {mg : Str → Option Value} {h : Heap} {x : Str} {C : Addr} {bmB : List Value} {B newId initId : String} (X : K.In h) (G : h.Ns mainGlobals mg) (a : PySem.W.nsIn K mainGlobals x = some (some (.ref C))) (F : ExcBaseFacts B newId initId bmB)
    (e : PySem.W.excIn K C bmB newId = true) (k : PySem.W.keepIn K (.ref C) = true) (s : PySem.W.subIn K (.ref C) (.type "BaseException") = some true) (t : PySem.W.typeIn K (.ref C) = some (.type "type")) (te : PySem.W.exmOne K (.ref C) (.ref C) = some true) : ExOk K mg x := by
  have z := clsOf_eq a
  exact ⟨by rw [z]; exact PySem.W.mg_of X G a, by rw [z]; exact ⟨_, _, _, _, F, e⟩, by rw [z]; exact k, by rw [z]; exact s, by rw [z]; exact t, by rw [z]; exact te⟩
/-- a clause that names c takes an own exception x -/
def TkOk (K : PySem.W.Frag) (x c : Str) : Prop := PySem.W.exmOne K (.ref (clsOf K x)) (.ref (clsOf K c)) = some true
/-- an instance of x is one of c (or isn't) -/
def IsOk (K : PySem.W.Frag) (x c : Str) (b : Bool) : Prop := PySem.W.kitOne K (.ref (clsOf K x)) (.ref (clsOf K c)) = some b
def CalMX (W : Wd) (mg : Str → Option Value) (base : Heap) (C : Addr) (m : Str) (k : Nat) (ps : List Str) (sp : Sp) : Prop :=
  ∃ f fd, Meth W.K C m f ∧ FnOk W.P W.w W.K mg base (L2N.CX W.P W.w) k f fd ps sp ∧ Binds W.K fd ps []
def CalX (W : Wd) (mg : Str → Option Value) (base : Heap) (x : Str) (k : Nat) (ps : List Str) (sp : Sp) : Prop :=
  ∃ f fd, mg x = some (.ref f) ∧ FnOk W.P W.w W.K mg base (L2N.CX W.P W.w) k f fd ps sp ∧ PySem.W.keepIn W.K (.ref f) = true ∧ Binds W.K fd ps []
/-- the same where an exception is handled -/
def CalMH (W : Wd) (mg : Str → Option Value) (base : Heap) (C : Addr) (m : Str) (k : Nat) (ps : List Str) (sp : Sp) : Prop :=
  ∃ f fd, Meth W.K C m f ∧ L2H.FnH W.P W.w W.K mg base CX0 k f fd ps sp ∧ Binds W.K fd ps []
def CalH (W : Wd) (mg : Str → Option Value) (base : Heap) (x : Str) (k : Nat) (ps : List Str) (sp : Sp) : Prop :=
  ∃ f fd, mg x = some (.ref f) ∧ L2H.FnH W.P W.w W.K mg base CX0 k f fd ps sp ∧ PySem.W.keepIn W.K (.ref f) = true ∧ Binds W.K fd ps []
theorem passN {X : Cx} : Passes (L2N.CX X.prog X.w) X E0 := fun _ _ _ _ _ _ _ ⟨_, _, _, _, _, _, _, _, _, _, _, _, z⟩ => z.elim
theorem takesN {X : Cx} : L2N.Takes X (fun _ _ _ _ => False) := fun _ _ ⟨_, _, _, _, _, _, _, _, _, _, _, _, _, _, _, _, z⟩ => z.elim
section
variable {P : Program} {w : World} {K : PySem.W.Frag} {mg : Str → Option Value} {base : Heap}
/-- a def that may raise, by its body -/
theorem okN {x qual : Str} {st : Stmt} {f : Addr} {fd : FuncData} {N ps : List Str} {k : Nat} {sp : Sp} (F : Fun K x qual st f fd) (S : FnScope N ps (defScope st)) (len : ∀ vs H Q E, sp vs H Q E → vs.length = ps.length)
    (bod : ∀ (cdv : Value) (A : Around) (outer : List Env) (s : Shared) (H : Hp) (vs : List V) (Q : VK) (E : XK), Room k (A.deeper (envOfC qual (defScope st) s.heap.objs.size f cdv)) → sp vs H Q E →
      ∃ t, PSs (cxOf (L2N.CX P w) P w K mg base N qual (defScope st) f cdv A outer s H E) (defBody st) t ∧ t { nx := fun _ H' => Q .non H', rt := Q } (start N vs) H) : FnOk P w K mg base (L2N.CX P w) (k + 1) f fd ps sp := by
  obtain ⟨_, _, _, _, _, _, cdv, _, _, rfl, lk, hcd⟩ := F.ex
  exact fn_of lk hcd S len fun A outer s H vs Q E r h => bod cdv A outer s H vs Q E r h
/-- a def where an exception is handled, by its body -/
theorem okH {x qual : Str} {st : Stmt} {f : Addr} {fd : FuncData} {N ps : List Str} {k : Nat} {sp : Sp} (F : Fun K x qual st f fd) (S : FnScope N ps (defScope st)) (len : ∀ vs H Q E, sp vs H Q E → vs.length = ps.length)
    (bod : ∀ (cdv : Value) (A : Around) (outer : List Env) (s : Shared) (H : Hp) (vs : List V) (Q : VK) (E : XK) (p : Addr × Obj), L2H.HotC (L2H.cxH CX0 P w K mg base N qual (defScope st) f cdv A outer s H E p).nox → L2H.RoomH k (A.deeper (envOfC qual (defScope st) s.heap.objs.size f cdv)) → sp vs H Q E →
      ∃ t, PSs (L2H.cxH CX0 P w K mg base N qual (defScope st) f cdv A outer s H E p).nox (defBody st) t ∧ t { nx := fun _ H' => Q .non H', rt := Q } (start N vs) H) : L2H.FnH P w K mg base CX0 (k + 1) f fd ps sp := by
  obtain ⟨_, _, _, _, _, _, cdv, _, _, rfl, lk, hcd⟩ := F.ex
  refine L2H.fn_ofH lk hcd S len fun A outer s H vs Q E p hot r h => ?_
  obtain ⟨t, ht, q⟩ := bod cdv A outer s H vs Q E p ⟨p, hot, List.mem_cons_self⟩ r h
  exact ⟨t, ht.nox, q⟩
end
theorem hot_su {X : Cx} {a : Addr} {oe : Obj} {cls : Value} {d : Option Addr} {pn : List (Addr × Obj)} (z : L2N.Zn cls d oe) (f : ∃ vs, oe.data = .fields vs) : L2H.HotC (X.suite a ((a, oe) :: pn)) := by
  obtain ⟨vs, f⟩ := f
  exact ⟨(a, oe), ⟨rfl, vs, f, z.2.2 vs f⟩, List.mem_cons_self⟩
theorem roomM {k : Nat} {A : Around} {h : Option Value} (r : Room k A) : L2H.RoomH k (A.mark h) := ⟨r.dp, r.un⟩
theorem un_of {k : Nat} {A : Around} (r : L2H.RoomH k A) : A.units + 64 < cLine := by have := r.un; omega
theorem passH {X : Cx} {σ : L2.St} : PassesAt CX0 X σ E0 := fun _ _ _ _ _ _ h => h.elim
def sRaise (C : Addr) (E : XK) : TS := fun _ _ H => E (.ref C) none H
theorem w_raise {C : Addr} {E : XK} {D : Ends} {σ : L2.St} {H : Hp} (h : E (.ref C) none H) : sRaise C E D σ H := h
section
variable {X : Cx} {E : XK} {x m : Str} {j : Nat} {p p2 pos pos2 : Pos}
theorem ps_rais (hs : X.calm = true) (tk : L2N.Takes X (fun cls d _ H => E cls d H)) (T : ExOk X.K X.mg x) (hg : Gl X x) (hdb : (x == ("__debug__" : Str)) = false := by decide) :
    PS X (.Raise (some (.Call (.Name x p) [.Constant (.str m) j p2] [] pos)) none pos2) (sRaise (clsOf X.K x) E) := by
  obtain ⟨_, _, _, _, F, e⟩ := T.ex
  exact L2N.ps_raise hs tk (L2N.pmk_own F e T.mg T.kp (raises_own T.su T.ty) hg hdb)
end
def sTry (K : PySem.W.Frag) (c : Value) (Wout : WX) (tb : WX → TS) (ts : TS) : TS := fun D σ H => tb (wMany K Wout D [(c, fun _ _ _ => ts)]) D σ H
def wNone : WX := fun _ _ _ _ => False
def wUp (E : XK) : WX := fun cls d _ H => E cls d H
theorem w_try {K : PySem.W.Frag} {c : Value} {Wout : WX} {tb : WX → TS} {ts : TS} {D : Ends} {σ : L2.St} {H : Hp} (h : tb (wMany K Wout D [(c, fun _ _ _ => ts)]) D σ H) : sTry K c Wout tb ts D σ H := h
/-- the own class's clause takes it -/
theorem w_took {K : PySem.W.Frag} {mg : Str → Option Value} {x : Str} {Wout : WX} {ts : TS} {D : Ends} {σ : L2.St} {H : Hp} {d : Option Addr} (T : ExOk K mg x) (h : ∀ a, H a = none → ts D σ H) :
    WE (wMany K Wout D [(.ref (clsOf K x), fun _ _ _ => ts)]) σ (.ref (clsOf K x)) d H := ⟨true, T.te, fun _ a ha => h a ha, fun z => nomatch z⟩
/-- a class above takes it -/
theorem w_took2 {K : PySem.W.Frag} {x c : Str} {Wout : WX} {ts : TS} {D : Ends} {σ : L2.St} {H : Hp} {d : Option Addr} (T : TkOk K x c) (h : ∀ a, H a = none → ts D σ H) :
    WE (wMany K Wout D [(.ref (clsOf K c), fun _ _ _ => ts)]) σ (.ref (clsOf K x)) d H := ⟨true, T, fun _ a ha => h a ha, fun z => nomatch z⟩
theorem ps_try1 {X : Cx} {x : Str} {c : Value} {body suite : List Stmt} {b₀ : Stmt} {np pos pos' : Pos} {tb : WX → TS} {ts : TS} {Wout : WX} (hs : X.stack = X.env :: X.outer) (hf : X.env.frame = some X.env.locals) (hc : Names X x c) (tk : L2N.Takes X Wout)
    (hb : ∀ (W : WX) (pn : List (Addr × Obj)) (xe : Value → Shared → Prop), L2N.Takes (X.tr pn xe) W → PassesOwn (model X.prog X.w) X.A X.env xe → PSs (X.tr pn xe) body (tb W))
    (hsu : ∀ (a : Addr) (oe : Obj) (cls : Value) (d : Option Addr) (pn : List (Addr × Obj)), L2N.Zn cls d oe → (∃ vs, oe.data = .fields vs) → PSs (X.suite a ((a, oe) :: pn)) (b₀ :: suite) ts) :
    PS X (.Try body [.ExceptHandler (some (.Name x np)) none (b₀ :: suite) pos'] [] [] pos) (sTry X.K c Wout tb ts) :=
  L2N.ps_try_many hs hf tk hb (.cons hc (fun a oe cls d pn z f => hsu a oe cls d pn z f) .nil)
/-- except x as n: the exception's object is free, its class is told -/
def sTryA (K : PySem.W.Frag) (c : Value) (i : Nat) (Wout : WX) (tb : WX → TS) (ts : Addr → Value → Option Addr → TS) : TS := fun D σ H => tb (wAs K c i ts Wout D) D σ H
theorem w_tryA {K : PySem.W.Frag} {c : Value} {i : Nat} {Wout : WX} {tb : WX → TS} {ts : Addr → Value → Option Addr → TS} {D : Ends} {σ : L2.St} {H : Hp} (h : tb (wAs K c i ts Wout D) D σ H) : sTryA K c i Wout tb ts D σ H := h
def tMethA (C : Addr) (m : Str) (sp : Sp) (E : L2.St → XK) (ta : TE) (t : TA) : TE := fun σ H Q => ta σ H fun x H1 => MtOk C m t sp (E σ) σ Q x H1
theorem w_methA {C : Addr} {m : Str} {sp : Sp} {E : L2.St → XK} {ta : TE} {t : TA} {σ : L2.St} {H : Hp} {Q : VK} (h : ta σ H fun x H1 => MtOk C m t sp (E σ) σ Q x H1) : tMethA C m sp E ta t σ H Q := h
theorem w_callS {sp : Sp} {E : L2.St → XK} {t : TA} {σ : L2.St} {H : Hp} {Q : VK} (h : t σ H fun vs H1 => sp vs H1 Q (E σ)) : tCallS sp E t σ H Q := h
section
variable {X : Cx} {CX : CXT} {k : Nat} {C f : Addr} {fd : FuncData} {ps : List Str} {sp : Sp} {E : L2.St → XK} {o e : Expr} {es : List Expr} {ta : TE} {t : TA} {m : Str} {apos pos : Pos}
/-- o.m(e, ..), what it lets out wished for at the caller's slots -/
theorem pe_methA {pl : Sem Bool} (he : PE X o ta) (c : Cls X.K C) (hm : Meth X.K C m f) (F : FnOk X.prog X.w X.K X.mg X.base CX k f fd ps sp) (hr : Room k X.A) (hb : Binds X.K fd ps []) (hx : ∀ σ, PassesAt CX X σ (E σ)) (ha : PA X (e :: es) t)
    (hst : starEach (e :: es) X.env = (false, eval e X.env) :: starEach es X.env := by rfl) (hpl : (backTo pos (starEach es X.env)).any (·.1) = false := by rfl)
    (ht : eval (.Call (.Attribute o m apos) (e :: es) [] pos) X.env = (do
      let ov ← eval o X.env
      standAt apos.atName
      let (f, first) ← holding [ov] (getMethod ov m pl)
      callWith pos f first (backTo pos (starEach (e :: es) X.env)) (backToKw pos (keywordEach [] X.env))) := by rfl) :
    PE X (.Call (.Attribute o m apos) (e :: es) [] pos) (tMethA C m sp E ta t) := by
  refine ⟨fun pins s σ H Q I h => ?_⟩
  refine PySem.W.methodCall_KW (pl := pl) (thn (he.run pins s σ H _ I h) fun u s1 ⟨x, H1, I1, rx, a, dx, fs, ex, ea, l, q⟩ => ?_) ht
  subst ex
  obtain rfl : u = Value.ref a := rx
  refine getmeth_ok I1 ea c hm l ?_
  refine PySem.W.callWith_K (first := [.ref a]) (h₀ := X.base) I.ok.mod.kin hm.kp (thn (ha.run pos pins s1 σ H1 _ I1 q) fun us s2 ⟨vs, H2, I2, r, q2⟩ => ⟨I2.kIn, ?_⟩) hst hpl
  exact run_fnS (us := .ref a :: us) (vs := .ref a :: vs) F hr hb (hx σ) I2 (.cons rfl r) q2
/-- o.m(), the same -/
theorem pe_methA0 {pl : Sem Bool} (he : PE X o ta) (c : Cls X.K C) (hm : Meth X.K C m f) (F : FnOk X.prog X.w X.K X.mg X.base CX k f fd ps sp) (hr : Room k X.A) (hb : Binds X.K fd ps []) (hx : ∀ σ, PassesAt CX X σ (E σ))
    (ht : eval (.Call (.Attribute o m apos) [] [] pos) X.env = (do
      let ov ← eval o X.env
      standAt apos.atName
      let (f, first) ← holding [ov] (getMethod ov m pl)
      callWith pos f first (backTo pos (starEach [] X.env)) (backToKw pos (keywordEach [] X.env))) := by rfl) :
    PE X (.Call (.Attribute o m apos) [] [] pos) (tMethA C m sp E ta tNil) := by
  refine ⟨fun pins s σ H Q I h => ?_⟩
  refine PySem.W.methodCall_KW (pl := pl) (thn (he.run pins s σ H _ I h) fun u s1 ⟨x, H1, I1, rx, a, dx, fs, ex, ea, l, q⟩ => ?_) ht
  subst ex
  obtain rfl : u = Value.ref a := rx
  refine getmeth_ok I1 ea c hm l ?_
  exact PySem.W.callWith_K0 (first := [.ref a]) I1.kIn hm.kp (run_fnS (us := [.ref a]) (vs := [.ref a]) F hr hb (hx σ) I1 (.cons rfl .nil) q)
/-- o.m(..) where an exception is handled -/
theorem pe_methHN {pl : Sem Bool} (he : PE X o ta) (c : Cls X.K C) (hm : Meth X.K C m f) (F : L2H.FnH X.prog X.w X.K X.mg X.base CX k f fd ps sp) (hr : L2H.RoomH k X.A) (hc : L2H.HotC X) (hb : Binds X.K fd ps []) (hx : ∀ σ, PassesAt CX X σ (E σ)) (ha : PA X (e :: es) t)
    (hst : starEach (e :: es) X.env = (false, eval e X.env) :: starEach es X.env := by rfl) (hpl : (backTo pos (starEach es X.env)).any (·.1) = false := by rfl)
    (ht : eval (.Call (.Attribute o m apos) (e :: es) [] pos) X.env = (do
      let ov ← eval o X.env
      standAt apos.atName
      let (f, first) ← holding [ov] (getMethod ov m pl)
      callWith pos f first (backTo pos (starEach (e :: es) X.env)) (backToKw pos (keywordEach [] X.env))) := by rfl) :
    PE X (.Call (.Attribute o m apos) (e :: es) [] pos) (tMethA C m sp E ta t) := L2H.pe_methH he c hm F hr hc hb hx ha hst hpl ht
theorem pe_methH0 {pl : Sem Bool} (he : PE X o ta) (c : Cls X.K C) (hm : Meth X.K C m f) (F : L2H.FnH X.prog X.w X.K X.mg X.base CX k f fd ps sp) (hr : L2H.RoomH k X.A) (hc : L2H.HotC X) (hb : Binds X.K fd ps []) (hx : ∀ σ, PassesAt CX X σ (E σ))
    (ht : eval (.Call (.Attribute o m apos) [] [] pos) X.env = (do
      let ov ← eval o X.env
      standAt apos.atName
      let (f, first) ← holding [ov] (getMethod ov m pl)
      callWith pos f first (backTo pos (starEach [] X.env)) (backToKw pos (keywordEach [] X.env))) := by rfl) :
    PE X (.Call (.Attribute o m apos) [] [] pos) (tMethA C m sp E ta tNil) := by
  refine ⟨fun pins s σ H Q I h => ?_⟩
  refine PySem.W.methodCall_KW (pl := pl) (thn (he.run pins s σ H _ I h) fun u s1 ⟨x, H1, I1, rx, a, dx, fs, ex, ea, l, q⟩ => ?_) ht
  subst ex
  obtain rfl : u = Value.ref a := rx
  refine getmeth_ok I1 ea c hm l ?_
  exact PySem.W.callWith_K0 (first := [.ref a]) I1.kIn hm.kp (L2H.run_fnH (us := [.ref a]) (vs := [.ref a]) F hr hc hb (hx σ) I1 (.cons rfl .nil) q)
end
end Sh
/-! caught exceptions as values: bound by `except c as n`, asked by isinstance, kept behind the suite; quiet defs, called where an exception is handled -/
namespace L2N
open PySem PySem.Spec PyProof.Rows L2
/-- an exception that lies in the heap -/
def exV (cls : Value) (dd : Option Addr) (a : Addr) : HO := .ext fun h => ∃ (oe : Obj) (vs : Array Value), h.get? a = some oe ∧ oe.cls = cls ∧ oe.dict = dd ∧ oe.data = .fields vs
theorem exV_ok {P : Program} {w : World} {H : Hp} {h : Heap} {a : Addr} {cls : Value} {dd : Option Addr} {oe : Obj} {vs : Array Value} (e : h.get? a = some oe) (z : oe.cls = cls) (z2 : oe.dict = dd) (d : oe.data = .fields vs) : ObjOk P w H h a (exV cls dd a) :=
  ⟨⟨oe, vs, e, z, z2, d⟩, ⟨oe, e⟩, fun _ _ ⟨o, v, q, r⟩ k => ⟨o, v, k o q, r⟩⟩
def wV (K : PySem.W.Frag) (c : Value) (i : Nat) (ts : TS) (Wout : WX) (D : Ends) : WX := fun cls d σ H =>
  ∃ b, PySem.W.exmOne K cls c = some b ∧ (b = true → ∀ a, H a = none → ts { nx := fun σ' H' => D.nx (σ'.set i none) H', rt := D.rt, bk := fun σ' H' => D.bk (σ'.set i none) H', ct := fun σ' H' => D.ct (σ'.set i none) H' } (σ.set i (some (.ref a))) (upd H a (exV cls d a))) ∧
    (b = false → Wout cls d σ H)
section
variable {X : Cx} {pins : List (Addr × Obj)} {σ : L2.St} {H : Hp} {s : Shared}
/-- the exception, tracked, while its suite runs -/
theorem Inv.suiteV {a : Addr} {oe : Obj} {vs : Array Value} {cls : Value} {dd : Option Addr} (I : Inv X pins σ H s) (ha : s.heap.get? a = some oe) (hc : oe.cls = cls) (hdd : oe.dict = dd) (hd : oe.data = .fields vs) (na : H a = none) (nL : a ≠ X.env.locals) (n0 : X.s_0.heap.get? a = none) (np : ∀ p ∈ X.pn ++ pins, p.1 ≠ a) :
    Inv (X.suite a (X.pn ++ pins)) [] σ (upd H a (exV cls dd a)) s := by
  have n1 : ∀ b o, X.s_0.heap.get? b = some o → b ≠ a := fun b o e z => by
    rw [z, n0] at e
    cases e
  have nH : ∀ b o, H b = some o → b ≠ a := fun b o e => ne_of_none e na
  have nC : ∀ x c, X.env.cells.lookup x = some c → c ≠ a := fun x c e z => by
    obtain ⟨v, o, ho, hv⟩ := I.cell x c e
    rw [z, ha] at ho
    cases ho
    rw [hd] at hv
    cases hv
  refine ⟨I.ok.suite _ _, I.os, I.bare, ⟨I.base.keep, I.base.slot, fun b o e n hq => ?_, I.base.there, fun b xs e => ?_, fun b o u e => ?_, fun b ps e => ?_⟩, I.loc, I.cell, ?_, fun x c e => ?_, fun p hp => ?_, ?_, I.len⟩
  · rw [upd_ne (n1 b o e)]
    exact I.base.free b o e n hq
  · have q := I.base.tups b xs e
    rw [upd_ne (nH _ _ q)]
    exact q
  · have q := I.base.frzs b o u e
    rw [upd_ne (nH _ _ q)]
    exact q
  · obtain ⟨m, q⟩ := I.base.tbls b ps e
    exact ⟨m, by rw [upd_ne (nH _ _ q)]; exact q⟩
  · show upd H a _ X.env.locals = none
    rw [upd_ne (Ne.symm nL)]
    exact I.free
  · rw [upd_ne (nC x c e)]
    exact I.freeC x c e
  · have hp : p ∈ X.pn ++ pins := by rw [List.append_nil] at hp; exact hp
    obtain ⟨e, n, r⟩ := I.pin p hp
    refine ⟨e, ?_, r⟩
    rw [upd_ne (np p hp)]
    exact n
  · exact I.hok.laidN (fun _ _ e => e) na (exV_ok ha hc hdd hd)
theorem Inv.unsuiteV {a : Addr} (I : Inv (X.suite a (X.pn ++ pins)) [] σ H s) (ok : X.Ok) : Inv X pins σ H s :=
  ⟨ok, I.os, I.bare, I.base, I.loc, I.cell, I.free, I.freeC, fun p hp => I.pin p (by rw [List.append_nil]; exact hp), I.hok, I.len⟩
end
section
variable {X : Cx} {x n : Str} {c : Value} {i : Nat} {body suite : List Stmt} {b₀ : Stmt} {np pos pos' : Pos} {tb : WX → TS} {ts : TS} {Wout : WX}
theorem ps_tryV (hs : X.stack = X.env :: X.outer) (hf : X.env.frame = some X.env.locals) (hex : X.ex = []) (hN : X.N.Nodup) (hi : X.N[i]? = some n) (hln : X.env.kindOf n = some .local) (hc : Names X x c) (tk : Takes X Wout)
    (hb : ∀ (W : WX) (pn : List (Addr × Obj)) (xe : Value → Shared → Prop), Takes (X.tr pn xe) W → PassesOwn (model X.prog X.w) X.A X.env xe → PSs (X.tr pn xe) body (tb W))
    (hsu : ∀ (a : Addr) (pn : List (Addr × Obj)), PSs (X.suite a pn) (b₀ :: suite) ts) :
    PS X (.Try body [.ExceptHandler (some (.Name x np)) (some n) (b₀ :: suite) pos'] [] [] pos) (fun D σ H => tb (wV X.K c i ts Wout D) D σ H) := by
  refine ⟨fun pins s σ H D I h => ?_⟩
  have ok := I.ok
  have hfr : X.A.frames = some (X.env :: X.outer) := by rw [ok.frames, hs]
  have hloc : Loc X.env.scope n := .inl hln
  refine wpAny_Try_except ?_
  refine wpAny_mono ((hb (wV X.K c i ts Wout D) (X.pn ++ pins) (fun e s₁ => wpAny (model X.prog X.w) X.A (noteFrame e X.env) (fun _ s₂ => wpAny (model X.prog X.w) X.A (setFlight e none) (fun _ s₃ =>
    wpAny (model X.prog X.w) X.A (handleBy e X.env [.ExceptHandler (some (.Name x np)) (some n) (b₀ :: suite) pos']) (SP X pins D) X.xe s₃) X.xe s₂) X.xe s₁) (fun u s' xx => ?_) PassesOwn.looking).run [] s σ H D (I.toTry _) h) (fun f s1 hsp => ?_) (fun e s1 he => he)
  · -- the catch
    obtain ⟨a, B, sI, pins', σ', H', cls, d, rfl, J', nb, up, sky, na, os, ag, b, hb1, hyes, hno⟩ := xx
    have J : Inv X pins σ' H' sI := J'.ofTry ok
    have sky' : Sky B (X.env :: X.outer) a (Zn cls d) X.env.locals s'.heap := by rw [← hs]; exact sky
    show wpAny (model X.prog X.w) X.A (noteFrame (.ref a) X.env) _ _ _
    refine Sky.land Zn.steady hfr hf sky' fun h3 fl3 up3 => ?_
    have J3 : Inv X pins σ' H' { s' with heap := h3 } := J.landed nb fl3.1 (up.trans up3) os ag
    obtain ⟨oe3, vs3, he3, hz3, hd3⟩ := fl3.there
    have notFr : ∀ {h : Heap} {o : Obj} {vs : Array Value}, h.FunFrames B (X.env :: X.outer) → h.get? a = some o → o.data = .fields vs → a ∉ frs (X.env :: X.outer) := fun {h o vs} ff e dd hm => by
      obtain ⟨_, o', e', hnf⟩ := ff.mem hm
      rw [e] at e'; cases e'
      exact hnf _ dd
    have nfr := notFr fl3.2.2.1 he3 hd3
    have nL : a ≠ X.env.locals := fun z => nfr (List.mem_filterMap.mpr ⟨X.env, List.mem_cons_self, by rw [hf, z]⟩)
    have nF : a ∉ X.fs := fun hm => by
      obtain ⟨e, he, q⟩ := List.mem_filterMap.mp hm
      exact nfr (List.mem_filterMap.mpr ⟨e, List.mem_cons_of_mem _ he, q⟩)
    have nI : sI.heap.get? a = none := by
      cases q : sI.heap.get? a with
      | none => rfl
      | some o =>
        have z := nb a o q (by rw [hs]; exact nfr)
        rw [fl3.2.1] at z
        cases z
    have n0 : X.s_0.heap.get? a = none := by
      cases q : X.s_0.heap.get? a with
      | none => rfl
      | some o =>
        obtain ⟨o', z⟩ := J.base.there a o q (by rw [hex]; exact fun z => nomatch z)
        rw [nI] at z
        cases z
    have nP : ∀ p ∈ X.pn ++ pins, p.1 ≠ a := fun p hp z => by
      have e := (J.pin p hp).1
      rw [z, nI] at e
      cases e
    have S3 := J3.suite he3 hd3 na nL nF
    refine wpAny_handleBy_cons (codeAny_handlers_test ?_) (by intro q; cases q)
    have LT : PySem.W.Looks (model X.prog X.w) h3 (typeOf (.ref a)) cls := fun A Q E s k q => wpAny_typeOf_ref (k _ _ he3) (by rw [hz3.1]; exact q)
    have LM := PySem.W.exm_one (M := model X.prog X.w) (J3.kIn) LT hb1
    have test : ∀ {Q : Value → Shared → Prop} {E : Value → Shared → Prop}, Q c { s' with heap := h3 } → wpAny (model X.prog X.w) (X.A.mark (some (.ref a))) (eval (.Name x np) X.env) Q E { s' with heap := h3 } := fun {Q E} q => by
      obtain ⟨hg, hdbg, hm | ⟨hm, hv, hnn⟩⟩ := hc
      · exact ld_glob (X := X.suite a ((a, oe3) :: (X.pn ++ pins))) S3 hg hm q hdbg
      · exact ld_blt (X := X.suite a ((a, oe3) :: (X.pn ++ pins))) S3 hg hm hv q hnn hdbg
    refine test (LM.here ?_)
    cases b with
    | true =>
      refine codeAny_handlers_suite_as ?_
      refine HandSPX.lands_againZ fl3 fun h4 fl4 up4 => ?_
      have J4 : Inv X pins σ' H' { s' with heap := h4 } := J.landed nb fl4.1 ((up.trans up3).trans up4) os ag
      obtain ⟨oe4, vs4, he4, hz4, hd4⟩ := fl4.there
      have S4 : Inv (X.suite a (X.pn ++ pins)) [] σ' (upd H' a (exV cls d a)) { s' with heap := h4 } := Inv.suiteV J4 he4 hz4.1 hz4.2.1 hd4 na nL n0 nP
      refine store_ok (X := X.suite a (X.pn ++ pins)) (v := .ref a) S4 hN hi hloc rfl (fun s5 S5 => ?_) (.inr hln)
      refine wpAny_mono ((hsu a (X.pn ++ pins)).run [] s5 _ _ _ S5 (hyes rfl a na)) (fun f s6 hsp => ?_) (fun _ _ z => False.elim z)
      have end_ : ∀ {σ6 : L2.St} {H6 : Hp} {Q : Shared → Prop}, Inv (X.suite a (X.pn ++ pins)) [] σ6 H6 s6 → (∀ s7, Inv X pins (σ6.set i none) H6 s7 → Q s7) →
          wpAny (model X.prog X.w) X.A (do bindName X.env n .none; unbindBehindTheSuite X.env n pos') (fun _ s7 => Q s7) X.xe s6 := fun {σ6 H6 Q} S6 hq => gone_ok (Inv.unsuiteV S6 ok) hN hi hln hq
      cases f with
      | next =>
        obtain ⟨σ6, H6, S6, q6⟩ := hsp
        exact end_ S6 fun s7 J7 => ⟨_, _, J7, q6⟩
      | brk =>
        obtain ⟨σ6, H6, S6, q6⟩ := hsp
        exact end_ S6 fun s7 J7 => ⟨_, _, J7, q6⟩
      | cont =>
        obtain ⟨σ6, H6, S6, q6⟩ := hsp
        exact end_ S6 fun s7 J7 => ⟨_, _, J7, q6⟩
      | ret u =>
        obtain ⟨v6, σ6, H6, S6, r6, q6⟩ := hsp
        exact end_ S6 fun s7 J7 => ⟨_, _, _, J7, r6, q6⟩
    | false =>
      show wpAny _ X.A (handleBy (.ref a) X.env []) _ _ _
      refine wpAny_handleBy_nil ?_
      obtain ⟨k1, k2, k3, oe, vs, T, oT, ts', he, hz, hd, h1, hr⟩ := id fl3
      unfold PySem.passOn
      refine wpAny_bind (wpAny_field he hd h1 ?_)
      rw [if_neg (show ¬ ((Value.ref T == Value.none) = true) from by simp)]
      have fin : wpAny (model X.prog X.w) X.A (setFlight (.ref a) X.env.frame) (fun _ s4 => wpAny (model X.prog X.w) X.A (throw (.ref a) : Sem Flow) (SP X pins D) X.xe s4) X.xe { s' with heap := h3 } := by
        rw [hf]
        refine HandSPX.setFlight_upZ fl3 fun h4 hh4 up4 => wpAny_throw (tk _ _ ?_)
        exact ⟨a, B, sI, pins, σ', H', cls, d, rfl, J, nb, (up.trans up3).trans up4, .inr (.inr (by rw [hs]; exact hh4)), na, os, ag, hno rfl⟩
      first
        | exact wpAny_bind (wpAny_pure (wpAny_bind fin))
        | exact wpAny_bind fin
  · cases f with
    | next =>
      obtain ⟨σ', H', J', q⟩ := hsp
      exact wpAny_execs_nil ⟨σ', H', J'.ofTry ok, q⟩
    | brk =>
      obtain ⟨σ', H', J', q⟩ := hsp
      exact ⟨σ', H', J'.ofTry ok, q⟩
    | cont =>
      obtain ⟨σ', H', J', q⟩ := hsp
      exact ⟨σ', H', J'.ofTry ok, q⟩
    | ret u =>
      obtain ⟨v, σ', H', J', r, q⟩ := hsp
      exact ⟨v, σ', H', J'.ofTry ok, r, q⟩
end
end L2N
namespace Sh
open PySem PySem.Spec PyProof.Rows L2
/-- what the text says of an exception class D whose instances are asked: the built-in looks, and of which of the own classes cs they are -/
structure ExvOk (K : PySem.W.Frag) (D : Str) (cs : List Str) : Prop where
  cl : (PySem.W.clsIn K (clsOf K D)).isSome = true
  hg : PySem.W.findIn K (.ref (clsOf K D)) "__getattribute__" = some (some (.builtin "BaseException.__getattribute__"))
  hk : ∃ gt, PySem.W.findIn K (.ref (clsOf K D)) "__getattr__" = some gt
  hs : PySem.W.subIn K (.ref (clsOf K D)) (.type "BaseException") = some true
  ha : PySem.W.findIn K (.ref (clsOf K D)) "__class__" = some (some (.builtin "object.__class__"))
  hn : PySem.W.specialIn K (.builtin "object.__class__") "__get__" = some (some (.builtin "getset_descriptor.__get__"))
  ht : PySem.W.takesIn K (.builtin "object.__class__") = some true
  hm : PySem.W.mroIn K (clsOf K D) (.type "object") = some true
  ve : PySem.W.kitOne K (.ref (clsOf K D)) (.type "ValueError") = some true
  is : ∀ c ∈ cs, PySem.W.kitOne K (.ref (clsOf K D)) (.ref (clsOf K c)) = some (decide (c = D) || decide (c = "HeadError"))
  tk : PySem.W.exmOne K (.ref (clsOf K D)) (.ref (clsOf K "HeadError")) = some true
/-- an exception's dict -/
def DdOk (H : Hp) : Option Addr → Prop
  | none => True
  | some d => ∃ fs : List (Str × V), H d = some (.xd fs)
/-- a caught exception of the class D -/
def ExAt (K : PySem.W.Frag) (H : Hp) (v : V) (D : Str) : Prop := ∃ a dd, v = .ref a ∧ H a = some (L2N.exV (.ref (clsOf K D)) dd a) ∧ DdOk H dd
theorem exAt_mono {K : PySem.W.Frag} {H H' : Hp} {v : V} {D : Str} (e : Same H H') (h : ExAt K H v D) : ExAt K H' v D := by
  obtain ⟨a, dd, h1, h2, h3⟩ := h
  refine ⟨a, dd, h1, e _ _ h2, ?_⟩
  cases dd with
  | none => exact trivial
  | some d =>
    obtain ⟨fs, h3⟩ := h3
    exact ⟨fs, e _ _ h3⟩
theorem exAt_new {K : PySem.W.Frag} {H : Hp} {a : Addr} {D : Str} : ExAt K (upd H a (L2N.exV (.ref (clsOf K D)) none a)) (.ref a) D := ⟨a, none, rfl, upd_same, trivial⟩
theorem exAt_newD {K : PySem.W.Frag} {H : Hp} {a d : Addr} {D : Str} {fs : List (Str × V)} (ha : H a = none) (hd : H d = some (.xd fs)) : ExAt K (upd H a (L2N.exV (.ref (clsOf K D)) (some d) a)) (.ref a) D := ⟨a, some d, rfl, upd_same, fs, by rw [upd_ne (ne_of_none hd ha)]; exact hd⟩
/-- isinstance of a caught exception: a class, or a written tuple of classes -/
def rIsV (K : PySem.W.Frag) : List V → Hp → VK → Prop := fun xs H Q => ∃ (x c : V) (D : Str) (cs : List Str) (b : Bool), xs = [x, c] ∧ ExAt K H x D ∧ ExvOk K D cs ∧
  ((∃ u, ClsV c u ∧ PySem.W.kitOne K (.ref (clsOf K D)) u = some b) ∨ ∃ (tp : Addr) (vs : List V) (us : List Value), c = .ref tp ∧ TupN H tp vs ∧ Paired ClsV vs us ∧ PySem.W.kitAny K (.ref (clsOf K D)) us = some b) ∧ Q (.bl b) H
theorem call_isV {X : Cx} : CallR X (.builtin "isinstance") (rIsV X.K) := by
  intro pins s σ H xs us Q I r h
  obtain ⟨x, c, D, cs, b, rfl, ⟨a, dd, rfl, ha, hdd⟩, T, hc, q⟩ := h
  obtain ⟨u1, u2, rfl, r1, r2⟩ := vals2 r
  cases (show u1 = Value.ref a from r1)
  obtain ⟨⟨oe, vs, e1, e2, e4, e3⟩, _, _⟩ := (show ObjOk X.prog X.w H s.heap a (L2N.exV (.ref (clsOf X.K D)) dd a) from I.hok a _ ha)
  have ⟨od, J⟩ : ∃ od, PySem.W.InstAt s.heap a oe (clsOf X.K D) od := by
    cases dd with
    | none => exact ⟨none, e1, e2, by unfold PySem.W.notCls; rw [e3], by rw [e4]; exact trivial⟩
    | some d =>
      obtain ⟨fs, hd⟩ := hdd
      have hx : ObjOk X.prog X.w H s.heap d (.xd fs) := I.hok d _ hd
      obtain ⟨mA, ⟨o, es, ep, ho, _⟩, _⟩ := hx
      exact ⟨some o, e1, e2, by unfold PySem.W.notCls; rw [e3], by rw [e4]; exact ho⟩
  obtain ⟨gt, hk⟩ := T.hk
  have Z := PySem.W.kitx_exc (x := a) (ox := oe) (od := od) T.cl T.hg hk T.hs T.ha T.hn T.ht T.hm
  rcases hc with ⟨w, k, e⟩ | ⟨tp, ws, us, rfl, hT, k, e⟩
  · have e4 := k.eq r2
    subst e4
    exact PySem.W.kia_one Z I.kIn J e (fun z => nomatch z) fun tk => ⟨.bl b, H, I.tok tk, rfl, q⟩
  · cases (show u2 = Value.ref tp from r2)
    obtain ⟨ob, _, hT⟩ := hT
    obtain ⟨_, _, its, rv, o', h1, h2, n, h3⟩ := (show ObjOk X.prog X.w H s.heap tp (.frz ob (.tup ws)) from I.hok tp _ hT)
    have e5 := ClsV.all k rv
    subst e5
    obtain ⟨oc, od, dt, sl⟩ := o'
    simp only at h2 h3
    subst h2 h3
    exact PySem.W.kia_tup Z I.kIn J h1 e (fun z => nomatch z) fun tk => ⟨.bl b, H, I.tok tk, rfl, q⟩
section
variable {K : PySem.W.Frag} {H : Hp} {Q : VK} {x : V} {D c : Str} {cs : List Str} {p : Addr}
theorem w_isV (h : ExAt K H x D) (T : ExvOk K D cs) (hc : c ∈ cs) (q : Q (.bl (decide (c = D) || decide (c = "HeadError"))) H) : rIsV K [x, .ref (clsOf K c)] H Q :=
  ⟨x, _, D, cs, _, rfl, h, T, .inl ⟨_, .own _, T.is c hc⟩, q⟩
theorem w_isVe (h : ExAt K H x D) (T : ExvOk K D cs) (q : Q (.bl true) H) : rIsV K [x, .ty "ValueError"] H Q :=
  ⟨x, _, D, cs, _, rfl, h, T, .inl ⟨_, .ty _, T.ve⟩, q⟩
theorem kitV (T : ExvOk K D cs) : ∀ zs : List Str, (∀ c ∈ zs, c ∈ cs) → PySem.W.kitAny K (.ref (clsOf K D)) (zs.map fun c => Value.ref (clsOf K c)) = some (zs.any fun c => decide (c = D) || decide (c = "HeadError"))
  | [], _ => rfl
  | c :: r, h => kitAny_cons (T.is c (h c List.mem_cons_self)) (fun z => by
    rw [List.any_cons, z, Bool.false_or]
    exact kitV T r fun d hd => h d (List.mem_cons_of_mem _ hd)) fun z => by rw [List.any_cons, z, Bool.true_or]
theorem clsVs (K : PySem.W.Frag) : ∀ zs : List Str, Paired ClsV (zs.map fun c => V.ref (clsOf K c)) (zs.map fun c => Value.ref (clsOf K c))
  | [] => .nil
  | c :: r => .cons (.own _) (clsVs K r)
theorem w_isVT (zs : List Str) (h : ExAt K H x D) (T : ExvOk K D cs) (hp : TupN H p (zs.map fun c => V.ref (clsOf K c))) (hc : ∀ c ∈ zs, c ∈ cs) (q : Q (.bl (zs.any fun c => decide (c = D) || decide (c = "HeadError"))) H) : rIsV K [x, .ref p] H Q :=
  ⟨x, _, D, cs, _, rfl, h, T, .inr ⟨p, _, _, rfl, hp, clsVs K zs, kitV T zs hc⟩, q⟩
end
/-! ### try .. except c as n -/
def sTryV (K : PySem.W.Frag) (c : Value) (i : Nat) (Wout : WX) (tb : WX → TS) (ts : TS) : TS := fun D σ H => tb (L2N.wV K c i ts Wout D) D σ H
theorem w_tryV {K : PySem.W.Frag} {c : Value} {i : Nat} {Wout : WX} {tb : WX → TS} {ts : TS} {D : Ends} {σ : L2.St} {H : Hp} (h : tb (L2N.wV K c i ts Wout D) D σ H) : sTryV K c i Wout tb ts D σ H := h
theorem w_tookV {K : PySem.W.Frag} {x : Str} {cs : List Str} {i : Nat} {ts : TS} {Wout : WX} {nx bk ct : L2.St → Hp → Prop} {rt : VK} {σ : L2.St} {H : Hp} {d : Option Addr} (T : ExvOk K x cs)
    (h : ∀ a, H a = none → ts ⟨fun σ' H' => nx (σ'.set i none) H', rt, fun σ' H' => bk (σ'.set i none) H', fun σ' H' => ct (σ'.set i none) H'⟩ (σ.set i (some (.ref a))) (upd H a (L2N.exV (.ref (clsOf K x)) d a))) :
    WE (L2N.wV K (.ref (clsOf K "HeadError")) i ts Wout ⟨nx, rt, bk, ct⟩) σ (.ref (clsOf K x)) d H := ⟨true, T.tk, fun _ a ha => h a ha, fun z => nomatch z⟩
theorem ps_tryv {X : Cx} {x n : Str} {c : Value} {i : Nat} {body suite : List Stmt} {b₀ : Stmt} {np pos pos' : Pos} {tb : WX → TS} {ts : TS} {Wout : WX} (hs : X.stack = X.env :: X.outer) (hf : X.env.frame = some X.env.locals) (hex : X.ex = []) (hN : X.N.Nodup) (hi : X.N[i]? = some n) (hln : X.env.kindOf n = some .local) (hc : Names X x c) (tk : L2N.Takes X Wout)
    (hb : ∀ (W : WX) (pn : List (Addr × Obj)) (xe : Value → Shared → Prop), L2N.Takes (X.tr pn xe) W → PassesOwn (model X.prog X.w) X.A X.env xe → PSs (X.tr pn xe) body (tb W))
    (hsu : ∀ (a : Addr) (pn : List (Addr × Obj)), PSs (X.suite a pn) (b₀ :: suite) ts) :
    PS X (.Try body [.ExceptHandler (some (.Name x np)) (some n) (b₀ :: suite) pos'] [] [] pos) (sTryV X.K c i Wout tb ts) := L2N.ps_tryV hs hf hex hN hi hln hc tk hb hsu
/-! ### strip -/
def rStripC : V → List V → Hp → VK → Prop := fun x xs H Q => ∃ a b, x = .str a ∧ xs = [.str b] ∧ a.length ≤ sizeLine ∧ Q (.str (Txt.stripChars a b)) H
theorem mt_stripC {X : Cx} : MtR X "str.strip" rStripC := mt_stripChars
theorem w_stripC {a b : Str} {H : Hp} {Q : VK} (hl : a.length ≤ sizeLine) (q : Q (.str (Txt.stripChars a b)) H) : rStripC (.str a) [.str b] H Q := ⟨a, b, rfl, rfl, hl, q⟩
theorem tw_all (p : Nat → Bool) : ∀ l : List Nat, l.all p = true → l.takeWhile p = l
  | [], _ => rfl
  | a :: r, h => by
    rw [List.all_cons, Bool.and_eq_true] at h
    rw [List.takeWhile_cons, if_pos h.1, tw_all p r h.2]
theorem strip_nil (p : Nat → Bool) : ∀ l : List Nat, ((l.drop (l.takeWhile p).length).take (l.length - ((l.drop (l.takeWhile p).length).reverse.takeWhile p).length - (l.takeWhile p).length)).length = 0 ↔ l.all p = true := fun l => by
  rw [List.length_take, List.length_drop]
  constructor
  · intro h
    have a1 := PyProof.Rows.takeWhile_len_le p l
    by_cases hl : (l.takeWhile p).length = l.length
    · have e : l.takeWhile p = l := by
        have z := List.takeWhile_append_dropWhile (p := p) (l := l)
        have zl := congrArg List.length z
        rw [List.length_append] at zl
        have z2 : l.dropWhile p = [] := List.length_eq_zero_iff.mp (by omega)
        rw [z2, List.append_nil] at z
        exact z
      rw [← e]
      exact List.all_takeWhile
    · have lt : (l.takeWhile p).length < l.length := by omega
      rcases PyProof.Rows.takeWhile_stop p 0 l with z | z
      · exact absurd z hl
      · exfalso
        have ed : l.drop (l.takeWhile p).length = l.getD (l.takeWhile p).length 0 :: l.drop ((l.takeWhile p).length + 1) := by
          rw [List.drop_eq_getElem_cons lt]
          congr 1
          rw [List.getD_eq_getElem?_getD, List.getElem?_eq_getElem lt]
          rfl
        have b1 : ((l.drop (l.takeWhile p).length).reverse.takeWhile p).length ≤ (l.drop ((l.takeWhile p).length + 1)).length := by
          rw [ed, List.reverse_cons]
          rw [List.takeWhile_append]
          split
          · rename_i e1
            rw [List.takeWhile_cons, if_neg (by rw [z]; exact Bool.false_ne_true), List.append_nil, List.length_reverse]
            exact Nat.le_refl _
          · have := PyProof.Rows.takeWhile_len_le p (l.drop ((l.takeWhile p).length + 1)).reverse
            rw [List.length_reverse] at this
            exact this
        rw [List.length_drop] at b1
        omega
  · intro h
    rw [tw_all p l h]
    omega
theorem strip_all (z y : Str) : (Txt.stripChars z y = "") ↔ ((cz z).all fun c => y.cps.contains c) = true := by
  unfold Txt.stripChars
  rw [PyProof.Rows.stripBy_eq, ← strip_nil, PyProof.Rows.strSub_mk]
  unfold stripLo stripHi
  rw [if_pos rfl, if_pos rfl, show z.length = (cz z).length from (cz_len z).symm]
  constructor
  · intro h
    have h2 := congrArg Str.length h
    have h3 : (((cz z).drop ((cz z).takeWhile y.cps.contains).length).take ((cz z).length - (((cz z).drop ((cz z).takeWhile y.cps.contains).length).reverse.takeWhile y.cps.contains).length - ((cz z).takeWhile y.cps.contains).length)).toArray.size = 0 := h2
    rw [List.size_toArray] at h3
    exact h3
  · intro h
    refine cz_inj ?_
    rw [show cz ("" : Str) = [] from rfl]
    refine List.length_eq_zero_iff.mp ?_
    show (List.toArray _).toList.length = 0
    rw [List.toList_toArray]
    exact h
/-! ### quiet defs: called where an exception is handled, they let none out and walk nothing -/
structure FnQ (P : Program) (w : World) (K : PySem.W.Frag) (mg : Str → Option Value) (base : Heap) (k : Nat) (f : Addr) (fd : FuncData) (ps : List Str) (sp : Sp) : Prop where
  len : ∀ vs H Q E, sp vs H Q E → vs.length = ps.length
  run : ∀ (A : Around) (outer : List Env) (s : Shared) (H : Hp) (args : Args) (us : List Value) (vs : List V) (Q : VK) (E : XK), L2H.RoomH k A → Env0 P w K mg base A outer s H → BindsTo s fd args (ps.zip us) → Vals vs us → sp vs H Q E →
    codeAny (model P w) A (.call (.ref f) args) (CR CX0 outer P w H s Q E) s
def cxQ (P : Program) (w : World) (K : PySem.W.Frag) (mg : Str → Option Value) (base : Heap) (N : List Str) (qual : Str) (scope : Scope) (f : Addr) (cd : Value) (A : Around) (outer : List Env) (s : Shared) (H : Hp) (E : XK) : Cx :=
  { cxOf CX0 P w K mg base N qual scope f cd A outer s H E with calm := false }
theorem inv_startQ {P : Program} {w : World} {K : PySem.W.Frag} {mg : Str → Option Value} {base : Heap} {N ps : List Str} {qual : Str} {scope : Scope} {f : Addr} {cd : Value} {A : Around} {outer : List Env} {s s1 : Shared} {H : Hp} {E : XK} {us : List Value} {vs : List V}
    (S : FnScope N ps scope) (e0 : Env0 P w K mg base A outer s H) (hl : vs.length = ps.length) (r : Vals vs us)
    (x : InCallC s s.heap.objs.size (bindL (envOfC qual scope s.heap.objs.size f cd).kindOf (ps.zip us) fun _ => none) (cellsFrom (s.heap.objs.size + 1) scope.names []) (bindC (envOfC qual scope s.heap.objs.size f cd).kindOf (ps.zip us) fun _ => none) s1) :
    Inv (cxQ P w K mg base N qual scope f cd A outer s H E) [] (L2.start N vs) H s1 := by
  have hpl : ps.length ≤ N.length := by have := congrArg List.length S.pre; rw [List.length_take] at this; omega
  obtain ⟨h1, tk, rfl, hk⟩ := x.done
  have noA : ∀ b : Addr, b ∉ (cxQ P w K mg base N qual scope f cd A outer s H E).ex := fun b z => absurd (show b ∈ ([] : List Addr) from z) (by simp)
  refine ⟨⟨e0.mod, S.kind, rfl, rfl, Nat.le_refl _, fun y z c h1 h2 => ?_, fun y hy => ?_, fun y c _ h => ?_, (fun z => Bool.noConfusion (show false = true from z)), Around.frames_deeper e0.frames, .inr ⟨rfl, rfl⟩, fun b z => absurd z (noA b), e0.bs, e0.bsz, fun b _ _ => noA b, fun b z => absurd z (noA b), e0.funs, e0.frf⟩,
    rfl, e0.bare, Un.kept hk, ⟨_, x.toInCall.ns, fun i y v h1 h2 h3 => ?_⟩, fun y c h => ⟨_, x.cell y c h⟩, e0.hok.fresh (Nat.le_refl _), fun y c h => ?_, fun q hq => ?_, e0.hok.kept hk, ?_⟩
  · exact name_of_addr x.apart (PySem.mem_of_lookup h1) (PySem.mem_of_lookup h2)
  · have hy : scope.names.lookup y = some .cell ∨ scope.names.lookup y = some .free := hy
    rcases hy with hy | hy
    · exact cell_has hy
    · exact absurd rfl (S.nofree _ (PySem.mem_of_lookup hy))
  · exact Nat.le_of_lt (x.above y c (PySem.mem_of_lookup h))
  · have hi : i < vs.length := by
      unfold L2.start at h2
      by_cases hi : i < vs.length
      · exact hi
      · rw [List.getElem?_append_right (by simpa using hi)] at h2
        rw [List.getElem?_replicate] at h2
        split at h2 <;> cases h2
    have ha : vs[i]? = some v := by
      unfold L2.start at h2
      rw [List.getElem?_append_left (by simpa using hi), List.getElem?_map] at h2
      cases e : vs[i]? with
      | none => rw [e] at h2; cases h2
      | some a => rw [e] at h2; cases h2; rfl
    obtain ⟨u, hu, rv⟩ := r.get ha
    have hp : ps[i]? = some y := by
      rw [← S.pre, List.getElem?_take_of_lt (by omega)]; exact h1
    have ndP : ps.Nodup := by rw [← S.pre]; exact S.nd.sublist (List.take_sublist _ _)
    refine ⟨u, rv, ?_⟩
    rcases S.par y (List.mem_of_getElem? hp) with k | k
    · exact .inl ⟨k, bindL_get ndP hp hu k⟩
    · obtain ⟨c, e⟩ := cell_has (n := s.heap.objs.size + 1) k
      refine .inr ⟨.inl k, c, e, ?_⟩
      have q := x.cell y c e
      rw [bindC_get ndP hp hu (by show scope.names.lookup y ≠ _; rw [k]; decide)] at q
      exact q
  · exact e0.hok.fresh (Nat.le_of_lt (x.above y c (PySem.mem_of_lookup h)))
  · exact absurd (show q ∈ ([] : List (Addr × Obj)) from hq) (by simp)
  · unfold L2.start
    show _ = N.length
    rw [List.length_append, List.length_map, List.length_replicate]
    omega
section
variable {P : Program} {w : World} {K : PySem.W.Frag} {mg : Str → Option Value} {base : Heap}
theorem okQ {x qual : Str} {st : Stmt} {f : Addr} {fd : FuncData} {N ps : List Str} {k : Nat} {sp : Sp} (F : Fun K x qual st f fd) (S : FnScope N ps (defScope st)) (len : ∀ vs H Q E, sp vs H Q E → vs.length = ps.length)
    (bod : ∀ (cdv : Value) (A : Around) (outer : List Env) (s : Shared) (H : Hp) (vs : List V) (Q : VK) (E : XK), L2H.RoomH k (A.deeper (envOfC qual (defScope st) s.heap.objs.size f cdv)) → sp vs H Q E →
      ∃ t, PSs (cxQ P w K mg base N qual (defScope st) f cdv A outer s H E).nox (defBody st) t ∧ t { nx := fun _ H' => Q .non H', rt := Q } (start N vs) H) : FnQ P w K mg base (k + 1) f fd ps sp := by
  obtain ⟨oc, od, kV, doc, pm, an, cdv, ct, osl, rfl, lk, hcd⟩ := F.ex
  refine ⟨len, fun A outer s H args us vs Q E hr e0 hb r hsp => ?_⟩
  have hl := len _ _ _ _ hsp
  have KX : K.In s.heap := e0.mod.kin.keeps fun b o e => (e0.bs b o e).1
  have lim : s.heap.NoLimit := e0.mod.nolimit.keeps fun b o e => (e0.bs b o e).1
  have hkind : ∀ y ∈ ps.zip us, (defScope st).names.lookup y.1 = some .local ∨ ((defScope st).names.lookup y.1 = some .cell ∧ ((cellsFrom (s.heap.objs.size + 1) (defScope st).names []).lookup y.1).isSome = true) := fun ⟨n, v⟩ hy => by
    rcases S.par n (List.of_mem_zip hy).1 with q | q
    · exact .inl q
    · exact .inr ⟨q, PySem.W.cellsFrom_some _ _ _ (.inl q)⟩
  refine codeAny_call_function hr.depth (KX _ _ lk) rfl S.co S.gen rfl (PySem.W.codeRec_of KX hcd) (hb _ _ _ _ ?_)
  refine wpAny_newFunctionEnv_cells S.kind hkind fun env he s1 x => ?_
  subst he
  refine ⟨lim.keeps x.toInCall.keep, codeAny_func ?_⟩
  obtain ⟨t, ht, hq⟩ := bod cdv A outer s H vs Q E (hr.deeper _) hsp
  have I := inv_startQ (P := P) (w := w) (K := K) (mg := mg) (base := base) (N := N) (qual := qual) (f := f) (cd := cdv) (A := A) (outer := outer) (E := E) S e0 hl r x
  refine wpAny_mono (ht.nox.run [] s1 (start N vs) H _ I hq) (fun fl s' hs => ?_) fun e s' hs => hs
  cases fl with
  | ret u => exact let ⟨v, _, H', J, rv, q⟩ := hs; ⟨v, H', J.os, J.bare, J.base, J.hok, rv, q⟩
  | next => exact let ⟨_, H', J, q⟩ := hs; ⟨V.non, H', J.os, J.bare, J.base, J.hok, rfl, q⟩
  | brk => exact let ⟨_, _, _, q⟩ := hs; False.elim q
  | cont => exact let ⟨_, _, _, q⟩ := hs; False.elim q
end
def CalQ (W : Wd) (mg : Str → Option Value) (base : Heap) (x : Str) (k : Nat) (ps : List Str) (sp : Sp) : Prop :=
  ∃ f fd, mg x = some (.ref f) ∧ FnQ W.P W.w W.K mg base k f fd ps sp ∧ PySem.W.keepIn W.K (.ref f) = true ∧ Binds W.K fd ps []
section
variable {X : Cx} {k : Nat} {f : Addr} {fd : FuncData} {ps : List Str} {sp : Sp} {E : L2.St → XK} {x : Str} {q pos : Pos} {e : Expr} {es : List Expr} {t : TA}
theorem pe_callQ (F : FnQ X.prog X.w X.K X.mg X.base k f fd ps sp) (hr : L2H.RoomH k X.A) (hg : Gl X x) (hm : X.mg x = some (.ref f)) (hk : PySem.W.keepIn X.K (.ref f) = true) (hb : Binds X.K fd ps []) (hx : ∀ σ, PassesAt CX0 X σ (E σ))
    (ha : PA X (e :: es) t) (hdb : (x == ("__debug__" : Str)) = false := by decide) (he : starEach (e :: es) X.env = (false, eval e X.env) :: starEach es X.env := by rfl) (hpl : (backTo pos (starEach es X.env)).any (·.1) = false := by rfl) :
    PE X (.Call (.Name x q) (e :: es) [] pos) (tCallS sp E t) := by
  refine ⟨fun pins s σ H Q I h => ?_⟩
  refine wpAny_Call_Name_kw (ld_glob I hg hm ?_ hdb)
  refine PySem.W.callWith_K (h₀ := X.base) I.ok.mod.kin hk (thn (ha.run pos pins s σ H _ I h) fun us s1 ⟨vs, H1, I1, r, q⟩ => ⟨I1.kIn, ?_⟩) he hpl
  have hl : us.length = ps.length := by rw [← r.length]; exact F.len _ _ _ _ q
  have b := hb s1 us I1.kIn (by rw [List.append_nil]; exact hl)
  rw [List.append_nil] at b
  refine wpAny_call (codeAny_mono (F.run X.A X.stack s1 H1 ⟨us, []⟩ us vs Q (E σ) hr I1.env0 b r q) fun r s' hq => ?_)
  cases r with
  | error e => exact hx σ pins H1 s1 e s' I1 hq
  | ok fl =>
    cases fl with
    | ret u => exact I1.after hq
    | next => exact False.elim hq
    | brk => exact False.elim hq
    | cont => exact False.elim hq
end
/-! ### xs.count(x), xs.index(x) of flat things -/
def rCntF (K : PySem.W.Frag) : V → List V → Hp → VK → Prop := fun x xs H Q => ∃ (a : Addr) (ys : List V) (y : V), x = .ref a ∧ xs = [y] ∧ SqL K H a ys ∧ flatV y = true ∧ ys.all flatV = true ∧ Q (.int ((ys.countP fun z => eqV z y : Nat) : Int)) H
theorem countU {y : V} : ∀ {ys : List V} {us : List Value}, Vals ys us → ys.all flatV = true → us.countP (eqU y) = ys.countP fun z => eqV z y
  | _, _, .nil, _ => rfl
  | z :: ys, u :: us, .cons r t, f => by
    rw [List.all_cons, Bool.and_eq_true] at f
    rw [List.countP_cons, List.countP_cons, countU t f.2, eqU_of r f.1]
theorem mt_cntF {X : Cx} : MtR X "list.count" (rCntF X.K) := by
  intro pins s σ H x xs v us Q I rx rxs h
  obtain ⟨a, ys, y, rfl, rfl, hs, fy, fys, q⟩ := h
  cases rx
  obtain ⟨uy, rfl, ry⟩ := rxs.one
  obtain ⟨its, rv, ⟨⟨cls, dd, data, sl⟩, n, ho, hc, hdn, hd⟩, hlen⟩ := I.list hs
  simp only at hc hd
  subst hc hd
  refine call_meets PySem.F.slot_list_count ⟨_, ho, rfl⟩ PySem.F.entry_list_count (PySem.F.args_list_count_2 _ _)
    (SeqAt.list_countAt a its.toArray n dd sl uy (eqU y)) ⟨ho, fun u' hu' => mem_eqAt ry fy rv fys u' (by simpa using hu'), ?_⟩
  refine ⟨.int ((ys.countP fun z => eqV z y : Nat) : Int), H, I.tok _, ⟨s.toks, ?_⟩, q⟩
  show Value.int ((its.toArray.toList.countP (eqU y) : Nat) : Int) s.toks = _
  rw [List.toList_toArray, countU rv fys]
theorem w_cntF {K : PySem.W.Frag} {H : Hp} {Q : VK} {a : Addr} {ys : List V} {y : V} (h : SqL K H a ys) (fy : flatV y = true) (fys : ys.all flatV = true) (q : Q (.int ((ys.countP fun z => eqV z y : Nat) : Int)) H) : rCntF K (.ref a) [y] H Q := ⟨a, ys, y, rfl, rfl, h, fy, fys, q⟩
theorem w_idxF {K : PySem.W.Frag} {H : Hp} {Q : VK} {a : Addr} {ys : List V} {y z : V} (j : Nat) (h : SqL K H a ys) (fy : flatV y = true) (fys : ys.all flatV = true) (e : ys[j]? = some z) (ez : eqV z y = true) (no : ∀ (m : Nat) (z' : V), m < j → ys[m]? = some z' → eqV z' y = false) (q : Q (.int (j : Int)) H) : rIndex K (.ref a) [y] H Q := ⟨a, ys, y, j, z, rfl, rfl, h, fy, fys, e, ez, no, q⟩
end Sh
/-! the third pot's family: names, shapes, forms, roads -/
namespace Sh
open PySem PySem.Spec PyProof.Rows L2
theorem if01 {b : Bool} : 0 ≤ (if b = true then (1 : Int) else 0) ∧ (if b = true then (1 : Int) else 0) ≤ 1 := by
  cases b
  · exact ⟨by decide, by decide⟩
  · exact ⟨by decide, by decide⟩
theorem af26 : ∀ n : Fin 26, atI (("abcdefghijklmnopqrstuvwxyz" : Str).cps.toList) ((n.val : Nat) : Int) = some (97 + n.val) := by decide +kernel
theorem nm_rep {c : Nat} {k : Int} (h0 : 97 ≤ c) (h1 : c ≤ 122) (k0 : 1 ≤ k) (k1 : k ≤ 8) : OkNm (Txt.mul ⟨#[c]⟩ k) ∧ (cz (Txt.mul ⟨#[c]⟩ k)).head? = some c := by
  have e : cz (Txt.mul ⟨#[c]⟩ k) = List.replicate k.toNat c := by
    rw [cz_mul]
    show (List.replicate k.toNat [c]).flatten = _
    induction k.toNat with
    | zero => rfl
    | succ n ih => rw [List.replicate_succ, List.flatten_cons, ih, List.replicate_succ]; rfl
  have l : (Txt.mul ⟨#[c]⟩ k).length = k.toNat := by rw [← cz_len, e, List.length_replicate]
  refine ⟨⟨by omega, by omega, fun x hx => ?_⟩, ?_⟩
  · rw [show (Txt.mul ⟨#[c]⟩ k).cps.toList = List.replicate k.toNat c from e] at hx
    rw [List.eq_of_mem_replicate hx]
    exact ⟨h0, h1⟩
  · rw [e]
    obtain ⟨m, hm⟩ : ∃ m, k.toNat = m + 1 := ⟨k.toNat - 1, by omega⟩
    rw [hm]
    rfl
/-- names that begin with unlike letters -/
def NmT (f t : Int) (zs : List Str) : Prop := ∀ (j : Nat) (z : Str), zs[j]? = some z → OkNm z ∧ (cz z).head? = some (97 + ((f + t * (j : Int)) % 26).toNat)
theorem nmT_nodup {f t : Int} {zs : List Str} (ht : t = 1 ∨ t = 3 ∨ t = 5 ∨ t = 7 ∨ t = 9 ∨ t = 11) (hl : zs.length ≤ 12) (h : NmT f t zs) : zs.Nodup := by
  refine List.pairwise_iff_getElem.mpr fun i j hi hj hij e => ?_
  have a := (h i _ (List.getElem?_eq_getElem hi)).2
  have b := (h j _ (List.getElem?_eq_getElem hj)).2
  rw [e, b] at a
  have z := Option.some.inj a
  rcases ht with rfl | rfl | rfl | rfl | rfl | rfl <;> omega
theorem nmT_snoc {f t : Int} {zs : List Str} {z : Str} (h : NmT f t zs) (hz : OkNm z ∧ (cz z).head? = some (97 + ((f + t * (zs.length : Int)) % 26).toNat)) : NmT f t (zs ++ [z]) := fun j g hj => by
  by_cases hj2 : j < zs.length
  · rw [List.getElem?_append_left hj2] at hj
    exact h j g hj
  · rw [List.getElem?_append_right (by omega)] at hj
    have e : j = zs.length := by
      by_cases c : j - zs.length = 0
      · omega
      · rw [List.getElem?_eq_none (by simp; omega)] at hj
        cases hj
    subst e
    rw [Nat.sub_self] at hj
    rw [← Option.some.inj hj]
    exact hz
theorem nmT_nil {f t : Int} : NmT f t [] := fun j z h => by simp at h
theorem nmT_ok {f t : Int} {zs : List Str} (h : NmT f t zs) : ∀ z ∈ zs, OkNm z := fun z hz => by
  obtain ⟨i, hi⟩ := List.getElem?_of_mem hz
  exact (h i z hi).1
abbrev rShrU : R2 := rI (fun _ j => 0 ≤ j) fun i j => .int (i / 2 ^ j.toNat)
theorem w_shr {H : Hp} {Q : VK} {i j : Int} (h0 : 0 ≤ j) (q : Q (.int (i / 2 ^ j.toNat)) H) : rShrU (.int i) (.int j) H Q := ⟨i, j, rfl, rfl, h0, q⟩
theorem w_revL {K : PySem.W.Frag} {te : TE} {σ : L2.St} {H : Hp} {Q : VK} (h : te σ H fun x H1 => ∃ a xs, x = .ref a ∧ SqL K H1 a xs ∧ ∀ p, H1 p = none → Q (.ref p) (upd H1 p (.lst xs.reverse))) : tRevL K te σ H Q := h
/-- a list times a number -/
theorem w_repL {K : PySem.W.Frag} {H : Hp} {Q : VK} {a : Addr} {xs : List V} {k : Int} (h : H a = some (.lst xs)) (k0 : 0 ≤ k) (k1 : k ≤ 1000000) (hl : xs.length * k.toNat ≤ 1000000) (q : ∀ p H', H p = none → Same H H' → H' p = some (.lst (List.replicate k.toNat xs).flatten) → Q (.ref p) H') : rMulN K (.ref a) (.int k) H Q :=
  .inr (.inr (.inr (.inl ⟨a, k, xs, rfl, rfl, h, by omega, by omega, Nat.le_trans hl (by decide), fun p hp => q p _ hp (same_new hp) upd_same⟩)))
section
open RZ
variable {K : PySem.W.Frag} {σ : L2.St} {H : Hp} {Q : VK} {te : TE} {tt : TT} {a b : Addr} {xs ys : List V} {i1 i2 : Nat} {vs : List Nat}
/-- [.. for x, y in zip(l, m)], lists of any lengths -/
theorem lcZL (hx : SqL K H a xs) (hy : SqL K H b ys) (I : Nat → List V → Hp → Prop) (hst : Stb I) (hn : xs.length ≤ 1000000) (hI : ∀ i acc H', I i acc H' → acc.length ≤ i) (h0 : ∀ H', Same H H' → I 0 [] H')
    (hs : ∀ i x y acc H', xs[i]? = some x → ys[i]? = some y → Same H H' → I i acc H' → ∀ H2, Same H' H2 → ∀ (k : VK) (k' : Hp → Prop), (∀ z H4, Same H2 H4 → I (i + 1) (acc ++ [z]) H4 → k z H4) → (∀ H3, Same H2 H3 → I (i + 1) acc H3 → k' H3) →
      wipe (((wipe σ vs).set i1 (some x)).set i2 (some y)) vs = wipe σ vs ∧ tt (((wipe σ vs).set i1 (some x)).set i2 (some y)) H2 fun b H3 => if b = true then te (((wipe σ vs).set i1 (some x)).set i2 (some y)) H3 k else k' H3)
    (hd : ∀ D acc H', H D = none → Same H H' → H' D = some (.lst acc) → I (min xs.length ys.length) acc H' → Q (.ref D) H') :
    LcOk (Itz K a b) (gTup K 2 (gCons (gName i1) (gCons (gName i2) gNil))) tt te vs σ Q H :=
  lc_gen (n := min xs.length ys.length) I hst (by omega) hI h0
    (fun i acc H' hi s1 _ => ⟨xs, ys, xs[i]'(by omega), ys[i]'(by omega), s1.seq hx, s1.seq hy, List.getElem?_eq_getElem (by omega), List.getElem?_eq_getElem (by omega)⟩)
    (fun _ _ s1 _ => ⟨xs, ys, s1.seq hx, s1.seq hy, by omega⟩)
    (fun i acc v H' H'' hi s1 w1 z => by
      obtain ⟨T, x, y, rfl, hT, rfl, ex, ey⟩ := z
      intro k k' hk hk'
      refine ⟨T, _, rfl, SqT.of upd_same, rfl, _, _, rfl, _, _, rfl, rfl, ?_⟩
      exact hs i x y acc H' (ex xs (s1.seq hx)) (ey ys (s1.seq hy)) s1 w1 _ (same_new hT) k k' (fun z H4 e => hk z H4 ((same_new hT).trans e)) fun H3 e => hk' H3 ((same_new hT).trans e))
    hd
end
theorem join_len {ys : List Str} : (ys.map (·.length)).sum = (Txt.join "" ys).length := by
  rw [← cz_len, cz_join, List.length_flatten, List.map_map]
  exact congrArg List.sum (List.map_congr_left fun y _ => (cz_len y).symm)
theorem join_chars (l : List Nat) : Txt.join "" (l.map fun c => (⟨#[c]⟩ : Str)) = ⟨l.toArray⟩ := by
  have h := join_ones l.reverse
  rw [List.map_reverse, List.reverse_reverse, List.reverse_reverse] at h
  exact h
end Sh
/-! texts of pacts: words that write numbers, rows -/
namespace Sh
open PySem PySem.Spec PyProof.Rows L2
def figB (z : Str) : Bool := (cz z).all fun c => decide (c ∈ ("0123456789" : Str).cps.toList)
def numZ (z : Str) : Option Int :=
  if (decide (1 ≤ z.length) && (decide (z.length ≤ 15) && figB z)) = true then (if (decide (1 < z.length) && decide ((cz z).head? = some 48)) = true then none else some ((NumText.digitsVal (cz z) : Nat) : Int)) else none
theorem fig_dig (c : Nat) : decide (c ∈ ("0123456789" : Str).cps.toList) = true ↔ 48 ≤ c ∧ c ≤ 57 := by
  rw [show ("0123456789" : Str).cps.toList = [48, 49, 50, 51, 52, 53, 54, 55, 56, 57] by decide +kernel, decide_eq_true_iff]
  simp only [List.mem_cons, List.not_mem_nil, or_false]
  omega
theorem fig_all {z : Str} (h : figB z = true) : NumText.AllDigits z.cps.toList := fun c hc => (fig_dig c).mp (List.all_eq_true.mp h c hc)
theorem fig_of {z : Str} (h : NumText.AllDigits z.cps.toList) : figB z = true := List.all_eq_true.mpr fun c hc => (fig_dig c).mpr (h c hc)
theorem int_fig {z : Str} (h : figB z = true) (h1 : 1 ≤ z.length) (h2 : z.length ≤ 15) : intText? z = some ((NumText.digitsVal (cz z) : Nat) : Int) :=
  intText_digits (fig_all h) (fun e => by
    have := cz_len z
    rw [show cz z = [] from e] at this
    simp at this
    omega) (by omega)
def rIntS : List V → Hp → VK → Prop := fun xs H Q => ∃ a n, xs = [V.str a] ∧ intText? a = some n ∧ a.length ≤ 640 ∧ Q (.int n) H
theorem w_intS {z : Str} {n : Int} {H : Hp} {Q : VK} (h : intText? z = some n) (l : z.length ≤ 640) (q : Q (.int n) H) : rIntS [.str z] H Q := ⟨z, n, rfl, h, l, q⟩
/-- the signs of a number -/
def sgS (n : Int) : Str := toString n
theorem cz_sg (n : Nat) : cz (sgS (n : Int)) = TL.numL n := TL.tl_num n
theorem numL_head {n : Nat} (h : 1 ≤ n) : ∃ c r, TL.numL n = c :: r ∧ 49 ≤ c := by
  induction n using Nat.strongRecOn with
  | _ n ih =>
    by_cases h2 : n < 10
    · exact ⟨48 + n, [], TL.numL_lt h2, by omega⟩
    · obtain ⟨c, r, e, hc⟩ := ih (n / 10) (by omega) (by omega)
      refine ⟨c, r ++ [48 + n % 10], ?_, hc⟩
      rw [TL.numL_step (by omega), e]
      rfl
theorem sg_len {n : Nat} (h : n < 10 ^ 15) : 1 ≤ (sgS (n : Int)).length ∧ (sgS (n : Int)).length ≤ 15 := by
  have a := TL.numL_len (n := n) (k := 15) (by decide) h
  have b := TL.numL_ne n
  rw [← cz_sg, cz_len] at a
  refine ⟨?_, a⟩
  rw [← cz_sg] at b
  have c := cz_len (sgS (n : Int))
  cases hl : cz (sgS (n : Int)) with
  | nil => exact absurd hl b
  | cons x r => rw [hl, List.length_cons] at c; omega
theorem sg_dig {n : Nat} : NumText.AllDigits (sgS (n : Int)).cps.toList := by
  have e : (sgS (n : Int)).cps.toList = TL.numL n := cz_sg n
  rw [e]
  exact TL.numL_digits n
theorem numZ_sg {n : Nat} (h : n < 10 ^ 15) : numZ (sgS (n : Int)) = some (n : Int) := by
  obtain ⟨l0, l1⟩ := sg_len h
  unfold numZ
  rw [decide_eq_true l0, decide_eq_true l1, fig_of sg_dig, if_pos (show (true && (true && true)) = true from rfl)]
  have e : (decide (1 < (sgS (n : Int)).length) && decide ((cz (sgS (n : Int))).head? = some 48)) = false := by
    by_cases h0 : n < 10
    · have : (sgS (n : Int)).length = 1 := by rw [← cz_len, cz_sg, TL.numL_lt h0]; rfl
      rw [this]
      rfl
    · obtain ⟨c, r, e, hc⟩ := numL_head (n := n) (by omega)
      rw [cz_sg, e, Bool.and_eq_false_iff]
      right
      refine decide_eq_false fun z => ?_
      have := Option.some.inj z
      omega
  rw [e, if_neg (by decide), cz_sg, TL.numL_val]
theorem sg_neg {n : Nat} (h : 1 ≤ n) : cz (sgS (-(n : Int))) = 45 :: TL.numL n := by
  obtain ⟨m, rfl⟩ : ∃ m, n = m + 1 := ⟨n - 1, by omega⟩
  have e : toString (-((m + 1 : Nat) : Int)) = "-" ++ toString ((m + 1 : Nat) : Int) := rfl
  have z := TL.tl_num (m + 1)
  unfold sgS cz
  rw [e]
  have a : ∀ s t : String, (Str.ofString (s ++ t)).cps.toList = (Str.ofString s).cps.toList ++ (Str.ofString t).cps.toList := fun s t => by
    rw [PyProof.Rows.signs_ofString, PyProof.Rows.signs_ofString, PyProof.Rows.signs_ofString, String.toList_append, List.map_append]
  rw [a]
  show _ ++ TL.tl (Str.ofString (toString ((m + 1 : Nat) : Int))) = _
  rw [z]
  rfl
def numsZ : List Str → Option (List Int)
  | [] => some []
  | z :: r => match numZ z, numsZ r with
    | some n, some ns => some (n :: ns)
    | _, _ => none
theorem numsZ_cons {z : Str} {r : List Str} : numsZ (z :: r) = match numZ z, numsZ r with
    | some n, some ns => some (n :: ns)
    | _, _ => none := rfl
theorem nums_map : ∀ {zs : List Str} {ns : List Int}, numsZ zs = some ns → (zs.map fun z => oV (numZ z)) = ns.map V.int
  | [], _, h => by cases h; rfl
  | z :: r, ns, h => by
    unfold numsZ at h
    cases h1 : numZ z with
    | none => rw [h1] at h; cases h
    | some n =>
      cases h2 : numsZ r with
      | none => rw [h1, h2] at h; cases h
      | some ms =>
        rw [h1, h2] at h
        cases h
        rw [List.map_cons, nums_map h2, h1]
        rfl
theorem nums_non : ∀ zs : List Str, inV .non (zs.map fun z => oV (numZ z)) = (numsZ zs).isNone
  | [] => rfl
  | z :: r => by
    have ih := nums_non r
    unfold inV at ih ⊢
    rw [List.map_cons, List.any_cons, ih, numsZ_cons]
    cases h1 : numZ z with
    | none => rfl
    | some n =>
      cases h2 : numsZ r with
      | none => rfl
      | some ms => rfl
theorem nums_flat (zs : List Str) : (zs.map fun z => oV (numZ z)).all flatV = true := by
  rw [List.all_map, List.all_eq_true]
  intro z _
  show flatV (oV (numZ z)) = true
  cases numZ z <;> rfl
theorem numsZ_sg : ∀ {ns : List Int}, (∀ n ∈ ns, 0 ≤ n ∧ n < 10 ^ 15) → numsZ (ns.map sgS) = some ns
  | [], _ => rfl
  | n :: r, h => by
    obtain ⟨h0, h1⟩ := h n List.mem_cons_self
    obtain ⟨m, rfl⟩ := Int.eq_ofNat_of_zero_le h0
    unfold numsZ
    rw [List.map_cons]
    dsimp only
    rw [numZ_sg (by omega), numsZ_sg fun k hk => h k (List.mem_cons_of_mem _ hk)]
/-- below nought with a stroke ahead -/
def timesZ (z : Str) : Option Int :=
  if (cz z).head? = some 45 then (match numZ (sT (cz z)) with
    | some n => if n = 0 then none else some (0 - n)
    | none => none) else numZ z
where sT (l : List Nat) : Str := ⟨(l.drop 1).toArray⟩
theorem times_sg {n : Int} (h0 : -(10 ^ 15) < n) (h1 : n < 10 ^ 15) : timesZ (sgS n) = some n := by
  by_cases h : 0 ≤ n
  · obtain ⟨m, rfl⟩ := Int.eq_ofNat_of_zero_le h
    unfold timesZ
    rw [if_neg, numZ_sg (by omega)]
    intro z
    rw [cz_sg] at z
    have hd := TL.numL_digits m
    cases e : TL.numL m with
    | nil => rw [e] at z; cases z
    | cons c r =>
      rw [e] at z hd
      have := Option.some.inj z
      have := hd c List.mem_cons_self
      omega
  · obtain ⟨m, rfl⟩ : ∃ m : Nat, n = -(m : Int) := ⟨(-n).toNat, by omega⟩
    have m1 : 1 ≤ m := by omega
    unfold timesZ
    rw [sg_neg m1, if_pos (show (45 :: TL.numL m).head? = some 45 from rfl)]
    have e : timesZ.sT (45 :: TL.numL m) = sgS (m : Int) := cz_inj (by
      rw [cz_sg]
      show (List.toArray _).toList = _
      rw [List.toList_toArray]
      rfl)
    rw [e, numZ_sg (by omega)]
    dsimp only
    rw [if_neg (by omega)]
    congr 1
    omega
/-! split -/
def rSplitS : V → List V → Hp → VK → Prop := fun x xs H Q => ∃ a b, x = .str a ∧ xs = [.str b] ∧ (b.length == 0) = false ∧ a.length + 2 ≤ sizeLine ∧ rNewStrs (Txt.split a b) H Q
theorem mt_splitS {X : Cx} : MtR X "str.split" rSplitS := mt_split
theorem w_splitS {a b : Str} {H : Hp} {Q : VK} (hb : (b.length == 0) = false) (ha : a.length ≤ 1000000) (q : ∀ p H', H p = none → Same H H' → H' p = some (.lst ((Txt.split a b).map V.str)) → Q (.ref p) H') : rSplitS (.str a) [.str b] H Q :=
  ⟨a, b, rfl, rfl, hb, Nat.le_trans (m := 1000002) (by omega) (by decide), fun p hp => q p _ hp (same_new hp) upd_same⟩
/-! fields, ways, as words write them -/
def wayZ (z : Str) : PyData :=
  if z = "=" then .tuple [.str "keep"] else if z = "*" then .tuple [.str "whole"] else match numsZ (Txt.split z "-") with
    | some [a, b] => .tuple [.str "low", .int a, .int b]
    | _ => .none
def kindZ (names : List Str) : List Str → PyData
  | [] => .none
  | w :: r =>
    if w :: r = [("still" : Str)] ∨ w :: r = [("drawn" : Str)] then .tuple [.str w]
    else if w = "step" ∧ r.length = 1 ∧ (numsZ r).isSome = true then .tuple [.str "step", .int (((numsZ r).getD []).headD 0)]
    else if w = "turn" ∧ (numsZ r).isSome = true then .tuple [.str "turn", .tuple (((numsZ r).getD []).map .int)]
    else if w = "with" ∧ r.length = 2 ∧ r.getD 0 "" ∈ names then (match timesZ (r.getD 1 "") with
      | some k => .tuple [.str "with", .int (names.idxOf (r.getD 0 "") : Nat), .int k]
      | none => .none)
    else .none
theorem kindZ_cons {names : List Str} {w : Str} {r : List Str} : kindZ names (w :: r) =
    if w :: r = [("still" : Str)] ∨ w :: r = [("drawn" : Str)] then .tuple [.str w]
    else if w = "step" ∧ r.length = 1 ∧ (numsZ r).isSome = true then .tuple [.str "step", .int (((numsZ r).getD []).headD 0)]
    else if w = "turn" ∧ (numsZ r).isSome = true then .tuple [.str "turn", .tuple (((numsZ r).getD []).map .int)]
    else if w = "with" ∧ r.length = 2 ∧ r.getD 0 "" ∈ names then (match timesZ (r.getD 1 "") with
      | some k => .tuple [.str "with", .int (names.idxOf (r.getD 0 "") : Nat), .int k]
      | none => .none)
    else .none := rfl
theorem numsZ_len : ∀ {zs : List Str} {ns : List Int}, numsZ zs = some ns → ns.length = zs.length
  | [], _, h => by cases h; rfl
  | z :: r, ns, h => by
    rw [numsZ_cons] at h
    cases h1 : numZ z with
    | none => rw [h1] at h; cases h
    | some n =>
      cases h2 : numsZ r with
      | none => rw [h1, h2] at h; cases h
      | some ms =>
        rw [h1, h2] at h
        cases h
        rw [List.length_cons, numsZ_len h2, List.length_cons]
theorem w_slLs {K : PySem.W.Frag} {H : Hp} {Q : VK} {a : Addr} {zs : List Str} {lo hi : Option Int} (h : SqL K H a (zs.map V.str)) (q : ∀ p H', H p = none → Same H H' → H' p = some (.lst ((cutD zs lo hi).map V.str)) → Q (.ref p) H') : rSlU K (.ref a) lo hi H Q :=
  .inr (.inr ⟨a, _, rfl, h, fun p hp => q p _ hp (same_new hp) (by
    have e : cutV (zs.map V.str) lo hi = (cutD zs lo hi).map V.str := by
      unfold cutV cutD
      rw [List.length_map, List.map_take, List.map_drop]
    rw [upd_same, e])⟩)
theorem w_ixLs {K : PySem.W.Frag} {H : Hp} {Q : VK} {a : Addr} {zs : List Str} {i : Int} {z : Str} (h : SqL K H a (zs.map V.str)) (e : atI zs i = some z) (q : Q (.str z) H) : rIxU K (.ref a) (.int i) H Q := w_ixl h (x := .str z) (by rw [atI_map, e]; rfl) q
theorem w_inLs {K : PySem.W.Frag} {H : Hp} {Q : VK} {a : Addr} {zs : List Str} {z : Str} (h : SqL K H a (zs.map V.str)) (q : Q (.bl (decide (z ∈ zs))) H) : rInU K (.str z) (.ref a) H Q :=
  .inl ⟨a, _, rfl, .inl h, rfl, by rw [List.all_map]; exact List.all_eq_true.mpr fun _ _ => rfl, by
    rw [inV_strs, show (zs.any fun y => decide (y = z)) = decide (z ∈ zs) by
      rw [Bool.eq_iff_iff, List.any_eq_true, decide_eq_true_iff]
      exact ⟨fun ⟨y, hy, e⟩ => (of_decide_eq_true e) ▸ hy, fun hz => ⟨z, hz, decide_eq_true rfl⟩⟩]
    exact q⟩
theorem w_indexLs {K : PySem.W.Frag} {H : Hp} {Q : VK} {a : Addr} {zs : List Str} {z : Str} (h : SqL K H a (zs.map V.str)) (hz : z ∈ zs) (q : Q (.int (zs.idxOf z : Nat)) H) : rIndex K (.ref a) [.str z] H Q := by
  have hl : zs.idxOf z < zs.length := List.idxOf_lt_length_of_mem hz
  refine ⟨a, _, .str z, zs.idxOf z, .str z, rfl, rfl, h, rfl, by rw [List.all_map]; exact List.all_eq_true.mpr fun _ _ => rfl, ?_, ?_, fun m z' hm hz' => ?_, q⟩
  · rw [List.getElem?_map, List.getElem?_eq_getElem hl, List.getElem_idxOf]
    rfl
  · show (z == z) = true
    exact beq_self_eq_true z
  · rw [List.getElem?_map] at hz'
    obtain ⟨y, hy, rfl⟩ := Option.map_eq_some_iff.mp hz'
    show (y == z) = false
    have n := List.not_of_lt_findIdx (p := (· == z)) (xs := zs) (i := m) hm
    obtain ⟨l, ey⟩ := List.getElem?_eq_some_iff.mp hy
    rw [ey] at n
    simpa using n
def fieldZ (fs : List Fd) : List Str → PyData
  | w0 :: w1 :: w2 :: w3 :: r =>
    if w1 ∈ fs.map Fd.nm ∨ fs.length = 12 then .none
    else if fieldD (fs.length : Int) (.tuple [.str w1, oD (numZ w2), kindZ (fs.map Fd.nm) (w3 :: r)]) = true then .tuple [.str w1, oD (numZ w2), kindZ (fs.map Fd.nm) (w3 :: r)] else .none
  | _ => .none
/-! the rows' taker -/
def rowD (ws : List Str) : PyData := .list (ws.map .str)
def tkF (l : Addr) (n : Nat) : List (Str × V) := [("all_rows", .ref l), ("row_at", .int (n : Int))]
structure TkAt (W : Wd) (H : Hp) (p : Addr) (rows : List (List Str)) (n : Nat) : Prop where
  at_ : ∃ dx l, H p = some (.ins (clsOf W.K "RowTaker") dx (tkF l n)) ∧ Dq W.K H (.ref l) (.list (rows.map rowD))
  ne : ∀ r ∈ rows, r ≠ []
  len : rows.length ≤ 1000 ∧ ∀ r ∈ rows, r.length ≤ 1000 ∧ ∀ z ∈ r, z.length ≤ 100000 ∧ PyData.strOk z = true
/-- all but the object at p stays -/
def Mp (p : Addr) (H H' : Hp) : Prop := ∀ a u, H a = some u → a ≠ p → H' a = some u
theorem Mp.same {p : Addr} {H H' : Hp} (e : Same H H') : Mp p H H' := fun a u h _ => e a u h
theorem Mp.trans {p : Addr} {H H1 H2 : Hp} (e : Mp p H H1) (e' : Mp p H1 H2) : Mp p H H2 := fun a u h n => e' a u (e a u h n) n
theorem mp_new {p : Addr} {H H' : Hp} (h : H p = none) (e : Mp p H H') : Same H H' := fun a u q => e a u q fun z => by rw [z, h] at q; cases q
section
variable {K : PySem.W.Frag} {W : Wd} {H H' : Hp} {p C dx : Addr} {fs : List (Str × V)} {Q : VK} {rows : List (List Str)} {n : Nat} {v : V} {d : PyData}
theorem mp_l {a : Addr} {xs : List V} (hp : H p = some (.ins C dx fs)) (e : Mp p H H') (h : SqL K H a xs) : SqL K H' a xs := by
  rcases h with (h | ⟨o, h⟩) | h
  · exact .inl (.inl (e _ _ h fun z => by rw [z, hp] at h; cases h))
  · exact .inl (.inr ⟨o, e _ _ h fun z => by rw [z, hp] at h; cases h⟩)
  · exact .inr h
theorem mp_n {a : Addr} {xs : List V} (hp : H p = some (.ins C dx fs)) (e : Mp p H H') (h : SqN K H a xs) : SqN K H' a xs := by
  rcases h with ⟨o, d, h⟩ | h
  · exact .inl ⟨o, d, e _ _ h fun z => by rw [z, hp] at h; cases h⟩
  · exact .inr h
mutual
theorem mp_dq (hp : H p = some (.ins C dx fs)) (e : Mp p H H') : ∀ {v : V} {d : PyData}, Dq K H v d → Dq K H' v d
  | _, _, .non => .non
  | _, _, .bl b => .bl b
  | _, _, .int i => .int i
  | _, _, .str x => .str x
  | _, _, .lst h r => .lst (mp_l hp e h) (mp_dqs hp e r)
  | _, _, .tup h r => .tup (mp_n hp e h) (mp_dqs hp e r)
theorem mp_dqs (hp : H p = some (.ins C dx fs)) (e : Mp p H H') : ∀ {vs : List V} {ds : List PyData}, DqAll K H vs ds → DqAll K H' vs ds
  | _, _, .nil => .nil
  | _, _, .cons h r => .cons (mp_dq hp e h) (mp_dqs hp e r)
end
theorem tk_same (e : Same H H') (h : TkAt W H p rows n) : TkAt W H' p rows n := by
  obtain ⟨⟨dx, l, h1, h2⟩, h3, h4⟩ := h
  exact ⟨⟨dx, l, e _ _ h1, dq_mono e h2⟩, h3, h4⟩
theorem tk_dq (h : TkAt W H p rows n) (e : Mp p H H') (hv : Dq W.K H v d) : Dq W.K H' v d := by
  obtain ⟨⟨dx, l, h1, h2⟩, h3, h4⟩ := h
  exact mp_dq h1 e hv
theorem w_tkRows (h : TkAt W H p rows n) (q : ∀ l, Dq W.K H (.ref l) (.list (rows.map rowD)) → Q (.ref l) H) : FdOk (clsOf W.K "RowTaker") "all_rows" Q (.ref p) H := by
  obtain ⟨⟨dx, l, h1, h2⟩, h3, h4⟩ := h
  exact w_fdok h1 lk_hit (q l h2)
theorem w_tkNum (h : TkAt W H p rows n) (q : Q (.int (n : Int)) H) : FdOk (clsOf W.K "RowTaker") "row_at" Q (.ref p) H := by
  obtain ⟨⟨dx, l, h1, h2⟩, h3, h4⟩ := h
  exact w_fdok h1 ((lk_miss (by decide +kernel)).trans lk_hit) q
def tkNo (m : Str) : Bool := !(m == "all_rows") && !(m == "row_at")
theorem w_mtTk {m : Str} {t : TA} {sp : Sp} {E : XK} {σ : L2.St} (h : TkAt W H p rows n) (hn : tkNo m = true) (q : t σ H fun vs H2 => sp (.ref p :: vs) H2 Q E) : MtOk (clsOf W.K "RowTaker") m t sp E σ Q (.ref p) H := by
  obtain ⟨⟨dx, l, h1, h2⟩, h3, h4⟩ := h
  unfold tkNo at hn
  simp only [Bool.and_eq_true, Bool.not_eq_true'] at hn
  exact w_mtok h1 ((lk_miss hn.1).trans ((lk_miss hn.2).trans rfl)) q
end
/-! a field that grows by a number -/
def sFdA (C : Addr) (ta tv : TE) (rd : V → V → Hp → VK → Prop) (f : Str) : TS := fun D σ H => ta σ H fun x H1 => ∃ a dx fs v, x = .ref a ∧ H1 a = some (.ins C dx fs) ∧ fs.lookup f = some v ∧
  tv σ H1 fun y H2 => rd v y H2 fun z H3 => ∃ dx' fs', H3 a = some (.ins C dx' fs') ∧ fs'.length < 1000 ∧ D.nx σ (upd H3 a (.ins C dx' (putF f z fs')))
theorem ps_fdA {X : Cx} {o value : Expr} {f : Str} {pos tpos : Pos} {op : Operator} {ta tv : TE} {C : Addr} {rd : V → V → Hp → VK → Prop} (c : Cls X.K C) (n : NoAttr X.K C f) (ha : PE X o ta) (hv : PE X value tv) (hop : InOp X op rd) : PS X (.AugAssign (.Attribute o f tpos) op value pos) (sFdA C ta tv rd f) := by
  refine ⟨fun pins s σ H D I h => ?_⟩
  refine wpAny_AugAssign_AttributeAny (thn (ha.run pins s σ H _ I h) fun ov s1 ⟨x, H1, I1, rx, a, dx, fs, v, ex, ea, l, q⟩ => ?_)
  subst ex
  obtain rfl : ov = Value.ref a := rx
  refine getattr_ok I1 ea c n l fun u s2 I2 ru => thn (hv.run pins s2 σ H1 _ I2 q) fun w3 s3 ⟨y, H2, I3, ry, q3⟩ => thn (hop pins s3 σ H2 v y u w3 _ I3 ru ry q3) fun w4 s4 ⟨z, H3, I4, rz, dx', fs', ea', l', q4⟩ => ?_
  exact setattr_ok I4 ea' c n l' rz fun s5 I5 => ⟨σ, _, I5, q4⟩
theorem atI_of_get {α : Type} {l : List α} {n : Nat} {x : α} (h : l[n]? = some x) : atI l (n : Int) = some x := by
  obtain ⟨y, h1, h2⟩ := atI_get (l := l) (i := (n : Int)) (by omega) (by have := (List.getElem?_eq_some_iff.mp h).1; omega)
  rw [Int.toNat_natCast, h] at h1
  rw [h2, h1]
/-- [.. for x in l], where the new list's own place is known -/
theorem lcLD {K : PySem.W.Frag} {σ : L2.St} {H : Hp} {Q : VK} {te : TE} {tt : TT} {g : TG} {vs : List Nat} {a : Addr} {xs : List V} (hx : SqL K H a xs) (I : Addr → Nat → List V → Hp → Prop) (hst : ∀ D i acc H' ys, I D i acc H' → I D i acc (upd H' D (.lst ys))) (hn : xs.length ≤ 1000000) (hI : ∀ D i acc H', I D i acc H' → acc.length ≤ i) (h0 : ∀ D H', Same H H' → I D 0 [] H')
    (hs : ∀ D i x acc H', xs[i]? = some x → Same H H' → H' D = some (.lst acc) → I D i acc H' → ∀ (k : VK) (k' : Hp → Prop), (∀ y H4, Same H' H4 → I D (i + 1) (acc ++ [y]) H4 → k y H4) → (∀ H3, Same H' H3 → I D (i + 1) acc H3 → k' H3) →
      g x (wipe σ vs) H' fun σ2 H2 => wipe σ2 vs = wipe σ vs ∧ tt σ2 H2 fun b H3 => if b = true then te σ2 H3 k else k' H3)
    (hd : ∀ D acc H', H D = none → Same H H' → H' D = some (.lst acc) → I D xs.length acc H' → Q (.ref D) H') : LcOk (Itl K a) g tt te vs σ Q H := fun D hD => by
  refine ⟨fun i m H' => m = xs.length - i ∧ i ≤ xs.length ∧ ∃ acc, Same H H' ∧ H' D = some (.lst acc) ∧ I D i acc H', ⟨xs.length, by omega, by omega, [], same_new hD, upd_same, h0 _ _ (same_new hD)⟩, fun i m H1 ⟨em, hi, acc, s1, hD1, w1⟩ => ?_⟩
  by_cases hlt : i < xs.length
  · refine .inr ⟨⟨xs, xs[i], s1.seq hx, List.getElem?_eq_getElem hlt⟩, fun H' => i + 1 ≤ xs.length ∧ ∃ acc, Same H H' ∧ H' D = some (.lst acc) ∧ I D (i + 1) acc H', fun H' ⟨a, b⟩ => ⟨xs.length - (i + 1), by omega, rfl, a, b⟩, fun x H' y => ?_⟩
    obtain ⟨e1, e2⟩ := y
    subst e1
    refine hs D i x acc _ (e2 xs (s1.seq hx)) s1 hD1 w1 _ _ (fun y H4 s4 w4 => ⟨acc, s4 _ _ hD1, ?_, hlt, _, same_mut (s1.trans s4) hD, upd_same, hst D _ _ _ _ w4⟩) fun H3 s3 w3 => ⟨hlt, acc, s1.trans s3, s3 _ _ hD1, w3⟩
    have l1 := hI D i acc _ w1
    exact Nat.lt_of_le_of_lt (m := 1000000) (by omega) (by decide)
  · have e : i = xs.length := by omega
    subst e
    exact .inl ⟨⟨xs, s1.seq hx, Nat.le_refl _⟩, hd D acc H1 hD s1 hD1 w1⟩
/-- rows of words, none of which lies at D -/
def RwAll (D : Addr) (H : Hp) : List V → List (List Str) → Prop
  | [], [] => True
  | x :: xs, r :: rs => (∃ a, x = .ref a ∧ a ≠ D ∧ H a = some (.lst (r.map V.str))) ∧ RwAll D H xs rs
  | _, _ => False
theorem rw_same {D : Addr} {H H' : Hp} (e : Same H H') : ∀ {xs : List V} {rs : List (List Str)}, RwAll D H xs rs → RwAll D H' xs rs
  | [], [], _ => trivial
  | _ :: _, _ :: _, ⟨⟨a, e1, e2, e3⟩, h⟩ => ⟨⟨a, e1, e2, e _ _ e3⟩, rw_same e h⟩
  | [], _ :: _, h => h.elim
  | _ :: _, [], h => h.elim
theorem rw_upd {D : Addr} {H : Hp} {o : HO} : ∀ {xs : List V} {rs : List (List Str)}, RwAll D H xs rs → RwAll D (upd H D o) xs rs
  | [], [], _ => trivial
  | _ :: _, _ :: _, ⟨⟨a, e1, e2, e3⟩, h⟩ => ⟨⟨a, e1, e2, by rw [upd_ne e2]; exact e3⟩, rw_upd h⟩
  | [], _ :: _, h => h.elim
  | _ :: _, [], h => h.elim
theorem rw_snoc {D : Addr} {H : Hp} {x : V} {r : List Str} (hx : ∃ a, x = .ref a ∧ a ≠ D ∧ H a = some (.lst (r.map V.str))) : ∀ {xs : List V} {rs : List (List Str)}, RwAll D H xs rs → RwAll D H (xs ++ [x]) (rs ++ [r])
  | [], [], _ => ⟨hx, trivial⟩
  | _ :: _, _ :: _, ⟨h1, h⟩ => ⟨h1, rw_snoc hx h⟩
  | [], _ :: _, h => h.elim
  | _ :: _, [], h => h.elim
theorem rw_dqs {K : PySem.W.Frag} {D : Addr} {H : Hp} : ∀ {xs : List V} {rs : List (List Str)}, RwAll D H xs rs → DqAll K H xs (rs.map rowD)
  | [], [], _ => .nil
  | _ :: _, _ :: _, ⟨⟨a, e1, e2, e3⟩, h⟩ => by
    subst e1
    exact .cons (.lst (SqL.of e3) (dqs_strs _)) (rw_dqs h)
  | [], _ :: _, h => h.elim
  | _ :: _, [], h => h.elim
theorem shaped_fds (fs : List Fd) (h : ∀ f ∈ fs, PyData.strOk f.nm = true) : SeqAt.shaped (.tuple (fs.map fdD)) = true := by
  have key : ∀ d ∈ fs.map fdD, PyData.canLay0 d = true ∧ PyData.depth d ≤ 10 := fun d hd => by
    obtain ⟨f, hf, rfl⟩ := List.mem_map.mp hd
    have hk : PyData.canLay0 (kdD f.kd) = true ∧ PyData.depth (kdD f.kd) ≤ 5 := by
      cases f.kd with
      | still => exact ⟨by decide +kernel, by decide +kernel⟩
      | drawn => exact ⟨by decide +kernel, by decide +kernel⟩
      | step n => exact ⟨by simp [kdD, PyData.canLay0, PyData.canLayAll0]; decide +kernel, by simp [kdD, PyData.depth, PyData.depthAll]⟩
      | turn ns =>
        have a := canAll (ns.map PyData.int) fun d hd => by obtain ⟨n, _, rfl⟩ := List.mem_map.mp hd; rfl
        have b := depAll (k := 0) (ns.map PyData.int) fun d hd => by obtain ⟨n, _, rfl⟩ := List.mem_map.mp hd; simp [PyData.depth]
        refine ⟨?_, ?_⟩
        · simp [kdD, PyData.canLay0, PyData.canLayAll0, a]
          decide +kernel
        · simp only [kdD, PyData.depth, PyData.depthAll]
          omega
      | wth p b => exact ⟨by simp [kdD, PyData.canLay0, PyData.canLayAll0]; decide +kernel, by simp [kdD, PyData.depth, PyData.depthAll]⟩
    refine ⟨?_, ?_⟩
    · simp [fdD, PyData.canLay0, PyData.canLayAll0, hk.1, h f hf]
    · have := hk.2
      simp only [fdD, PyData.depth, PyData.depthAll]
      omega
  have a := canAll _ fun d hd => (key d hd).1
  have b := depAll _ fun d hd => (key d hd).2
  show (PyData.canLay0 (.tuple (fs.map fdD)) && decide (PyData.depth (.tuple (fs.map fdD)) ≤ 64)) = true
  rw [Bool.and_eq_true]
  exact ⟨by simp only [PyData.canLay0]; exact a, decide_eq_true (by simp only [PyData.depth]; omega)⟩
theorem strOk_nm {z : Str} (h : OkNm z) : PyData.strOk z = true := by
  unfold PyData.strOk
  rw [← Array.all_toList, List.all_eq_true]
  intro c hc
  have := h.2.2 c hc
  exact decide_eq_true (by omega)
theorem ten15 : (1099511627776 : Int) < 10 ^ 15 := by decide
/-! the words of a pact -/
def kindW (fs : List Fd) : Kd → List Str
  | .still => ["still"]
  | .drawn => ["drawn"]
  | .step n => ["step", sgS n]
  | .turn ns => "turn" :: ns.map sgS
  | .wth p b => ["with", (fs.map Fd.nm).getD p.toNat "", sgS b]
def rowF (fs : List Fd) (f : Fd) : List Str := "field" :: f.nm :: sgS f.br :: kindW fs f.kd
def wayW : Wy → Str
  | .keep => "="
  | .whole => "*"
  | .low w l => sgS w ++ "-" ++ sgS l
def rowM (f : Fm) : List Str := "form" :: sgS f.r :: sgS f.c :: f.ws.map wayW
def rowsP (P : Pt) : List (List Str) := P.s.fs.map (rowF P.s.fs) ++ [[("check" : Str), sgS P.s.m], [("wide" : Str), sgS P.n], [("road" : Str), sgS P.sk, sgS P.gp, sgS P.lt, sgS P.an]] ++ P.fs.map rowM
def textP (P : Pt) : Str := Txt.join "\n" ((rowsP P).map fun r => Txt.join " " r)
theorem numZ_i {n : Int} (h0 : 0 ≤ n) (h1 : n < 10 ^ 15) : numZ (sgS n) = some n := by
  obtain ⟨m, rfl⟩ := Int.eq_ofNat_of_zero_le h0
  exact numZ_sg (by omega)
theorem p2_40 {b : Int} (h : b ≤ 40) : p2 b ≤ 1099511627776 := Int.le_trans (p2_le h) (by decide)
theorem kind_back {fs : List Fd} {j : Nat} {f : Fd} (okk : OkKd j f.br f.kd) (b1 : f.br ≤ 40) (nd : (fs.map Fd.nm).Nodup) (hj : j ≤ fs.length) : ∃ w r, kindW fs f.kd = w :: r ∧ kindZ ((fs.take j).map Fd.nm) (w :: r) = kdD f.kd := by
  have pb := p2_40 b1
  cases hk : f.kd with
  | still => exact ⟨_, _, rfl, by rw [kindZ_cons, if_pos (.inl rfl)]; rfl⟩
  | drawn => exact ⟨_, _, rfl, by rw [kindZ_cons, if_pos (.inr rfl)]; rfl⟩
  | step n =>
    rw [hk] at okk
    have hn : numsZ [sgS n] = some [n] := by rw [numsZ_cons, numZ_i okk.1 (by have := okk.2; have := ten15; omega)]; rfl
    refine ⟨_, _, rfl, ?_⟩
    rw [kindZ_cons, if_neg (by rintro (h | h) <;> (injection h with h _; exact absurd h (by decide +kernel))), if_pos ⟨rfl, rfl, by rw [hn]; rfl⟩, hn]
    rfl
  | turn ns =>
    rw [hk] at okk
    have hn : numsZ (ns.map sgS) = some ns := numsZ_sg fun n hn => ⟨(okk.2.2.1 n hn).1, by have := (okk.2.2.1 n hn).2; have := ten15; omega⟩
    refine ⟨_, _, rfl, ?_⟩
    rw [kindZ_cons, if_neg (by rintro (h | h) <;> (injection h with h _; exact absurd h (by decide +kernel))), if_neg (fun h => absurd h.1 (by decide +kernel)), if_pos ⟨rfl, by rw [hn]; rfl⟩, hn]
    rfl
  | wth p b =>
    rw [hk] at okk
    obtain ⟨p0, p1, b0, b1'⟩ := okk
    obtain ⟨m, rfl⟩ := Int.eq_ofNat_of_zero_le p0
    have hm : m < j := by omega
    have hm2 : m < fs.length := by omega
    have eg : (fs.map Fd.nm).getD ((m : Nat) : Int).toNat "" = fs[m].nm := by
      rw [Int.toNat_natCast, List.getD_eq_getElem?_getD, List.getElem?_map, List.getElem?_eq_getElem hm2]
      rfl
    have et : ((fs.take j).map Fd.nm)[m]? = some fs[m].nm := by
      rw [List.getElem?_map, List.getElem?_take_of_lt hm, List.getElem?_eq_getElem hm2]
      rfl
    have ndj : ((fs.take j).map Fd.nm).Nodup := by
      rw [List.map_take]
      exact nd.sublist (List.take_sublist _ _)
    have mem : fs[m].nm ∈ (fs.take j).map Fd.nm := List.mem_of_getElem? et
    have ei : ((fs.take j).map Fd.nm).idxOf fs[m].nm = m := by
      obtain ⟨hl, e⟩ := List.getElem?_eq_some_iff.mp et
      rw [← e]
      exact ndj.idxOf_getElem m hl
    refine ⟨_, _, rfl, ?_⟩
    rw [eg, kindZ_cons, if_neg (by rintro (h | h) <;> (injection h with h _; exact absurd h (by decide +kernel))), if_neg (fun h => absurd h.1 (by decide +kernel)), if_neg (fun h => absurd h.1 (by decide +kernel)), if_pos ⟨rfl, rfl, mem⟩]
    show (match timesZ (sgS b) with | some k => PyData.tuple [.str "with", .int ((((fs.take j).map Fd.nm).idxOf fs[m].nm : Nat) : Int), .int k] | none => .none) = _
    rw [times_sg (by omega) (by omega), ei]
    rfl
theorem field_back {s : Shp} (ok : OkShp s) {j : Nat} {f : Fd} (hf : s.fs[j]? = some f) : fieldZ (s.fs.take j) (rowF s.fs f) = fdD f := by
  have okf := ok.fd j f hf
  have hj := (List.getElem?_eq_some_iff.mp hf).1
  have l1 := ok.l1
  obtain ⟨w, r, e1, e2⟩ := kind_back (fs := s.fs) okf.kd okf.b1 ok.nd (by omega)
  unfold rowF
  rw [e1]
  have b0 := okf.b0
  have b1 := okf.b1
  have lt : (s.fs.take j).length = j := by rw [List.length_take]; omega
  have nin : f.nm ∉ (s.fs.take j).map Fd.nm := fun hm => by
    have nd := ok.nd
    obtain ⟨i, hi⟩ := List.getElem?_of_mem hm
    have il := (List.getElem?_eq_some_iff.mp hi).1
    rw [List.length_map, lt] at il
    rw [List.getElem?_map, List.getElem?_take_of_lt il] at hi
    have a : (s.fs.map Fd.nm)[i]? = some f.nm := by rw [List.getElem?_map]; exact hi
    have b : (s.fs.map Fd.nm)[j]? = some f.nm := by rw [List.getElem?_map, hf]; rfl
    have := (List.getElem?_inj (by rw [List.length_map]; omega) nd).mp (a.trans b.symm)
    omega
  show (if f.nm ∈ (s.fs.take j).map Fd.nm ∨ (s.fs.take j).length = 12 then PyData.none
    else if fieldD ((s.fs.take j).length : Int) (.tuple [.str f.nm, oD (numZ (sgS f.br)), kindZ ((s.fs.take j).map Fd.nm) (w :: r)]) = true then .tuple [.str f.nm, oD (numZ (sgS f.br)), kindZ ((s.fs.take j).map Fd.nm) (w :: r)] else .none) = _
  rw [if_neg (by rintro (h | h); · exact nin h
                 · omega), e2, numZ_i (by omega) (by have := ten15; omega), lt]
  have := fd_ok okf
  rw [show PyData.tuple [.str f.nm, oD (some f.br), kdD f.kd] = fdD f from rfl, this, if_pos rfl]
theorem way_back {b : Int} {w : Wy} (ok : OkWy b w) (b1 : b ≤ 40) : wayZ (wayW w) = wyD w := by
  cases w with
  | keep => rfl
  | whole => rfl
  | low n l =>
    obtain ⟨n0, n1, l0, l1⟩ := ok
    have pb := p2_40 (b := n) (by omega)
    have t := ten15
    obtain ⟨m, rfl⟩ := Int.eq_ofNat_of_zero_le (show 0 ≤ n by omega)
    obtain ⟨k, rfl⟩ := Int.eq_ofNat_of_zero_le l0
    have ej : wayW (.low (m : Int) (k : Int)) = Txt.join "-" [sgS (m : Int), sgS (k : Int)] := cz_inj (by
      rw [TL.join_eq]
      show cz (sgS (m : Int) ++ "-" ++ sgS (k : Int)) = cz (sgS (m : Int) ++ "-" ++ Str.join "-" [sgS (k : Int)])
      rfl)
    have es : Txt.split (wayW (.low (m : Int) (k : Int))) "-" = [sgS (m : Int), sgS (k : Int)] := by
      rw [ej]
      refine TL.split_join (s := 45) (S := []) rfl (by decide +kernel) (by simp) fun p hp => ?_
      simp only [List.mem_cons, List.not_mem_nil, or_false] at hp
      rcases hp with rfl | rfl
      · show 45 ∉ cz (sgS (m : Int))
        rw [cz_sg]
        exact TL.numL_free (.inl (by decide))
      · show 45 ∉ cz (sgS (k : Int))
        rw [cz_sg]
        exact TL.numL_free (.inl (by decide))
    have h45 : 45 ∈ cz (wayW (.low (m : Int) (k : Int))) := by
      show 45 ∈ cz (sgS (m : Int) ++ "-" ++ sgS (k : Int))
      rw [cz_app, cz_app]
      simp [show cz ("-" : Str) = [45] from rfl]
    unfold wayZ
    rw [if_neg (fun h => by rw [h] at h45; exact absurd h45 (by decide +kernel)), if_neg (fun h => by rw [h] at h45; exact absurd h45 (by decide +kernel)), es, numsZ_cons, numsZ_cons, numZ_i (by omega) (by omega), numZ_i (by omega) (by omega)]
    rfl
/-! a text of rows, cut again -/
def CleanW (z : Str) : Prop := 10 ∉ cz z ∧ 32 ∉ cz z ∧ z.length ≤ 40 ∧ PyData.strOk z = true
theorem clean_of {z : Str} (h : ∀ c ∈ cz z, 33 ≤ c ∧ c ≤ 122) (l : z.length ≤ 40) : CleanW z := by
  refine ⟨fun z => ?_, fun z => ?_, l, ?_⟩
  · have := h _ z; omega
  · have := h _ z; omega
  · unfold PyData.strOk
    rw [← Array.all_toList, List.all_eq_true]
    intro c hc
    have := h c hc
    exact decide_eq_true (by omega)
theorem clean_sg {n : Int} (h0 : -(10 ^ 15) < n) (h1 : n < 10 ^ 15) : CleanW (sgS n) := by
  by_cases h : 0 ≤ n
  · obtain ⟨m, rfl⟩ := Int.eq_ofNat_of_zero_le h
    refine clean_of (fun c hc => ?_) (Nat.le_trans (sg_len (by omega)).2 (by decide))
    rw [cz_sg] at hc
    have := TL.numL_digits m c hc
    omega
  · obtain ⟨m, rfl⟩ : ∃ m : Nat, n = -(m : Int) := ⟨(-n).toNat, by omega⟩
    have e := sg_neg (n := m) (by omega)
    refine clean_of (fun c hc => ?_) ?_
    · rw [e] at hc
      rcases List.mem_cons.mp hc with rfl | hc
      · omega
      · have := TL.numL_digits m c hc
        omega
    · rw [← cz_len, e, List.length_cons]
      have := TL.numL_len (n := m) (k := 15) (by decide) (by omega)
      omega
theorem clean_nm {z : Str} (h : OkNm z) : CleanW z := clean_of (fun c hc => by have := h.2.2 c hc; omega) (by have := h.2.1; omega)
theorem join_le {y : Str} {m : Nat} (hy : y.length ≤ 1) : ∀ {zs : List Str}, (∀ z ∈ zs, z.length ≤ m) → (Txt.join y zs).length ≤ zs.length * (m + 1)
  | [], _ => by rw [TL.join_eq]; exact Nat.zero_le _
  | [z], h => by
    rw [TL.join_eq]
    show z.length ≤ _
    have := h z List.mem_cons_self
    simp only [List.length_cons, List.length_nil]
    omega
  | z :: w :: r, h => by
    have ih := join_le hy (zs := w :: r) fun x hx => h x (List.mem_cons_of_mem _ hx)
    rw [TL.join_eq] at ih ⊢
    show (z ++ y ++ Str.join y (w :: r)).length ≤ _
    rw [len_app, len_app]
    have := h z List.mem_cons_self
    rw [List.length_cons, Nat.add_mul, Nat.one_mul]
    omega
theorem in_join {y : Str} {c : Nat} : ∀ {zs : List Str}, c ∈ cz (Txt.join y zs) → c ∈ cz y ∨ ∃ z ∈ zs, c ∈ cz z
  | [], h => by rw [TL.join_eq] at h; exact (List.not_mem_nil h).elim
  | [z], h => by rw [TL.join_eq] at h; exact .inr ⟨z, List.mem_cons_self, h⟩
  | z :: w :: r, h => by
    rw [TL.join_eq] at h
    have h : c ∈ cz (z ++ y ++ Str.join y (w :: r)) := h
    rw [cz_app, cz_app] at h
    rcases List.mem_append.mp h with h | h
    · rcases List.mem_append.mp h with h | h
      · exact .inr ⟨z, List.mem_cons_self, h⟩
      · exact .inl h
    · rw [← TL.join_eq] at h
      rcases in_join (zs := w :: r) h with h | ⟨x, hx, h⟩
      · exact .inl h
      · exact .inr ⟨x, List.mem_cons_of_mem _ hx, h⟩
theorem rows_back {rows : List (List Str)} (h0 : rows ≠ []) (h : ∀ r ∈ rows, r ≠ [] ∧ ∀ z ∈ r, CleanW z) : ((Txt.split (Txt.join "\n" (rows.map fun r => Txt.join " " r)) "\n").map fun r => Txt.split r " ") = rows := by
  have e : Txt.split (Txt.join "\n" (rows.map fun r => Txt.join " " r)) "\n" = rows.map fun r => Txt.join " " r := by
    refine TL.split_join (s := 10) (S := []) rfl (by decide +kernel) (fun z => h0 (List.map_eq_nil_iff.mp z)) fun p hp => ?_
    obtain ⟨r, hr, rfl⟩ := List.mem_map.mp hp
    intro hc
    rcases in_join hc with hc | ⟨z, hz, hc⟩
    · exact absurd hc (by decide +kernel)
    · exact ((h r hr).2 z hz).1 hc
  rw [e, List.map_map]
  conv => rhs; rw [← List.map_id rows]
  refine List.map_congr_left fun r hr => ?_
  exact TL.split_join (s := 32) (S := []) rfl (by decide +kernel) (h r hr).1 fun z hz => ((h r hr).2 z hz).2.1
theorem clean_kw : CleanW "field" ∧ CleanW "still" ∧ CleanW "drawn" ∧ CleanW "step" ∧ CleanW "turn" ∧ CleanW "with" ∧ CleanW "check" ∧ CleanW "wide" ∧ CleanW "road" ∧ CleanW "form" ∧ CleanW "=" ∧ CleanW "*" := by
  refine ⟨?_, ?_, ?_, ?_, ?_, ?_, ?_, ?_, ?_, ?_, ?_, ?_⟩ <;> exact clean_of (by decide +kernel) (by decide)
theorem clean_rows {P : Pt} (ok : OkPt P) : ∀ r ∈ rowsP P, r ≠ [] ∧ r.length ≤ 20 ∧ ∀ z ∈ r, CleanW z := fun r hr => by
  obtain ⟨k1, k2, k3, k4, k5, k6, k7, k8, k9, kA, kB, kC⟩ := clean_kw
  have t := ten15
  unfold rowsP at hr
  rcases List.mem_append.mp hr with hr | hr
  · rcases List.mem_append.mp hr with hr | hr
    · obtain ⟨f, hf, rfl⟩ := List.mem_map.mp hr
      obtain ⟨j, hj⟩ := List.getElem?_of_mem hf
      have okf := ok.ok.fd j f hj
      have b0 := okf.b0
      have b1 := okf.b1
      have pb := p2_40 b1
      have hk : (kindW P.s.fs f.kd).length ≤ 13 ∧ ∀ z ∈ kindW P.s.fs f.kd, CleanW z := by
        have okk := okf.kd
        cases hk : f.kd with
        | still => exact ⟨(show 1 ≤ 13 by decide), fun z hz => by rw [List.mem_singleton.mp hz]; exact k2⟩
        | drawn => exact ⟨(show 1 ≤ 13 by decide), fun z hz => by rw [List.mem_singleton.mp hz]; exact k3⟩
        | step n =>
          rw [hk] at okk
          refine ⟨(show 2 ≤ 13 by decide), fun z hz => ?_⟩
          have hz : z ∈ [("step" : Str), sgS n] := hz
          simp only [List.mem_cons, List.not_mem_nil, or_false] at hz
          rcases hz with rfl | rfl
          · exact k4
          · exact clean_sg (by have := okk.1; omega) (by have := okk.2; omega)
        | turn ns =>
          rw [hk] at okk
          refine ⟨by show (("turn" : Str) :: ns.map sgS).length ≤ 13; rw [List.length_cons, List.length_map]; have := okk.2.1; omega, fun z hz => ?_⟩
          have hz : z ∈ ("turn" : Str) :: ns.map sgS := hz
          rcases List.mem_cons.mp hz with rfl | hz
          · exact k5
          · obtain ⟨n, hn, rfl⟩ := List.mem_map.mp hz
            have := okk.2.2.1 n hn
            exact clean_sg (by omega) (by omega)
        | wth p b =>
          rw [hk] at okk
          obtain ⟨p0, p1, q0, q1⟩ := okk
          refine ⟨(show 3 ≤ 13 by decide), fun z hz => ?_⟩
          have hz : z ∈ [("with" : Str), (P.s.fs.map Fd.nm).getD p.toNat "", sgS b] := hz
          simp only [List.mem_cons, List.not_mem_nil, or_false] at hz
          rcases hz with rfl | rfl | rfl
          · exact k6
          · have hj2 := (List.getElem?_eq_some_iff.mp hj).1
            have hm2 : p.toNat < P.s.fs.length := by omega
            rw [List.getD_eq_getElem?_getD, List.getElem?_map, List.getElem?_eq_getElem hm2]
            exact clean_nm (ok.ok.fd p.toNat _ (List.getElem?_eq_getElem hm2)).nm
          · exact clean_sg (by omega) (by omega)
      refine ⟨(fun z => nomatch z), by unfold rowF; simp only [List.length_cons]; have := hk.1; omega, fun z hz => ?_⟩
      unfold rowF at hz
      rcases List.mem_cons.mp hz with rfl | hz
      · exact k1
      · rcases List.mem_cons.mp hz with rfl | hz
        · exact clean_nm okf.nm
        · rcases List.mem_cons.mp hz with rfl | hz
          · exact clean_sg (by omega) (by omega)
          · exact hk.2 z hz
    · have m0 := ok.ok.m0
      have m1 := ok.ok.m1
      have n0 := ok.n0
      have n1 := ok.n1
      have a1 := ok.sk0
      have a2 := ok.sk1
      have a3 := ok.gp0
      have a4 := ok.gp1
      have a5 := ok.lt0
      have a6 := ok.lt1
      have a7 := ok.an0
      have a8 := ok.an1
      simp only [List.mem_cons, List.not_mem_nil, or_false] at hr
      rcases hr with rfl | rfl | rfl
      · refine ⟨(fun z => nomatch z), (show 2 ≤ 20 by decide), fun z hz => ?_⟩
        simp only [List.mem_cons, List.not_mem_nil, or_false] at hz
        rcases hz with rfl | rfl
        · exact k7
        · exact clean_sg (by omega) (by omega)
      · refine ⟨(fun z => nomatch z), (show 2 ≤ 20 by decide), fun z hz => ?_⟩
        simp only [List.mem_cons, List.not_mem_nil, or_false] at hz
        rcases hz with rfl | rfl
        · exact k8
        · exact clean_sg (by omega) (by omega)
      · refine ⟨(fun z => nomatch z), (show 5 ≤ 20 by decide), fun z hz => ?_⟩
        simp only [List.mem_cons, List.not_mem_nil, or_false] at hz
        rcases hz with rfl | rfl | rfl | rfl | rfl
        · exact k9
        · exact clean_sg (by omega) (by omega)
        · exact clean_sg (by omega) (by omega)
        · exact clean_sg (by omega) (by omega)
        · exact clean_sg (by omega) (by omega)
  · obtain ⟨f, hf, rfl⟩ := List.mem_map.mp hr
    have okf := ok.fk f hf
    have c0 := okf.c0
    have c1 := okf.c1
    have r0 := okf.r0
    have r1 := okf.r1
    have ln := okf.len
    have l1 := ok.ok.l1
    refine ⟨(fun z => nomatch z), by unfold rowM; simp only [List.length_cons, List.length_map]; omega, fun z hz => ?_⟩
    unfold rowM at hz
    rcases List.mem_cons.mp hz with rfl | hz
    · exact kA
    · rcases List.mem_cons.mp hz with rfl | hz
      · exact clean_sg (by omega) (by omega)
      · rcases List.mem_cons.mp hz with rfl | hz
        · exact clean_sg (by omega) (by omega)
        · obtain ⟨w, hw, rfl⟩ := List.mem_map.mp hz
          obtain ⟨j, hj⟩ := List.getElem?_of_mem hw
          have hjl := (List.getElem?_eq_some_iff.mp hj).1
          obtain ⟨fd, hfd⟩ : ∃ fd, P.s.fs[j]? = some fd := ⟨_, List.getElem?_eq_getElem (by omega)⟩
          have okw := okf.ok j w fd hj hfd
          have bb := (ok.ok.fd j fd hfd).b1
          cases w with
          | keep => exact kB
          | whole => exact kC
          | low n l =>
            obtain ⟨n0, n1, l0, l1'⟩ := okw
            have pb := p2_40 (b := n) (by omega)
            obtain ⟨m, rfl⟩ := Int.eq_ofNat_of_zero_le (show 0 ≤ n by omega)
            obtain ⟨k, rfl⟩ := Int.eq_ofNat_of_zero_le l0
            show CleanW (sgS (m : Int) ++ "-" ++ sgS (k : Int))
            have lm := (sg_len (n := m) (by omega)).2
            have lk := (sg_len (n := k) (by omega)).2
            refine clean_of (fun c hc => ?_) (by rw [len_app, len_app, show ("-" : Str).length = 1 from rfl]; omega)
            rw [cz_app, cz_app, cz_sg, cz_sg] at hc
            rcases List.mem_append.mp hc with hc | hc
            · rcases List.mem_append.mp hc with hc | hc
              · have := TL.numL_digits m c hc; omega
              · have : c = 45 := by simpa [show cz ("-" : Str) = [45] from rfl] using hc
                omega
            · have := TL.numL_digits k c hc; omega
theorem rowsP_len {P : Pt} (ok : OkPt P) : (rowsP P).length = P.s.fs.length + 3 + P.fs.length := by
  unfold rowsP
  rw [List.length_append, List.length_append, List.length_map, List.length_map]
  rfl
theorem text_rows {P : Pt} (ok : OkPt P) : ((Txt.split (textP P) "\n").map fun r => Txt.split r " ") = rowsP P :=
  rows_back (fun z => by have := rowsP_len ok; rw [z] at this; simp at this; omega) fun r hr => ⟨(clean_rows ok r hr).1, (clean_rows ok r hr).2.2⟩
theorem text_len {P : Pt} (ok : OkPt P) : (textP P).length ≤ 50000 := by
  have l1 := ok.ok.l1
  have fl := ok.fl
  have a := join_le (y := "\n") (m := 820) (by decide) (zs := (rowsP P).map fun r => Txt.join " " r) fun z hz => by
    obtain ⟨r, hr, rfl⟩ := List.mem_map.mp hz
    obtain ⟨_, b, c⟩ := clean_rows ok r hr
    have := join_le (y := " ") (m := 40) (by decide) (zs := r) fun z hz => (c z hz).2.2.1
    have := Nat.mul_le_mul_right 41 b
    omega
  rw [List.length_map, rowsP_len ok] at a
  have b : (P.s.fs.length + 3 + P.fs.length) * 821 ≤ 27 * 821 := Nat.mul_le_mul_right _ (by omega)
  unfold textP
  omega
theorem rows_f2 {P : Pt} {j : Nat} {f : Fd} (h : P.s.fs[j]? = some f) : (rowsP P)[j]? = some (rowF P.s.fs f) := by
  have hj := (List.getElem?_eq_some_iff.mp h).1
  unfold rowsP
  rw [List.append_assoc, List.getElem?_append_left (by rw [List.length_map]; exact hj), List.getElem?_map, h]
  rfl
theorem rw_get {D : Addr} {H : Hp} : ∀ {xs : List V} {rs : List (List Str)} {j : Nat} {x : V}, RwAll D H xs rs → xs[j]? = some x → ∃ r, rs[j]? = some r ∧ ∃ a, x = .ref a ∧ a ≠ D ∧ H a = some (.lst (r.map V.str))
  | _ :: _, r :: _, 0, _, ⟨h, _⟩, e => by
    simp at e
    subst e
    exact ⟨r, rfl, h⟩
  | _ :: _, _ :: _, j + 1, _, ⟨_, h⟩, e => rw_get (j := j) h (by simpa using e)
  | [], [], _, _, _, e => by simp at e
  | [], _ :: _, _, _, h, _ => h.elim
  | _ :: _, [], _, _, h, _ => h.elim
theorem sum_leT {l : List Nat} {m : Nat} (h : ∀ n ∈ l, n ≤ m) : l.sum ≤ l.length * m := by
  induction l with
  | nil => exact Nat.zero_le _
  | cons a r ih =>
    rw [List.sum_cons, List.length_cons, Nat.add_mul, Nat.one_mul, Nat.add_comm]
    have b := ih fun n hn => h n (List.mem_cons_of_mem _ hn)
    have c := h a List.mem_cons_self
    omega
end Sh
/-! exceptions with an __init__ of their own: made, raised, their field read when caught -/
namespace Sh
open PySem PySem.Spec PyProof.Rows L2
/-- what the text says of an exception class x with an __init__ of its own over a class b that has none; f: its field -/
structure ExoOk (K : PySem.W.Frag) (x b f : Str) : Prop where
  oc : OexC K (clsOf K x)
  cr : ClX.CRead K (clsOf K b) (.type "type")
  cv : PySem.W.findCls K (.ref (clsOf K b)) (.type "type") "__init__" = some (.val (.builtin "ValueError.__init__"))
  xf : XfC K (clsOf K x)
  nr : PySem.W.findIn K (.ref (clsOf K x)) f = some none
section
variable {X : Cx} {e : Expr} {es : List Expr} {ta : TA} {x b f : Str} {p p1 p2 pos pos2 : Pos}
/-- b.__init__(self, ..), b an own class over ValueError -/
theorem pe_heinit {pl : Sem Bool} (hg : Gl X b) (hm : X.mg b = some (.ref (clsOf X.K b))) (T : ExoOk X.K x b f) (ha : PA X (e :: es) ta)
    (hdb : (b == ("__debug__" : Str)) = false := by decide)
    (hc : eval (.Call (.Attribute (.Name b p1) "__init__" p2) (e :: es) [] pos) X.env = (do
      let ov ← eval (.Name b p1) X.env
      standAt p2.atName
      let (f, first) ← holding [ov] (getMethod ov "__init__" pl)
      callWith pos f first (backTo pos (starEach (e :: es) X.env)) (backToKw pos (keywordEach [] X.env))) := by rfl)
    (he : starEach (e :: es) X.env = (false, eval e X.env) :: starEach es X.env := by rfl) (hpl : (backTo pos (starEach es X.env)).any (·.1) = false := by rfl) :
    PE X (.Call (.Attribute (.Name b p1) "__init__" p2) (e :: es) [] pos) (tVeI X.K ta) := by
  refine ⟨fun pins s σ H Q I h => ?_⟩
  refine PySem.W.methodCall_KW (ld_glob I hg hm ?_ hdb) hc
  refine PySem.W.method_cls I.kIn T.cr.ga (PySem.W.cls_value I.kIn T.cr.rd T.cv (by decide +kernel) ?_)
  show wpAny _ _ (callWith pos (Value.builtin "ValueError.__init__") [] (backTo pos (starEach (e :: es) X.env)) []) _ _ _
  refine PyProof.Rows.callWith_method1 (thn (ha.run pos pins _ σ H _ (I.tok _) h) fun us s1 ⟨vs, H1, I1, r1, a, C, ws, ev, hl, T, ea, q⟩ => ?_) he hpl
  subst ev
  cases r1 with
  | @cons _ u0 _ ur ra rw' =>
    obtain rfl : u0 = Value.ref a := ra
    have hlen : ur.length ≤ sizeLine := by
      rw [← Paired.length rw', sizeLine_eq]
      omega
    exact oinit_ok T I1 ea hlen fun s' J => ⟨.non, H1, J, rfl, q⟩
/-- x(e, ..): a new exception, its __init__ walked -/
theorem pmkN_oex {C fI : Addr} {k : Nat} {fd : FuncData} {ps : List Str} {sp : Sp} (T : OexC X.K C) (iC : PySem.W.findIn X.K (.ref C) "__init__" = some (some (.ref fI))) (tI : PySem.W.typeIn X.K (.ref fI) = some (.type "function"))
    (F1 : FnOk X.prog X.w X.K X.mg X.base CX0 k fI fd ps sp) (hr : Room (k + 1) X.A) (hb : Binds X.K fd ps []) (hg : Gl X x) (hm : X.mg x = some (.ref C)) (ha : PA X (e :: es) ta)
    (hdb : (x == ("__debug__" : Str)) = false := by decide) (he : starEach (e :: es) X.env = (false, eval e X.env) :: starEach es X.env := by rfl) (hpl : (backTo pos (starEach es X.env)).any (·.1) = false := by rfl) :
    L2N.PMk X (.Call (.Name x p) (e :: es) [] pos) (tMkO C sp [] ta) := by
  intro pins s σ H Q I h
  obtain ⟨nm, q, N, bs, bm, sn, sub, ab, col, dd, k0, k1, k2, k3, k5, hC, hbm⟩ := T.cls
  refine wpAny_Call_Name_kw (ld_glob I hg hm ?_ hdb)
  refine PySem.W.callWith_K (h₀ := X.base) I.ok.mod.kin T.kC (thn (ha.run pos pins s σ H _ I h) fun us s1 ⟨vs, H1, I1, r1, hz, q1⟩ => ⟨I1.kIn, ?_⟩) he hpl
  show wpAny _ _ (call (.ref C) us) _ _ _
  obtain ⟨hp, g, dr, tk, os⟩ := s1
  have hsz : hp.objs.size ≤ hp.objs.size + 1 := Nat.le_succ _
  have hn : H1 (hp.objs.size + 1) = none := I1.hok.fresh hsz
  have hq := q1 (hp.objs.size + 1) hn
  rw [List.append_nil] at hq
  have kk : ∀ b o, hp.get? b = some o → ((hp.push (PySem.W.kdv_tup us)).push (PySem.HandSPX.excO C hp.objs.size)).get? b = some o := fun b o e => Heap.get?_push_of_some _ (Heap.get?_push_of_some _ e)
  have hget : ((hp.push (PySem.W.kdv_tup us)).push (PySem.HandSPX.excO C hp.objs.size)).get? (hp.objs.size + 1) = some (PySem.HandSPX.excO C hp.objs.size) := by heap_get
  have I2 : Inv X pins σ (upd H1 (hp.objs.size + 1) (exo (hp.objs.size + 1) C none)) ⟨(hp.push (PySem.W.kdv_tup us)).push (PySem.HandSPX.excO C hp.objs.size), g, dr, tk, os⟩ :=
    I1.laid (t' := tk) (a := hp.objs.size + 1) (o := exo (hp.objs.size + 1) C none) (h' := (hp.push (PySem.W.kdv_tup us)).push (PySem.HandSPX.excO C hp.objs.size)) kk hsz (exo_ok hget)
  have r2 : Vals (V.ref (hp.objs.size + 1) :: vs) (Value.ref (hp.objs.size + 1) :: us) := .cons rfl r1
  have hl : (Value.ref (hp.objs.size + 1) :: us ++ []).length = ps.length := by
    have e := r2.length
    rw [F1.len _ _ _ _ hq] at e
    rw [List.append_nil]
    exact e.symm
  have hus : us.length ≤ sizeLine := by
    rw [← Paired.length r1, sizeLine_eq]
    omega
  have b2 := hb _ (Value.ref (hp.objs.size + 1) :: us) I2.kIn hl
  rw [List.append_nil] at b2
  refine wpAny_call (PySem.HandSPX.call_own F.excBase_ValueError (fun Y => PySem.HandSPX.refsVE_contains Y bm hbm) (I1.kIn _ _ hC) (PySem.W.looks_findIn I1.kIn iC) (fun self => PySem.W.bind_fn I1.kIn self tI) hus
    (codeAny_mono (F1.run _ X.stack _ _ ⟨Value.ref (hp.objs.size + 1) :: us, []⟩ (Value.ref (hp.objs.size + 1) :: us) _ _ (fun _ _ _ => False) (hr.make C us []) (I2.env0.make C us []) b2 r2 hq) fun r s' hq' => ?_))
  cases r with
  | error er => exact hq'.elim
  | ok fl =>
    cases fl with
    | ret u =>
      obtain ⟨v, H2, os2, bare2, un2, hok2, rv, ev, d, fs, ea, ed, hd1, q2⟩ := hq'
      subst ev
      obtain ⟨h2, g2, d2, t2, os'⟩ := s'
      obtain ⟨t0, G, J, kG, ge, hoe, na⟩ := mk_end0 (d2 := d2) (t2 := t2) I1 hsz kk un2 hok2 os2 bare2 ea ed hd1
      refine ⟨rv, ⟨hp.objs.size + 1, _, _, ⟨G, g2, d2, t2, os'⟩, _, .ref C, some d, rfl, J, kG, ge, hoe, ⟨rfl, rfl, fun vs hv => ?_⟩, rfl, rfl, na, rfl, bare2, raises_own T.exC T.tyC, q2⟩⟩
      cases hv
      rfl
    | next => exact False.elim hq'
    | brk => exact False.elim hq'
    | cont => exact False.elim hq'
def sRaisT (C : Addr) (sp : Sp) (E : XK) (ta : TA) : TS := fun _ σ H => tMkO C sp [] ta σ H E
theorem ps_raist {E : XK} {k : Nat} {fI : Addr} {fd : FuncData} {ps : List Str} {sp : Sp} (hs : X.calm = true) (tk : L2N.Takes X (fun cls d _ H => E cls d H)) (T : ExoOk X.K x b f) (hm : X.mg x = some (.ref (clsOf X.K x))) (M : Meth X.K (clsOf X.K x) "__init__" fI)
    (F1 : FnOk X.prog X.w X.K X.mg X.base CX0 k fI fd ps sp) (hr : Room (k + 1) X.A) (hb : Binds X.K fd ps []) (hg : Gl X x) (ha : PA X (e :: es) ta)
    (hdb : (x == ("__debug__" : Str)) = false := by decide) (he : starEach (e :: es) X.env = (false, eval e X.env) :: starEach es X.env := by rfl) (hpl : (backTo pos (starEach es X.env)).any (·.1) = false := by rfl) :
    PS X (.Raise (some (.Call (.Name x p) (e :: es) [] pos)) none pos2) (sRaisT (clsOf X.K x) sp E ta) :=
  L2N.ps_raise hs tk (pmkN_oex T.oc M.at_ (beq_iff_eq.mp M.fn) F1 hr hb hg hm ha hdb he hpl)
theorem raist_heap {C a d : Addr} {fs : List (Str × V)} {H1 : Hp} (ha : H1 a = none) (hda : d ≠ a) : upd (del (upd (upd (upd H1 a (exo a C none)) d (exd d fs)) a (exo a C (some d))) a) d (.xd fs) = upd H1 d (.xd fs) := by
  funext c
  by_cases hc : c = d
  · rw [hc, upd_same, upd_same]
  · rw [upd_ne hc, upd_ne hc]
    by_cases h2 : c = a
    · rw [h2, del_same, ha]
    · rw [del_ne h2, upd_ne h2, upd_ne hc, upd_ne h2]
theorem w_raist {C : Addr} {f : Str} {sp : Sp} {v : V} {H1 : Hp} {E : XK} (hsp : ∀ a H (Q : VK), H a = some (exo a C none) → (∀ d, H d = none → d ≠ a → Q .non (upd (upd H d (exd d [(f, v)])) a (exo a C (some d)))) → sp [.ref a, v] H Q (fun _ _ _ => False))
    (q : ∀ d, H1 d = none → E (.ref C) (some d) (upd H1 d (.xd [(f, v)]))) :
    [v].length ≤ 1000 ∧ ∀ a, H1 a = none → sp (.ref a :: ([v] ++ [])) (upd H1 a (exo a C none)) (fun u H2 => u = .non ∧ ∃ (d : Addr) (fs : List (Str × V)), H2 a = some (exo a C (some d)) ∧ H2 d = some (exd d fs) ∧ H1 d = none ∧ E (.ref C) (some d) (upd (del H2 a) d (.xd fs))) (fun _ _ _ => False) := by
  refine ⟨(show 1 ≤ 1000 by decide), fun a ha => hsp a _ _ upd_same fun d hd hda => ⟨rfl, d, _, upd_same, by rw [upd_ne hda, upd_same], ?_, ?_⟩⟩
  · rw [upd_ne hda] at hd
    exact hd
  · rw [raist_heap ha hda]
    rw [upd_ne hda] at hd
    exact q d hd
/-- e.f of a caught exception with a dict -/
def tXv (C : Addr) (te : TE) (f : Str) : TE := fun σ H Q => te σ H fun x H1 => ∃ (a d : Addr) (fs : List (Str × V)) (v : V), x = .ref a ∧ H1 a = some (L2N.exV (.ref C) (some d) a) ∧ H1 d = some (.xd fs) ∧ fs.lookup f = some v ∧ Q v H1
theorem pe_xv {te : TE} (T : ExoOk X.K x b f) (he : PE X e te) (hb : attributeBase e f X.env (eval e X.env) = eval e X.env := by rfl) : PE X (.Attribute e f pos) (tXv (clsOf X.K x) te f) := by
  refine ⟨fun pins s σ H Q I h => ?_⟩
  refine attr_of hb (thn (he.run pins s σ H _ I h) fun u s1 hh => ?_)
  obtain ⟨x, H1, I1, rx, a, dd, fs, v, ex, ea, ed, l, q⟩ := hh
  subst ex
  obtain rfl : u = Value.ref a := rx
  obtain ⟨⟨oe, vs, e1, e2, e4, e3⟩, _, _⟩ := (show ObjOk X.prog X.w H1 s1.heap a (L2N.exV (.ref (clsOf X.K _)) (some dd) a) from I1.hok a _ ea)
  have hx : ObjOk X.prog X.w H1 s1.heap dd (.xd fs) := I1.hok dd _ ed
  obtain ⟨mA, hns, hr⟩ := hx
  obtain ⟨od, ho, hl⟩ := lookIn_ns hns
  obtain ⟨u, hu, ru⟩ := RelO.some_of (v := v) (o := mA f) (by rw [← l]; exact hr f)
  have J : PySem.W.InstAt s1.heap a oe (clsOf X.K _) (some od) := ⟨e1, e2, by unfold PySem.W.notCls; rw [e3] <;> rfl, by rw [e4]; exact ho⟩
  exact HandSPX.exc_get I1.kIn J T.xf.ga T.xf.gg T.xf.exC (PySem.W.findObj_own T.xf.hdC T.nr rfl (by rw [hl, hu])) (handed_of ru) ⟨v, H1, I1.tok _, ru, q⟩
theorem w_xv {C a d : Addr} {fs : List (Str × V)} {v : V} {H : Hp} {Q : VK} (h1 : H a = some (L2N.exV (.ref C) (some d) a)) (h2 : H d = some (.xd fs)) (h3 : fs.lookup f = some v) (q : Q v H) : ∃ (a' d' : Addr) (fs' : List (Str × V)) (v' : V), V.ref a = .ref a' ∧ H a' = some (L2N.exV (.ref C) (some d') a') ∧ H d' = some (.xd fs') ∧ fs'.lookup f = some v' ∧ Q v' H := ⟨a, d, fs, v, rfl, h1, h2, h3, q⟩
end
section
variable {K : PySem.W.Frag} {ta : TA} {to te : TE} {f : Str} {σ : L2.St} {H : Hp} {Q : VK} {D : Ends}
theorem w_vei (h : ta σ H fun vs H1 => ∃ (a C : Addr) (ws : List V), vs = .ref a :: ws ∧ ws.length ≤ 1000 ∧ OexC K C ∧ H1 a = some (exo a C none) ∧ Q .non H1) : tVeI K ta σ H Q := h
theorem w_ost (h : te σ H fun y H1 => to σ H1 fun x H2 => ∃ a C : Addr, x = .ref a ∧ OexC K C ∧ PySem.W.findIn K (.ref C) f = some none ∧
  ((H2 a = some (exo a C none) ∧ ∀ dx, H2 dx = none → dx ≠ a → D.nx σ (upd (upd H2 dx (exd dx [(f, y)])) a (exo a C (some dx)))) ∨
    ∃ (dx : Addr) (fs : List (Str × V)), H2 a = some (exo a C (some dx)) ∧ H2 dx = some (exd dx fs) ∧ fs.length ≤ 900 ∧ D.nx σ (upd H2 dx (exd dx ((f, y) :: fs))))) : tOst K f to te D σ H := h
theorem w_raisT {C : Addr} {sp : Sp} {E : XK} (h : ta σ H fun vs H1 => vs.length ≤ 1000 ∧ ∀ a, H1 a = none → sp (.ref a :: (vs ++ [])) (upd H1 a (exo a C none))
  (fun v H2 => v = .non ∧ ∃ (d : Addr) (fs : List (Str × V)), H2 a = some (exo a C (some d)) ∧ H2 d = some (exd d fs) ∧ H1 d = none ∧ E (.ref C) (some d) (upd (del H2 a) d (.xd fs))) (fun _ _ _ => False)) : sRaisT C sp E ta D σ H := h
theorem w_tXv {C : Addr} (h : te σ H fun x H1 => ∃ (a d : Addr) (fs : List (Str × V)) (v : V), x = .ref a ∧ H1 a = some (L2N.exV (.ref C) (some d) a) ∧ H1 d = some (.xd fs) ∧ fs.lookup f = some v ∧ Q v H1) : tXv C te f σ H Q := h
end
/-! the texts of heads -/
/-- the text of a head -/
def headT (ns : List Int) : Str := Txt.join "." (ns.map sgS)
theorem head_join {ns : List Int} (l : ns.length ≤ 1000) (hn : ∀ n ∈ ns, 0 ≤ n ∧ n < 10 ^ 15) : ((ns.map sgS).map (·.length)).sum + (ns.map sgS).length * ("." : Str).length ≤ 100000 := by
  have s1 := sum_leT (l := (ns.map sgS).map (·.length)) (m := 40) fun m hm => by
    obtain ⟨z, hz, rfl⟩ := List.mem_map.mp hm
    obtain ⟨n, hn1, rfl⟩ := List.mem_map.mp hz
    have := hn n hn1
    exact (clean_sg (n := n) (by omega) (by omega)).2.2.1
  have e : (ns.map sgS).length * ("." : Str).length = (ns.map sgS).length := Nat.mul_one _
  rw [e]
  simp only [List.length_map] at *
  omega
theorem w_strS6 {n : Int} {H : Hp} {Q : VK} (h0 : -(10 ^ 15) < n) (h1 : n < 10 ^ 15) (q : Q (.str (sgS n)) H) : rStrU [.int n] H Q := by
  have := ten15
  refine w_strI (log2_sm ?_) q
  omega
theorem spl_le (S : List Nat) : ∀ (l : List Nat) (k : Nat) (acc : List Nat), (TL.spl S k acc l).length ≤ l.length + 1 ∧ ∀ p ∈ TL.spl S k acc l, p.length ≤ acc.length + l.length
  | [], k, acc => by
    rw [TL.spl_nil]
    exact ⟨Nat.le_refl _, fun p hp => by rw [List.mem_singleton.mp hp]; exact Nat.le_refl _⟩
  | c :: r, 0, acc => by
    by_cases h : TL.pre S (c :: r) = true
    · rw [TL.spl_hit h]
      obtain ⟨a, b⟩ := spl_le S r (S.length - 1) []
      refine ⟨by simp only [List.length_cons]; omega, fun p hp => ?_⟩
      rcases List.mem_cons.mp hp with rfl | hp
      · omega
      · have := b p hp
        simp only [List.length_cons, List.length_nil] at *
        omega
    · rw [TL.spl_miss (Bool.eq_false_iff.mpr h)]
      obtain ⟨a, b⟩ := spl_le S r 0 (acc ++ [c])
      refine ⟨by simp only [List.length_cons]; omega, fun p hp => ?_⟩
      have := b p hp
      simp only [List.length_append, List.length_cons, List.length_nil] at *
      omega
  | c :: r, k + 1, acc => by
    obtain ⟨a, b⟩ := spl_le S r k acc
    refine ⟨by show (TL.spl S k acc r).length ≤ _; simp only [List.length_cons]; omega, fun p hp => ?_⟩
    have := b p hp
    simp only [List.length_cons]
    omega
theorem split_le {z y : Str} (hy : TL.tl y ≠ [] := by decide) (hk : y.cps.all (· < 256) = true := by decide +kernel) : (Txt.split z y).length ≤ z.length + 1 ∧ ∀ w ∈ Txt.split z y, w.length ≤ z.length := by
  have e := TL.split_spl z y hy (TL.kind_ok hk)
  obtain ⟨a, b⟩ := spl_le (TL.tl y) (TL.tl z) 0 []
  rw [← e] at a b
  rw [List.length_map] at a
  refine ⟨a, fun w hw => ?_⟩
  have := b _ (List.mem_map_of_mem hw)
  rw [List.length_nil, Nat.zero_add] at this
  exact this
/-- the head that a text writes -/
def readZ (fs : List Fd) : PyData → Option (List Int)
  | .str z => (match numsZ (Txt.split z ".") with
    | some ns => if headB fs (headD ns) = true then some ns else none
    | none => none)
  | _ => none
theorem readZ_no {fs : List Fd} {d : PyData} (h : isStrD d = false) : readZ fs d = none := by
  cases d <;> first | rfl | cases h
end Sh
/-! zip of a list and a tuple -/
namespace Sh
open PySem PySem.Spec PyProof.Rows L2
def ItzM (K : PySem.W.Frag) (a b : Addr) : It :=
  ⟨fun i H => ∃ (xs ys : List V) (x y : V), SqL K H a xs ∧ SqT K H b ys ∧ xs[i]? = some x ∧ ys[i]? = some y,
    fun i H v H' => ∃ T x y, v = .ref T ∧ H T = none ∧ H' = upd H T (.tup [x, y]) ∧ (∀ xs, SqL K H a xs → xs[i]? = some x) ∧ ∀ ys, SqT K H b ys → ys[i]? = some y,
    fun i H => ∃ xs ys : List V, SqL K H a xs ∧ SqT K H b ys ∧ i ≤ xs.length ∧ i ≤ ys.length ∧ (i = xs.length ∨ i = ys.length)⟩
theorem liter_ne {h : Heap} {it t : Addr} {i : Nat} {t0 : Addr} {items : Array Value} (x : h.IsListIter it t0 i) (p : h.IsList t items) : t ≠ it := fun z => by
  obtain ⟨o1, h1, c1, _⟩ := p
  obtain ⟨o2, h2, c2, _⟩ := x
  rw [z, h2] at h1
  cases h1
  rw [c2] at c1
  injection c1 with c1
  exact absurd c1 (by decide)
theorem turn_zipM {P : Program} {w : World} {K : PySem.W.Frag} {elts : List Expr} {kk : Nat} {tpos : Pos} {a b z TI TO i1 i2 : Addr} (S : ZipSep2 z TI TO i1 i2 [i1, a] [i2, b]) :
    Turn P w K (.Tuple elts kk tpos) (ItzM K a b) [z, TI, TO, i1, i2] z (fun i h => IsZip h z TI TO .none ∧ IsTupOf2 h TI (.ref i1) (.ref i2) ∧ (∃ x y, IsTupOf2 h TO x y) ∧ h.IsListIter i1 a i ∧ h.IsTupleIter i2 b i) where
  mem := by simp
  obj := fun i h st q hq => by
    obtain ⟨hz, hTI, ⟨x, y, hTO⟩, ⟨o1, e1, _, d1⟩, ⟨o2, e2, _, d2⟩⟩ := st
    have e' : q = z ∨ q = TI ∨ q = TO ∨ q = i1 ∨ q = i2 := by simpa using hq
    rcases e' with r | r | r | r | r
    · rw [r]; exact ⟨_, hz, fun v q => nomatch q⟩
    · rw [r]; exact ⟨_, hTI, fun v q => nomatch q⟩
    · rw [r]; exact ⟨_, hTO, fun v q => nomatch q⟩
    · rw [r]; exact ⟨o1, e1, fun v q => by rw [d1] at q; cases q⟩
    · rw [r]; exact ⟨o2, e2, fun v q => by rw [d2] at q; cases q⟩
  keep := fun i h h' st k => by
    obtain ⟨hz, hTI, ⟨x, y, hTO⟩, h1, h2⟩ := st
    exact ⟨k z (by simp) _ hz, k TI (by simp) _ hTI, ⟨x, y, k TO (by simp) _ hTO⟩, h1.at fun o q => k i1 (by simp) o q, h2.at fun o q => k i2 (by simp) o q⟩
  item := by
    intro X hP hw hK hc i pins s σ H E I hf st hg
    subst hP hw hK
    obtain ⟨hz, hTI, ⟨x0, y0, hTO⟩, h1, h2⟩ := st
    obtain ⟨xs, ys, x, y, hqx, hqy, hx, hy⟩ := hg
    obtain ⟨its, rv, p, _⟩ := I.list hqx
    obtain ⟨its2, rv2, p2, _⟩ := I.tuple hqy
    have pt : s.heap.IsList a its.toArray := p.isList
    have pt2 : s.heap.IsTuple b its2.toArray := p2
    obtain ⟨w1, hw1, r1⟩ := rv.get hx
    obtain ⟨w2, hw2, r2⟩ := rv2.get hy
    have hzl : z < s.heap.objs.size := Heap.lt_size hz
    have lt1 : i < its.toArray.size := by have l := (List.getElem?_eq_some_iff.mp hw1).1; simpa using l
    have lt2 : i < its2.toArray.size := by have l := (List.getElem?_eq_some_iff.mp hw2).1; simpa using l
    have hh : X.A.in1.handled = none := I.ok.hd hc
    refine wpAny_pyNext_zipD2_item S (Draws.list hh i1 a (liter_ne h1 pt) its.toArray) (Draws.tuple hh i2 b (iter_ne h2 pt2) its2.toArray) hz hTI hTO ⟨h1, pt⟩ ⟨h2, pt2⟩ lt1 lt2 fun x1 x2 h' tk q1 q2 z' TO' s1 s2 hT hsz hk => ?_
    have e1 : x1 = w1 := by
      have px : its.toArray[i]? = some x1 := q1
      rw [List.getElem?_toArray, hw1] at px
      exact (Option.some.inj px).symm
    have e2 : x2 = w2 := by
      have px : its2.toArray[i]? = some x2 := q2
      rw [List.getElem?_toArray, hw2] at px
      exact (Option.some.inj px).symm
    subst e1 e2
    refine ⟨_, rfl, wpAny_letOwnedTupleGo_zip (s := { s with heap := h', toks := tk }) z' fun h'' z'' sb => ?_⟩
    have hT2 : h''.get? s.heap.objs.size = some { cls := .type "tuple", data := .seq #[x1, x2] } := (sb.2 _ (Nat.ne_of_gt hzl)).trans hT
    have new : ObjOk X.prog X.w (upd H s.heap.objs.size (.tup [x, y])) h'' s.heap.objs.size (.tup [x, y]) :=
      ⟨by show 2 ≤ sizeLine; decide, [x1, x2], .cons r1 (.cons r2 .nil), ⟨_, hT2, rfl, _, rfl⟩⟩
    have I1 : Inv X pins σ (upd H s.heap.objs.size (.tup [x, y])) { s with heap := h'', toks := tk } :=
      I.turnedNew (t' := tk) (ch := [z, TI, TO, i1, i2]) (fun q o hb e => (sb.2 q (fun q' => hb (by simp [q']))).trans (hk q o (fun q' => hb (by simp [q'])) (fun q' => hb (by simp [q'])) (fun q' => hb (by simp [q'])) (fun q' => hb (by simp [q'])) e)) hf (Nat.le_refl _) new
    have ni1 : i1 ≠ z := fun e => S.zf1 (by rw [← e]; exact S.mem1)
    have ni2 : i2 ≠ z := fun e => S.zf2 (by rw [← e]; exact S.mem2)
    refine ⟨.ref s.heap.objs.size, _, I1, rfl, ⟨_, x, y, rfl, I.hok.fresh (Nat.le_refl _), rfl, fun l hl => by rw [I.list_inj hl hqx]; exact hx, fun l hl => by rw [I.tuple_inj hl hqy]; exact hy⟩, ⟨z'', ?_, ⟨x1, x2, ?_⟩, ?_, ?_⟩, fun q hcm => ?_⟩
    · exact (sb.2 _ S.TIz).trans (hk _ _ S.TIz S.TITO S.TIi1 S.TIi2 hTI)
    · exact (sb.2 _ S.TOz).trans TO'
    · exact s1.1.at fun o q => (sb.2 _ ni1).trans q
    · exact s2.1.at fun o q => (sb.2 _ ni2).trans q
    · have hlt : q < s.heap.objs.size := by
        have e' : q = z ∨ q = TI ∨ q = TO ∨ q = i1 ∨ q = i2 := by simpa using hcm
        rcases e' with r | r | r | r | r
        · rw [r]; exact hzl
        · rw [r]; exact Heap.lt_size hTI
        · rw [r]; exact Heap.lt_size hTO
        · rw [r]; obtain ⟨_, e1, _⟩ := h1; exact Heap.lt_size e1
        · rw [r]; obtain ⟨_, e2, _⟩ := h2; exact Heap.lt_size e2
      rw [upd_ne (Nat.ne_of_lt hlt)]
      exact (hf q hcm).1
  done := by
    intro X hP hw hK hc i pins s σ H E I hf st hg
    subst hP hw hK
    obtain ⟨hz, hTI, ⟨x0, y0, hTO⟩, h1, h2⟩ := st
    obtain ⟨xs, ys, hqx, hqy, g1, g2, hend⟩ := hg
    obtain ⟨its, rv, p, _⟩ := I.list hqx
    obtain ⟨its2, rv2, p2, _⟩ := I.tuple hqy
    have pt : s.heap.IsList a its.toArray := p.isList
    have pt2 : s.heap.IsTuple b its2.toArray := p2
    have l1 := rv.length
    have l2 := rv2.length
    have hh : X.A.in1.handled = none := I.ok.hd hc
    refine wpAny_pyNext_zipD2_end S (Draws.list hh i1 a (liter_ne h1 pt) its.toArray) (Draws.tuple hh i2 b (iter_ne h2 pt2) its2.toArray) hz hTI hTO ⟨h1, pt⟩ ⟨h2, pt2⟩ (by simp; omega) (by simp; omega) (by simp; omega) fun h' tk hk => ⟨rfl, I.turnedL (t' := tk) (ch := [z, TI, TO, i1, i2]) (fun q o hb e =>
      hk q o (fun q' => hb (by simp [q'])) (fun q' => hb (by simp [q'])) (fun q' => hb (by simp [q'])) (fun q' => hb (by simp [q'])) e) hf⟩
  self := fun A i s Q E st h => wpAny_pyIter_zip st.1 h
def iZipM (K : PySem.W.Frag) (ta : TA) : TI := fun σ H R => ta σ H fun vs H1 => ∃ a b xs ys, vs = [.ref a, .ref b] ∧ SqL K H1 a xs ∧ SqT K H1 b ys ∧ R (ItzM K a b) H1
theorem pi_zipM {X : Cx} {e e2 : Expr} {ta : TA} {p pos tpos : Pos} {elts : List Expr} {kk : Nat} (hg : Gl X "zip") (hm : X.mg "zip" = none) (ha : PA X [e, e2] ta)
    (hs : starEach [e, e2] X.env = (false, eval e X.env) :: starEach [e2] X.env := by rfl) (hpl : (backTo pos (starEach [e2] X.env)).any (·.1) = false := by rfl) :
    PI X (.Tuple elts kk tpos) (.Call (.Name "zip" p) [e, e2] [] pos) (iZipM X.K ta) := by
  refine ⟨fun pins s σ H R I h => ?_⟩
  refine Call_ (ld_blt I hg hm PyProof.Rows.boot_zip (PyProof.Rows.callWith_type1 (thn (ha.run pos pins s σ H _ I h) fun us s1 z => ?_) hs hpl))
  obtain ⟨vs, H1, I1, r1, a, b, xs, ys, ex, hqx, hqy, q⟩ := z
  subst ex
  cases r1 with
  | cons r rr =>
    cases rr with
    | cons r' rr =>
      cases rr
      cases r
      cases r'
      obtain ⟨its, rv, p1, _⟩ := I1.list hqx
      obtain ⟨its2, rv2, p2, _⟩ := I1.tuple hqy
      have pt1 : s1.heap.IsList a its.toArray := p1.isList
      have pt2 : s1.heap.IsTuple b its2.toArray := p2
      obtain ⟨o1, ho1, _⟩ := _root_.id pt1
      obtain ⟨o2, ho2, _⟩ := _root_.id pt2
      refine zip_begins2 (begins_list a its.toArray) (begins_tuple b its2.toArray) pt1 pt2 fun h' hz hTI hTO h1 h2 hsz hk => wpAny_pyIter_zip hz ?_
      have I2 : Inv X pins σ H1 { s1 with heap := h' } := I1.kept (t' := s1.toks) hk
      have sep := zip_sep2 (N := s1.heap.objs.size) (fp1 := [a]) (fp2 := [b]) (fun q hq => by rw [List.mem_singleton.mp hq]; exact Heap.lt_size ho1) (fun q hq => by rw [List.mem_singleton.mp hq]; exact Heap.lt_size ho2)
      have fresh5 : ∀ q, q ∈ [s1.heap.objs.size + 4, s1.heap.objs.size + 2, s1.heap.objs.size + 3, s1.heap.objs.size, s1.heap.objs.size + 1] → FpOk X pins H1 q := fun q hcm => by
        have e' : q = s1.heap.objs.size + 4 ∨ q = s1.heap.objs.size + 2 ∨ q = s1.heap.objs.size + 3 ∨ q = s1.heap.objs.size ∨ q = s1.heap.objs.size + 1 := by simpa using hcm
        have hle : s1.heap.objs.size ≤ q := by
          rcases e' with z | z | z | z | z
          · rw [z]; exact Nat.le_add_right _ _
          · rw [z]; exact Nat.le_add_right _ _
          · rw [z]; exact Nat.le_add_right _ _
          · rw [z]; exact Nat.le_refl _
          · rw [z]; exact Nat.le_add_right _ _
        exact I1.fpOk hle (I1.hok.fresh hle)
      exact ⟨s1.heap.objs.size + 4, [s1.heap.objs.size + 4, s1.heap.objs.size + 2, s1.heap.objs.size + 3, s1.heap.objs.size, s1.heap.objs.size + 1], _, _, H1, rfl, I2, turn_zipM sep, ⟨hz, hTI, ⟨_, _, hTO⟩, ⟨_, h1, rfl, rfl⟩, ⟨_, h2, rfl, rfl⟩⟩, fresh5, q⟩
section
variable {K : PySem.W.Frag} {σ : L2.St} {H : Hp} {Q : VK} {te : TE} {tt : TT} {tA : TA} {a b : Addr} {xs ys : List V} {i1 i2 : Nat} {vs : List Nat}
def GoZipM (K : PySem.W.Frag) (R : It → Hp → Prop) (vs : List V) (H1 : Hp) : Prop := ∃ a b xs ys, vs = [.ref a, .ref b] ∧ SqL K H1 a xs ∧ SqT K H1 b ys ∧ R (ItzM K a b) H1
theorem w_izipM {R : It → Hp → Prop} (h : tA σ H fun vs H1 => GoZipM K R vs H1) : iZipM K tA σ H R := h
theorem w_goZM {R : It → Hp → Prop} (h : SqL K H a xs) (h2 : SqT K H b ys) (q : R (ItzM K a b) H) : GoZipM K R [.ref a, .ref b] H := ⟨a, b, xs, ys, rfl, h, h2, q⟩
theorem lcZM (hx : SqL K H a xs) (hy : SqT K H b ys) (I : Nat → List V → Hp → Prop) (hst : Stb I) (hn : xs.length ≤ 1000000) (hI : ∀ i acc H', I i acc H' → acc.length ≤ i) (h0 : ∀ H', Same H H' → I 0 [] H')
    (hs : ∀ i x y acc H', xs[i]? = some x → ys[i]? = some y → Same H H' → I i acc H' → ∀ H2, Same H' H2 → ∀ (k : VK) (k' : Hp → Prop), (∀ z H4, Same H2 H4 → I (i + 1) (acc ++ [z]) H4 → k z H4) → (∀ H3, Same H2 H3 → I (i + 1) acc H3 → k' H3) →
      wipe (((wipe σ vs).set i1 (some x)).set i2 (some y)) vs = wipe σ vs ∧ tt (((wipe σ vs).set i1 (some x)).set i2 (some y)) H2 fun b H3 => if b = true then te (((wipe σ vs).set i1 (some x)).set i2 (some y)) H3 k else k' H3)
    (hd : ∀ D acc H', H D = none → Same H H' → H' D = some (.lst acc) → I (min xs.length ys.length) acc H' → Q (.ref D) H') :
    LcOk (ItzM K a b) (gTup K 2 (gCons (gName i1) (gCons (gName i2) gNil))) tt te vs σ Q H :=
  lc_gen (n := min xs.length ys.length) I hst (by omega) hI h0
    (fun i acc H' hi s1 _ => ⟨xs, ys, xs[i]'(by omega), ys[i]'(by omega), s1.seq hx, same_t s1 hy, List.getElem?_eq_getElem (by omega), List.getElem?_eq_getElem (by omega)⟩)
    (fun _ _ s1 _ => ⟨xs, ys, s1.seq hx, same_t s1 hy, by omega, by omega, by omega⟩)
    (fun i acc v H' H'' hi s1 w1 z => by
      obtain ⟨T, x, y, rfl, hT, rfl, ex, ey⟩ := z
      intro k k' hk hk'
      refine ⟨T, _, rfl, SqT.of upd_same, rfl, _, _, rfl, _, _, rfl, rfl, ?_⟩
      exact hs i x y acc H' (ex xs (s1.seq hx)) (ey ys (same_t s1 hy)) s1 w1 _ (same_new hT) k k' (fun z H4 e => hk z H4 ((same_new hT).trans e)) fun H3 e => hk' H3 ((same_new hT).trans e))
    hd
end
end Sh
/-! str.replace, once, of a text with a token -/
namespace Sh
open PySem PySem.Spec PyProof.Rows L2
open PySem.Builtin PySem.Builtin.Str
theorem isSame_tok (y z : Str) (u v : Tok) (hu : u ≠ 0) (hv : v ≠ 0) (hyz : (y == z) = false) : ∃ b, isSame (.str y u) (.str z v) = pure b := by
  have h0 : (u == 0 || v == 0) = false := by simp [hu, hv]
  by_cases h : u = v
  · subst h
    refine ⟨true, ?_⟩
    show (if (u == 0 || u == 0) = true then _ else if (u == u) = true then pure true else _ : Sem Bool) = _
    rw [h0]
    simp
  · exact ⟨false, isSame_str_other y z u v h0 (by simp [h]) hyz⟩
theorem replace1_len (x y z : Str) (l : Nat) : (glued z (partsBetween x (occurrences x y 0 x.length l) y.length)).length ≤ x.length + (occurrences x y 0 x.length l).length * z.length := by
  have hy : (glued y (partsBetween x (occurrences x y 0 x.length l) y.length)).length = x.length := by rw [StrLaws.glued_between_self]
  rw [size_glued, length_partsBetween, Nat.add_sub_cancel] at hy
  rw [size_glued, length_partsBetween, Nat.add_sub_cancel]
  omega
theorem replace1 {prog : Program} {w : World} {A : Around} {E : Value → Shared → Prop} {s : Shared} {x y z : Str} {t u v c : Tok} {Q : Value → Shared → Prop} (hu : u ≠ 0) (hv : v ≠ 0) (hyz : (y == z) = false) (hx : x.length ≤ 50000) (hz : z.length ≤ 50000)
    (hq : ∀ (r : Str) t' k, r.length ≤ 100000 → Q (.str r t') { s with toks := k }) : wpAny (model prog w) A (call (.builtin "str.replace") [.str x t, .str y u, .str z v, .int 1 c]) Q E s := by
  have hl := StrLaws.occ_length_le x y 0 x.length 1
  have hg := replace1_len x y z 1
  have hlz : (occurrences x y 0 x.length 1).length * z.length ≤ 50000 := by
    have := Nat.mul_le_mul hl (Nat.le_refl z.length)
    omega
  obtain ⟨b, hb⟩ := isSame_tok y z u v hu hv hyz
  have ht : tooLong (x.length + (occurrences x y 0 x.length 1).length * z.length) = false := by
    unfold tooLong sizeLine
    have e : (2 : Nat) ^ 24 = 16777216 := by decide
    exact decide_eq_false (by omega)
  have G : Gives («str.replace» ⟨[.str x t, .str y u, .str z v, .int 1 c], []⟩) (if ((occurrences x y 0 x.length 1).isEmpty || (y.length == 0 && z.length == 0)) = true then .val (.str x t) else if b = true then .val (.str x t) else .str (glued z (partsBetween x (occurrences x y 0 x.length 1) y.length))) := by
    show Gives (if ((occurrences x y 0 x.length 1).isEmpty || (y.length == 0 && z.length == 0)) = true then (do rule "str.replace.nothing"; ret (.str x t)) else
          (do let same ← isSame (.str y u) (.str z v)
              if same = true then (do rule "str.replace.old-is-new"; ret (.str x t)) else
              if tooLong (x.length + (occurrences x y 0 x.length 1).length * z.length) = true then unsupported "str.replace:memory" else
              retStr (glued z (partsBetween x (occurrences x y 0 x.length 1) y.length)))) _
    cases hc : ((occurrences x y 0 x.length 1).isEmpty || (y.length == 0 && z.length == 0))
    · rw [hb, ht]
      cases b
      · exact .of_eq rfl
      · exact .rule (.of_eq rfl)
    · exact .rule (.of_eq rfl)
  refine call_gives F.slot_str_replace (typeIs_str _ _ _) F.entry_str_replace (F.args_str_replace_4 _ _ _ _) G ?_
  cases hc : ((occurrences x y 0 x.length 1).isEmpty || (y.length == 0 && z.length == 0))
  · cases b
    · simp only [Bool.false_eq_true, if_false]
      exact ⟨by rw [sizeLine_eq]; omega, hq _ _ _ (by omega)⟩
    · simp only [Bool.false_eq_true, if_false, if_true]
      exact hq x t s.toks (by omega)
  · simp only [if_true]
    exact hq x t s.toks (by omega)
/-- a def that tells one of a list of texts whose object is known: the told text has a token -/
def OfRun (W : Wd) (mg : Str → Option Value) (base : Heap) (k : Nat) : Prop := ∃ f, mg "_law_of" = some (.ref f) ∧ PySem.W.keepIn W.K (.ref f) = true ∧
  ∀ (A : Around) (outer : List Env) (s : Shared) (H : Hp) (p : Addr) (o : Obj) (its : Array Value) (m : Nat) (zs : List Str) (pv : V) (u : Value) (n : Int), Room k A → Env0 W.P W.w W.K mg base A outer s H → RelV pv u →
    H p = some (.frz o (.lst (zs.map V.str))) → o.cls = .type "list" → o.data = .seq its m → (∀ v ∈ its.toList, ∀ z t, v = Value.str z t → t ≠ 0) → BoxAt W false n H pv → n ≤ 1000000000 → 0 < zs.length → zs.length ≤ 1000 →
    codeAny (model W.P W.w) A (.call (.ref f) ⟨[u, .ref p], []⟩) (fun r s' => ∃ (z : Str) (t : Tok), r = .ok (.ret (.str z t)) ∧ t ≠ 0 ∧ z ∈ zs ∧ CE outer W.P W.w H s (fun v H' => v = .str z ∧ Sx H H' ∧ BoxAt W false (n + 1) H' pv) (.str z t) s') s
/-- e.replace(y, _law_of(pot, [..]), 1) -/
def tReplOf (W : Wd) (tr tp : TE) : TE := fun σ H Q => tr σ H fun v H1 => ∃ x : Str, v = .str x ∧ x.length ≤ 50000 ∧ tp σ H1 fun pv H2 => ∃ n, BoxAt W false n H2 pv ∧ n ≤ 1000000000 ∧ ∀ (z : Str) H3, Sx H2 H3 → BoxAt W false (n + 1) H3 pv → z.length ≤ 100000 → Q (.str z) H3
theorem pet_replOf {X : Cx} {W : Wd} {k : Nat} {o ep : Expr} {tr tp : TE} {y z1 z2 z3 z4 z5 : Str} {j0 j2 k1 k2 k3 k4 k5 : Nat} {c0 c2 q1 q2 q3 q4 q5 lp p1 p2 apos pos : Pos} (hW : X.prog = W.P ∧ X.w = W.w ∧ X.K = W.K) (R : OfRun W X.mg X.base k) (hr : Room k X.A) (hg : Gl X "_law_of") (ho : PE X o tr) (hp : PE X ep tp)
    (hy : ([z1, z2, z3, z4, z5].all fun z => !(y == z) && decide (z.length ≤ 50000)) = true := by decide +kernel)
    (hst : starEach [.Constant (.str y) j0 c0, .Call (.Name "_law_of" p1) [ep, .List [.Constant (.str z1) k1 q1, .Constant (.str z2) k2 q2, .Constant (.str z3) k3 q3, .Constant (.str z4) k4 q4, .Constant (.str z5) k5 q5] lp] [] p2, .Constant (.int 1) j2 c2] X.env =
      [(false, eval (.Constant (.str y) j0 c0) X.env), (false, eval (.Call (.Name "_law_of" p1) [ep, .List [.Constant (.str z1) k1 q1, .Constant (.str z2) k2 q2, .Constant (.str z3) k3 q3, .Constant (.str z4) k4 q4, .Constant (.str z5) k5 q5] lp] [] p2) X.env), (false, eval (.Constant (.int 1) j2 c2) X.env)] := by rfl)
    (hs2 : starEach [ep, .List [.Constant (.str z1) k1 q1, .Constant (.str z2) k2 q2, .Constant (.str z3) k3 q3, .Constant (.str z4) k4 q4, .Constant (.str z5) k5 q5] lp] X.env = (false, eval ep X.env) :: starEach [.List [.Constant (.str z1) k1 q1, .Constant (.str z2) k2 q2, .Constant (.str z3) k3 q3, .Constant (.str z4) k4 q4, .Constant (.str z5) k5 q5] lp] X.env := by rfl)
    (hbase : attributeBase o "replace" X.env (eval o X.env) = eval o X.env := by rfl) (hline : (apos.endLine == pos.line) = true := by rfl) :
    PET X (.Call (.Attribute o "replace" apos) [.Constant (.str y) j0 c0, .Call (.Name "_law_of" p1) [ep, .List [.Constant (.str z1) k1 q1, .Constant (.str z2) k2 q2, .Constant (.str z3) k3 q3, .Constant (.str z4) k4 q4, .Constant (.str z5) k5 q5] lp] [] p2, .Constant (.int 1) j2 c2] [] pos) (tReplOf W tr tp) := by
  intro pins s σ H Q h0 I h
  obtain ⟨P', w', K'⟩ := W
  obtain ⟨rfl, rfl, rfl⟩ := hW
  obtain ⟨f, hm, hk, R⟩ := R
  refine wpAny_Call_method_lateS hbase (by rw [hst]; rfl) hline (wpAny_mono (PySem.wpAny_toks (ho.run pins s σ H _ I h)) (fun v s1 q => ?_) fun _ _ z => z.2)
  obtain ⟨hk1, v', H1, I1, r1, x, e1, hx, q⟩ := q
  subst e1
  obtain ⟨tx, e2⟩ := r1
  subst e2
  rw [hst]
  refine ⟨"str", _, PySem.F.plainAttrs_str, PySem.F.slot_str_replace, PySem.F.type_str_replace, typeIs_str _ _ _, (fun _ e => nomatch e), Calls.callWith_builtin rfl (Calls.evalArgs_plain (Calls.spliced_cons ?_))⟩
  show wpAny _ _ (eval (.Constant (.str y) j0 c0) X.env) _ _ _
  refine Calls.Constant_str ?_
  refine Calls.spliced_cons ?_
  have J1 : Inv X pins σ H1 { s1 with toks := s1.toks + 1 } := I1.tok _
  refine wpAny_Call_Name_kw (ld_glob J1 hg hm ?_ (by decide))
  refine PySem.W.callWith_K (h₀ := X.base) I1.ok.mod.kin hk ?_ hs2 (by rfl)
  rw [hs2]
  show wpAny _ _ (spliced ((false, eval ep X.env) :: backTo p2 (starEach [.List [.Constant (.str z1) k1 q1, .Constant (.str z2) k2 q2, .Constant (.str z3) k3 q3, .Constant (.str z4) k4 q4, .Constant (.str z5) k5 q5] lp] X.env))) _ _ _
  refine Calls.spliced_cons (wpAny_mono (PySem.wpAny_toks (hp.run pins _ σ H1 _ J1 q)) (fun pvv s2 w2 => ?_) fun _ _ z => z.2)
  obtain ⟨hk2, pv, H2, I2, r2, n, hb, hn, w2⟩ := w2
  show wpAny _ _ (spliced ((false, eval (.List [.Constant (.str z1) k1 q1, .Constant (.str z2) k2 q2, .Constant (.str z3) k3 q3, .Constant (.str z4) k4 q4, .Constant (.str z5) k5 q5] lp) X.env) :: backTo p2 (starEach [] X.env))) _ _ _
  refine Calls.spliced_cons (wpAny_List_spliced ?_)
  show wpAny _ _ (spliced ((false, eval (.Constant (.str z1) k1 q1) X.env) :: backTo lp (starEach [.Constant (.str z2) k2 q2, .Constant (.str z3) k3 q3, .Constant (.str z4) k4 q4, .Constant (.str z5) k5 q5] X.env))) _ _ _
  refine Calls.spliced_cons (Calls.Constant_str ?_)
  show wpAny _ _ (spliced ((false, eval (.Constant (.str z2) k2 q2) X.env) :: backTo lp (starEach [.Constant (.str z3) k3 q3, .Constant (.str z4) k4 q4, .Constant (.str z5) k5 q5] X.env))) _ _ _
  refine Calls.spliced_cons (Calls.Constant_str ?_)
  show wpAny _ _ (spliced ((false, eval (.Constant (.str z3) k3 q3) X.env) :: backTo lp (starEach [.Constant (.str z4) k4 q4, .Constant (.str z5) k5 q5] X.env))) _ _ _
  refine Calls.spliced_cons (Calls.Constant_str ?_)
  show wpAny _ _ (spliced ((false, eval (.Constant (.str z4) k4 q4) X.env) :: backTo lp (starEach [.Constant (.str z5) k5 q5] X.env))) _ _ _
  refine Calls.spliced_cons (Calls.Constant_str ?_)
  show wpAny _ _ (spliced ((false, eval (.Constant (.str z5) k5 q5) X.env) :: backTo lp (starEach [] X.env))) _ _ _
  refine Calls.spliced_cons (Calls.Constant_str (Calls.spliced_nil ?_))
  have h5 : (5 : Nat) ≤ sizeLine := by decide
  refine ⟨h5, ?_⟩
  have hf : H2 s2.heap.objs.size = none := I2.hok.fresh (Nat.le_refl _)
  have I3 : Inv X pins σ (upd H2 s2.heap.objs.size (.frz { cls := .type "list", data := .seq #[.str z1 s2.toks, .str z2 (s2.toks + 1), .str z3 (s2.toks + 1 + 1), .str z4 (s2.toks + 1 + 1 + 1), .str z5 (s2.toks + 1 + 1 + 1 + 1)] 0 } (.lst ([z1, z2, z3, z4, z5].map V.str)))) { s2 with heap := s2.heap.push { cls := .type "list", data := .seq #[.str z1 s2.toks, .str z2 (s2.toks + 1), .str z3 (s2.toks + 1 + 1), .str z4 (s2.toks + 1 + 1 + 1), .str z5 (s2.toks + 1 + 1 + 1 + 1)] 0 }, toks := s2.toks + 1 + 1 + 1 + 1 + 1 } :=
    I2.laid (t' := s2.toks + 1 + 1 + 1 + 1 + 1) (fun b u e => Heap.get?_push_of_some _ e) (Nat.le_refl _) ⟨Heap.get?_push_size _ rfl, h5, [.str z1 s2.toks, .str z2 (s2.toks + 1), .str z3 (s2.toks + 1 + 1), .str z4 (s2.toks + 1 + 1 + 1), .str z5 (s2.toks + 1 + 1 + 1 + 1)], 0, .cons ⟨_, rfl⟩ (.cons ⟨_, rfl⟩ (.cons ⟨_, rfl⟩ (.cons ⟨_, rfl⟩ (.cons ⟨_, rfl⟩ .nil)))), Heap.get?_push_size _ rfl⟩
  refine Calls.spliced_nil ⟨I3.kIn, ?_⟩
  have hk2' : s1.toks + 1 ≤ s2.toks := hk2
  refine wpAny_call (codeAny_mono (R X.A X.stack _ _ s2.heap.objs.size _ _ 0 [z1, z2, z3, z4, z5] pv pvv n hr I3.env0 r2 upd_same rfl rfl (fun v hv z t e => ?_) (box_mono (same_new hf) hb) hn (show 0 < 5 by decide) (show 5 ≤ 1000 by decide)) fun r s' hq => ?_)
  · simp only [List.mem_cons, List.not_mem_nil, or_false] at hv
    rcases hv with rfl | rfl | rfl | rfl | rfl
    · cases e
      exact (show (s2.toks : Nat) ≠ 0 by omega)
    · cases e
      exact (show (s2.toks + 1 : Nat) ≠ 0 by omega)
    · cases e
      exact (show (s2.toks + 1 + 1 : Nat) ≠ 0 by omega)
    · cases e
      exact (show (s2.toks + 1 + 1 + 1 : Nat) ≠ 0 by omega)
    · cases e
      exact (show (s2.toks + 1 + 1 + 1 + 1 : Nat) ≠ 0 by omega)
  · obtain ⟨z, t, rfl, ht, hmem, hCE⟩ := hq
    obtain ⟨v4, H4, I4, r4, ev4, e4, b4⟩ := I3.after hCE
    have hyz := List.all_eq_true.mp hy z hmem
    rw [Bool.and_eq_true, Bool.not_eq_true', decide_eq_true_iff] at hyz
    refine Calls.spliced_cons ?_
    show wpAny _ _ (eval (.Constant (.int 1) j2 c2) X.env) _ _ _
    refine wpAny_Constant_int (Calls.spliced_nil ?_)
    exact replace1 (by show s1.toks ≠ 0; omega) ht hyz.1 hx hyz.2 fun r t' kk hr' => ⟨.str r, H4, I4.tok kk, ⟨t', rfl⟩, w2 r H4 ((Same.sx (same_new hf)).trans e4) b4 hr'⟩
theorem psst_nox {X : Cx} {st : List Stmt} {t : TS} (h : PSsT X.nox st t) : PSsT X st t := fun pins s σ H D h0 I hw =>
  wpAny_mono (h pins s σ H D h0 (I.wish _) hw) (fun _ _ q => q.unwish) fun _ _ z => False.elim z
theorem okT {P : Program} {w : World} {K : PySem.W.Frag} {mg : Str → Option Value} {base : Heap} {x qual : Str} {st : Stmt} {f : Addr} {fd : FuncData} {N ps : List Str} {k : Nat} {sp : Sp} (F : Fun K x qual st f fd) (S : FnScope N ps (defScope st)) (hnc : ∀ y ∈ (defScope st).names, y.2 ≠ .cell) (hps : 1 ≤ ps.length) (len : ∀ vs H Q E, sp vs H Q E → vs.length = ps.length)
    (bod : ∀ (cdv : Value) (A : Around) (outer : List Env) (s : Shared) (H : Hp) (vs : List V) (Q : VK) (E : XK), Room k (A.deeper (envOfC qual (defScope st) s.heap.objs.size f cdv)) → sp vs H Q E →
      ∃ t, PSsT (cxOf CX0 P w K mg base N qual (defScope st) f cdv A outer s H E).nox (defBody st) t ∧ t { nx := fun _ H' => Q .non H', rt := Q } (start N vs) H) : FnOk P w K mg base CX0 (k + 1) f fd ps sp := by
  obtain ⟨_, _, _, _, _, _, cdv, _, _, rfl, lk, hcd⟩ := F.ex
  refine fn_ofT lk hcd S hnc hps len fun A outer s H vs Q E r h => ?_
  obtain ⟨t, ht, q⟩ := bod cdv A outer s H vs Q E r h
  exact ⟨t, psst_nox ht, q⟩
theorem w_replOf {W : Wd} {tr tp : TE} {σ : L2.St} {H : Hp} {Q : VK} (h : tr σ H fun v H1 => ∃ x : Str, v = .str x ∧ x.length ≤ 50000 ∧ tp σ H1 fun pv H2 => ∃ n, BoxAt W false n H2 pv ∧ n ≤ 1000000000 ∧ ∀ (z : Str) H3, Sx H2 H3 → BoxAt W false (n + 1) H3 pv → z.length ≤ 100000 → Q (.str z) H3) : tReplOf W tr tp σ H Q := h
end Sh
/-! the end: facts by names, the top by one run -/
namespace Sh
open PySem PySem.Spec PyProof.Rows L2
section
variable {K : PySem.W.Frag} {h : Heap} {mg : Str → Option Value} {fa : List He.Fa} {fn : List He.FnD}
theorem z_glo (X : K.In h) (G : h.Ns mainGlobals mg) (c : He.SaysE fa fn K) (x : Str) (i : Nat) (e : fa[i]? = some (.glo x)) : mg x = some (.ref (He.ga K x)) := He.glo_ok X G (c.fact i e)
theorem z_src (X : K.In h) (G : h.Ns mainGlobals mg) (c : He.SaysE fa fn K) {x : Str} {st : Stmt} (i j : Nat) (d : fn[i]? = some ⟨(x, none), x, x, defArgs st, defBody st, defScope st⟩) (e1 : fa[j]? = some (.glo x)) (e2 : fa[j + 1]? = some (.keep x)) : Src K mg x st := by
  obtain ⟨oc, od, osl, kV, doc, pm, an, cdv, ct, l, cc⟩ := c.def_ i d
  exact ⟨_, _, He.glo_ok X G (c.fact j e1), fun_mk l cc (He.keep_ok (c.fact (j + 1) e2))⟩
end
section
variable {K : PySem.W.Frag} {h : Heap} {mg : Str → Option Value} {fa : List He.Fa} {fn : List He.FnD}
def ktB (K : PySem.W.Frag) (x : Str) (zs : List Str) : Bool := He.eqO (PySem.W.nsIn K mainGlobals x) (some (some (.ref (He.ga K x)))) && match K.lookup (He.ga K x) with
  | some ⟨.type t, none, .seq its _, _⟩ => decide (t = "tuple") && (Nat.ble its.size 1000 && decide (its.toList.map (fun v => match v with | .str z _ => some z | _ => none) = zs.map some))
  | _ => false
theorem vals_strs : ∀ {us : List Value} {zs : List Str}, us.map (fun v => match v with | .str z _ => some z | _ => none) = zs.map some → Vals (zs.map V.str) us
  | [], [], _ => .nil
  | [], _ :: _, h => by cases h
  | _ :: _, [], h => by cases h
  | u :: us, z :: zs, h => by
    rw [List.map_cons, List.map_cons] at h
    injection h with h1 h2
    refine .cons ?_ (vals_strs h2)
    cases u <;> first | (cases h1; done) | (injection h1 with h1; subst h1; exact ⟨_, rfl⟩)
theorem ktB_ok {x : Str} {zs : List Str} (X : K.In h) (G : h.Ns mainGlobals mg) (c : ktB K x zs = true) : ∃ a, mg x = some (.ref a) ∧ KTup K a (zs.map V.str) := by
  obtain ⟨c1, c2⟩ := Bool.and_eq_true_iff.mp c
  refine ⟨He.ga K x, PySem.W.mg_of X G (He.eqO_ok c1), ?_⟩
  clear c c1
  cases l : K.lookup (He.ga K x) with
  | none => rw [l] at c2; cases c2
  | some o =>
    rw [l] at c2
    obtain ⟨cl, d, dt, sl⟩ := o
    cases cl <;> first | (cases c2; done) | skip
    cases d <;> first | (cases c2; done) | skip
    cases dt <;> first | (cases c2; done) | skip
    obtain ⟨b1, c2⟩ := Bool.and_eq_true_iff.mp c2
    obtain ⟨b2, b3⟩ := Bool.and_eq_true_iff.mp c2
    refine ktup_mk l (by rw [of_decide_eq_true b1]) rfl ?_ (vals_strs (of_decide_eq_true b3))
    have := Nat.le_of_ble_eq_true b2
    rw [sizeLine_eq]
    omega
end
/-- what the end asks of an exception class whose instances are asked -/
def exvB (K : PySem.W.Frag) (D : Str) (cs : List Str) : Bool :=
  (PySem.W.clsIn K (He.ga K D)).isSome && (He.eqO (PySem.W.findIn K (.ref (He.ga K D)) "__getattribute__") (some (some (.builtin "BaseException.__getattribute__"))) && ((PySem.W.findIn K (.ref (He.ga K D)) "__getattr__").isSome &&
  (decide (PySem.W.subIn K (.ref (He.ga K D)) (.type "BaseException") = some true) && (He.eqO (PySem.W.findIn K (.ref (He.ga K D)) "__class__") (some (some (.builtin "object.__class__"))) && (He.eqO (PySem.W.specialIn K (.builtin "object.__class__") "__get__") (some (some (.builtin "getset_descriptor.__get__"))) &&
  (decide (PySem.W.takesIn K (.builtin "object.__class__") = some true) && (decide (PySem.W.mroIn K (He.ga K D) (.type "object") = some true) && (decide (PySem.W.kitOne K (.ref (He.ga K D)) (.type "ValueError") = some true) &&
  ((cs.all fun c => decide (PySem.W.kitOne K (.ref (He.ga K D)) (.ref (He.ga K c)) = some (decide (c = D) || decide (c = "HeadError")))) && decide (PySem.W.exmOne K (.ref (He.ga K D)) (.ref (He.ga K "HeadError")) = some true))))))))))
/-- what the end asks of an exception class x that has an __init__ of its own, over a class b that has none; f: its field -/
def exoB (K : PySem.W.Frag) (x b f : Str) : Bool :=
  (match K.lookup (He.ga K x) with
    | some ⟨.type t, _, .cls cd, sl⟩ => decide (t = "type") && (match cd.mro, sl.toList with
      | .ref C :: bm, [_, _, _, _, some (.builtin n), _] => decide (C = He.ga K x) && (decide (n = "ValueError.__new__") && (!cd.hasDel && (cd.hasDict && PySem.HandSPX.refsVE bm)))
      | _, _ => false)
    | _ => false) && (
  He.eqO (PySem.W.findIn K (.ref (He.ga K x)) "__setattr__") (some (some (.builtin "object.__setattr__"))) && (decide (PySem.W.subIn K (.ref (He.ga K x)) (.type "BaseException") = some true) && (decide (PySem.W.typeIn K (.ref (He.ga K x)) = some (.type "type")) && (PySem.W.keepIn K (.ref (He.ga K x)) &&
  (PySem.W.readsIn K (He.ga K b) (.type "type") && (He.eqO (PySem.W.specialIn K (.ref (He.ga K b)) "__getattribute__") (some (some (.builtin "type.__getattribute__"))) &&
  ((match PySem.W.findCls K (.ref (He.ga K b)) (.type "type") "__init__" with
    | some (.val (.builtin n)) => decide (n = "ValueError.__init__")
    | _ => false) && (L2.xfB K (He.ga K x) && He.eqO (PySem.W.findIn K (.ref (He.ga K x)) f) (some none)))))))))
/-- a tuple of texts (by its name), or (without a name) an exception class and the classes that are asked for -/
def tzB (K : PySem.W.Frag) (x : Str) (zs : List Str) : Bool := if x.length = 0 then (if (zs.headD "").length = 0 then exoB K (zs.getD 1 "") (zs.getD 2 "") (zs.getD 3 "") else exvB K (zs.headD "") zs.tail) else ktB K x zs
theorem tz_kt {K : PySem.W.Frag} {x : Str} {zs : List Str} (h : x.length ≠ 0) (c : tzB K x zs = true) : ktB K x zs = true := by
  unfold tzB at c
  rw [if_neg h] at c
  exact c
theorem tz_ex {K : PySem.W.Frag} {D : Str} {cs : List Str} (h : D.length ≠ 0) (c : tzB K "" (D :: cs) = true) : exvB K D cs = true := by
  unfold tzB at c
  rw [if_pos (show ("" : Str).length = 0 from rfl), if_neg (show ¬ (List.headD (D :: cs) "").length = 0 from h)] at c
  exact c
theorem tz_xo {K : PySem.W.Frag} {x b f : Str} (c : tzB K "" ["", x, b, f] = true) : exoB K x b f = true := by
  unfold tzB at c
  rw [if_pos (show ("" : Str).length = 0 from rfl), if_pos (show (List.headD (["", x, b, f] : List Str) ("" : Str)).length = 0 from rfl)] at c
  exact c
/-- what the end looks at: the module's names, what they stand for, the classes' names, the code of each def (some twice: a look finds the first) -/
def zCode (g : Addr → Option Obj) (a : Addr) : List Addr := match g a with
  | some o => (match o.data with
    | .func fd => He.refV fd.code
    | _ => [])
  | none => []
def zNs (g : Addr → Option Obj) (a : Addr) : List Addr := match g a with
  | some o => (match o.data with
    | .dict es _ => es.toList.flatMap fun e => He.refV e.val
    | _ => [])
  | none => []
def zOne (g : Addr → Option Obj) (a : Addr) : List Addr := match g a with
  | some o => (match o.data with
    | .func fd => a :: He.refV fd.code
    | .cls cd => a :: cd.ns :: (zNs g cd.ns).flatMap fun m => m :: zCode g m
    | _ => [a])
  | none => []
def zAs (g : Addr → Option Obj) : List Addr := cStatics :: mainGlobals :: (zNs g mainGlobals).flatMap (zOne g)
abbrev AlZ : Type := He.Al × Bool
def obsZ (fa : List He.Fa) (fn : List He.FnD) (ts : List (Str × List Str)) (K : PySem.W.Frag) : AlZ := (He.obsE fa fn K, ts.all fun p => tzB K p.1 p.2)
def obsZG (fa : List He.Fa) (fn : List He.FnD) (ts : List (Str × List Str)) (g : Addr → Option Obj) : AlZ := obsZ fa fn ts (He.frG g (zAs g))
def valZ (fn : List He.FnD) : AlZ := (He.valE fn, true)
def SaysZ (fa : List He.Fa) (fn : List He.FnD) (ts : List (Str × List Str)) (K : PySem.W.Frag) : Prop := He.SaysE fa fn K ∧ ∀ p ∈ ts, tzB K p.1 p.2 = true
def hookZ (fa : List He.Fa) (fn : List He.FnD) (ts : List (Str × List Str)) : PySem.W.Hook where
  α := AlZ
  obs := fun s => obsZG fa fn ts s.heap.get?
  val := fun _ => valZ fn
  says := fun _ h => ∃ K : PySem.W.Frag, K.In h ∧ SaysZ fa fn ts K
  of := fun _ _ e => ⟨_, He.frG_in, congrArg (fun z : AlZ => z.1) e, List.all_eq_true.mp (congrArg (fun z : AlZ => z.2) e)⟩
  keeps := fun _ _ _ ⟨K, hK, c⟩ k => ⟨K, PySem.W.Frag.In.keeps hK k, c⟩
theorem obsZG_eq {fa : List He.Fa} {fn : List He.FnD} {ts : List (Str × List Str)} {g : Addr → Option Obj} {s : Shared} (h : ∀ a, g a = s.heap.get? a) : obsZG fa fn ts g = (hookZ fa fn ts).obs s := by
  have e : g = s.heap.get? := funext h
  rw [e] <;> rfl
theorem obsZ_app {fa fa' : List He.Fa} {fn fn' : List He.FnD} {ts ts' : List (Str × List Str)} {K : PySem.W.Frag} (h : obsZ fa fn ts K = valZ fn) (h' : obsZ fa' fn' ts' K = valZ fn') : obsZ (fa ++ fa') (fn ++ fn') (ts ++ ts') K = valZ (fn ++ fn') := by
  have a1 := congrArg (fun z : AlZ => z.1.1) h
  have a2 := congrArg (fun z : AlZ => z.1.2) h
  have a3 := congrArg (fun z : AlZ => z.2) h
  have b1 := congrArg (fun z : AlZ => z.1.1) h'
  have b2 := congrArg (fun z : AlZ => z.1.2) h'
  have b3 := congrArg (fun z : AlZ => z.2) h'
  have a1 : ((fa.all fun f => f.ok K) && fn.all fun d => (He.Fa.code d.at_ d.qual).ok K) = true := a1
  have b1 : ((fa'.all fun f => f.ok K) && fn'.all fun d => (He.Fa.code d.at_ d.qual).ok K) = true := b1
  have a2 : fn.map (fun d => He.fnObs K d.at_) = fn.map He.FnD.val := a2
  have b2 : fn'.map (fun d => He.fnObs K d.at_) = fn'.map He.FnD.val := b2
  have a3 : (ts.all fun p => tzB K p.1 p.2) = true := a3
  have b3 : (ts'.all fun p => tzB K p.1 p.2) = true := b3
  obtain ⟨a4, a5⟩ := Bool.and_eq_true_iff.mp a1
  obtain ⟨b4, b5⟩ := Bool.and_eq_true_iff.mp b1
  show ((((fa ++ fa').all fun f => f.ok K) && (fn ++ fn').all fun d => (He.Fa.code d.at_ d.qual).ok K, (fn ++ fn').map fun d => He.fnObs K d.at_), (ts ++ ts').all fun p => tzB K p.1 p.2) = ((true, (fn ++ fn').map He.FnD.val), true)
  rw [List.all_append, List.all_append, List.all_append, List.map_append, List.map_append, a4, a5, b4, b5, a2, b2, a3, b3]
  rfl
theorem zrun_app {r : PySem.W.OpenRow} {q : Program} {fa fa' : List He.Fa} {fn fn' : List He.FnD} {ts ts' : List (Str × List Str)} {M : Nat} {loose : List Str} {w : World}
    (h : HandSHeadRun.RunEq r q (hookZ fa fn ts) (fun s => obsZG fa fn ts (HandSHeadRun.getT s)) M loose w) (h' : HandSHeadRun.RunEq r q (hookZ fa' fn' ts') (fun s => obsZG fa' fn' ts' (HandSHeadRun.getT s)) M loose w) :
    HandSHeadRun.RunEq r q (hookZ (fa ++ fa') (fn ++ fn') (ts ++ ts')) (fun s => obsZG (fa ++ fa') (fn ++ fn') (ts ++ ts') (HandSHeadRun.getT s)) M loose w := by
  intro os
  have a := h os
  have b := h' os
  unfold HandSHeadRun.RunEq at *
  revert a b
  generalize HandSHeadRun.endF _ _ _ _ _ = e
  intro a b
  cases e with
  | none => cases a
  | some s =>
    have a := Option.some.inj a
    have b := Option.some.inj b
    have a1 := congrArg (fun z => z.1) a
    have a2 := congrArg (fun z => z.2.1) a
    have a3 := congrArg (fun z => z.2.2) a
    have b3 := congrArg (fun z => z.2.2) b
    exact congrArg some (Prod.ext a1 (Prod.ext a2 (obsZ_app a3 b3)))
theorem walk_ofZ {l : PySem.W.OpenLaw} {n k : Nat} {q : Program} {loose : List Str} {XP : (Str → Option Value) → Heap → Prop} {YP : World → Heap → Prop} {d : DefRec} {CX : CXT} {x : Str}
    (hn : l.most = some n) (hn2 : n ≤ sizeLine) (hdf : d.params.defaults = []) (hr : Room k callerA)
    (F : ∀ (w : World) (mg : Str → Option Value) (fa : Addr) (h : Heap), YP w h → h.Ns mainGlobals mg → mg d.name = some (.ref fa) →
      ∃ (K : PySem.W.Frag) (fd : FuncData) (sp : Sp), K.In h ∧ (∀ (s : Shared) (u : Value), BindsTo s fd ⟨[u], []⟩ [(x, u)]) ∧
        (∀ (H : Hp) (a : Addr) (ns : List Int), ns.length ≤ n → (∀ z ∈ ns, Builtin.Int.intBits z ≤ 1048576) → Only H → SqL K H a (ns.map V.int) → sp [.ref a] H (fun v _ => v = .bl true) fun _ _ _ => False) ∧
        ∀ base : Heap, K.In base → base.Ns mainGlobals mg → FnOk l.prog w K mg base CX k fa fd [x] sp)
    (hCX : ∀ (H : Hp) (s : Shared) (e : Value) (s' : Shared), CX [] H s (fun _ _ _ => False) e s' → False) :
    PySem.W.WalkO q loose XP YP l.row.toRowW d [] (fun f vs => PySem.call f vs) := by
  refine Att.attach_callB hn hdf fun w s₀ s₁ mg mb fa o pm cd doc a vs ns G Y ho hd hcd hmg hobj hints hlen hbits hg => ?_
  obtain ⟨K, fd, sp, KX, hb, hsp, hF⟩ := F w mg fa _ Y G.T.g hmg
  exact law_call KX G.T.g G.T.b G.T.builtins G.T.nolimit hg hobj hints (Nat.le_trans hlen hn2) hr hF hb (fun H hO hS => hsp H a ns hlen hbits hO hS) fun H e s' => hCX H s₁ e s'
end Sh
/-! .. of classes, exceptions -/
namespace Sh
open PySem PySem.Spec PyProof.Rows L2
section
variable {K : PySem.W.Frag} {h : Heap} {mg : Str → Option Value} {fa : List He.Fa} {fn : List He.FnD}
theorem ga_cls {x : Str} : clsOf K x = He.ga K x := by
  unfold clsOf He.ga
  rfl
theorem z_kls (X : K.In h) (G : h.Ns mainGlobals mg) (c : He.SaysE fa fn K) {x : Str} (i : Nat) (e1 : fa[i]? = some (.glo x)) (e2 : fa[i + 1]? = some (.cls x)) : KlsOk K mg x :=
  ⟨by rw [ga_cls]; exact He.cls_ok (c.fact (i + 1) e2), by rw [ga_cls]; exact He.glo_ok X G (c.fact i e1)⟩
theorem z_no (c : He.SaysE fa fn K) {x f : Str} (i : Nat) (e : fa[i]? = some (.noat x f)) : NoAttr K (clsOf K x) f := by
  rw [ga_cls]
  exact He.noat_ok (c.fact i e)
theorem z_srcM (c : He.SaysE fa fn K) {x m q : Str} {st : Stmt} (i j : Nat) (d : fn[i]? = some ⟨(x, some m), m, q, defArgs st, defBody st, defScope st⟩) (e : fa[j]? = some (.meth x m)) : SrcM K (clsOf K x) m q st := by
  obtain ⟨oc, od, osl, kV, doc, pm, an, cdv, ct, l, cc⟩ := c.def_ i d
  have M := He.meth_ok (c.fact j e)
  rw [ga_cls]
  exact ⟨_, _, M, fun_mk l cc M.kp⟩
theorem z_srcI (c : He.SaysE fa fn K) {x q : Str} {st : Stmt} (i j : Nat) (d : fn[i]? = some ⟨(x, some "__init__"), "__init__", q, defArgs st, defBody st, defScope st⟩) (e : fa[j]? = some (.meth x "__init__")) (e2 : fa[j + 1]? = some (.mkr x)) : SrcI K (clsOf K x) q st := by
  obtain ⟨oc, od, osl, kV, doc, pm, an, cdv, ct, l, cc⟩ := c.def_ i d
  have M := He.meth_ok (c.fact j e)
  rw [ga_cls]
  exact ⟨_, _, He.mkr_ok (c.fact (j + 1) e2), fun_mk l cc M.kp⟩
end
end Sh
/-! .. of caught exceptions, classes as values -/
namespace Sh
open PySem PySem.Spec PyProof.Rows L2
theorem exvB_ok {K : PySem.W.Frag} {D : Str} {cs : List Str} (h : exvB K D cs = true) : ExvOk K D cs := by
  have g : ∀ x : Str, clsOf K x = He.ga K x := fun _ => ga_cls
  obtain ⟨h1, h⟩ := He.ba h
  obtain ⟨h2, h⟩ := He.ba h
  obtain ⟨h3, h⟩ := He.ba h
  obtain ⟨h4, h⟩ := He.ba h
  obtain ⟨h5, h⟩ := He.ba h
  obtain ⟨h6, h⟩ := He.ba h
  obtain ⟨h7, h⟩ := He.ba h
  obtain ⟨h8, h⟩ := He.ba h
  obtain ⟨h9, h⟩ := He.ba h
  obtain ⟨hA, hB⟩ := He.ba h
  refine ⟨?_, ?_, ?_, ?_, ?_, He.eqO_ok h6, of_decide_eq_true h7, ?_, ?_, fun c hc => ?_, ?_⟩
  · rw [g]; exact h1
  · rw [g]; exact He.eqO_ok h2
  · rw [g]; exact Option.isSome_iff_exists.mp h3
  · rw [g]; exact of_decide_eq_true h4
  · rw [g]; exact He.eqO_ok h5
  · rw [g]; exact of_decide_eq_true h8
  · rw [g]; exact of_decide_eq_true h9
  · rw [g, g]; exact of_decide_eq_true (List.all_eq_true.mp hA c hc)
  · rw [g, g]; exact of_decide_eq_true hB
theorem z_cls {K : PySem.W.Frag} {h : Heap} {mg : Str → Option Value} {fa : List He.Fa} {fn : List He.FnD} (X : K.In h) (G : h.Ns mainGlobals mg) (c : He.SaysE fa fn K) {x : Str} (i : Nat) (e : fa[i]? = some (.glo x)) : mg x = some (.ref (clsOf K x)) := by
  rw [ga_cls]
  exact He.glo_ok X G (c.fact i e)
end Sh
/-! .. of exception classes with an __init__ of their own -/
namespace Sh
open PySem PySem.Spec PyProof.Rows L2
theorem exoB_ok {K : PySem.W.Frag} {x b f : Str} (h : exoB K x b f = true) : ExoOk K x b f := by
  have g : ∀ x : Str, clsOf K x = He.ga K x := fun _ => ga_cls
  obtain ⟨h1, h⟩ := He.ba h
  obtain ⟨h2, h⟩ := He.ba h
  obtain ⟨h3, h⟩ := He.ba h
  obtain ⟨h4, h⟩ := He.ba h
  obtain ⟨h5, h⟩ := He.ba h
  obtain ⟨h6, h⟩ := He.ba h
  obtain ⟨h7, h⟩ := He.ba h
  obtain ⟨h8, h⟩ := He.ba h
  obtain ⟨h9, hA⟩ := He.ba h
  refine ⟨?_, ?_, ?_, ?_, ?_⟩
  · rw [g]
    refine ⟨?_, He.eqO_ok h2, of_decide_eq_true h3, of_decide_eq_true h4, h5⟩
    split at h1
    · rename_i t dd cd sl ho
      obtain ⟨a1, h1⟩ := He.ba h1
      split at h1
      · rename_i C bm k0 k1 k2 k3 n k5 hm hs
        obtain ⟨a2, h1⟩ := He.ba h1
        obtain ⟨a3, h1⟩ := He.ba h1
        obtain ⟨a4, h1⟩ := He.ba h1
        obtain ⟨a5, a6⟩ := He.ba h1
        obtain ⟨nm, bs, mro, ns, qn, hd, sn, sub, ab, col, del⟩ := cd
        dsimp only at hm a4 a5
        have e1 := of_decide_eq_true a1
        have e2 := of_decide_eq_true a2
        have e3 := of_decide_eq_true a3
        have e4 : del = false := by simpa using a4
        subst e1 e3 e4 a5 hm
        have hsl : sl = #[k0, k1, k2, k3, some (.builtin "ValueError.__new__"), k5] := by
          obtain ⟨l⟩ := sl
          simp only at hs
          rw [hs]
        subst hsl
        rw [e2] at ho
        exact ⟨nm, qn, ns, bs, bm, sn, sub, ab, col, dd, k0, k1, k2, k3, k5, ho, a6⟩
      · cases h1
    · cases h1
  · rw [g]
    exact ⟨h6, He.eqO_ok h7⟩
  · rw [g]
    split at h8
    · rename_i n hn
      rw [hn, of_decide_eq_true h8]
    · cases h8
  · rw [g]
    exact xfB_ok h9
  · rw [g]
    exact He.eqO_ok hA
end Sh
namespace Sh
open PySem PySem.Spec PyProof.Rows L2
open RZ
local macro_rules | `(tactic| walk_at "Zkt") => `(tactic| first | assumption | exact Same.refl _ | ((refine' Same.trans ?a ?b); (case b => assumption); walk_at "Zkt"))
local macro_rules | `(tactic| walk_at "Znum") => `(tactic| first | omega | decide +kernel | assumption | exact p2_pos _)
local macro_rules | `(tactic| walk_at "Zcmul") => `(tactic| first | exact .inr ⟨by decide, by decide⟩ | exact .inl ⟨by decide, by decide⟩ | exact .inl ⟨by omega, by omega⟩ | exact .inr ⟨by omega, by omega⟩)
local macro_rules | `(tactic| walk_at "Zs0") => `(tactic| first
  | with_reducible refine' w_seq ?_
  | with_reducible refine' w_asg ?_
  | ((with_reducible refine' w_var ?vv ?_); (case vv => exact rfl))
  | with_reducible refine' w_c ?_
  | with_reducible refine' w_gname ?_
  | with_reducible refine' w_op ?_
  | with_reducible refine' w_cons ?_
  | with_reducible refine' w_nil ?_
  | with_reducible refine' w_call ?_
  | with_reducible refine' w_cb ?_
  | with_reducible refine' w_test ?_
  | with_reducible refine' w_tB ?_
  | with_reducible refine' w_bl ?_
  | with_reducible refine' w_ret ?_
  | with_reducible refine' w_not ?_
  | with_reducible refine' w_and ?_
  | with_reducible refine' w_or ?_
  | with_reducible refine' w_andv ?_
  | with_reducible refine' w_orv ?_
  | with_reducible refine' w_notv ?_
  | with_reducible refine' w_chain ?_
  | with_reducible refine' w_tup ?_
  | with_reducible refine' w_lst ?_
  | with_reducible refine' w_un ?_
  | with_reducible refine' w_rU ?_
  | with_reducible refine' w_drop ?_
  | with_reducible refine' w_par ?_
  | with_reducible refine' w_two ?_
  | with_reducible refine' w_par3 ?_
  | with_reducible refine' w_three ?_
  | with_reducible refine' w_lenSetU ?_
  | with_reducible refine' w_next ?_
  | with_reducible refine' w_retn ?_
  | ((with_reducible refine' w_aug ?vv ?_); (case vv => exact rfl))
  | with_reducible refine' w_meth ?_
  | with_reducible refine' w_make ?_
  | with_reducible refine' w_fd ?_
  | with_reducible refine' w_sfd ?_
  | with_reducible refine' w_nn ?_)
local macro_rules | `(tactic| walk_at "Zs1") => `(tactic| first | walk_at "Zs0" | with_reducible refine' w_ifs ?_ | with_reducible refine' w_ife ?_)
local macro_rules | `(tactic| walk_at "Zs2") => `(tactic| first
  | with_reducible refine' w_add ?_
  | with_reducible refine' w_addN ?_
  | with_reducible refine' w_sub ?_
  | with_reducible refine' w_con ?_
  | with_reducible refine' w_lt ?_
  | with_reducible refine' w_le ?_
  | with_reducible refine' w_gt ?_
  | with_reducible refine' w_ge ?_
  | with_reducible refine' w_eqi ?_
  | with_reducible refine' w_nei ?_
  | with_reducible refine' w_eqs ?_
  | with_reducible refine' w_nes ?_
  | with_reducible refine' w_neb ?_
  | with_reducible refine' w_eqb ?_
  | ((with_reducible refine' w_lenQTm ?h ?_); (case h => walk_at "Zdq"))
  | ((with_reducible refine' w_lenQT ?h ?_); (case h => walk_at "Zdq"))
  | ((with_reducible refine' w_lenZT ?h ?_); (case h => walk_at "Zdz"))
  | with_reducible refine' w_min2 ?_
  | with_reducible refine' w_max2 ?_
  | with_reducible refine' w_max3 ?_
  | with_reducible refine' w_abs ?_
  | with_reducible refine' w_ipadd ?_
  | with_reducible refine' w_ipaddN ?_
  | ((with_reducible refine' w_mod ?a ?_); (case a => walk_at "Znum"))
  | ((with_reducible refine' w_mul ?a ?_); (case a => walk_at "Zcmul"))
  | ((with_reducible refine' w_mulN ?a ?_); (case a => walk_at "Zcmul"))
  | ((with_reducible refine' w_div1 ?a ?b ?_); (case a => walk_at "Znum"); (case b => walk_at "Znum"))
  | ((with_reducible refine' w_shl1 ?a ?b ?_); (case a => walk_at "Znum"); (case b => walk_at "Znum"))
  | with_reducible refine' w_intb ?_
  | with_reducible refine' w_inti ?_)
local macro_rules | `(tactic| walk_at "Zs3") => `(tactic| first
  | with_reducible refine' w_for ?_
  | with_reducible refine' w_irng1 ?_
  | with_reducible refine' w_irng2 ?_
  | ((with_reducible refine' w_rg1 ?a ?b ?_); (case a => walk_at "Znum"); (case b => walk_at "Znum"))
  | with_reducible refine' w_iany ?_
  | with_reducible refine' w_ienum ?_
  | with_reducible refine' w_izip ?_
  | with_reducible refine' w_izip3 ?_
  | with_reducible refine' w_N ?_
  | with_reducible refine' w_lc ?_
  | ((with_reducible refine' w_wp ?e ?_); (case e => exact rfl))
  | with_reducible refine' w_yes ?_
  | with_reducible refine' w_gsub ?_
  | ((with_reducible refine' w_new ?l ?_); (case l => (simp only [List.length_cons, List.length_nil]; decide)); intro p H' np e hp)
  | with_reducible refine' w_tupN ?_
  | with_reducible refine' w_tm ?_
  | with_reducible refine' w_lstRg ?_
  | with_reducible refine' w_dget ?_
  | with_reducible refine' w_isN ?_
  | with_reducible refine' w_isB ?_
  | with_reducible refine' w_notN ?_
  | with_reducible refine' w_notB ?_
  | with_reducible refine' w_pairs ?_
  | with_reducible refine' w_pnil ?_
  | ((with_reducible refine' w_dnewK ?_); intro p H' np e hp)
  | with_reducible refine' w_m1 ?_
  | with_reducible refine' w_isS ?_
  | with_reducible refine' w_joinRev ?_
  | ((with_reducible refine' w_newN ?l ?_); (case l => (simp only [List.length_cons, List.length_nil]; decide)); intro p H' np e hp)
  | with_reducible refine' w_gnil ?_
  | ((with_reducible refine' w_gtup ?h ?l ?_); (case h => first | assumption | exact SqT.of (by assumption) | exact SqN.t (SqN.of (by assumption)) | exact SqN.t (by assumption)); (case l => exact rfl))
  | with_reducible refine' w_sl ?_
  | with_reducible refine' w_nopart ?_
  | with_reducible refine' w_part ?_
  | with_reducible refine' w_ii ?_
  | with_reducible refine' w_bm ?_
  | with_reducible refine' w_gcons ?_
  | ((with_reducible refine' w_prPast ?h ?_); (case h => walk_at "Zpr"))
  | ((with_reducible refine' w_prHad ?h ?_); (case h => walk_at "Zpr"))
  | ((with_reducible refine' w_prBase ?h ?_); (case h => walk_at "Zpr"))
  | ((with_reducible refine' w_prFresh ?h ?_); (case h => walk_at "Zpr"))
  | ((with_reducible refine' w_prPact ?h ?_); (case h => walk_at "Zpr"); intro vP hvP)
  | ((with_reducible refine' w_mtPr ?h ?n ?_); (case h => walk_at "Zpr"); (case n => decide +kernel))
  | ((with_reducible refine' w_lenPast ?h ?_); (case h => walk_at "Zpr"))
  | ((with_reducible refine' w_tyPast ?h ?_); (case h => walk_at "Zpr"))
  | ((with_reducible refine' w_ptR ?h ?_); (case h => walk_at "Zdq"); intro xR hxR)
  | with_reducible refine' w_ikeys ?_
  | with_reducible refine' w_ckw ?_
  | with_reducible refine' w_din ?_
  | with_reducible refine' w_dpop1 ?_
  | ((with_reducible refine' w_rdHeld ?h ?_); (case h => walk_at "Zrd"))
  | ((with_reducible refine' w_rdTop ?h ?_); (case h => walk_at "Zrd"))
  | ((with_reducible refine' w_rdPact ?h ?_); (case h => walk_at "Zrd"); intro vP hvP)
  | ((with_reducible refine' w_mtRd ?h ?n ?_); (case h => walk_at "Zrd"); (case n => decide +kernel))
  | ((with_reducible refine' w_roPact ?h ?_); (case h => walk_at "Zro"); intro vP hvP)
  | ((with_reducible refine' w_roOne ?h ?_); (case h => walk_at "Zro"))
  | ((with_reducible refine' w_roOther ?h ?_); (case h => walk_at "Zro"))
  | ((with_reducible refine' w_roLine ?h ?_); (case h => walk_at "Zro"))
  | ((with_reducible refine' w_roBack ?h ?_); (case h => walk_at "Zro"))
  | ((with_reducible refine' w_roRow ?h ?_); (case h => walk_at "Zro"))
  | ((with_reducible refine' w_roCame ?h ?_); (case h => walk_at "Zro"))
  | ((with_reducible refine' w_mtRo ?h ?n ?_); (case h => walk_at "Zro"); (case n => decide +kernel))
  | ((with_reducible refine' w_rd0 ?h ?_); (case h => assumption))
  | ((with_reducible refine' w_rd1 ?h ?_); (case h => assumption))
  | ((with_reducible refine' w_rd2 ?h ?_); (case h => assumption))
  | ((with_reducible refine' w_rd3 ?h ?_); (case h => assumption)))
local macro_rules | `(tactic| walk_at "Zix") => `(tactic| first
  | ((with_reducible refine' w_ixl ?h ?e ?_); (case h => first | assumption | exact SqL.of (by assumption)); (case e => exact rfl))
  | ((with_reducible refine' w_ixt ?h ?e ?_); (case h => first | assumption | exact SqT.of (by assumption) | exact SqN.t (SqN.of (by assumption)) | exact SqN.t (by assumption)); (case e => exact rfl)))
local macro_rules | `(tactic| walk_at "Zite") => `(tactic| first
  | ((with_reducible refine' w_itet ?h ?_); (case h => first | exact rfl | exact decide_eq_true (by omega)))
  | ((with_reducible refine' w_itef ?h ?_); (case h => first | exact rfl | exact decide_eq_false (by omega))))
local macro_rules | `(tactic| walk_at "Zpot") => `(tactic| first | assumption | ((refine' pot_mono ?e ?h); (case h => assumption); (case e => walk_at "Zkt")))
local macro_rules | `(tactic| walk_at "Zdp") => `(tactic| first | assumption | exact Dp.int _ | exact Dp.str _ | exact Dp.bl _ | exact Dp.non | ((refine' dp_mono ?e ?h); (case h => assumption); (case e => walk_at "Zkt")) | ((refine' dq_dp ?q); (case q => walk_at "Zdq")))
local macro_rules | `(tactic| walk_at "Zdq") => `(tactic| first | assumption | exact Dq.int _ | exact Dq.str _ | exact Dq.bl _ | exact Dq.non | ((refine' dq_mono ?e ?h); (case h => assumption); (case e => walk_at "Zkt")) | ((refine' dq_mono ?e (dq_ofN ?h)); (case h => assumption); (case e => walk_at "Zkt")))
local macro_rules | `(tactic| walk_at "Zsql") => `(tactic| first | assumption | exact SqL.of (by assumption) | ((refine' Same.seq ?e (SqL.of ?h)); (case h => assumption); (case e => walk_at "Zkt")) | ((refine' Same.seq ?e ?h); (case h => assumption); (case e => walk_at "Zkt")) | ((refine' sx_l ?e (SqL.of ?h)); (case h => assumption); (case e => walk_at "Zkx")) | ((refine' sx_l ?e ?h); (case h => assumption); (case e => walk_at "Zkx")))
local macro_rules | `(tactic| walk_at "Zisi") => `(tactic| first | exact isI_nil | ((refine' isI_cons ?a ?b); (case a => first | exact trivial | omega | (dsimp only; omega)); (case b => walk_at "Zisi")))
local macro_rules | `(tactic| walk_at "Zlen") => `(tactic| (simp only [List.length_cons, List.length_nil]; omega))
local macro_rules | `(tactic| tbr_iter $P) => `(tactic| ((refine' w_ixI $P ?h ?h0 ?h1 ?hx ?_); (case h => walk_at "Zsql"); (case h0 => omega); (case h1 => walk_at "Zlen"); (case hx => walk_at "Zisi")))
local macro_rules | `(tactic| walk_at "Zc") => `(tactic| fail "no call")
local macro_rules | `(tactic| walk_at "Zs") => `(tactic| repeat (first | walk_at "Zs1" | walk_at "Zs2" | walk_at "Zs3" | walk_at "Zix" | walk_at "Zite" | walk_at "Zc"))
local macro_rules | `(tactic| walk_at "Zp") => `(tactic| repeat (first | walk_at "Zs0" | with_reducible refine' w_ife ?_ | walk_at "Zs2" | walk_at "Zs3" | walk_at "Zix" | walk_at "Zite" | walk_at "Zc"))
local macro_rules | `(tactic| walk_at "Zn") => `(tactic| repeat (first | walk_at "Zs1" | walk_at "Zs2" | walk_at "Zs3" | walk_at "Zite" | walk_at "Zc"))
local macro_rules | `(tactic| walk_at "Zkx") => `(tactic| first | assumption | exact Sx.refl _ | exact Same.sx (by assumption) | ((refine' Sx.trans ?a ?b); (case b => first | assumption | exact Same.sx (by assumption)); walk_at "Zkx"))
local macro_rules | `(tactic| walk_at "Zbox") => `(tactic| first | assumption | ((refine' box_mono ?e ?h); (case h => assumption); (case e => walk_at "Zkt")))
local macro_rules | `(tactic| walk_at "Zdx") => `(tactic| first | assumption | exact Dq.int _ | exact Dq.str _ | exact Dq.bl _ | exact Dq.non | ((refine' dqx ?e ?h); (case h => assumption); (case e => walk_at "Zkx")))
local macro_rules | `(tactic| walk_at "Zdz") => `(tactic| first | assumption | exact Dz.int _ | exact Dz.str _ | exact Dz.bl _ | exact Dz.non | ((refine' dz_mono ?e ?h); (case h => assumption); (case e => walk_at "Zkt")) | ((refine' dz_dq ?q); (case q => walk_at "Zdq")) | ((refine' dz_dp ?q); (case q => walk_at "Zdp")))
local macro_rules | `(tactic| walk_at "Zfr") => `(tactic| first | assumption | exact trivial | ((refine' none_sx ?e ?h); (case h => assumption); (case e => walk_at "Zkx")) | ((refine' pres_of ?e ?h); (case h => assumption); (case e => walk_at "Zkx")) | ((refine' And.intro ?l ?r); (case l => walk_at "Zfr"); (case r => walk_at "Zfr")))
local macro_rules | `(tactic| walk_at "Zdt") => `(tactic| first | exact Dz.int _ | exact Dz.str _ | exact Dz.bl _ | exact Dz.non | assumption | ((refine' dzx ?e ?h); (case h => assumption); (case e => walk_at "Zkx")) | ((refine' dzx ?e (dz_to ?h ?t)); (case h => assumption); (case t => first | assumption | exact trivial); (case e => walk_at "Zkx")) | ((refine' dz_tupx ?e ?h ?r); (case h => assumption); (case e => walk_at "Zkx"); (case r => walk_at "Zda")) | ((refine' dz_lstx ?p ?e ?h ?r); (case h => assumption); (case p => walk_at "Zfr"); (case e => walk_at "Zkx"); (case r => walk_at "Zda")) | ((refine' dz_dicx ?p ?e ?h); (case h => assumption); (case p => walk_at "Zfr"); (case e => walk_at "Zkx")))
local macro_rules | `(tactic| walk_at "Zda") => `(tactic| first | exact DzAll.nil | ((refine' DzAll.cons ?a ?b); (case a => walk_at "Zdt"); (case b => walk_at "Zda")) | ((refine' dzsx ?e ?h); (case h => assumption); (case e => walk_at "Zkx")) | ((refine' dzsx ?e (dzs_to ?h ?t)); (case h => assumption); (case t => assumption); (case e => walk_at "Zkx")))
local macro_rules | `(tactic| walk_at "Zq") => `(tactic| repeat (first | walk_at "Zs1" | walk_at "Zs2" | walk_at "Zs3" | walk_at "Zix" | walk_at "Zite"))
local macro_rules | `(tactic| walk_at "Zlen2") => `(tactic| exact Nat.le_of_ble_eq_true rfl)
local macro_rules | `(tactic| tbr_iter ($m, $hB)) => `(tactic| ((refine' bag_cat (m := $m) ?e $hB ?h ?r ?b ?l ?m ?q); (case e => walk_at "Zkx"); (case h => assumption); (case r => walk_at "Zda"); (case b => walk_at "Zbw"); (case l => first | walk_at "Zlen2" | (simp only [List.length_cons, List.length_nil]; omega)); (case m => first | walk_at "Zlen2" | omega)))
local macro_rules | `(tactic| tbr_iter ($m, $hB, $z)) => `(tactic| ((refine' bag_catF (m := $m) ?e $hB ?h ?r ?b ?l ?m ?q); (case e => walk_at "Zkx"); (case h => assumption); (case r => walk_at "Zda"); (case b => walk_at "Zbw"); (case l => first | walk_at "Zlen2" | (simp only [List.length_cons, List.length_nil]; omega)); (case m => first | walk_at "Zlen2" | omega)))
local macro_rules | `(tactic| walk_at "Zpr") => `(tactic| first | assumption | ((refine' pr_same ?e ?h); (case h => assumption); (case e => walk_at "Zkt")) | ((refine' pr_sx ?e ?h); (case h => assumption); (case e => walk_at "Zkx")))
local macro_rules | `(tactic| walk_at "Zv") => `(tactic| repeat (first | walk_at "Zs0" | with_reducible refine' w_ifs ?_ | walk_at "Zs2" | walk_at "Zs3" | walk_at "Zix" | walk_at "Zite" | walk_at "Zc"))
local macro_rules | `(tactic| walk_at "Zrd") => `(tactic| first | assumption | ((refine' rd_same ?e ?h); (case h => assumption); (case e => walk_at "Zkt")) | ((refine' rd_sx ?e ?h); (case h => assumption); (case e => walk_at "Zkx")))
local macro_rules | `(tactic| walk_at "Zro") => `(tactic| first | assumption | ((refine' ro_same ?e ?h); (case h => assumption); (case e => walk_at "Zkt")) | ((refine' ro_sx ?e ?h); (case h => assumption); (case e => walk_at "Zkx")))
def topS (i : Nat) : Stmt := PySem.Challenge.pw_shorthead_k53_heads_written.main.body.getD i (.Pass ⟨0, 0, 0, 0⟩)
abbrev s_NoText___init__ : Stmt := inClass (topS 11) 0
abbrev s_is_whole : Stmt := topS 13
abbrev s_is_between : Stmt := topS 14
abbrev s_is_value : Stmt := topS 15
abbrev s_is_head : Stmt := topS 16
abbrev s_show_head : Stmt := topS 20
abbrev s_number_in : Stmt := topS 21
abbrev s_numbers_in : Stmt := topS 22
abbrev s_read_head : Stmt := topS 23
abbrev s__law_pot : Stmt := topS 25
abbrev s__law_draw : Stmt := topS 26
abbrev s__law_of : Stmt := topS 27
abbrev s__law_size : Stmt := topS 28
abbrev s__law_names : Stmt := topS 29
abbrev s__law_value : Stmt := topS 30
abbrev s__law_kind : Stmt := topS 31
abbrev s__law_shape : Stmt := topS 32
abbrev s__law_head_text : Stmt := topS 33
abbrev s__law_same : Stmt := topS 34
abbrev s__law_class_of : Stmt := topS 35
abbrev s__law_number : Stmt := topS 36
abbrev s__law_read : Stmt := topS 37
abbrev s__law_bent : Stmt := topS 38
abbrev s__law_found : Stmt := topS 39
abbrev s__law_right : Stmt := topS 40
abbrev s_law : Stmt := topS 41
structure Bi (mg : Str → Option Value) : Prop where
  b_ValueError : mg "ValueError" = none
  b_abs : mg "abs" = none
  b_all : mg "all" = none
  b_any : mg "any" = none
  b_bool : mg "bool" = none
  b_int : mg "int" = none
  b_isinstance : mg "isinstance" = none
  b_len : mg "len" = none
  b_list : mg "list" = none
  b_min : mg "min" = none
  b_range : mg "range" = none
  b_str : mg "str" = none
  b_tuple : mg "tuple" = none
  b_zip : mg "zip" = none
  c_FIGURES : ∃ u, mg "FIGURES" = some u ∧ RelV (.str "0123456789") u
  c_MOST_FIGURES : ∃ u, mg "MOST_FIGURES" = some u ∧ RelV (.int 15) u
structure Kl (K : PySem.W.Frag) (mg : Str → Option Value) : Prop where
  o_NoText : ExoOk K "NoText" "HeadError" "row"
  g_Beyond : mg "Beyond" = some (.ref (clsOf K "Beyond"))
  g_HeadError : mg "HeadError" = some (.ref (clsOf K "HeadError"))
  g_NoDeed : mg "NoDeed" = some (.ref (clsOf K "NoDeed"))
  g_NoHead : mg "NoHead" = some (.ref (clsOf K "NoHead"))
  g_NoLetter : mg "NoLetter" = some (.ref (clsOf K "NoLetter"))
  g_NoLine : mg "NoLine" = some (.ref (clsOf K "NoLine"))
  g_NoMore : mg "NoMore" = some (.ref (clsOf K "NoMore"))
  g_NoPlace : mg "NoPlace" = some (.ref (clsOf K "NoPlace"))
  g_NoStream : mg "NoStream" = some (.ref (clsOf K "NoStream"))
  g_NoText : mg "NoText" = some (.ref (clsOf K "NoText"))
  g_NoWord : mg "NoWord" = some (.ref (clsOf K "NoWord"))
  v_NoText : ExvOk K "NoText" ["Beyond", "HeadError", "NoDeed", "NoHead", "NoLetter", "NoLine", "NoMore", "NoPlace", "NoStream", "NoText", "NoWord"]
def sp_NoText___init__ (W : Wd) : Sp := fun vs H Q _ => match vs with
  | [v_self, v_row] =>
  ∃ a : Addr, v_self = .ref a ∧ H a = some (exo a (clsOf W.K "NoText") none) ∧ ∀ d, H d = none → d ≠ a → Q .non (upd (upd H d (exd d [("row", v_row)])) a (exo a (clsOf W.K "NoText") (some d)))
  | _ => False
abbrev N_NoText___init__ : List Str := ["self", "row"]
theorem sc_NoText___init__ : FnScope N_NoText___init__ ["self", "row"] (defScope s_NoText___init__) := ⟨rfl, rfl, rfl, by decide +kernel, rfl, by decide +kernel, by decide +kernel⟩
theorem f_NoText___init__ {W : Wd} {mg : Str → Option Value} {base : Heap} (B : Bi mg) {f : Addr} {fd : FuncData} (F : Fun W.K "__init__" "NoText.__init__" s_NoText___init__ f fd) (T : Kl W.K mg)  : FnOk W.P W.w W.K mg base CX0 1 f fd ["self", "row"] (sp_NoText___init__ W) := by
  have nd := sc_NoText___init__.nd
  have F0 : FnOk W.P W.w W.K mg base CX0 1 f fd ["self", "row"] (sp_NoText___init__ W) := by
    refine F.ok sc_NoText___init__ (fun vs H Q E h => ?_) (fun cdv A outer s H vs Q E hr h => ?_)
    · match vs, h with | [_, _], _ => rfl
    · match vs, h with
      | [v_self, v_row], h =>
        change sp_NoText___init__ W [v_self, v_row] H Q E at h
        refine ⟨tSeq (tDrop (tVeI W.K (tCons (tVar 0) (tCons (tC (.str "a text that writes none")) (tNil))))) (tOst W.K "row" (tVar 0) (tVar 1)), pss_cons (ps_expr (pe_heinit (by rfl) T.g_HeadError T.o_NoText (pa_cons (pv 0) (pa_cons (pe_str) (pa_nil))))) (pss_one (ps_ost (pv 0) (pv 1))), ?_⟩
        clear hr
        rw [show L2.start N_NoText___init__ [v_self, v_row] = [some v_self, some v_row] from rfl]
        obtain ⟨a, rfl, ha, q⟩ := h
        walk_at "Zs"
        refine w_vei ?_
        walk_at "Zs"
        refine ⟨a, clsOf W.K "NoText", _, rfl, (show 1 ≤ 1000 by decide), T.o_NoText.oc, ha, ?_⟩
        refine w_ost ?_
        walk_at "Zs"
        exact ⟨a, clsOf W.K "NoText", rfl, T.o_NoText.oc, T.o_NoText.nr, .inl ⟨ha, fun d hd hda => q d hd hda⟩⟩
  exact F0
theorem c_NoText___init__ {W : Wd} {mg : Str → Option Value} {base : Heap} (B : Bi mg) (S : SrcM W.K (clsOf W.K "NoText") "__init__" "NoText.__init__" s_NoText___init__) (T : Kl W.K mg)  : CalM W mg base (clsOf W.K "NoText") "__init__" 1 ["self", "row"] (sp_NoText___init__ W) := by
  obtain ⟨f, fd, g, F⟩ := S
  exact ⟨f, fd, g, f_NoText___init__ B F T , (F.binds (ps := ["self", "row"]) fun _ _ _ _ _ _ us hl => match us, hl with | [_, _], _ => rfl)⟩
theorem go_NoText___init__ {W : Wd} {H : Hp} {Q : VK} {E : XK} {a : Addr} {v : V} (ha : H a = some (exo a (clsOf W.K "NoText") none)) (q : ∀ d, H d = none → d ≠ a → Q .non (upd (upd H d (exd d [("row", v)])) a (exo a (clsOf W.K "NoText") (some d)))) : sp_NoText___init__ W [.ref a, v] H Q E := ⟨a, rfl, ha, q⟩
def sp_is_whole (W : Wd) : Sp := fun vs H Q _ => match vs with
  | [v_thing] =>
  ∃ d, Dz W.K Ever H v_thing d ∧ Q (.bl (isIntD d)) H
  | _ => False
abbrev N_is_whole : List Str := ["thing"]
theorem sc_is_whole : FnScope N_is_whole ["thing"] (defScope s_is_whole) := ⟨rfl, rfl, rfl, by decide +kernel, rfl, by decide +kernel, by decide +kernel⟩
theorem f_is_whole {W : Wd} {mg : Str → Option Value} {base : Heap} (B : Bi mg) {f : Addr} {fd : FuncData} (F : Fun W.K "is_whole" "is_whole" s_is_whole f fd) (T : Kl W.K mg)  : FnOk W.P W.w W.K mg base CX0 1 f fd ["thing"] (sp_is_whole W) := by
  have nd := sc_is_whole.nd
  have F0 : FnOk W.P W.w W.K mg base CX0 1 f fd ["thing"] (sp_is_whole W) := by
    refine F.ok sc_is_whole (fun vs H Q E h => ?_) (fun cdv A outer s H vs Q E hr h => ?_)
    · match vs, h with | [_], _ => rfl
    · match vs, h with
      | [v_thing], h =>
        change sp_is_whole W [v_thing] H Q E at h
        refine ⟨tRet (tAndV (tCB (rIsi W.K) (tCons (tVar 0) (tCons (tC (.ty "int")) tNil))) (tNotV (tCB (rIsi W.K) (tCons (tVar 0) (tCons (tC (.ty "bool")) tNil))))), pss_one (ps_ret (pe_and (pe_callB call_isi (by rfl) B.b_isinstance (by decide +kernel) (pa_cons (pv 0) (pa_cons (pe_bltn (v := .ty "int") (u := .type "int") (by rfl) B.b_int (by decide +kernel) rfl) pa_nil))) (pe_one (pe_not (pe_callB call_isi (by rfl) B.b_isinstance (by decide +kernel) (pa_cons (pv 0) (pa_cons (pe_bltn (v := .ty "bool") (u := .type "bool") (by rfl) B.b_bool (by decide +kernel) rfl) pa_nil))))))), ?_⟩
        clear hr
        rw [show L2.start N_is_whole [v_thing] = [some v_thing] from rfl]
        obtain ⟨d, hd, q⟩ := h
        walk_at "Zs"
        refine w_isintz hd ?_
        cases d with
        | int i =>
          walk_at "Zs"
          refine w_isboolz hd ?_
          walk_at "Zs"
          exact q
        | bool b =>
          walk_at "Zs"
          refine w_isboolz hd ?_
          walk_at "Zs"
          exact q
        | _ =>
          walk_at "Zs"
          exact q
  exact F0
theorem c_is_whole {W : Wd} {mg : Str → Option Value} {base : Heap} (B : Bi mg) (S : Src W.K mg "is_whole" s_is_whole) (T : Kl W.K mg)  : Cal W mg base "is_whole" 1 ["thing"] (sp_is_whole W) := by
  obtain ⟨f, fd, g, F⟩ := S
  exact ⟨f, fd, g, f_is_whole B F T , F.kp, (F.binds (ps := ["thing"]) fun _ _ _ _ _ _ us hl => match us, hl with | [_], _ => rfl)⟩
theorem go_is_whole {W : Wd} {H : Hp} {Q : VK} {E : XK} {v : V} {d : PyData} (hd : Dz W.K Ever H v d) (k : Q (.bl (isIntD d)) H) : sp_is_whole W [v] H Q E := ⟨d, hd, k⟩
local macro_rules | `(tactic| walk_at "Zc") => `(tactic| ((with_reducible refine' go_is_whole ?hd ?_); (case hd => walk_at "Zdz")))
def sp_is_between (W : Wd) : Sp := fun vs H Q _ => match vs with
  | [v_thing, v_least, v_most] =>
  ∃ (d : PyData) (lo hi : Int), Dz W.K Ever H v_thing d ∧ v_least = .int lo ∧ v_most = .int hi ∧ Q (.bl (betwD lo hi d)) H
  | _ => False
abbrev N_is_between : List Str := ["thing", "least", "most"]
theorem sc_is_between : FnScope N_is_between ["thing", "least", "most"] (defScope s_is_between) := ⟨rfl, rfl, rfl, by decide +kernel, rfl, by decide +kernel, by decide +kernel⟩
theorem f_is_between {W : Wd} {mg : Str → Option Value} {base : Heap} (B : Bi mg) {f : Addr} {fd : FuncData} (F : Fun W.K "is_between" "is_between" s_is_between f fd) (T : Kl W.K mg) (C_is_whole : Cal W mg base "is_whole" 1 ["thing"] (sp_is_whole W)) : FnOk W.P W.w W.K mg base CX0 2 f fd ["thing", "least", "most"] (sp_is_between W) := by
  obtain ⟨a_is_whole, d_is_whole, g_is_whole, F_is_whole, k_is_whole, b_is_whole⟩ := C_is_whole
  have nd := sc_is_between.nd
  have F0 : FnOk W.P W.w W.K mg base CX0 2 f fd ["thing", "least", "most"] (sp_is_between W) := by
    refine F.ok sc_is_between (fun vs H Q E h => ?_) (fun cdv A outer s H vs Q E hr h => ?_)
    · match vs, h with | [_, _, _], _ => rfl
    · match vs, h with
      | [v_thing, v_least, v_most], h =>
        change sp_is_between W [v_thing, v_least, v_most] H Q E at h
        refine ⟨tRet (tAndV (tCall (sp_is_whole W) [] E0 (tCons (tVar 0) (tNil))) (tChain (rLeU) (rLeU) (tVar 1) (tVar 0) (tVar 2))), pss_one (ps_ret (pe_and (pe_call F_is_whole (hr.mono (by decide)) (by rfl) g_is_whole k_is_whole b_is_whole .nil pass0 (pa_cons (pv 0) (pa_nil))) (pe_one (pe_chain u_le u_le (pv 1) (pv 0) (pv 2))))), ?_⟩
        clear hr
        clear F_is_whole g_is_whole k_is_whole b_is_whole d_is_whole a_is_whole
        rw [show L2.start N_is_between [v_thing, v_least, v_most] = [some v_thing, some v_least, some v_most] from rfl]
        obtain ⟨d, lo, hi, hd, rfl, rfl, q⟩ := h
        walk_at "Zs"
        cases d with
        | int i =>
          obtain rfl := dz_int hd
          walk_at "Zs"
          have e : betwD lo hi (.int i) = (decide (lo ≤ i) && decide (i ≤ hi)) := rfl
          rw [e] at q
          cases c : decide (lo ≤ i) with
          | true =>
            rw [c, Bool.true_and] at q
            walk_at "Zs"
            exact q
          | false =>
            rw [c, Bool.false_and] at q
            walk_at "Zs"
            exact q
        | _ =>
          walk_at "Zs"
          exact q
  exact F0
theorem c_is_between {W : Wd} {mg : Str → Option Value} {base : Heap} (B : Bi mg) (S : Src W.K mg "is_between" s_is_between) (T : Kl W.K mg) (C_is_whole : Cal W mg base "is_whole" 1 ["thing"] (sp_is_whole W)) : Cal W mg base "is_between" 2 ["thing", "least", "most"] (sp_is_between W) := by
  obtain ⟨f, fd, g, F⟩ := S
  exact ⟨f, fd, g, f_is_between B F T C_is_whole, F.kp, (F.binds (ps := ["thing", "least", "most"]) fun _ _ _ _ _ _ us hl => match us, hl with | [_, _, _], _ => rfl)⟩
theorem go_is_between {W : Wd} {H : Hp} {Q : VK} {E : XK} {v : V} {d : PyData} {lo hi : Int} (hd : Dz W.K Ever H v d) (q : Q (.bl (betwD lo hi d)) H) : sp_is_between W [v, .int lo, .int hi] H Q E := ⟨d, lo, hi, hd, rfl, rfl, q⟩
local macro_rules | `(tactic| walk_at "Zc") => `(tactic| ((with_reducible refine' go_is_between ?hd ?_); (case hd => walk_at "Zdz")))
def sp_is_value (W : Wd) : Sp := fun vs H Q _ => match vs with
  | [v_thing, v_breadth] =>
  ∃ (d : PyData) (b : Int), Dz W.K Ever H v_thing d ∧ v_breadth = .int b ∧ 0 ≤ b ∧ b ≤ 60 ∧ Q (.bl (betwD 0 (p2 b - 1) d)) H
  | _ => False
abbrev N_is_value : List Str := ["thing", "breadth"]
theorem sc_is_value : FnScope N_is_value ["thing", "breadth"] (defScope s_is_value) := ⟨rfl, rfl, rfl, by decide +kernel, rfl, by decide +kernel, by decide +kernel⟩
theorem f_is_value {W : Wd} {mg : Str → Option Value} {base : Heap} (B : Bi mg) {f : Addr} {fd : FuncData} (F : Fun W.K "is_value" "is_value" s_is_value f fd) (T : Kl W.K mg) (C_is_between : Cal W mg base "is_between" 2 ["thing", "least", "most"] (sp_is_between W)) : FnOk W.P W.w W.K mg base CX0 3 f fd ["thing", "breadth"] (sp_is_value W) := by
  obtain ⟨a_is_between, d_is_between, g_is_between, F_is_between, k_is_between, b_is_between⟩ := C_is_between
  have nd := sc_is_value.nd
  have F0 : FnOk W.P W.w W.K mg base CX0 3 f fd ["thing", "breadth"] (sp_is_value W) := by
    refine F.ok sc_is_value (fun vs H Q E h => ?_) (fun cdv A outer s H vs Q E hr h => ?_)
    · match vs, h with | [_, _], _ => rfl
    · match vs, h with
      | [v_thing, v_breadth], h =>
        change sp_is_value W [v_thing, v_breadth] H Q E at h
        refine ⟨tRet (tCall (sp_is_between W) [] E0 (tCons (tVar 0) (tCons (tC (.int 0)) (tCons (tOp (rSubU) (tOp (rShlU) (tC (.int 1)) (tVar 1)) (tC (.int 1))) (tNil))))), pss_one (ps_ret (pe_call F_is_between (hr.mono (by decide)) (by rfl) g_is_between k_is_between b_is_between .nil pass0 (pa_cons (pv 0) (pa_cons (pe_int) (pa_cons (pe_op u_sub (pe_op u_shl (pe_int) (pv 1)) (pe_int)) (pa_nil)))))), ?_⟩
        clear hr
        clear F_is_between g_is_between k_is_between b_is_between d_is_between a_is_between
        rw [show L2.start N_is_value [v_thing, v_breadth] = [some v_thing, some v_breadth] from rfl]
        obtain ⟨d, b, hd, rfl, b0, b1, q⟩ := h
        walk_at "Zs"
        exact q
  exact F0
theorem c_is_value {W : Wd} {mg : Str → Option Value} {base : Heap} (B : Bi mg) (S : Src W.K mg "is_value" s_is_value) (T : Kl W.K mg) (C_is_between : Cal W mg base "is_between" 2 ["thing", "least", "most"] (sp_is_between W)) : Cal W mg base "is_value" 3 ["thing", "breadth"] (sp_is_value W) := by
  obtain ⟨f, fd, g, F⟩ := S
  exact ⟨f, fd, g, f_is_value B F T C_is_between, F.kp, (F.binds (ps := ["thing", "breadth"]) fun _ _ _ _ _ _ us hl => match us, hl with | [_, _], _ => rfl)⟩
theorem go_is_value {W : Wd} {H : Hp} {Q : VK} {E : XK} {v : V} {d : PyData} {b : Int} (hd : Dz W.K Ever H v d) (b0 : 0 ≤ b) (b1 : b ≤ 60) (q : Q (.bl (betwD 0 (p2 b - 1) d)) H) : sp_is_value W [v, .int b] H Q E := ⟨d, b, hd, rfl, b0, b1, q⟩
def sp_is_head (W : Wd) : Sp := fun vs H Q _ => match vs with
  | [v_shape, v_thing] =>
  ∃ (s : Shp) (d : PyData), Dq W.K H v_shape (shD s) ∧ s.fs.length ≤ 1000 ∧ (∀ f ∈ s.fs, 0 ≤ f.br ∧ f.br ≤ 60) ∧ Dz W.K Ever H v_thing d ∧ ∀ H', Same H H' → Q (.bl (headB s.fs d)) H'
  | _ => False
abbrev N_is_head : List Str := ["shape", "thing", "field", "value"]
theorem sc_is_head : FnScope N_is_head ["shape", "thing"] (defScope s_is_head) := ⟨rfl, rfl, rfl, by decide +kernel, rfl, by decide +kernel, by decide +kernel⟩
theorem f_is_head {W : Wd} {mg : Str → Option Value} {base : Heap} (B : Bi mg) {f : Addr} {fd : FuncData} (F : Fun W.K "is_head" "is_head" s_is_head f fd) (T : Kl W.K mg) (C_is_value : Cal W mg base "is_value" 3 ["thing", "breadth"] (sp_is_value W)) : FnOk W.P W.w W.K mg base CX0 4 f fd ["shape", "thing"] (sp_is_head W) := by
  obtain ⟨a_is_value, d_is_value, g_is_value, F_is_value, k_is_value, b_is_value⟩ := C_is_value
  have nd := sc_is_head.nd
  have F0 : FnOk W.P W.w W.K mg base CX0 4 f fd ["shape", "thing"] (sp_is_head W) := by
    refine F.ok sc_is_head (fun vs H Q E h => ?_) (fun cdv A outer s H vs Q E hr h => ?_)
    · match vs, h with | [_, _], _ => rfl
    · match vs, h with
      | [v_shape, v_thing], h =>
        change sp_is_head W [v_shape, v_thing] H Q E at h
        refine ⟨tSeq (tIfS (tOr (tNot (tB (tCB (rIsi W.K) (tCons (tVar 1) (tCons (tC (.ty "tuple")) tNil))))) (tTest (tOp (rNeU W.K) (tCB (rLenU W.K) (tCons (tVar 1) (tNil))) (tCB (rLenU W.K) (tCons (tOp (rIxU W.K) (tVar 0) (tC (.int 0))) (tNil)))))) (tRet (tC (.bl false))) (tNext)) (tRet (tCB (rAll W.K) (tCons (tLc (iZipA W.K (tCons (tOp (rIxU W.K) (tVar 0) (tC (.int 0))) (tCons (tVar 1) (tNil)))) (gTup W.K 2 (gCons (gName 2) (gCons (gName 3) (gNil)))) (tYes) (tCall (sp_is_value W) [] E0 (tCons (tVar 3) (tCons (tOp (rIxU W.K) (tVar 2) (tC (.int 1))) (tNil)))) [2, 3]) (tNil)))), pss_cons (ps_if (PW.pt (pw_or (pt_not (pt_val (pe_callB call_isi (by rfl) B.b_isinstance (by decide +kernel) (pa_cons (pv 1) (pa_cons (pe_bltn (v := .ty "tuple") (u := .type "tuple") (by rfl) B.b_tuple (by decide +kernel) rfl) pa_nil))))) (pw_or1 (pt_cmpR (u_ne hr.units) (pe_callB u_len (by rfl) B.b_len (by decide +kernel) (pa_cons (pv 1) (pa_nil))) (pe_callB u_len (by rfl) B.b_len (by decide +kernel) (pa_cons (pe_ix u_ix (pv 0) (pe_int) (fun _ _ => rfl)) (pa_nil))) (nomark _))))) (pss_one (ps_ret (pe_bl))) (pss_nil)) (pss_one (ps_ret (pe_callB (cr_all rfl) (by rfl) B.b_all (by decide +kernel) (pa_cons (pe_lc (own := [("field", 2), ("value", 3)]) rfl nd (pi_zipA (by rfl) B.b_zip (pa_cons (pe_ix u_ix (pv 0) (pe_int) (fun _ _ => rfl)) (pa_cons (pv 1) (pa_nil)))) (blkOk_by (own := [("field", 2), ("value", 3)]) (N := N_is_head) (sc := defScope s_is_head) (by decide +kernel)) (fun _ _ _ _ _ => pg_tup rfl (pgs_cons (pg_name (i := 2) nd rfl (by first | exact Or.inl rfl | exact Or.inr rfl)) (pgs_cons (pg_name (i := 3) nd rfl (by first | exact Or.inl rfl | exact Or.inr rfl)) (pgs_nil)))) (fun _ _ _ _ _ => pts_nil) (fun _ _ _ _ _ => pe_call F_is_value (hr.mono (by decide)) (by rfl) g_is_value k_is_value b_is_value .nil pass0 (pa_cons (pv 3) (pa_cons (pe_ix u_ix (pv 2) (pe_int) (fun _ _ => rfl)) (pa_nil))))) (pa_nil))))), ?_⟩
        clear hr
        clear F_is_value g_is_value k_is_value b_is_value d_is_value a_is_value
        rw [show L2.start N_is_head [v_shape, v_thing] = [some v_shape, some v_thing, none, none] from rfl]
        obtain ⟨s, d, hs, hl, hb, ht, q⟩ := h
        walk_at "Zs"
        refine w_istupz ht ?_
        cases d with
        | tuple ws =>
          have q2 : ∀ H', Same H H' → Q (.bl (decide (ws.length = s.fs.length) && (s.fs.zip ws).all fun fw => betwD 0 (p2 fw.1.br - 1) fw.2)) H' := q
          walk_at "Zs"
          refine w_ixQT hs (d := .tuple (s.fs.map fdD)) rfl fun y1 g1 => ?_
          walk_at "Zs"
          refine w_dec (fun hlen => ?_) (fun hlen => ?_)
          · rw [decide_eq_true (by omega), Bool.true_and] at q2
            walk_at "Zs"
            refine w_ixQT hs (d := .tuple (s.fs.map fdD)) rfl fun y2 g2 => ?_
            walk_at "Zs"
            obtain ⟨af, fv, rfl, hfs, hfd⟩ := dq_tt g2
            obtain ⟨aw, wv, rfl, hws, hwd⟩ := dz_tt ht
            have lf := dqs_len hfd
            have lw := dzs_len hwd
            rw [List.length_map] at lf
            refine w_goZT hfs.t hws ?_
            refine lcZT hfs.t hws (fun i acc _ => acc = ((s.fs.zip ws).take i).map fun fw => V.bl (betwD 0 (p2 fw.1.br - 1) fw.2)) stb_pure (by omega) (fun i acc H' e => by rw [e, List.length_map, List.length_take]; omega) (fun H' _ => rfl) (fun i x y acc H' hx hy e1 ea H3 e3 k k' hk hk' => ?_) fun D acc H' hD e1 hD' ea => ?_
            · obtain ⟨df, hdf, hxd⟩ := dqs_get2 hfd hx
              obtain ⟨f, hf, rfl⟩ := map_at hdf
              obtain ⟨dw, hdw, hyd⟩ := dzs_get2 hwd hy
              have hbf := hb f (List.mem_of_getElem? hf)
              walk_at "Zs"
              refine w_ixQTi (dq_mono (e1.trans e3) hxd) (n := f.br) rfl ?_
              walk_at "Zs"
              refine go_is_value (dz_mono (e1.trans e3) hyd) hbf.1 hbf.2 ?_
              refine hk _ _ (Same.refl _) ?_
              have ez : (s.fs.zip ws)[i]? = some (f, dw) := List.getElem?_zip_eq_some.mpr ⟨hf, hdw⟩
              rw [List.take_add_one, ez, List.map_append, ea]
              rfl
            · rw [List.take_of_length_le (by rw [List.length_zip]; omega)] at ea
              walk_at "Zs"
              refine w_all (bs := (s.fs.zip ws).map fun fw => betwD 0 (p2 fw.1.br - 1) fw.2) (SqL.of (by rw [hD', ea, List.map_map]; rfl)) ?_
              rw [List.all_map]
              exact q2 _ e1
          · rw [decide_eq_false (by omega), Bool.false_and] at q2
            walk_at "Zs"
            exact q2 _ (Same.refl _)
        | _ =>
          walk_at "Zs"
          exact q _ (Same.refl _)
  exact F0
theorem c_is_head {W : Wd} {mg : Str → Option Value} {base : Heap} (B : Bi mg) (S : Src W.K mg "is_head" s_is_head) (T : Kl W.K mg) (C_is_value : Cal W mg base "is_value" 3 ["thing", "breadth"] (sp_is_value W)) : Cal W mg base "is_head" 4 ["shape", "thing"] (sp_is_head W) := by
  obtain ⟨f, fd, g, F⟩ := S
  exact ⟨f, fd, g, f_is_head B F T C_is_value, F.kp, (F.binds (ps := ["shape", "thing"]) fun _ _ _ _ _ _ us hl => match us, hl with | [_, _], _ => rfl)⟩
theorem go_is_head {W : Wd} {H : Hp} {Q : VK} {E : XK} {x y : V} {s : Shp} {d : PyData} (hs : Dq W.K H x (shD s)) (hl : s.fs.length ≤ 1000) (hb : ∀ f ∈ s.fs, 0 ≤ f.br ∧ f.br ≤ 60) (ht : Dz W.K Ever H y d) (q : ∀ H', Same H H' → Q (.bl (headB s.fs d)) H') : sp_is_head W [x, y] H Q E := ⟨s, d, hs, hl, hb, ht, q⟩
theorem okShp_br {s : Shp} (ok : OkShp s) : ∀ f ∈ s.fs, 0 ≤ f.br ∧ f.br ≤ 60 := fun f hf => by
  obtain ⟨i, hi⟩ := List.getElem?_of_mem hf
  have z := ok.fd i f hi
  have z0 := z.b0
  have z1 := z.b1
  exact ⟨by omega, by omega⟩
theorem go_is_headT {W : Wd} {H : Hp} {Q : VK} {E : XK} {x y : V} {s : Shp} {hd : List Int} (hs : Dq W.K H x (shD s)) (ok : OkShp s) (hh : Dq W.K H y (headD hd)) (oh : OkHead s.fs hd) (q : ∀ H', Same H H' → Q (.bl true) H') : sp_is_head W [x, y] H Q E :=
  go_is_head hs (by have := ok.l1; omega) (okShp_br ok) (dz_dq hh) (by rw [headB_ok oh]; exact q)
def sp_show_head (W : Wd) : Sp := fun vs H Q _ => match vs with
  | [v_head] =>
  ∃ ns : List Int, Dq W.K H v_head (headD ns) ∧ ns.length ≤ 1000 ∧ (∀ n ∈ ns, 0 ≤ n ∧ n < 10 ^ 15) ∧ ∀ H', Same H H' → Q (.str (headT ns)) H'
  | _ => False
abbrev N_show_head : List Str := ["head", "value"]
theorem sc_show_head : FnScope N_show_head ["head"] (defScope s_show_head) := ⟨rfl, rfl, rfl, by decide +kernel, rfl, by decide +kernel, by decide +kernel⟩
theorem f_show_head {W : Wd} {mg : Str → Option Value} {base : Heap} (B : Bi mg) {f : Addr} {fd : FuncData} (F : Fun W.K "show_head" "show_head" s_show_head f fd) (T : Kl W.K mg)  : FnOk W.P W.w W.K mg base CX0 1 f fd ["head"] (sp_show_head W) := by
  have nd := sc_show_head.nd
  have F0 : FnOk W.P W.w W.K mg base CX0 1 f fd ["head"] (sp_show_head W) := by
    refine F.ok sc_show_head (fun vs H Q E h => ?_) (fun cdv A outer s H vs Q E hr h => ?_)
    · match vs, h with | [_], _ => rfl
    · match vs, h with
      | [v_head], h =>
        change sp_show_head W [v_head] H Q E at h
        refine ⟨tRet (tM1 (rJoinU W.K) (tC (.str ".")) (tLc (iAny W.K (tVar 0)) (gName 1) (tYes) (tCB (rStrU) (tCons (tVar 1) (tNil))) [1])), pss_one (ps_ret (pe_join (pe_str) (pe_lc (own := [("value", 1)]) rfl nd (pi_any (pv 0)) (blkOk_by (own := [("value", 1)]) (N := N_show_head) (sc := defScope s_show_head) (by decide +kernel)) (fun _ _ _ _ _ => pg_name (i := 1) nd rfl (by first | exact Or.inl rfl | exact Or.inr rfl)) (fun _ _ _ _ _ => pts_nil) (fun _ _ _ _ _ => pe_callTy u_str (by rfl) B.b_str (by decide +kernel) (pa_cons (pv 1) (pa_nil)))))), ?_⟩
        clear hr
        rw [show L2.start N_show_head [v_head] = [some v_head, none] from rfl]
        obtain ⟨ns, hh, ln, hn, q⟩ := h
        have t15 := ten15
        obtain ⟨a, rfl, ha⟩ := dq_ti hh
        walk_at "Zs"
        refine w_goT ha.t ?_
        refine lcT ha.t (fun i acc _ => acc = ((ns.take i).map sgS).map V.str) stb_pure (by rw [List.length_map]; omega) (fun i acc _ e => by rw [e, List.length_map, List.length_map, List.length_take]; omega) (fun _ _ => rfl) (fun i x acc H' hx e ea k k' hk1 hk' => ?_) fun D acc H1 hD e1 hD' ea => ?_
        · rw [List.getElem?_map] at hx
          obtain ⟨n, hn1, rfl⟩ := Option.map_eq_some_iff.mp hx
          have := hn n (List.mem_of_getElem? hn1)
          walk_at "Zs"
          refine w_strS6 (by omega) (by omega) ?_
          refine hk1 _ _ (Same.refl _) ?_
          rw [ea, take_snoc hn1, List.map_append, List.map_append]
          rfl
        · rw [List.length_map, List.take_of_length_le (Nat.le_refl _)] at ea
          subst ea
          refine w_joinL (ys := ns.map sgS) (SqL.of hD') (Nat.le_trans (head_join ln hn) (by decide)) ?_
          walk_at "Zs"
          exact q _ e1
  exact F0
theorem c_show_head {W : Wd} {mg : Str → Option Value} {base : Heap} (B : Bi mg) (S : Src W.K mg "show_head" s_show_head) (T : Kl W.K mg)  : Cal W mg base "show_head" 1 ["head"] (sp_show_head W) := by
  obtain ⟨f, fd, g, F⟩ := S
  exact ⟨f, fd, g, f_show_head B F T , F.kp, (F.binds (ps := ["head"]) fun _ _ _ _ _ _ us hl => match us, hl with | [_], _ => rfl)⟩
theorem go_show_head {W : Wd} {H : Hp} {Q : VK} {E : XK} {v : V} {ns : List Int} (hh : Dq W.K H v (headD ns)) (ln : ns.length ≤ 1000) (hn : ∀ n ∈ ns, 0 ≤ n ∧ n < 10 ^ 15) (q : ∀ H', Same H H' → Q (.str (headT ns)) H') : sp_show_head W [v] H Q E := ⟨ns, hh, ln, hn, q⟩
def sp_number_in (W : Wd) : Sp := fun vs H Q _ => match vs with
  | [v_word] =>
  ∃ z : Str, v_word = .str z ∧ z.length ≤ 1000000 ∧ ∀ H', Same H H' → Q (oV (numZ z)) H'
  | _ => False
abbrev N_number_in : List Str := ["word", "figure"]
theorem sc_number_in : FnScope N_number_in ["word"] (defScope s_number_in) := ⟨rfl, rfl, rfl, by decide +kernel, rfl, by decide +kernel, by decide +kernel⟩
theorem f_number_in {W : Wd} {mg : Str → Option Value} {base : Heap} (B : Bi mg) {f : Addr} {fd : FuncData} (F : Fun W.K "number_in" "number_in" s_number_in f fd) (T : Kl W.K mg)  : FnOk W.P W.w W.K mg base CX0 1 f fd ["word"] (sp_number_in W) := by
  obtain ⟨t_MOST_FIGURES, hc_MOST_FIGURES, rc_MOST_FIGURES⟩ := B.c_MOST_FIGURES
  obtain ⟨t_FIGURES, hc_FIGURES, rc_FIGURES⟩ := B.c_FIGURES
  have nd := sc_number_in.nd
  have F0 : FnOk W.P W.w W.K mg base CX0 1 f fd ["word"] (sp_number_in W) := by
    refine F.ok sc_number_in (fun vs H Q E h => ?_) (fun cdv A outer s H vs Q E hr h => ?_)
    · match vs, h with | [_], _ => rfl
    · match vs, h with
      | [v_word], h =>
        change sp_number_in W [v_word] H Q E at h
        refine ⟨tSeq (tIfS (tOr (tNot (tTest (tChain (rLeU) (rLeU) (tC (.int 1)) (tCB (rLenU W.K) (tCons (tVar 0) (tNil))) (tC (.int 15))))) (tNot (tB (tCB (rAll W.K) (tCons (tLc (iAny W.K (tVar 0)) (gName 1) (tYes) (tOp (rInU W.K) (tVar 1) (tC (.str "0123456789"))) [1]) (tNil)))))) (tRet (tC .non)) (tNext)) (tSeq (tIfS (tAnd (tTest (tOp (rGtU) (tCB (rLenU W.K) (tCons (tVar 0) (tNil))) (tC (.int 1)))) (tTest (tOp (rEqU W.K) (tOp (rIxU W.K) (tVar 0) (tC (.int 0))) (tC (.str "0"))))) (tRet (tC .non)) (tNext)) (tRet (tCB rIntS (tCons (tVar 0) (tNil))))), pss_cons (ps_if (PW.pt (pw_or (pt_not (pt_chain u_le u_le (pe_int) (pe_callB u_len (by rfl) B.b_len (by decide +kernel) (pa_cons (pv 0) (pa_nil))) (pe_glob (by rfl) hc_MOST_FIGURES rc_MOST_FIGURES))) (pw_or1 (pt_not (pt_val (pe_callB (cr_all rfl) (by rfl) B.b_all (by decide +kernel) (pa_cons (pe_lc (own := [("figure", 1)]) rfl nd (pi_any (pv 0)) (blkOk_by (own := [("figure", 1)]) (N := N_number_in) (sc := defScope s_number_in) (by decide +kernel)) (fun _ _ _ _ _ => pg_name (i := 1) nd rfl (by first | exact Or.inl rfl | exact Or.inr rfl)) (fun _ _ _ _ _ => pts_nil) (fun _ _ _ _ _ => pe_cmpR (u_in hr.units) (pv 1) (pe_glob (by rfl) hc_FIGURES rc_FIGURES) (by rfl))) (pa_nil)))))))) (pss_one (ps_ret (pe_non))) (pss_nil)) (pss_cons (ps_if (PW.pt (pw_and (pt_cmpR u_gt (pe_callB u_len (by rfl) B.b_len (by decide +kernel) (pa_cons (pv 0) (pa_nil))) (pe_int) (nomark _)) (pw_and1 (pt_cmpR (u_eq hr.units) (pe_ix u_ix (pv 0) (pe_int) (fun _ _ => rfl)) (pe_str) (nomark _))))) (pss_one (ps_ret (pe_non))) (pss_nil)) (pss_one (ps_ret (pe_callTy call_int_str (by rfl) B.b_int (by decide +kernel) (pa_cons (pv 0) (pa_nil)))))), ?_⟩
        clear hr
        rw [show L2.start N_number_in [v_word] = [some v_word, none] from rfl]
        obtain ⟨z, rfl, hz, q⟩ := h
        have line : (1000000 : Nat) ≤ sizeLine := by decide
        have e : numZ z = if (decide (1 ≤ z.length) && (decide (z.length ≤ 15) && figB z)) = true then (if (decide (1 < z.length) && decide ((cz z).head? = some 48)) = true then none else some ((NumText.digitsVal (cz z) : Nat) : Int)) else none := rfl
        rw [e] at q
        clear e
        walk_at "Zs"
        refine w_lenS (Nat.le_trans hz line) ?_
        walk_at "Zs"
        refine w_dec (fun c1 => ?_) (fun c1 => ?_)
        · rw [decide_eq_true (p := 1 ≤ z.length) (by omega), Bool.true_and] at q
          walk_at "Zs"
          refine w_dec (fun c2 => ?_) (fun c2 => ?_)
          · rw [decide_eq_true (p := z.length ≤ 15) (by omega), Bool.true_and] at q
            walk_at "Zs"
            refine w_goS ?_
            refine lcS (fun i acc _ => acc = ((cz z).take i).map fun c => V.bl (decide (c ∈ ("0123456789" : Str).cps.toList))) stb_pure hz (fun i acc H' e => by rw [e, List.length_map, List.length_take]; omega) (fun H' _ => rfl) (fun i c acc H' hc e1 ea k k' hk hk' => ?_) fun D acc H' hD e1 hD' ea => ?_
            · walk_at "Zs"
              refine w_inS ?_
              refine hk _ _ (Same.refl _) ?_
              rw [List.take_add_one, hc, List.map_append, ea]
              rfl
            · rw [List.take_of_length_le (by rw [cz_len]; exact Nat.le_refl _)] at ea
              walk_at "Zs"
              refine w_all (bs := (cz z).map fun c => decide (c ∈ ("0123456789" : Str).cps.toList)) (SqL.of (by rw [hD', ea, List.map_map]; rfl)) ?_
              rw [List.all_map]
              rw [show ((cz z).all (id ∘ fun c => decide (c ∈ ("0123456789" : Str).cps.toList))) = figB z from rfl]
              cases hf : figB z with
              | false =>
                rw [hf, if_neg (by decide)] at q
                walk_at "Zs"
                exact q _ e1
              | true =>
                rw [hf, if_pos rfl] at q
                walk_at "Zs"
                refine w_lenS (Nat.le_trans hz line) ?_
                walk_at "Zs"
                have fin : ∀ H2, Same H H2 → (decide (1 < z.length) && decide ((cz z).head? = some 48)) = false → rIntS [.str z] H2 Q := fun H2 e2 hn => by
                  rw [hn, if_neg (by decide)] at q
                  exact w_intS (int_fig hf (by omega) (by omega)) (by omega) (q _ e2)
                refine w_dec (fun c3 => ?_) (fun c3 => ?_)
                · walk_at "Zs"
                  obtain ⟨x, r, hx⟩ : ∃ x r, cz z = x :: r := by
                    cases hc : cz z with
                    | nil => have := cz_len z; rw [hc] at this; simp at this; omega
                    | cons x r => exact ⟨x, r, rfl⟩
                  refine w_ixs (Nat.le_trans hz line) (c := x) (by show atI (cz z) 0 = some x; rw [hx]; exact atI_zero) ?_
                  walk_at "Zs"
                  have ex : decide ((⟨#[x]⟩ : Str) = ("0" : Str)) = decide ((cz z).head? = some 48) := by
                    rw [decide_eq_decide, hx]
                    constructor
                    · intro h
                      have h2 : cz (⟨#[x]⟩ : Str) = cz ("0" : Str) := by rw [h]
                      have h3 : [x] = [48] := h2
                      simp at h3
                      rw [h3]
                      rfl
                    · intro h
                      have h2 : x = 48 := Option.some.inj h
                      rw [h2]
                      rfl
                  rw [ex]
                  have c3' : decide (1 < z.length) = true := decide_eq_true (by omega)
                  cases c4 : decide ((cz z).head? = some 48) with
                  | true =>
                    rw [c4, c3'] at q
                    walk_at "Zs"
                    exact q _ e1
                  | false =>
                    walk_at "Zs"
                    exact fin _ e1 (by rw [c4, Bool.and_false])
                · walk_at "Zs"
                  exact fin _ e1 (by rw [decide_eq_false (by omega), Bool.false_and])
          · rw [decide_eq_false (p := z.length ≤ 15) (by omega), Bool.false_and] at q
            walk_at "Zs"
            exact q _ (Same.refl _)
        · rw [decide_eq_false (p := 1 ≤ z.length) (by omega), Bool.false_and] at q
          walk_at "Zs"
          exact q _ (Same.refl _)
  exact F0
theorem c_number_in {W : Wd} {mg : Str → Option Value} {base : Heap} (B : Bi mg) (S : Src W.K mg "number_in" s_number_in) (T : Kl W.K mg)  : Cal W mg base "number_in" 1 ["word"] (sp_number_in W) := by
  obtain ⟨f, fd, g, F⟩ := S
  exact ⟨f, fd, g, f_number_in B F T , F.kp, (F.binds (ps := ["word"]) fun _ _ _ _ _ _ us hl => match us, hl with | [_], _ => rfl)⟩
theorem go_number_in {W : Wd} {H : Hp} {Q : VK} {E : XK} {z : Str} (hz : z.length ≤ 1000000) (q : ∀ H', Same H H' → Q (oV (numZ z)) H') : sp_number_in W [.str z] H Q E := ⟨z, rfl, hz, q⟩
def sp_numbers_in (W : Wd) : Sp := fun vs H Q _ => match vs with
  | [v_words] =>
  ∃ (a : Addr) (zs : List Str), v_words = .ref a ∧ SqL W.K H a (zs.map V.str) ∧ zs.length ≤ 1000000 ∧ (∀ z ∈ zs, z.length ≤ 1000000) ∧ (numsZ zs = none → ∀ H', Same H H' → Q .non H') ∧ (∀ ns, numsZ zs = some ns → ∀ p H', Same H H' → TupN H' p (ns.map V.int) → Q (.ref p) H')
  | _ => False
abbrev N_numbers_in : List Str := ["words", "found", "word"]
theorem sc_numbers_in : FnScope N_numbers_in ["words"] (defScope s_numbers_in) := ⟨rfl, rfl, rfl, by decide +kernel, rfl, by decide +kernel, by decide +kernel⟩
theorem f_numbers_in {W : Wd} {mg : Str → Option Value} {base : Heap} (B : Bi mg) {f : Addr} {fd : FuncData} (F : Fun W.K "numbers_in" "numbers_in" s_numbers_in f fd) (T : Kl W.K mg) (C_number_in : Cal W mg base "number_in" 1 ["word"] (sp_number_in W)) : FnOk W.P W.w W.K mg base CX0 2 f fd ["words"] (sp_numbers_in W) := by
  obtain ⟨a_number_in, d_number_in, g_number_in, F_number_in, k_number_in, b_number_in⟩ := C_number_in
  have nd := sc_numbers_in.nd
  have F0 : FnOk W.P W.w W.K mg base CX0 2 f fd ["words"] (sp_numbers_in W) := by
    refine F.ok sc_numbers_in (fun vs H Q E h => ?_) (fun cdv A outer s H vs Q E hr h => ?_)
    · match vs, h with | [_], _ => rfl
    · match vs, h with
      | [v_words], h =>
        change sp_numbers_in W [v_words] H Q E at h
        refine ⟨tSeq (tAsg (tCB (rTupleOfN W.K) (tCons (tLc (iAny W.K (tVar 0)) (gName 2) (tYes) (tCall (sp_number_in W) [] E0 (tCons (tVar 2) (tNil))) [2]) (tNil))) (gName 1)) (tRet (tIf (tTest (tOp (rInU W.K) (tC .non) (tVar 1))) (tC .non) (tVar 1))), pss_cons (ps_set (i := 1) nd rfl (.inl rfl) (pe_callTy call_tuple_ofN (by rfl) B.b_tuple (by decide +kernel) (pa_cons (pe_lc (own := [("word", 2)]) rfl nd (pi_any (pv 0)) (blkOk_by (own := [("word", 2)]) (N := N_numbers_in) (sc := defScope s_numbers_in) (by decide +kernel)) (fun _ _ _ _ _ => pg_name (i := 2) nd rfl (by first | exact Or.inl rfl | exact Or.inr rfl)) (fun _ _ _ _ _ => pts_nil) (fun _ _ _ _ _ => pe_call F_number_in (hr.mono (by decide)) (by rfl) g_number_in k_number_in b_number_in .nil pass0 (pa_cons (pv 2) (pa_nil)))) (pa_nil)))) (pss_one (ps_ret (pe_ifExp (pt_cmpR (u_in hr.units) (pe_non) (pv 1) (by rfl)) (pe_non) (pv 1)))), ?_⟩
        clear hr
        clear F_number_in g_number_in k_number_in b_number_in d_number_in a_number_in
        rw [show L2.start N_numbers_in [v_words] = [some v_words, none, none] from rfl]
        obtain ⟨a, zs, rfl, hs, ls, lz, qN, qS⟩ := h
        walk_at "Zs"
        refine w_goL hs ?_
        refine lcL hs (fun i acc _ => acc = (zs.take i).map fun z => oV (numZ z)) stb_pure (by rw [List.length_map]; exact ls) (fun i acc _ e => by rw [e, List.length_map, List.length_take]; omega) (fun _ _ => rfl) (fun i x acc H' hx e ea k k' hk hk' => ?_) fun D acc H1 hD e1 hD' ea => ?_
        · rw [List.getElem?_map] at hx
          obtain ⟨z, hz, rfl⟩ := Option.map_eq_some_iff.mp hx
          walk_at "Zs"
          refine go_number_in (lz z (List.mem_of_getElem? hz)) fun H2 e2 => ?_
          refine hk _ _ e2 ?_
          rw [ea, take_snoc hz, List.map_append]
          rfl
        · rw [List.length_map, List.take_of_length_le (Nat.le_refl _)] at ea
          subst ea
          walk_at "Zs"
          refine w_tupleN (SqL.of hD') fun p H2 np e2 h2 => ?_
          walk_at "Zs"
          refine .inl ⟨p, _, rfl, .inr (SqN.t (SqN.of h2)), rfl, nums_flat zs, ?_⟩
          rw [nums_non]
          cases hn : numsZ zs with
          | none =>
            show _
            walk_at "Zs"
            exact qN hn _ (e1.trans e2)
          | some ns =>
            show _
            walk_at "Zs"
            refine qS ns hn p H2 (e1.trans e2) ?_
            rw [← nums_map hn]
            exact h2
  exact F0
theorem c_numbers_in {W : Wd} {mg : Str → Option Value} {base : Heap} (B : Bi mg) (S : Src W.K mg "numbers_in" s_numbers_in) (T : Kl W.K mg) (C_number_in : Cal W mg base "number_in" 1 ["word"] (sp_number_in W)) : Cal W mg base "numbers_in" 2 ["words"] (sp_numbers_in W) := by
  obtain ⟨f, fd, g, F⟩ := S
  exact ⟨f, fd, g, f_numbers_in B F T C_number_in, F.kp, (F.binds (ps := ["words"]) fun _ _ _ _ _ _ us hl => match us, hl with | [_], _ => rfl)⟩
theorem go_numbers_in {W : Wd} {H : Hp} {Q : VK} {E : XK} {a : Addr} {zs : List Str} (hs : SqL W.K H a (zs.map V.str)) (ls : zs.length ≤ 1000000) (lz : ∀ z ∈ zs, z.length ≤ 1000000) (qN : numsZ zs = none → ∀ H', Same H H' → Q .non H') (qS : ∀ ns, numsZ zs = some ns → ∀ p H', Same H H' → TupN H' p (ns.map V.int) → Q (.ref p) H') : sp_numbers_in W [.ref a] H Q E := ⟨a, zs, rfl, hs, ls, lz, qN, qS⟩
theorem txt_raise {W : Wd} {H : Hp} {E : XK} {v : V} (q : ∀ d H', Same H H' → H' d = some (.xd [("row", v)]) → E (.ref (clsOf W.K "NoText")) (some d) H') : [v].length ≤ 1000 ∧ ∀ a, H a = none → sp_NoText___init__ W (.ref a :: ([v] ++ [])) (upd H a (exo a (clsOf W.K "NoText") none)) (fun u H2 => u = .non ∧ ∃ (d : Addr) (fs : List (Str × V)), H2 a = some (exo a (clsOf W.K "NoText") (some d)) ∧ H2 d = some (exd d fs) ∧ H d = none ∧ E (.ref (clsOf W.K "NoText")) (some d) (upd (del H2 a) d (.xd fs))) (fun _ _ _ => False) :=
  w_raist (fun _ _ _ ha hq => go_NoText___init__ ha hq) fun d hd => q d _ (same_new hd) upd_same
def sp_read_head (W : Wd) : Sp := fun vs H Q E => match vs with
  | [v_shape, v_text] =>
  ∃ (s : Shp) (d : PyData), Dq W.K H v_shape (shD s) ∧ OkShp s ∧ Dz W.K Ever H v_text d ∧ (∀ z, d = .str z → z.length ≤ 100000) ∧ (∀ ns, readZ s.fs d = some ns → ∀ p H', Same H H' → TupN H' p (ns.map V.int) → Q (.ref p) H') ∧ (readZ s.fs d = none → ∀ d' H', Same H H' → H' d' = some (.xd [("row", .non)]) → E (.ref (clsOf W.K "NoText")) (some d') H')
  | _ => False
abbrev N_read_head : List Str := ["shape", "text", "head"]
theorem sc_read_head : FnScope N_read_head ["shape", "text"] (defScope s_read_head) := ⟨rfl, rfl, rfl, by decide +kernel, rfl, by decide +kernel, by decide +kernel⟩
theorem f_read_head {W : Wd} {mg : Str → Option Value} {base : Heap} (B : Bi mg) {f : Addr} {fd : FuncData} (F : Fun W.K "read_head" "read_head" s_read_head f fd) (T : Kl W.K mg) (C_is_head : Cal W mg base "is_head" 4 ["shape", "thing"] (sp_is_head W)) (C_NoText___init__ : CalM W mg base (clsOf W.K "NoText") "__init__" 1 ["self", "row"] (sp_NoText___init__ W)) (C_numbers_in : Cal W mg base "numbers_in" 2 ["words"] (sp_numbers_in W)) : FnOk W.P W.w W.K mg base (L2N.CX W.P W.w) 5 f fd ["shape", "text"] (sp_read_head W) := by
  obtain ⟨a_is_head, d_is_head, g_is_head, F_is_head, k_is_head, b_is_head⟩ := C_is_head
  obtain ⟨a_NoText___init__, d_NoText___init__, m_NoText___init__, F_NoText___init__, b_NoText___init__⟩ := C_NoText___init__
  obtain ⟨a_numbers_in, d_numbers_in, g_numbers_in, F_numbers_in, k_numbers_in, b_numbers_in⟩ := C_numbers_in
  have nd := sc_read_head.nd
  have F0 : FnOk W.P W.w W.K mg base (L2N.CX W.P W.w) 5 f fd ["shape", "text"] (sp_read_head W) := by
    refine okN F sc_read_head (fun vs H Q E h => ?_) (fun cdv A outer s H vs Q E hr h => ?_)
    · match vs, h with | [_, _], _ => rfl
    · match vs, h with
      | [v_shape, v_text], h =>
        change sp_read_head W [v_shape, v_text] H Q E at h
        refine ⟨tSeq (tIfS (tNot (tB (tCB (rIsi W.K) (tCons (tVar 1) (tCons (tC (.ty "str")) tNil))))) (sRaisT (clsOf W.K "NoText") (sp_NoText___init__ W) E (tCons (tC .non) (tNil))) (tNext)) (tSeq (tAsg (tCall (sp_numbers_in W) [] E0 (tCons (tM1 rSplitS (tVar 1) (tC (.str "."))) (tNil))) (gName 2)) (tSeq (tIfS (tOr (tTest (tOp (rIsU) (tVar 2) (tC .non))) (tNot (tB (tCall (sp_is_head W) [] E0 (tCons (tVar 0) (tCons (tVar 2) (tNil))))))) (sRaisT (clsOf W.K "NoText") (sp_NoText___init__ W) E (tCons (tC .non) (tNil))) (tNext)) (tRet (tVar 2)))), pss_cons (ps_if (pt_not (pt_val (pe_callB call_isi (by rfl) B.b_isinstance (by decide +kernel) (pa_cons (pv 1) (pa_cons (pe_bltn (v := .ty "str") (u := .type "str") (by rfl) B.b_str (by decide +kernel) rfl) pa_nil))))) (pss_one (ps_raist rfl (L2N.takes_of rfl rfl rfl rfl) T.o_NoText T.g_NoText m_NoText___init__ F_NoText___init__ (hr.mono (by decide)) b_NoText___init__ (by rfl) (pa_cons (pe_non) (pa_nil)))) (pss_nil)) (pss_cons (ps_set (i := 2) nd rfl (.inl rfl) (pe_call F_numbers_in (hr.mono (by decide)) (by rfl) g_numbers_in k_numbers_in b_numbers_in .nil pass0 (pa_cons (pe_m1 PySem.F.slot_str_split PySem.F.type_str_split mt_splitS (pv 1) (pe_str)) (pa_nil)))) (pss_cons (ps_if (PW.pt (pw_or (pt_cmpR u_is (pv 2) (pe_non) (nomark _)) (pw_or1 (pt_not (pt_val (pe_call F_is_head (hr.mono (by decide)) (by rfl) g_is_head k_is_head b_is_head .nil pass0 (pa_cons (pv 0) (pa_cons (pv 2) (pa_nil))))))))) (pss_one (ps_raist rfl (L2N.takes_of rfl rfl rfl rfl) T.o_NoText T.g_NoText m_NoText___init__ F_NoText___init__ (hr.mono (by decide)) b_NoText___init__ (by rfl) (pa_cons (pe_non) (pa_nil)))) (pss_nil)) (pss_one (ps_ret (pv 2))))), ?_⟩
        clear hr
        clear F_is_head g_is_head k_is_head b_is_head d_is_head a_is_head
        clear F_NoText___init__ m_NoText___init__ b_NoText___init__ d_NoText___init__ a_NoText___init__
        clear F_numbers_in g_numbers_in k_numbers_in b_numbers_in d_numbers_in a_numbers_in
        rw [show L2.start N_read_head [v_shape, v_text] = [some v_shape, some v_text, none] from rfl]
        obtain ⟨s, d, hs, ok, hd, hl, qS, qN⟩ := h
        walk_at "Zs"
        refine w_isstrz hd ?_
        walk_at "Zs"
        cases hb : isStrD d with
        | false =>
          walk_at "Zs"
          refine w_raisT ?_
          walk_at "Zs"
          exact txt_raise (qN (readZ_no hb))
        | true =>
          cases d <;> first | (cases hb; done) | skip
          rename_i z
          obtain rfl := dz_str hd
          walk_at "Zs"
          refine w_splitS rfl (Nat.le_trans (hl z rfl) (by decide)) fun p1 H1 n1 e1 h1 => ?_
          walk_at "Zs"
          have lz := split_le (z := z) (y := ".")
          refine go_numbers_in (SqL.of h1) (Nat.le_trans lz.1 (by have := hl z rfl; omega)) (fun w hw => Nat.le_trans (lz.2 w hw) (Nat.le_trans (hl z rfl) (by decide))) (fun hn H2 e2 => ?_) (fun ns hn p2 H2 e2 h2 => ?_)
          · walk_at "Zs"
            refine w_raisT ?_
            walk_at "Zs"
            refine txt_raise fun d' H' e' he => qN ?_ d' H' (e1.trans (e2.trans e')) he
            show (match numsZ (Txt.split z ".") with
              | some ns => if headB s.fs (headD ns) = true then some ns else none
              | none => none) = none
            rw [hn]
          · walk_at "Zs"
            have e12 := e1.trans e2
            refine go_is_head (d := headD ns) (dq_mono e12 hs) (by have := ok.l1; omega) (fun f hf => ?_) (dz_dq (dq_new h2 (dqs_ints ns))) fun H3 e3 => ?_
            · obtain ⟨i, hi⟩ := List.mem_iff_getElem?.mp hf
              have o := ok.fd i f hi
              have := o.b0
              have := o.b1
              omega
            · have er : readZ s.fs (.str z) = if headB s.fs (headD ns) = true then some ns else none := by
                show (match numsZ (Txt.split z ".") with
                  | some ns => if headB s.fs (headD ns) = true then some ns else none
                  | none => none) = _
                rw [hn]
              cases hh : headB s.fs (headD ns) with
              | false =>
                rw [hh] at er
                walk_at "Zs"
                refine w_raisT ?_
                walk_at "Zs"
                exact txt_raise fun d' H' e' he => qN er d' H' (e12.trans (e3.trans e')) he
              | true =>
                rw [hh] at er
                walk_at "Zs"
                exact qS ns er p2 _ (e12.trans e3) (h2.mono e3)
  exact F0
theorem c_read_head {W : Wd} {mg : Str → Option Value} {base : Heap} (B : Bi mg) (S : Src W.K mg "read_head" s_read_head) (T : Kl W.K mg) (C_is_head : Cal W mg base "is_head" 4 ["shape", "thing"] (sp_is_head W)) (C_NoText___init__ : CalM W mg base (clsOf W.K "NoText") "__init__" 1 ["self", "row"] (sp_NoText___init__ W)) (C_numbers_in : Cal W mg base "numbers_in" 2 ["words"] (sp_numbers_in W)) : CalX W mg base "read_head" 5 ["shape", "text"] (sp_read_head W) := by
  obtain ⟨f, fd, g, F⟩ := S
  exact ⟨f, fd, g, f_read_head B F T C_is_head C_NoText___init__ C_numbers_in, F.kp, (F.binds (ps := ["shape", "text"]) fun _ _ _ _ _ _ us hl => match us, hl with | [_, _], _ => rfl)⟩
theorem go_read_head {W : Wd} {H : Hp} {Q : VK} {E : XK} {u v : V} {s : Shp} {d : PyData} (hs : Dq W.K H u (shD s)) (ok : OkShp s) (hd : Dz W.K Ever H v d) (hl : ∀ z, d = .str z → z.length ≤ 100000) (qS : ∀ ns, readZ s.fs d = some ns → ∀ p H', Same H H' → TupN H' p (ns.map V.int) → Q (.ref p) H') (qN : readZ s.fs d = none → ∀ d' H', Same H H' → H' d' = some (.xd [("row", .non)]) → E (.ref (clsOf W.K "NoText")) (some d') H') : sp_read_head W [u, v] H Q E := ⟨s, d, hs, ok, hd, hl, qS, qN⟩
def sp__law_pot (W : Wd) : Sp := fun vs H Q _ => match vs with
  | [v_script] =>
  ∃ (a : Addr) (ns : List Int), v_script = .ref a ∧ SqL W.K H a (ns.map V.int) ∧ ns.length ≤ 63 ∧ ∀ v H', Same H H' → BoxAt W false 0 H' v → Q v H'
  | _ => False
def sp0__law_pot (W : Wd) : Sp := fun vs H Q _ => match vs with
  | [v_script] =>
  ∃ (a : Addr) (ns : List Int), v_script = .ref a ∧ SqL W.K H a (ns.map V.int) ∧ ns.length ≤ 63 ∧ ∀ (p o : Addr) (s : Int) (ms : List Int) H', Same H H' → p ≠ o → H p = none → H o = none → H' p = some (.dK (boxKV false o 0 s 0)) → H' o = some (.lst (ms.map V.int)) → (∀ x ∈ ms, 0 ≤ x) → 0 ≤ s → s < 2305843009213693952 → Q (.ref p) H'
  | _ => False
abbrev N__law_pot : List Str := ["_law_script", "_law_far", "_law_seed", "_law_own", "_law_cell"]
theorem sc__law_pot : FnScope N__law_pot ["_law_script"] (defScope s__law_pot) := ⟨rfl, rfl, rfl, by decide +kernel, rfl, by decide +kernel, by decide +kernel⟩
theorem f__law_pot {W : Wd} {mg : Str → Option Value} {base : Heap} (B : Bi mg) {f : Addr} {fd : FuncData} (F : Fun W.K "_law_pot" "_law_pot" s__law_pot f fd) (T : Kl W.K mg)  : FnOk W.P W.w W.K mg base CX0 1 f fd ["_law_script"] (sp__law_pot W) := by
  have nd := sc__law_pot.nd
  have F0 : FnOk W.P W.w W.K mg base CX0 1 f fd ["_law_script"] (sp0__law_pot W) := by
    refine F.ok sc__law_pot (fun vs H Q E h => ?_) (fun cdv A outer s H vs Q E hr h => ?_)
    · match vs, h with | [_], _ => rfl
    · match vs, h with
      | [v_script], h =>
        change sp0__law_pot W [v_script] H Q E at h
        refine ⟨tSeq (tAsg (tOp (rCon 1000000000000000000000000000000000000000000000000000000000000000000000000000000000000000000000000000000000000000000000000000000000000000000000000000000000000000000000000000000000000000000000000000000000000000000000000000000000000000000000000 1000000000000000000000000000000000000000000000000000000000000 1000000000000000000000000000000000000000000000000000000000000000000000000000000000000000000000000000000000000000000000000000000000000000000000000000000000000000000000000000000000000000000000000000000000000000000000000000000000000000000000000000000000000000000000000000000000000000000000000000000000000) (tOp (rCon 1000000000000000000000000000000000000000000000000000000000000000000000000000000000000000000000000000000000000000000000000000000000000000000000000000000000000000000000000000000000000 1000000000000000000000000000000000000000000000000000000000000 1000000000000000000000000000000000000000000000000000000000000000000000000000000000000000000000000000000000000000000000000000000000000000000000000000000000000000000000000000000000000000000000000000000000000000000000000000000000000000000000000) (tOp (rCon 1000000000000000000000000000000000000000000000000000000000000000000000000000000000000000000000000000000000000000000000000 1000000000000000000000000000000000000000000000000000000000000 1000000000000000000000000000000000000000000000000000000000000000000000000000000000000000000000000000000000000000000000000000000000000000000000000000000000000000000000000000000000000) (tOp (rCon 1000000000000000000000000000000000000000000000000000000000000 1000000000000000000000000000000000000000000000000000000000000 1000000000000000000000000000000000000000000000000000000000000000000000000000000000000000000000000000000000000000000000000) (tOp (rCon 10 60 1000000000000000000000000000000000000000000000000000000000000) (tC (.int 10)) (tC (.int 60))) (tOp (rCon 10 60 1000000000000000000000000000000000000000000000000000000000000) (tC (.int 10)) (tC (.int 60)))) (tOp (rCon 10 60 1000000000000000000000000000000000000000000000000000000000000) (tC (.int 10)) (tC (.int 60)))) (tOp (rCon 10 60 1000000000000000000000000000000000000000000000000000000000000) (tC (.int 10)) (tC (.int 60)))) (tOp (rCon 10 60 1000000000000000000000000000000000000000000000000000000000000) (tC (.int 10)) (tC (.int 60)))) (gName 1)) (tSeq (tPar 2 3 (tCons (tC (.int 41)) (tCons (tLst (tNil)) (tNil)))) (tSeq (tFor (iAny W.K (tSl (rSlU W.K) (tVar 0) (tNoPart) (tPart (tC (.int 63))))) (gName 4) (tSeq (tAsg (tOp (rModU) (tOp (rAddN W.K) (tOp (rAddN W.K) (tOp (rMulN W.K) (tVar 2) (tC (.int 6364136223846793005))) (tOp (rModU) (tVar 4) (tOp (rCon 10 40 10000000000000000000000000000000000000000) (tC (.int 10)) (tC (.int 40))))) (tC (.int 17))) (tC (.int 2305843009213693951))) (gName 2)) (tIfS (tTest (tOp (rGeU) (tCB (rAbs) (tCons (tVar 4) (tNil))) (tOp (rCon 10 18 1000000000000000000) (tC (.int 10)) (tC (.int 18))))) (tDrop (tBM W.K "list" rAppend (tVar 3) (tCons (tOp (rModU) (tCB (rAbs) (tCons (tVar 4) (tNil))) (tVar 1)) (tNil)))) (tNext)))) (tRet (tDisp [(tC (.str "own"), tVar 3), (tC (.str "seed"), tVar 2), (tC (.str "turn"), tC (.int 0))])))), pss_cons (ps_set (i := 1) nd rfl (.inl rfl) (pe_op (u_mulc (by unfold CMulW; decide +kernel) (by decide +kernel)) (pe_op (u_mulc (by unfold CMulW; decide +kernel) (by decide +kernel)) (pe_op (u_mulc (by unfold CMulW; decide +kernel) (by decide +kernel)) (pe_op (u_mulc (by unfold CMulW; decide +kernel) (by decide +kernel)) (pe_op (u_powc ⟨by decide, by decide, by decide⟩ (by decide +kernel)) pe_int pe_int) (pe_op (u_powc ⟨by decide, by decide, by decide⟩ (by decide +kernel)) pe_int pe_int)) (pe_op (u_powc ⟨by decide, by decide, by decide⟩ (by decide +kernel)) pe_int pe_int)) (pe_op (u_powc ⟨by decide, by decide, by decide⟩ (by decide +kernel)) pe_int pe_int)) (pe_op (u_powc ⟨by decide, by decide, by decide⟩ (by decide +kernel)) pe_int pe_int))) (pss_cons (ps_par (by rfl) nd rfl rfl (by decide) rfl rfl (pa_cons (pe_int) (pa_cons (pe_lst (pa_nil)) (pa_nil))) (by rfl)) (pss_cons (ps_for PassesOwn.never rfl (pi_any (pe_slice u_sl (pv 0) (po_none) (po_some (pe_int)))) (pg_name (i := 4) nd rfl (by first | exact Or.inl rfl | exact Or.inr rfl)) (pss_cons (ps_set (i := 2) nd rfl (.inl rfl) (pe_op u_mod (pe_op u_addN (pe_op u_addN (pe_op u_mulN (pv 2) (pe_int)) (pe_op u_mod (pv 4) (pe_op (u_powc ⟨by decide, by decide, by decide⟩ (by decide +kernel)) pe_int pe_int))) (pe_int)) (pe_int))) (pss_one (ps_if (pt_cmpR u_ge (pe_callB call_abs (by rfl) B.b_abs (by decide +kernel) (pa_cons (pv 4) (pa_nil))) (pe_op (u_powc ⟨by decide, by decide, by decide⟩ (by decide +kernel)) pe_int pe_int) (nomark _)) (pss_one (ps_expr (pe_bm PySem.F.plainAttrs_list PySem.F.slot_list_append PySem.F.type_list_append mt_append (pv 3) (pa_cons (pe_op u_mod (pe_callB call_abs (by rfl) B.b_abs (by decide +kernel) (pa_cons (pv 4) (pa_nil))) (pv 1)) (pa_nil))))) (pss_nil))))) (pss_one (ps_ret (pe_disp (pps_cons (pe_str) (pv 3) (pps_cons (pe_str) (pv 2) (pps_cons (pe_str) (pe_int) (pps_nil)))) (by rfl) (by rfl) (fun z => by cases z) (by decide)))))), ?_⟩
        clear hr
        rw [show L2.start N__law_pot [v_script] = [some v_script, none, none, none, none] from rfl]
        obtain ⟨a, ns, rfl, hS, hl, q⟩ := h
        walk_at "Zs"
        rename_i p1 H1 np1 e1 h1
        refine w_slLi (e1.seq hS) fun p2 H2 np2 e2 h2 => ?_
        have hcl : (cutD ns none (some 63)).length ≤ 63 := Nat.le_trans cutD_len hl
        generalize cutD ns none (some 63) = cs at h2 hcl
        refine w_goL (SqL.of h2) ?_
        have n12 : p2 ≠ p1 := fun z => by rw [z, h1] at np2; cases np2
        refine forL (fun i σ' H' => (∃ s y4, σ' = [some (.ref a), some (.int 1000000000000000000000000000000000000000000000000000000000000000000000000000000000000000000000000000000000000000000000000000000000000000000000000000000000000000000000000000000000000000000000000000000000000000000000000000000000000000000000000000000000000000000000000000000000000000000000000000000000000), some (.int s), some (.ref p1), y4] ∧ 0 ≤ s ∧ s < 2305843009213693952) ∧ Same H H' ∧ H' p2 = some (.lst (cs.map V.int)) ∧ ∃ ms : List Int, H' p1 = some (.lst (ms.map V.int)) ∧ ms.length ≤ i ∧ ∀ x ∈ ms, 0 ≤ x) ⟨⟨41, _, rfl, by decide, by decide⟩, e1.trans e2, h2, [], e2 _ _ h1, Nat.le_refl _, fun _ h => nomatch h⟩ (fun i σ' H' _ h => SqL.of h.2.2.1) (fun i x σ' H3 hx h => ?_) (fun σ' H3 h => ?_)
        · obtain ⟨⟨s, y4, rfl, s0, s1⟩, e3, h3, ms, h4, hm, hn⟩ := h
          obtain ⟨c, hc, rfl⟩ := ints_at hx
          have hi := (List.getElem?_eq_some_iff.mp hc).1
          walk_at "Zs"
          refine w_dec (fun hb => ?_) (fun hb => ?_)
          · walk_at "Zs"
            refine w_tyL h4 ?_
            walk_at "Zs"
            refine w_append h4 (by rw [List.length_map]; omega) ?_
            walk_at "Zs"
            refine ⟨⟨_, _, rfl, by omega, by omega⟩, same_mut e3 np1, ?_, ms ++ [(if c < 0 then -c else c) % 1000000000000000000000000000000000000000000000000000000000000000000000000000000000000000000000000000000000000000000000000000000000000000000000000000000000000000000000000000000000000000000000000000000000000000000000000000000000000000000000000000000000000000000000000000000000000000000000000000000000000], ?_, by rw [List.length_append, List.length_singleton]; omega, fun x hx => ?_⟩
            · rw [upd_ne n12]
              exact h3
            · rw [upd_same, List.map_append]
              rfl
            · rcases List.mem_append.mp hx with hx | hx
              · exact hn x hx
              · rw [List.mem_singleton.mp hx]
                exact Int.emod_nonneg _ (by decide)
          · walk_at "Zs"
            exact ⟨⟨_, _, rfl, by omega, by omega⟩, e3, h3, ms, h4, by omega, hn⟩
        · obtain ⟨⟨s, y4, rfl, s0, s1⟩, e3, h3, ms, h4, hm, hn⟩ := h
          walk_at "Zs"
          refine w_disp fun p np => ?_
          walk_at "Zs"
          refine w_DB3 upd_same ?_
          have npo : p ≠ p1 := fun z => by rw [z, h4] at np; cases np
          refine q p p1 s ms _ (same_mut (same_mut e3 (none_of e3 np)) (none_of e3 np)) npo (none_of e3 np) np1 upd_same ?_ hn s0 (by omega)
          rw [upd_ne (Ne.symm npo), upd_ne (Ne.symm npo)]
          exact h4
  refine fn_seal2 F0 (fun vs H Q E h => ?_) fun vs H Q E h => ?_
  · match vs, h with | [_], _ => rfl
  · match vs, h with
    | [v1], h =>
      obtain ⟨a, ns, rfl, hS, hl, q⟩ := h
      refine ⟨a, ns, rfl, hS, hl, fun p o s ms H' e hpo np no hp ho hm s0 s1 => ?_⟩
      refine ⟨p, o, BoxU false o 0, OwnU, _, _, hpo, box_flat, own_flat, ⟨0, s, 0, rfl, Int.le_refl _, s0, s1, Int.le_refl _, Int.le_refl _⟩, ⟨ms, rfl, hm⟩, hp, ho, ?_⟩
      have n1 : upd (upd H' p (vw W (BoxU false o 0) p)) o (vw W OwnU o) p = some (vw W (BoxU false o 0) p) := by rw [upd_ne hpo, upd_same]
      refine q _ _ (same_mut (same_mut e np) no) ⟨p, o, 0, rfl, hpo, Int.le_refl _, n1, upd_same⟩
theorem c__law_pot {W : Wd} {mg : Str → Option Value} {base : Heap} (B : Bi mg) (S : Src W.K mg "_law_pot" s__law_pot) (T : Kl W.K mg)  : Cal W mg base "_law_pot" 1 ["_law_script"] (sp__law_pot W) := by
  obtain ⟨f, fd, g, F⟩ := S
  exact ⟨f, fd, g, f__law_pot B F T , F.kp, (F.binds (ps := ["_law_script"]) fun _ _ _ _ _ _ us hl => match us, hl with | [_], _ => rfl)⟩
theorem go__law_pot {W : Wd} {H : Hp} {Q : VK} {E : XK} {a : Addr} {ns : List Int} (hS : SqL W.K H a (ns.map V.int)) (hl : ns.length ≤ 63) (q : ∀ v H', Same H H' → BoxAt W false 0 H' v → Q v H') : sp__law_pot W [.ref a] H Q E := ⟨a, ns, rfl, hS, hl, q⟩
def sp__law_draw (W : Wd) : Sp := fun vs H Q _ => match vs with
  | [v_pot_here, v_many] =>
  ∃ m n : Int, BoxAt W false n H v_pot_here ∧ v_many = .int m ∧ 0 < m ∧ m < 1267650600228229401496703205376 ∧ n ≤ 1000000000 ∧ ∀ (d : Int) H', Sx H H' → 0 ≤ d → d < m → BoxAt W false (n + 1) H' v_pot_here → Q (.int d) H'
  | _ => False
def sp0__law_draw (W : Wd) : Sp := fun vs H Q _ => match vs with
  | [v_pot_here, v_many] =>
  ∃ (p o : Addr) (ns : List Int) (l s t m : Int), v_pot_here = .ref p ∧ v_many = .int m ∧ p ≠ o ∧ H p = some (.dK (boxKV false o l s t)) ∧ H o = some (.lst (ns.map V.int)) ∧ (∀ x ∈ ns, 0 ≤ x) ∧ 0 ≤ s ∧ s < 2305843009213693952 ∧ 0 ≤ t ∧ t ≤ 1000000000 ∧ 0 < m ∧ m < 1267650600228229401496703205376 ∧
    ∀ (d t' : Int) (ms : List Int) H', (∀ b u, b ≠ p → b ≠ o → H b = some u → H' b = some u) → H' p = some (.dK (boxKV false o l s t')) → H' o = some (.lst (ms.map V.int)) → (∀ x ∈ ms, 0 ≤ x) → 0 ≤ t' → t' ≤ t + 1 → 0 ≤ d → d < m → Q (.int d) H'
  | _ => False
abbrev N__law_draw : List Str := ["_law_pot_here", "_law_many", "_law_digit", "_law_turn", "_law_mixed"]
theorem sc__law_draw : FnScope N__law_draw ["_law_pot_here", "_law_many"] (defScope s__law_draw) := ⟨rfl, rfl, rfl, by decide +kernel, rfl, by decide +kernel, by decide +kernel⟩
theorem f__law_draw {W : Wd} {mg : Str → Option Value} {base : Heap} (B : Bi mg) {f : Addr} {fd : FuncData} (F : Fun W.K "_law_draw" "_law_draw" s__law_draw f fd) (T : Kl W.K mg)  : FnOk W.P W.w W.K mg base CX0 1 f fd ["_law_pot_here", "_law_many"] (sp__law_draw W) := by
  have nd := sc__law_draw.nd
  have F0 : FnOk W.P W.w W.K mg base CX0 1 f fd ["_law_pot_here", "_law_many"] (sp0__law_draw W) := by
    refine F.ok sc__law_draw (fun vs H Q E h => ?_) (fun cdv A outer s H vs Q E hr h => ?_)
    · match vs, h with | [_, _], _ => rfl
    · match vs, h with
      | [v_pot_here, v_many], h =>
        change sp0__law_draw W [v_pot_here, v_many] H Q E at h
        refine ⟨tSeq (tWhile (tAnd (tTest (tOp (rNeU W.K) (tDGet (tVar 0) (tC (.str "own"))) (tLst (tNil)))) (tTest (tOp (rEqU W.K) (tOp (rIxU W.K) (tDGet (tVar 0) (tC (.str "own"))) (tC (.int 0))) (tC (.int 0))))) (tDrop (tBM W.K "list" rPopAt (tDGet (tVar 0) (tC (.str "own"))) (tCons (tC (.int 0)) (tNil))))) (tSeq (tIfS (tTest (tOp (rNeU W.K) (tDGet (tVar 0) (tC (.str "own"))) (tLst (tNil)))) (tSeq (tAsg (tOp (rModU) (tOp (rIxU W.K) (tDGet (tVar 0) (tC (.str "own"))) (tC (.int 0))) (tVar 1)) (gName 2)) (tSeq (tAsg (tOp (rDivU) (tOp (rIxU W.K) (tDGet (tVar 0) (tC (.str "own"))) (tC (.int 0))) (tVar 1)) (gSub (tDGet (tVar 0) (tC (.str "own"))) (tC (.int 0)) rSetU)) (tRet (tVar 2)))) (tNext)) (tSeq (tAsg (tOp (rAddN W.K) (tDGet (tVar 0) (tC (.str "turn"))) (tC (.int 1))) (gSub (tVar 0) (tC (.str "turn")) rSetU)) (tSeq (tAsg (tDGet (tVar 0) (tC (.str "turn"))) (gName 3)) (tSeq (tAsg (tOp (rAddN W.K) (tOp (rAddN W.K) (tDGet (tVar 0) (tC (.str "seed"))) (tOp (rMulN W.K) (tOp (rMulN W.K) (tVar 3) (tVar 3)) (tC (.int 7919)))) (tOp (rMulN W.K) (tVar 3) (tC (.int 104729)))) (gName 4)) (tSeq (tAsg (tOp (rModU) (tOp (rMulN W.K) (tVar 4) (tC (.int 48271))) (tC (.int 2305843009213693921))) (gName 4)) (tSeq (tAsg (tOp (rModU) (tOp (rMulN W.K) (tVar 4) (tOp (rAddN W.K) (tOp (rModU) (tVar 4) (tC (.int 1000003))) (tC (.int 69621)))) (tC (.int 2305843009213693907))) (gName 4)) (tRet (tOp (rModU) (tOp (rAddN W.K) (tOp (rDivU) (tVar 4) (tC (.int 65537))) (tOp (rDivU) (tVar 4) (tC (.int 1000033)))) (tVar 1))))))))), pss_cons (ps_while PassesOwn.never (PW.pt (pw_and (pt_cmpR (u_ne hr.units) (pe_dgetU hr.units (pv 0) (pe_str) (fun _ _ => rfl)) (pe_lst (pa_nil)) (nomark _)) (pw_and1 (pt_cmpR (u_eq hr.units) (pe_ix u_ix (pe_dgetU hr.units (pv 0) (pe_str) (fun _ _ => rfl)) (pe_int) (fun _ _ => rfl)) (pe_int) (nomark _))))) (pss_one (ps_expr (pe_bm PySem.F.plainAttrs_list PySem.F.slot_list_pop PySem.F.type_list_pop mt_popAt (pe_dgetU hr.units (pv 0) (pe_str) (fun _ _ => rfl)) (pa_cons (pe_int) (pa_nil)))))) (pss_cons (ps_if (pt_cmpR (u_ne hr.units) (pe_dgetU hr.units (pv 0) (pe_str) (fun _ _ => rfl)) (pe_lst (pa_nil)) (nomark _)) (pss_cons (ps_set (i := 2) nd rfl (.inl rfl) (pe_op u_mod (pe_ix u_ix (pe_dgetU hr.units (pv 0) (pe_str) (fun _ _ => rfl)) (pe_int) (fun _ _ => rfl)) (pv 1))) (pss_cons (ps_asg (pe_op u_div (pe_ix u_ix (pe_dgetU hr.units (pv 0) (pe_str) (fun _ _ => rfl)) (pe_int) (fun _ _ => rfl)) (pv 1)) (pg_sub (pe_dgetU hr.units (pv 0) (pe_str) (fun _ _ => rfl)) (pe_int) (u_set hr.units))) (pss_one (ps_ret (pv 2))))) (pss_nil)) (pss_cons (ps_asg (pe_op u_addN (pe_dgetU hr.units (pv 0) (pe_str) (fun _ _ => rfl)) (pe_int)) (pg_sub (pv 0) (pe_str) (u_set hr.units))) (pss_cons (ps_set (i := 3) nd rfl (.inl rfl) (pe_dgetU hr.units (pv 0) (pe_str) (fun _ _ => rfl))) (pss_cons (ps_set (i := 4) nd rfl (.inl rfl) (pe_op u_addN (pe_op u_addN (pe_dgetU hr.units (pv 0) (pe_str) (fun _ _ => rfl)) (pe_op u_mulN (pe_op u_mulN (pv 3) (pv 3)) (pe_int))) (pe_op u_mulN (pv 3) (pe_int)))) (pss_cons (ps_set (i := 4) nd rfl (.inl rfl) (pe_op u_mod (pe_op u_mulN (pv 4) (pe_int)) (pe_int))) (pss_cons (ps_set (i := 4) nd rfl (.inl rfl) (pe_op u_mod (pe_op u_mulN (pv 4) (pe_op u_addN (pe_op u_mod (pv 4) (pe_int)) (pe_int))) (pe_int))) (pss_one (ps_ret (pe_op u_mod (pe_op u_addN (pe_op u_div (pv 4) (pe_int)) (pe_op u_div (pv 4) (pe_int))) (pv 1)))))))))), ?_⟩
        clear hr
        rw [show L2.start N__law_draw [v_pot_here, v_many] = [some v_pot_here, some v_many, none, none, none] from rfl]
        obtain ⟨p, o, ns, l, s, t, m, rfl, rfl, hpo, hp, ho, hn, s0, s1, t0, t1, m0, m1, q⟩ := h
        walk_at "Zs"
        refine w_while (fun k σ' H' => (∃ y2 y3 y4, σ' = [some (.ref p), some (.int m), y2, y3, y4]) ∧ (∀ b u, b ≠ p → b ≠ o → H b = some u → H' b = some u) ∧ H' p = some (.dK (boxKV false o l s t)) ∧ ∃ ms : List Int, k = ms.length ∧ H' o = some (.lst (ms.map V.int)) ∧ ∀ x ∈ ms, 0 ≤ x) ns.length ⟨⟨_, _, _, rfl⟩, fun _ _ _ _ h => h, hp, ns, rfl, ho, hn⟩ ?_
        rintro k σ' H' ⟨⟨y2, y3, y4, rfl⟩, hk, hp', ms, rfl, ho', hn'⟩
        walk_at "Zs"
        refine w_dgs hp' rfl ?_
        walk_at "Zs"
        rename_i q1 H1 nq1 e1 h1
        refine w_neNil (ns := ms) (SqL.of (e1 _ _ ho')) (SqL.of h1) ?_
        have hk1 : ∀ b u, b ≠ p → b ≠ o → H b = some u → H1 b = some u := fun b u b1 b2 e => e1 _ _ (hk b u b1 b2 e)
        have hp1 := e1 _ _ hp'
        have ho1 := e1 _ _ ho'
        clear hp' ho' hk e1 nq1 h1
        cases ms with
        | nil =>
          walk_at "Zs"
          refine w_dgs hp1 rfl ?_
          walk_at "Zs"
          rename_i q2 H2 nq2 e2 h2
          refine w_neNil (ns := []) (SqL.of (e2 _ _ ho1)) (SqL.of h2) ?_
          have hk2 : ∀ b u, b ≠ p → b ≠ o → H b = some u → H2 b = some u := fun b u b1 b2 e => e2 _ _ (hk1 b u b1 b2 e)
          have hp2 := e2 _ _ hp1
          have ho2 := e2 _ _ ho1
          walk_at "Zs"
          refine w_dgs hp2 rfl ?_
          walk_at "Zs"
          refine w_dputs hp2 (show 3 < 1000 by decide) ?_
          have hp3 : upd H2 p (.dK (putK (boxKV false o l s t) (.inr "turn") (.int (t + 1)))) p = some (.dK (boxKV false o l s (t + 1))) := by
            rw [upd_same]
            rfl
          have ho3 : upd H2 p (.dK (putK (boxKV false o l s t) (.inr "turn") (.int (t + 1)))) o = some (.lst ([].map V.int)) := by
            rw [upd_ne (Ne.symm hpo)]
            exact ho2
          have hk3 : ∀ b u, b ≠ p → b ≠ o → H b = some u → upd H2 p (.dK (putK (boxKV false o l s t) (.inr "turn") (.int (t + 1)))) b = some u := fun b u b1 b2 e => by
            rw [upd_ne b1]
            exact hk2 b u b1 b2 e
          generalize upd H2 p (.dK (putK (boxKV false o l s t) (.inr "turn") (.int (t + 1)))) = H3 at hp3 ho3 hk3
          walk_at "Zs"
          refine w_dgs hp3 rfl ?_
          walk_at "Zs"
          refine w_dgs hp3 rfl ?_
          walk_at "Zs"
          exact q _ (t + 1) [] _ hk3 hp3 ho3 (fun _ h => nomatch h) (by omega) (by omega) (Int.emod_nonneg _ (by omega)) (Int.emod_lt_of_pos _ m0)
        | cons y r =>
          walk_at "Zs"
          refine w_dgs hp1 rfl ?_
          walk_at "Zs"
          refine w_ixl (x := .int y) (SqL.of ho1) atI_zero ?_
          walk_at "Zs"
          refine w_dec (fun hy => ?_) (fun hy => ?_)
          · refine ⟨_, fun σ' H' h => h, ?_⟩
            walk_at "Zs"
            refine w_dgs hp1 rfl ?_
            refine w_tyL ho1 ?_
            walk_at "Zs"
            refine w_pop0 ho1 ?_
            walk_at "Zs"
            refine ⟨r.length, by rw [List.length_cons]; omega, ⟨_, _, _, rfl⟩, fun b u b1 b2 e => ?_, ?_, r, rfl, upd_same, fun x hx => hn' x (List.mem_cons_of_mem _ hx)⟩
            · rw [upd_ne b2]
              exact hk1 b u b1 b2 e
            · rw [upd_ne hpo]
              exact hp1
          · walk_at "Zs"
            refine w_dgs hp1 rfl ?_
            walk_at "Zs"
            rename_i q2 H2 nq2 e2 h2
            refine w_neNil (ns := y :: r) (SqL.of (e2 _ _ ho1)) (SqL.of h2) ?_
            have hk2 : ∀ b u, b ≠ p → b ≠ o → H b = some u → H2 b = some u := fun b u b1 b2 e => e2 _ _ (hk1 b u b1 b2 e)
            have hp2 := e2 _ _ hp1
            have ho2 := e2 _ _ ho1
            walk_at "Zs"
            refine w_dgs hp2 rfl ?_
            walk_at "Zs"
            refine w_ixl (x := .int y) (SqL.of ho2) atI_zero ?_
            walk_at "Zs"
            refine w_dgs hp2 rfl ?_
            walk_at "Zs"
            refine w_ixl (x := .int y) (SqL.of ho2) atI_zero ?_
            walk_at "Zs"
            refine w_dgs hp2 rfl ?_
            walk_at "Zs"
            refine w_setl ho2 (j := 0) (by
              unfold ixN
              rw [if_pos (by decide), List.length_map, List.length_cons, if_pos (by omega)]
              rfl) ?_
            walk_at "Zs"
            have y0 := hn' y List.mem_cons_self
            refine q _ t (y / m :: r) _ (fun b u b1 b2 e => ?_) ?_ (by rw [upd_same]; rfl) (fun x hx => ?_) t0 (by omega) (Int.emod_nonneg _ (by omega)) (Int.emod_lt_of_pos _ m0)
            · rw [upd_ne b2]
              exact hk2 b u b1 b2 e
            · rw [upd_ne hpo]
              exact hp2
            · rcases List.mem_cons.mp hx with rfl | hx
              · exact Int.ediv_nonneg y0 (by omega)
              · exact hn' x (List.mem_cons_of_mem _ hx)
  refine fn_view2 F0 (fun vs H Q E h => ?_) fun vs H Q E h => ?_
  · match vs, h with | [_, _], _ => rfl
  · match vs, h with
    | [v1, v2], h =>
      obtain ⟨m, n, ⟨p, o, k, rfl, hpo, hk, hp, ho⟩, rfl, m0, m1, n1, q⟩ := h
      refine ⟨p, o, BoxU false o k, OwnU, BoxU false o (k + 1), OwnU, hpo, box_flat, own_flat, hp, ho, fun u u2 hu hu2 => ?_⟩
      obtain ⟨l, s, t, rfl, l0, s0, s1, t0, t1⟩ := hu
      obtain ⟨ns, rfl, hn⟩ := hu2
      have hp1 : upd (upd H p (.dK (boxKV false o l s t))) o (.lst (ns.map V.int)) p = some (.dK (boxKV false o l s t)) := by rw [upd_ne hpo, upd_same]
      refine ⟨p, o, ns, l, s, t, m, rfl, rfl, hpo, hp1, upd_same, hn, s0, s1, t0, by omega, m0, m1, fun d t' ms H' hkeep hp' ho' hm t0' t1' d0 d1 => ?_⟩
      refine ⟨_, _, ⟨l, s, t', rfl, l0, s0, s1, t0', by omega⟩, ⟨ms, rfl, hm⟩, hp', ho', ?_⟩
      have n1 : upd (upd H' p (vw W (BoxU false o (k + 1)) p)) o (vw W OwnU o) p = some (vw W (BoxU false o (k + 1)) p) := by rw [upd_ne hpo, upd_same]
      refine q d _ ⟨fun b u e hne => ?_, fun b u e => ?_⟩ d0 d1 ⟨p, o, k + 1, rfl, hpo, by omega, n1, upd_same⟩
      · have b1 : b ≠ p := fun z => by
          rw [z, hp] at e
          cases e
          cases hne
        have b2 : b ≠ o := fun z => by
          rw [z, ho] at e
          cases e
          cases hne
        rw [upd_ne b2, upd_ne b1]
        refine hkeep b u b1 b2 ?_
        rw [upd_ne b2, upd_ne b1]
        exact e
      · by_cases b2 : b = o
        · rw [b2]
          exact ⟨_, upd_same⟩
        · by_cases b1 : b = p
          · rw [b1]
            exact ⟨_, n1⟩
          · refine ⟨u, ?_⟩
            rw [upd_ne b2, upd_ne b1]
            refine hkeep b u b1 b2 ?_
            rw [upd_ne b2, upd_ne b1]
            exact e
theorem c__law_draw {W : Wd} {mg : Str → Option Value} {base : Heap} (B : Bi mg) (S : Src W.K mg "_law_draw" s__law_draw) (T : Kl W.K mg)  : Cal W mg base "_law_draw" 1 ["_law_pot_here", "_law_many"] (sp__law_draw W) := by
  obtain ⟨f, fd, g, F⟩ := S
  exact ⟨f, fd, g, f__law_draw B F T , F.kp, (F.binds (ps := ["_law_pot_here", "_law_many"]) fun _ _ _ _ _ _ us hl => match us, hl with | [_, _], _ => rfl)⟩
theorem go__law_draw {W : Wd} {H : Hp} {Q : VK} {E : XK} {v : V} {m n : Int} (hb : BoxAt W false n H v) (m0 : 0 < m) (m1 : m < 1267650600228229401496703205376) (hn : n ≤ 1000000000) (q : ∀ (d : Int) H', Sx H H' → 0 ≤ d → d < m → BoxAt W false (n + 1) H' v → Q (.int d) H') : sp__law_draw W [v, .int m] H Q E := ⟨m, n, hb, rfl, m0, m1, hn, q⟩
local macro_rules | `(tactic| walk_at "Zc") => `(tactic| ((with_reducible refine' go__law_draw ?hp ?h0 ?h1 ?hn ?_); (case hp => walk_at "Zbox"); (case h0 => walk_at "Znum"); (case h1 => walk_at "Znum"); (case hn => walk_at "Znum"); intro d H' e h0 h1 hb))
def sp__law_of (W : Wd) : Sp := fun vs H Q _ => match vs with
  | [v_pot_here, v_some] =>
  ∃ (n : Int) (a : Addr) (xs : List V), BoxAt W false n H v_pot_here ∧ n ≤ 1000000000 ∧ v_some = .ref a ∧ (SqL W.K H a xs ∨ SqT W.K H a xs) ∧ 0 < xs.length ∧ xs.length ≤ 1000000 ∧ ∀ (i : Nat) x H', xs[i]? = some x → Sx H H' → BoxAt W false (n + 1) H' v_pot_here → Q x H'
  | _ => False
abbrev N__law_of : List Str := ["_law_pot_here", "_law_some"]
theorem sc__law_of : FnScope N__law_of ["_law_pot_here", "_law_some"] (defScope s__law_of) := ⟨rfl, rfl, rfl, by decide +kernel, rfl, by decide +kernel, by decide +kernel⟩
theorem f__law_of {W : Wd} {mg : Str → Option Value} {base : Heap} (B : Bi mg) {f : Addr} {fd : FuncData} (F : Fun W.K "_law_of" "_law_of" s__law_of f fd) (T : Kl W.K mg) (C__law_draw : Cal W mg base "_law_draw" 1 ["_law_pot_here", "_law_many"] (sp__law_draw W)) : FnOk W.P W.w W.K mg base CX0 2 f fd ["_law_pot_here", "_law_some"] (sp__law_of W) := by
  obtain ⟨a__law_draw, d__law_draw, g__law_draw, F__law_draw, k__law_draw, b__law_draw⟩ := C__law_draw
  have nd := sc__law_of.nd
  have F0 : FnOk W.P W.w W.K mg base CX0 2 f fd ["_law_pot_here", "_law_some"] (sp__law_of W) := by
    refine F.ok sc__law_of (fun vs H Q E h => ?_) (fun cdv A outer s H vs Q E hr h => ?_)
    · match vs, h with | [_, _], _ => rfl
    · match vs, h with
      | [v_pot_here, v_some], h =>
        change sp__law_of W [v_pot_here, v_some] H Q E at h
        refine ⟨tRet (tOp (rIxU W.K) (tVar 1) (tCall (sp__law_draw W) [] E0 (tCons (tVar 0) (tCons (tCB (rLenU W.K) (tCons (tVar 1) (tNil))) (tNil))))), pss_one (ps_ret (pe_ix u_ix (pv 1) (pe_call F__law_draw (hr.mono (by decide)) (by rfl) g__law_draw k__law_draw b__law_draw .nil pass0 (pa_cons (pv 0) (pa_cons (pe_callB u_len (by rfl) B.b_len (by decide +kernel) (pa_cons (pv 1) (pa_nil))) (pa_nil)))) (fun _ _ => rfl))), ?_⟩
        clear hr
        clear F__law_draw g__law_draw k__law_draw b__law_draw d__law_draw a__law_draw
        rw [show L2.start N__law_of [v_pot_here, v_some] = [some v_pot_here, some v_some] from rfl]
        obtain ⟨n, a, xs, hb, hn, rfl, hx, l0, l1, q⟩ := h
        walk_at "Zs"
        have fin : ∀ (d : Int) (H1 : Hp), Sx H H1 → 0 ≤ d → d < xs.length → BoxAt W false (n + 1) H1 v_pot_here → rIxU W.K (.ref a) (.int d) H1 Q := fun d H1 e d0 d1 hb1 => by
          obtain ⟨x, hx1, hx2⟩ := atI_get d0 d1
          rcases hx with hx | hx
          · exact w_ixl (sx_l e hx) hx2 (q _ x H1 hx1 e hb1)
          · exact w_ixt (sx_t e hx) hx2 (q _ x H1 hx1 e hb1)
        rcases hx with hx2 | hx2
        · refine w_lenL hx2 ?_
          walk_at "Zs"
          rename_i d H1 e d0 d1 hb1
          exact fin d H1 e d0 d1 hb1
        · refine w_lenT hx2 ?_
          walk_at "Zs"
          rename_i d H1 e d0 d1 hb1
          exact fin d H1 e d0 d1 hb1
  exact F0
theorem c__law_of {W : Wd} {mg : Str → Option Value} {base : Heap} (B : Bi mg) (S : Src W.K mg "_law_of" s__law_of) (T : Kl W.K mg) (C__law_draw : Cal W mg base "_law_draw" 1 ["_law_pot_here", "_law_many"] (sp__law_draw W)) : Cal W mg base "_law_of" 2 ["_law_pot_here", "_law_some"] (sp__law_of W) := by
  obtain ⟨f, fd, g, F⟩ := S
  exact ⟨f, fd, g, f__law_of B F T C__law_draw, F.kp, (F.binds (ps := ["_law_pot_here", "_law_some"]) fun _ _ _ _ _ _ us hl => match us, hl with | [_, _], _ => rfl)⟩
theorem go__law_ofL {W : Wd} {H : Hp} {Q : VK} {E : XK} {v : V} {n : Int} {a : Addr} {xs : List V} (hb : BoxAt W false n H v) (hx : SqL W.K H a xs) (hn : n ≤ 1000000000) (l0 : 0 < xs.length) (l1 : xs.length ≤ 1000000) (q : ∀ (i : Nat) x H', xs[i]? = some x → Sx H H' → BoxAt W false (n + 1) H' v → Q x H') : sp__law_of W [v, .ref a] H Q E := ⟨n, a, xs, hb, hn, rfl, .inl hx, l0, l1, q⟩
theorem go__law_ofT {W : Wd} {H : Hp} {Q : VK} {E : XK} {v : V} {n : Int} {a : Addr} {xs : List V} (hb : BoxAt W false n H v) (hx : SqT W.K H a xs) (hn : n ≤ 1000000000) (l0 : 0 < xs.length) (l1 : xs.length ≤ 1000000) (q : ∀ (i : Nat) x H', xs[i]? = some x → Sx H H' → BoxAt W false (n + 1) H' v → Q x H') : sp__law_of W [v, .ref a] H Q E := ⟨n, a, xs, hb, hn, rfl, .inr hx, l0, l1, q⟩
theorem go__law_ofI {W : Wd} {H : Hp} {Q : VK} {E : XK} {v : V} {n : Int} {a : Addr} {xs : List V} (P : Int → Prop) (hb : BoxAt W false n H v) (hx : SqL W.K H a xs) (hn : n ≤ 1000000000) (l0 : 0 < xs.length) (l1 : xs.length ≤ 1000000) (hP : ∀ x ∈ xs, isI P x) (q : ∀ m H', P m → Sx H H' → BoxAt W false (n + 1) H' v → Q (.int m) H') : sp__law_of W [v, .ref a] H Q E := go__law_ofL hb hx hn l0 l1 fun i x H' hi e hb' => by
  obtain ⟨m, rfl, hm⟩ := hP x (List.mem_of_getElem? hi)
  exact q m H' hm e hb'
def sp__law_size (W : Wd) : Sp := fun vs H Q _ => match vs with
  | [v_pot_here, v_few, v_most] =>
  ∃ n a b : Int, BoxAt W false n H v_pot_here ∧ n ≤ 999990000 ∧ v_few = .int a ∧ v_most = .int b ∧ 1 ≤ a ∧ a ≤ b ∧ b ≤ 1000 ∧ ∀ (d : Int) H', Sx H H' → BoxAt W false (n + 2) H' v_pot_here → 1 ≤ d → d ≤ b → Q (.int d) H'
  | _ => False
abbrev N__law_size : List Str := ["_law_pot_here", "_law_few", "_law_most"]
theorem sc__law_size : FnScope N__law_size ["_law_pot_here", "_law_few", "_law_most"] (defScope s__law_size) := ⟨rfl, rfl, rfl, by decide +kernel, rfl, by decide +kernel, by decide +kernel⟩
theorem f__law_size {W : Wd} {mg : Str → Option Value} {base : Heap} (B : Bi mg) {f : Addr} {fd : FuncData} (F : Fun W.K "_law_size" "_law_size" s__law_size f fd) (T : Kl W.K mg) (C__law_draw : Cal W mg base "_law_draw" 1 ["_law_pot_here", "_law_many"] (sp__law_draw W)) : FnOk W.P W.w W.K mg base CX0 2 f fd ["_law_pot_here", "_law_few", "_law_most"] (sp__law_size W) := by
  obtain ⟨a__law_draw, d__law_draw, g__law_draw, F__law_draw, k__law_draw, b__law_draw⟩ := C__law_draw
  have nd := sc__law_size.nd
  have F0 : FnOk W.P W.w W.K mg base CX0 2 f fd ["_law_pot_here", "_law_few", "_law_most"] (sp__law_size W) := by
    refine F.ok sc__law_size (fun vs H Q E h => ?_) (fun cdv A outer s H vs Q E hr h => ?_)
    · match vs, h with | [_, _, _], _ => rfl
    · match vs, h with
      | [v_pot_here, v_few, v_most], h =>
        change sp__law_size W [v_pot_here, v_few, v_most] H Q E at h
        refine ⟨tRet (tOp (rAddN W.K) (tC (.int 1)) (tCall (sp__law_draw W) [] E0 (tCons (tVar 0) (tCons (tOp (rIxU W.K) (tLst (tCons (tVar 1) (tCons (tVar 2) (tNil)))) (tCB (rIntU) (tCons (tOp (rEqU W.K) (tCall (sp__law_draw W) [] E0 (tCons (tVar 0) (tCons (tC (.int 8)) (tNil)))) (tC (.int 0))) (tNil)))) (tNil))))), pss_one (ps_ret (pe_op u_addN (pe_int) (pe_call F__law_draw (hr.mono (by decide)) (by rfl) g__law_draw k__law_draw b__law_draw .nil pass0 (pa_cons (pv 0) (pa_cons (pe_ix u_ix (pe_lst (pa_cons (pv 1) (pa_cons (pv 2) (pa_nil)))) (pe_callTy u_int (by rfl) B.b_int (by decide +kernel) (pa_cons (pe_cmpR (u_eq hr.units) (pe_call F__law_draw (hr.mono (by decide)) (by rfl) g__law_draw k__law_draw b__law_draw .nil pass0 (pa_cons (pv 0) (pa_cons (pe_int) (pa_nil)))) (pe_int) (nomark _)) (pa_nil))) (fun _ _ => rfl)) (pa_nil)))))), ?_⟩
        clear hr
        clear F__law_draw g__law_draw k__law_draw b__law_draw d__law_draw a__law_draw
        rw [show L2.start N__law_size [v_pot_here, v_few, v_most] = [some v_pot_here, some v_few, some v_most] from rfl]
        obtain ⟨n, a, b, hp, hn, rfl, rfl, a1, ab, b1, q⟩ := h
        walk_at "Zs"
        rename_i p1 H1 n1 e1 h1 d2 H2 e2 d20 d21 b2
        obtain ⟨i0, i1⟩ := if01 (b := decide (d2 = 0))
        generalize (if decide (d2 = 0) = true then (1 : Int) else 0) = t at i0 i1
        tbr_iter (fun t => 1 ≤ t ∧ t ≤ b)
        intro m hm
        walk_at "Zs"
        rename_i d3 H3 e3 d30 d31 b3
        exact q _ _ ((Same.sx e1).trans (e2.trans e3)) (box_le (by omega) b3) (by omega) (by omega)
  exact F0
theorem c__law_size {W : Wd} {mg : Str → Option Value} {base : Heap} (B : Bi mg) (S : Src W.K mg "_law_size" s__law_size) (T : Kl W.K mg) (C__law_draw : Cal W mg base "_law_draw" 1 ["_law_pot_here", "_law_many"] (sp__law_draw W)) : Cal W mg base "_law_size" 2 ["_law_pot_here", "_law_few", "_law_most"] (sp__law_size W) := by
  obtain ⟨f, fd, g, F⟩ := S
  exact ⟨f, fd, g, f__law_size B F T C__law_draw, F.kp, (F.binds (ps := ["_law_pot_here", "_law_few", "_law_most"]) fun _ _ _ _ _ _ us hl => match us, hl with | [_, _, _], _ => rfl)⟩
theorem go__law_size {W : Wd} {H : Hp} {Q : VK} {E : XK} {v : V} {n a b : Int} (hp : BoxAt W false n H v) (hn : n ≤ 999990000) (a1 : 1 ≤ a) (ab : a ≤ b) (b1 : b ≤ 1000) (q : ∀ (d : Int) H', Sx H H' → BoxAt W false (n + 2) H' v → 1 ≤ d → d ≤ b → Q (.int d) H') : sp__law_size W [v, .int a, .int b] H Q E := ⟨n, a, b, hp, hn, rfl, rfl, a1, ab, b1, q⟩
def sp__law_names (W : Wd) : Sp := fun vs H Q _ => match vs with
  | [v_pot_here, v_many] =>
  ∃ n m : Int, BoxAt W false n H v_pot_here ∧ n ≤ 999990000 ∧ v_many = .int m ∧ 0 ≤ m ∧ m ≤ 12 ∧ ∀ (p : Addr) (zs : List Str) H', Sx H H' → BoxAt W false (n + 2) H' v_pot_here → H p = none → H' p = some (.lst (zs.map V.str)) → zs.length = m.toNat → (∀ z ∈ zs, OkNm z) → zs.Nodup → Q (.ref p) H'
  | _ => False
abbrev N__law_names : List Str := ["_law_pot_here", "_law_many", "_law_letters", "_law_first", "_law_step", "_law_k"]
theorem sc__law_names : FnScope N__law_names ["_law_pot_here", "_law_many"] (defScope s__law_names) := ⟨rfl, rfl, rfl, by decide +kernel, rfl, by decide +kernel, by decide +kernel⟩
theorem f__law_names {W : Wd} {mg : Str → Option Value} {base : Heap} (B : Bi mg) {f : Addr} {fd : FuncData} (F : Fun W.K "_law_names" "_law_names" s__law_names f fd) (T : Kl W.K mg) (C__law_of : Cal W mg base "_law_of" 2 ["_law_pot_here", "_law_some"] (sp__law_of W)) (C__law_draw : Cal W mg base "_law_draw" 1 ["_law_pot_here", "_law_many"] (sp__law_draw W)) : FnOk W.P W.w W.K mg base CX0 3 f fd ["_law_pot_here", "_law_many"] (sp__law_names W) := by
  obtain ⟨a__law_of, d__law_of, g__law_of, F__law_of, k__law_of, b__law_of⟩ := C__law_of
  obtain ⟨a__law_draw, d__law_draw, g__law_draw, F__law_draw, k__law_draw, b__law_draw⟩ := C__law_draw
  have nd := sc__law_names.nd
  have F0 : FnOk W.P W.w W.K mg base CX0 3 f fd ["_law_pot_here", "_law_many"] (sp__law_names W) := by
    refine F.ok sc__law_names (fun vs H Q E h => ?_) (fun cdv A outer s H vs Q E hr h => ?_)
    · match vs, h with | [_, _], _ => rfl
    · match vs, h with
      | [v_pot_here, v_many], h =>
        change sp__law_names W [v_pot_here, v_many] H Q E at h
        refine ⟨tSeq (tAsg (tC (.str "abcdefghijklmnopqrstuvwxyz")) (gName 2)) (tSeq (tAsg (tTupN (tCons (tCall (sp__law_draw W) [] E0 (tCons (tVar 0) (tCons (tC (.int 26)) (tNil)))) (tCons (tCall (sp__law_of W) [] E0 (tCons (tVar 0) (tCons (tLst (tCons (tC (.int 1)) (tCons (tC (.int 3)) (tCons (tC (.int 5)) (tCons (tC (.int 7)) (tCons (tC (.int 9)) (tCons (tC (.int 11)) (tNil)))))))) (tNil)))) (tNil)))) (gTup W.K 2 (gCons (gName 3) (gCons (gName 4) (gNil))))) (tRet (tLc (iRng1 (tCons (tVar 1) (tNil))) (gName 5) (tYes) (tOp (rMulN W.K) (tOp (rIxU W.K) (tVar 2) (tOp (rModU) (tOp (rAddN W.K) (tVar 3) (tOp (rMulN W.K) (tVar 4) (tVar 5))) (tC (.int 26)))) (tOp (rAddN W.K) (tC (.int 1)) (tOp (rModU) (tOp (rAddN W.K) (tVar 3) (tOp (rMulN W.K) (tVar 5) (tVar 5))) (tC (.int 8))))) [5]))), pss_cons (ps_set (i := 2) nd rfl (.inr rfl) (pe_str)) (pss_cons (ps_asg (pe_tupN (pa_cons (pe_call F__law_draw (hr.mono (by decide)) (by rfl) g__law_draw k__law_draw b__law_draw .nil pass0 (pa_cons (pv 0) (pa_cons (pe_int) (pa_nil)))) (pa_cons (pe_call F__law_of (hr.mono (by decide)) (by rfl) g__law_of k__law_of b__law_of .nil pass0 (pa_cons (pv 0) (pa_cons (pe_lst (pa_cons (pe_int) (pa_cons (pe_int) (pa_cons (pe_int) (pa_cons (pe_int) (pa_cons (pe_int) (pa_cons (pe_int) (pa_nil)))))))) (pa_nil)))) (pa_nil)))) (pg_tup rfl (pgs_cons (pg_name (i := 3) nd rfl (by first | exact Or.inl rfl | exact Or.inr rfl)) (pgs_cons (pg_name (i := 4) nd rfl (by first | exact Or.inl rfl | exact Or.inr rfl)) (pgs_nil))))) (pss_one (ps_ret (pe_lc (own := [("_law_k", 5)]) rfl nd (pi_range1 (by rfl) B.b_range (pa_cons (pv 1) (pa_nil))) (blkOk_by (own := [("_law_k", 5)]) (N := N__law_names) (sc := defScope s__law_names) (by decide +kernel)) (fun _ _ _ _ _ => pg_name (i := 5) nd rfl (by first | exact Or.inl rfl | exact Or.inr rfl)) (fun _ _ _ _ _ => pts_nil) (fun _ _ _ _ _ => pe_op u_mulN (pe_ix u_ix (pv 2) (pe_op u_mod (pe_op u_addN (pv 3) (pe_op u_mulN (pv 4) (pv 5))) (pe_int)) (fun _ _ => rfl)) (pe_op u_addN (pe_int) (pe_op u_mod (pe_op u_addN (pv 3) (pe_op u_mulN (pv 5) (pv 5))) (pe_int)))))))), ?_⟩
        clear hr
        clear F__law_of g__law_of k__law_of b__law_of d__law_of a__law_of
        clear F__law_draw g__law_draw k__law_draw b__law_draw d__law_draw a__law_draw
        rw [show L2.start N__law_names [v_pot_here, v_many] = [some v_pot_here, some v_many, none, none, none, none] from rfl]
        obtain ⟨n, m, hp, hn, rfl, m0, m1, q⟩ := h
        walk_at "Zs"
        rename_i f H1 e1 f0 f1 b1 p2 H2 n2 e2 h2
        refine go__law_ofI (fun t => t = 1 ∨ t = 3 ∨ t = 5 ∨ t = 7 ∨ t = 9 ∨ t = 11) (box_mono e2 b1) (SqL.of h2) (by omega) (by show 0 < 6; decide) (by show 6 ≤ 1000000; decide) (by walk_at "Zisi") fun t H3 ht e3 b3 => ?_
        walk_at "Zs"
        rename_i p4 H4 n4 e4 h4
        have S4 : Sx H H4 := e1.trans ((Same.sx e2).trans (e3.trans (Same.sx e4)))
        refine lcR (n := m.toNat) (fun i acc _ => ∃ zs : List Str, acc = zs.map V.str ∧ zs.length = i ∧ NmT f t zs) stb_pure (by omega) (fun i acc _ h => ?_) (fun _ _ => ⟨[], rfl, rfl, nmT_nil⟩) (fun i acc H' hi e6 ea k k' hk hk' => ?_) fun D acc H6 hD e6 hD' ea => ?_
        · obtain ⟨zs, rfl, h, _⟩ := h
          rw [List.length_map, h]
          exact Nat.le_refl _
        · obtain ⟨zs, rfl, hl, hz⟩ := ea
          walk_at "Zn"
          obtain ⟨g, hg⟩ : ∃ g : Fin 26, (f + t * (i : Int)) % 26 = ((g.val : Nat) : Int) := ⟨⟨((f + t * (i : Int)) % 26).toNat, by omega⟩, by dsimp only; omega⟩
          rw [hg]
          refine w_ixs (by decide) (af26 g) ?_
          walk_at "Zn"
          have hnm := nm_rep (c := 97 + g.val) (k := 1 + (f + (i : Int) * (i : Int)) % 8) (by omega) (by omega) (by omega) (by omega)
          refine w_mulNs (mul_ok (by omega) (by omega) (show (1 : Nat) ≤ 8 by decide)) ?_
          refine hk _ _ (Same.refl _) ⟨zs ++ [_], by rw [List.map_append]; rfl, by rw [List.length_append, hl]; rfl, nmT_snoc hz ⟨hnm.1, ?_⟩⟩
          rw [hnm.2, hl, hg, Int.toNat_natCast]
        · obtain ⟨zs, rfl, hl, hz⟩ := ea
          exact q D zs _ (S4.trans (Same.sx e6)) (box_mono (e4.trans e6) (box_le (by omega) b3)) (none_sx S4 hD) hD' hl (nmT_ok hz) (nmT_nodup ht (by omega) hz)
  exact F0
theorem c__law_names {W : Wd} {mg : Str → Option Value} {base : Heap} (B : Bi mg) (S : Src W.K mg "_law_names" s__law_names) (T : Kl W.K mg) (C__law_of : Cal W mg base "_law_of" 2 ["_law_pot_here", "_law_some"] (sp__law_of W)) (C__law_draw : Cal W mg base "_law_draw" 1 ["_law_pot_here", "_law_many"] (sp__law_draw W)) : Cal W mg base "_law_names" 3 ["_law_pot_here", "_law_many"] (sp__law_names W) := by
  obtain ⟨f, fd, g, F⟩ := S
  exact ⟨f, fd, g, f__law_names B F T C__law_of C__law_draw, F.kp, (F.binds (ps := ["_law_pot_here", "_law_many"]) fun _ _ _ _ _ _ us hl => match us, hl with | [_, _], _ => rfl)⟩
theorem go__law_names {W : Wd} {H : Hp} {Q : VK} {E : XK} {v : V} {n m : Int} (hp : BoxAt W false n H v) (hn : n ≤ 999990000) (m0 : 0 ≤ m) (m1 : m ≤ 12) (q : ∀ (p : Addr) (zs : List Str) H', Sx H H' → BoxAt W false (n + 2) H' v → H p = none → H' p = some (.lst (zs.map V.str)) → zs.length = m.toNat → (∀ z ∈ zs, OkNm z) → zs.Nodup → Q (.ref p) H') : sp__law_names W [v, .int m] H Q E := ⟨n, m, hp, hn, rfl, m0, m1, q⟩
def sp__law_value (W : Wd) : Sp := fun vs H Q _ => match vs with
  | [v_pot_here, v_breadth] =>
  ∃ b n : Int, BoxAt W false n H v_pot_here ∧ v_breadth = .int b ∧ 0 ≤ b ∧ b ≤ 60 ∧ n ≤ 999999990 ∧ ∀ (m : Int) H', Sx H H' → 0 ≤ m → m < p2 b → BoxAt W false (n + 4) H' v_pot_here → Q (.int m) H'
  | _ => False
abbrev N__law_value : List Str := ["_law_pot_here", "_law_breadth", "_law_top", "_law_near"]
theorem sc__law_value : FnScope N__law_value ["_law_pot_here", "_law_breadth"] (defScope s__law_value) := ⟨rfl, rfl, rfl, by decide +kernel, rfl, by decide +kernel, by decide +kernel⟩
theorem f__law_value {W : Wd} {mg : Str → Option Value} {base : Heap} (B : Bi mg) {f : Addr} {fd : FuncData} (F : Fun W.K "_law_value" "_law_value" s__law_value f fd) (T : Kl W.K mg) (C__law_draw : Cal W mg base "_law_draw" 1 ["_law_pot_here", "_law_many"] (sp__law_draw W)) : FnOk W.P W.w W.K mg base CX0 2 f fd ["_law_pot_here", "_law_breadth"] (sp__law_value W) := by
  obtain ⟨a__law_draw, d__law_draw, g__law_draw, F__law_draw, k__law_draw, b__law_draw⟩ := C__law_draw
  have nd := sc__law_value.nd
  have F0 : FnOk W.P W.w W.K mg base CX0 2 f fd ["_law_pot_here", "_law_breadth"] (sp__law_value W) := by
    refine F.ok sc__law_value (fun vs H Q E h => ?_) (fun cdv A outer s H vs Q E hr h => ?_)
    · match vs, h with | [_, _], _ => rfl
    · match vs, h with
      | [v_pot_here, v_breadth], h =>
        change sp__law_value W [v_pot_here, v_breadth] H Q E at h
        refine ⟨tSeq (tAsg (tOp (rShlU) (tC (.int 1)) (tVar 1)) (gName 2)) (tSeq (tAsg (tCall (sp__law_draw W) [] E0 (tCons (tVar 0) (tCons (tCB (rMin2) (tCons (tVar 2) (tCons (tC (.int 4)) (tNil)))) (tNil)))) (gName 3)) (tRet (tOp (rIxU W.K) (tLst (tCons (tCall (sp__law_draw W) [] E0 (tCons (tVar 0) (tCons (tVar 2) (tNil)))) (tCons (tVar 3) (tCons (tOp (rSubU) (tOp (rSubU) (tVar 2) (tC (.int 1))) (tVar 3)) (tCons (tCall (sp__law_draw W) [] E0 (tCons (tVar 0) (tCons (tVar 2) (tNil)))) (tNil)))))) (tCall (sp__law_draw W) [] E0 (tCons (tVar 0) (tCons (tC (.int 4)) (tNil))))))), pss_cons (ps_set (i := 2) nd rfl (.inl rfl) (pe_op u_shl (pe_int) (pv 1))) (pss_cons (ps_set (i := 3) nd rfl (.inl rfl) (pe_call F__law_draw (hr.mono (by decide)) (by rfl) g__law_draw k__law_draw b__law_draw .nil pass0 (pa_cons (pv 0) (pa_cons (pe_callB (call_min2 rfl) (by rfl) B.b_min (by decide +kernel) (pa_cons (pv 2) (pa_cons (pe_int) (pa_nil)))) (pa_nil))))) (pss_one (ps_ret (pe_ix u_ix (pe_lst (pa_cons (pe_call F__law_draw (hr.mono (by decide)) (by rfl) g__law_draw k__law_draw b__law_draw .nil pass0 (pa_cons (pv 0) (pa_cons (pv 2) (pa_nil)))) (pa_cons (pv 3) (pa_cons (pe_op u_sub (pe_op u_sub (pv 2) (pe_int)) (pv 3)) (pa_cons (pe_call F__law_draw (hr.mono (by decide)) (by rfl) g__law_draw k__law_draw b__law_draw .nil pass0 (pa_cons (pv 0) (pa_cons (pv 2) (pa_nil)))) (pa_nil)))))) (pe_call F__law_draw (hr.mono (by decide)) (by rfl) g__law_draw k__law_draw b__law_draw .nil pass0 (pa_cons (pv 0) (pa_cons (pe_int) (pa_nil)))) (fun _ _ => rfl))))), ?_⟩
        clear hr
        clear F__law_draw g__law_draw k__law_draw b__law_draw d__law_draw a__law_draw
        rw [show L2.start N__law_value [v_pot_here, v_breadth] = [some v_pot_here, some v_breadth, none, none] from rfl]
        obtain ⟨b, n, hp, rfl, hb0, hb1, hn, q⟩ := h
        have pb := p2_pos b
        have pl : p2 b < 1267650600228229401496703205376 := Int.lt_of_le_of_lt (p2_le (show b ≤ 60 by omega)) (by decide +kernel)
        walk_at "Zs"
        tbr_iter (fun t => 0 ≤ t ∧ t < p2 b)
        intro m hm2
        rename_i hbx
        refine q _ _ ?_ hm2.1 hm2.2 (box_le (by omega) hbx)
        walk_at "Zkx"
  exact F0
theorem c__law_value {W : Wd} {mg : Str → Option Value} {base : Heap} (B : Bi mg) (S : Src W.K mg "_law_value" s__law_value) (T : Kl W.K mg) (C__law_draw : Cal W mg base "_law_draw" 1 ["_law_pot_here", "_law_many"] (sp__law_draw W)) : Cal W mg base "_law_value" 2 ["_law_pot_here", "_law_breadth"] (sp__law_value W) := by
  obtain ⟨f, fd, g, F⟩ := S
  exact ⟨f, fd, g, f__law_value B F T C__law_draw, F.kp, (F.binds (ps := ["_law_pot_here", "_law_breadth"]) fun _ _ _ _ _ _ us hl => match us, hl with | [_, _], _ => rfl)⟩
theorem go__law_value {W : Wd} {H : Hp} {Q : VK} {E : XK} {v : V} {b n : Int} (hp : BoxAt W false n H v) (h0 : 0 ≤ b) (h1 : b ≤ 60) (hn : n ≤ 999999990) (q : ∀ (m : Int) H', Sx H H' → 0 ≤ m → m < p2 b → BoxAt W false (n + 4) H' v → Q (.int m) H') : sp__law_value W [v, .int b] H Q E := ⟨b, n, hp, rfl, h0, h1, hn, q⟩
local macro_rules | `(tactic| walk_at "Zc") => `(tactic| ((with_reducible refine' go__law_value ?hp ?h0 ?h1 ?hn ?_); (case hp => walk_at "Zbox"); (case h0 => walk_at "Znum"); (case h1 => walk_at "Znum"); (case hn => walk_at "Znum"); intro n H' e h0 h1 hb))
def sp__law_kind (W : Wd) : Sp := fun vs H Q _ => match vs with
  | [v_pot_here, v_many, v_breadth] =>
  ∃ (pl : Nat) (b n : Int), BoxAt W false n H v_pot_here ∧ v_many = .int pl ∧ pl ≤ 11 ∧ v_breadth = .int b ∧ 1 ≤ b ∧ b ≤ 40 ∧ n ≤ 999990000 ∧ ∀ (k : Kd) v H', Sx H H' → BoxAt W false (n + 12) H' v_pot_here → Dq W.K H' v (kdD k) → OkKd pl b k → Q v H'
  | _ => False
abbrev N__law_kind : List Str := ["_law_pot_here", "_law_many", "_law_breadth", "_law_top", "_law_way", "_law_first", "_law_odd", "_law_k"]
theorem sc__law_kind : FnScope N__law_kind ["_law_pot_here", "_law_many", "_law_breadth"] (defScope s__law_kind) := ⟨rfl, rfl, rfl, by decide +kernel, rfl, by decide +kernel, by decide +kernel⟩
theorem f__law_kind {W : Wd} {mg : Str → Option Value} {base : Heap} (B : Bi mg) {f : Addr} {fd : FuncData} (F : Fun W.K "_law_kind" "_law_kind" s__law_kind f fd) (T : Kl W.K mg) (C__law_draw : Cal W mg base "_law_draw" 1 ["_law_pot_here", "_law_many"] (sp__law_draw W)) (C__law_value : Cal W mg base "_law_value" 2 ["_law_pot_here", "_law_breadth"] (sp__law_value W)) : FnOk W.P W.w W.K mg base CX0 3 f fd ["_law_pot_here", "_law_many", "_law_breadth"] (sp__law_kind W) := by
  obtain ⟨a__law_draw, d__law_draw, g__law_draw, F__law_draw, k__law_draw, b__law_draw⟩ := C__law_draw
  obtain ⟨a__law_value, d__law_value, g__law_value, F__law_value, k__law_value, b__law_value⟩ := C__law_value
  have nd := sc__law_kind.nd
  have F0 : FnOk W.P W.w W.K mg base CX0 3 f fd ["_law_pot_here", "_law_many", "_law_breadth"] (sp__law_kind W) := by
    refine F.ok sc__law_kind (fun vs H Q E h => ?_) (fun cdv A outer s H vs Q E hr h => ?_)
    · match vs, h with | [_, _, _], _ => rfl
    · match vs, h with
      | [v_pot_here, v_many, v_breadth], h =>
        change sp__law_kind W [v_pot_here, v_many, v_breadth] H Q E at h
        refine ⟨tSeq (tAsg (tTupN (tCons (tOp (rShlU) (tC (.int 1)) (tVar 2)) (tCons (tCall (sp__law_draw W) [] E0 (tCons (tVar 0) (tCons (tC (.int 8)) (tNil)))) (tNil)))) (gTup W.K 2 (gCons (gName 3) (gCons (gName 4) (gNil))))) (tSeq (tIfS (tTest (tOp (rLtU W.K) (tVar 4) (tC (.int 3)))) (tRet (tTupN (tCons (tC (.str "step")) (tCons (tOp (rModU) (tOp (rIxU W.K) (tLst (tCons (tC (.int 1)) (tCons (tCall (sp__law_value W) [] E0 (tCons (tVar 0) (tCons (tVar 2) (tNil)))) (tNil)))) (tCall (sp__law_draw W) [] E0 (tCons (tVar 0) (tCons (tC (.int 2)) (tNil))))) (tVar 3)) (tNil))))) (tNext)) (tSeq (tIfS (tTest (tOp (rEqU W.K) (tVar 4) (tC (.int 3)))) (tSeq (tAsg (tTupN (tCons (tCall (sp__law_value W) [] E0 (tCons (tVar 0) (tCons (tVar 2) (tNil)))) (tCons (tOp (rAddN W.K) (tC (.int 1)) (tOp (rMulN W.K) (tC (.int 2)) (tCall (sp__law_draw W) [] E0 (tCons (tVar 0) (tCons (tC (.int 9)) (tNil)))))) (tNil)))) (gTup W.K 2 (gCons (gName 5) (gCons (gName 6) (gNil))))) (tRet (tTupN (tCons (tC (.str "turn")) (tCons (tCB (rTupleOfN W.K) (tCons (tLc (iRng1 (tCons (tCB (rMin2) (tCons (tVar 3) (tCons (tOp (rAddN W.K) (tC (.int 2)) (tCall (sp__law_draw W) [] E0 (tCons (tVar 0) (tCons (tC (.int 11)) (tNil))))) (tNil)))) (tNil))) (gName 7) (tYes) (tOp (rModU) (tOp (rAddN W.K) (tVar 5) (tOp (rMulN W.K) (tVar 6) (tVar 7))) (tVar 3)) [7]) (tNil))) (tNil)))))) (tNext)) (tSeq (tIfS (tAnd (tTest (tOp (rLtU W.K) (tVar 4) (tC (.int 6)))) (tTest (tOp (rGtU) (tVar 1) (tC (.int 0))))) (tRet (tTupN (tCons (tC (.str "with")) (tCons (tCall (sp__law_draw W) [] E0 (tCons (tVar 0) (tCons (tVar 1) (tNil)))) (tCons (tOp (rIxU W.K) (tLst (tCons (tC (.int 1)) (tCons (tUn (rU fun i => .int (-i)) (tC (.int 1))) (tCons (tOp (rSubU) (tCall (sp__law_draw W) [] E0 (tCons (tVar 0) (tCons (tC (.int 199)) (tNil)))) (tC (.int 99))) (tNil))))) (tCall (sp__law_draw W) [] E0 (tCons (tVar 0) (tCons (tC (.int 3)) (tNil))))) (tNil)))))) (tNext)) (tRet (tOp (rIxU W.K) (tLst (tCons (tTupN (tCons (tC (.str "still")) (tNil))) (tCons (tTupN (tCons (tC (.str "drawn")) (tNil))) (tNil)))) (tCall (sp__law_draw W) [] E0 (tCons (tVar 0) (tCons (tC (.int 2)) (tNil))))))))), pss_cons (ps_asg (pe_tupN (pa_cons (pe_op u_shl (pe_int) (pv 2)) (pa_cons (pe_call F__law_draw (hr.mono (by decide)) (by rfl) g__law_draw k__law_draw b__law_draw .nil pass0 (pa_cons (pv 0) (pa_cons (pe_int) (pa_nil)))) (pa_nil)))) (pg_tup rfl (pgs_cons (pg_name (i := 3) nd rfl (by first | exact Or.inl rfl | exact Or.inr rfl)) (pgs_cons (pg_name (i := 4) nd rfl (by first | exact Or.inl rfl | exact Or.inr rfl)) (pgs_nil))))) (pss_cons (ps_if (pt_cmpR u_lt (pv 4) (pe_int) (nomark _)) (pss_one (ps_ret (pe_tupN (pa_cons (pe_str) (pa_cons (pe_op u_mod (pe_ix u_ix (pe_lst (pa_cons (pe_int) (pa_cons (pe_call F__law_value (hr.mono (by decide)) (by rfl) g__law_value k__law_value b__law_value .nil pass0 (pa_cons (pv 0) (pa_cons (pv 2) (pa_nil)))) (pa_nil)))) (pe_call F__law_draw (hr.mono (by decide)) (by rfl) g__law_draw k__law_draw b__law_draw .nil pass0 (pa_cons (pv 0) (pa_cons (pe_int) (pa_nil)))) (fun _ _ => rfl)) (pv 3)) (pa_nil)))))) (pss_nil)) (pss_cons (ps_if (pt_cmpR (u_eq hr.units) (pv 4) (pe_int) (nomark _)) (pss_cons (ps_asg (pe_tupN (pa_cons (pe_call F__law_value (hr.mono (by decide)) (by rfl) g__law_value k__law_value b__law_value .nil pass0 (pa_cons (pv 0) (pa_cons (pv 2) (pa_nil)))) (pa_cons (pe_op u_addN (pe_int) (pe_op u_mulN (pe_int) (pe_call F__law_draw (hr.mono (by decide)) (by rfl) g__law_draw k__law_draw b__law_draw .nil pass0 (pa_cons (pv 0) (pa_cons (pe_int) (pa_nil)))))) (pa_nil)))) (pg_tup rfl (pgs_cons (pg_name (i := 5) nd rfl (by first | exact Or.inl rfl | exact Or.inr rfl)) (pgs_cons (pg_name (i := 6) nd rfl (by first | exact Or.inl rfl | exact Or.inr rfl)) (pgs_nil))))) (pss_one (ps_ret (pe_tupN (pa_cons (pe_str) (pa_cons (pe_callTy call_tuple_ofN (by rfl) B.b_tuple (by decide +kernel) (pa_cons (pe_lc (own := [("_law_k", 7)]) rfl nd (pi_range1 (by rfl) B.b_range (pa_cons (pe_callB (call_min2 rfl) (by rfl) B.b_min (by decide +kernel) (pa_cons (pv 3) (pa_cons (pe_op u_addN (pe_int) (pe_call F__law_draw (hr.mono (by decide)) (by rfl) g__law_draw k__law_draw b__law_draw .nil pass0 (pa_cons (pv 0) (pa_cons (pe_int) (pa_nil))))) (pa_nil)))) (pa_nil))) (blkOk_by (own := [("_law_k", 7)]) (N := N__law_kind) (sc := defScope s__law_kind) (by decide +kernel)) (fun _ _ _ _ _ => pg_name (i := 7) nd rfl (by first | exact Or.inl rfl | exact Or.inr rfl)) (fun _ _ _ _ _ => pts_nil) (fun _ _ _ _ _ => pe_op u_mod (pe_op u_addN (pv 5) (pe_op u_mulN (pv 6) (pv 7))) (pv 3))) (pa_nil))) (pa_nil))))))) (pss_nil)) (pss_cons (ps_if (PW.pt (pw_and (pt_cmpR u_lt (pv 4) (pe_int) (nomark _)) (pw_and1 (pt_cmpR u_gt (pv 1) (pe_int) (nomark _))))) (pss_one (ps_ret (pe_tupN (pa_cons (pe_str) (pa_cons (pe_call F__law_draw (hr.mono (by decide)) (by rfl) g__law_draw k__law_draw b__law_draw .nil pass0 (pa_cons (pv 0) (pa_cons (pv 1) (pa_nil)))) (pa_cons (pe_ix u_ix (pe_lst (pa_cons (pe_int) (pa_cons (pe_un un_neg (pe_int)) (pa_cons (pe_op u_sub (pe_call F__law_draw (hr.mono (by decide)) (by rfl) g__law_draw k__law_draw b__law_draw .nil pass0 (pa_cons (pv 0) (pa_cons (pe_int) (pa_nil)))) (pe_int)) (pa_nil))))) (pe_call F__law_draw (hr.mono (by decide)) (by rfl) g__law_draw k__law_draw b__law_draw .nil pass0 (pa_cons (pv 0) (pa_cons (pe_int) (pa_nil)))) (fun _ _ => rfl)) (pa_nil))))))) (pss_nil)) (pss_one (ps_ret (pe_ix u_ix (pe_lst (pa_cons (pe_tupN (pa_cons (pe_str) (pa_nil))) (pa_cons (pe_tupN (pa_cons (pe_str) (pa_nil))) (pa_nil)))) (pe_call F__law_draw (hr.mono (by decide)) (by rfl) g__law_draw k__law_draw b__law_draw .nil pass0 (pa_cons (pv 0) (pa_cons (pe_int) (pa_nil)))) (fun _ _ => rfl))))))), ?_⟩
        clear hr
        clear F__law_draw g__law_draw k__law_draw b__law_draw d__law_draw a__law_draw
        clear F__law_value g__law_value k__law_value b__law_value d__law_value a__law_value
        rw [show L2.start N__law_kind [v_pot_here, v_many, v_breadth] = [some v_pot_here, some v_many, some v_breadth, none, none, none, none, none] from rfl]
        obtain ⟨pl, b, n, hp, rfl, hpl, rfl, hb0, hb1, hn, q⟩ := h
        have pb := p2_pos b
        have pb2 : 2 ≤ p2 b := p2_le (m := 1) hb0
        have pbl : p2 b < 1267650600228229401496703205376 := Int.lt_of_le_of_lt (p2_le (show b ≤ 40 by omega)) (by decide +kernel)
        walk_at "Zs"
        rename_i way G1 f1 w0 w1 b1 p2' G2 n2 f2 h2
        refine w_dec (fun c1 => ?_) (fun c1 => ?_)
        · walk_at "Zs"
          tbr_iter (fun t => 0 ≤ t ∧ t < p2 b)
          intro m hm
          walk_at "Zs"
          rename_i m1 G3 f3 m10 m11 b3 p4 G4 n4 f4 h4 d5 G5 f5 d50 d51 b5 p6 G6 n6 f6 h6
          exact q (.step (m % p2 b)) _ _ (by walk_at "Zkx") (box_mono f6 (box_le (by omega) b5)) (dq_new h6 (dqs_two (.str _) (.int _))) ⟨Int.emod_nonneg _ (by omega), Int.emod_lt_of_pos _ pb⟩
        · walk_at "Zs"
          refine w_dec (fun c2 => ?_) (fun c2 => ?_)
          · walk_at "Zs"
            rename_i fst G3 f3 a0 a1 b3 d4 G4 f4 d40 d41 b4 p5 G5 n5 f5 h5 d6 G6 f6 d60 d61 b6
            have hm : 2 ≤ (if 2 + d6 < p2 b then 2 + d6 else p2 b) ∧ (if 2 + d6 < p2 b then 2 + d6 else p2 b) ≤ p2 b ∧ (if 2 + d6 < p2 b then 2 + d6 else p2 b) ≤ 12 := by split <;> omega
            generalize (if 2 + d6 < p2 b then 2 + d6 else p2 b) = m at hm
            walk_at "Zs"
            refine lcR (n := m.toNat) (fun i acc _ => ∃ ns : List Int, acc = ns.map V.int ∧ ns.length = i ∧ ns.Nodup ∧ ∀ n ∈ ns, ∃ j : Int, 0 ≤ j ∧ j < i ∧ n = (fst + (1 + 2 * d4) * j) % p2 b) stb_pure (by omega) (fun i acc _ h => ?_) (fun _ _ => ⟨[], rfl, rfl, .nil, fun _ h => nomatch h⟩) (fun i acc H' hi e6 ea k k' hk hk' => ?_) fun D acc H6 hD e6 hD' ea => ?_
            · obtain ⟨ns, rfl, h, _⟩ := h
              rw [List.length_map, h]
              exact Nat.le_refl _
            · obtain ⟨ns, rfl, hl, hn', hj⟩ := ea
              walk_at "Zs"
              refine hk _ _ (Same.refl _) ⟨ns ++ [_], by rw [List.map_append]; rfl, by rw [List.length_append, hl]; rfl, ?_, fun n hn2 => ?_⟩
              · rw [List.nodup_append]
                refine ⟨hn', by simp, fun y hy w hw e => ?_⟩
                rw [List.mem_singleton.mp hw] at e
                obtain ⟨j, j0, j1, ej⟩ := hj y hy
                rw [ej] at e
                exact turn_neF (by omega) j0 j1 (by omega) e
              · rcases List.mem_append.mp hn2 with hn2 | hn2
                · obtain ⟨j, j0, j1, ej⟩ := hj n hn2
                  exact ⟨j, j0, by omega, ej⟩
                · rw [List.mem_singleton.mp hn2]
                  exact ⟨i, by omega, by omega, rfl⟩
            · obtain ⟨ns, rfl, hl, hn', hj⟩ := ea
              walk_at "Zs"
              refine w_tupleN (SqL.of hD') fun p H7 np e7 hT => ?_
              walk_at "Zs"
              rename_i p8 G8 np8 f8 h8
              refine q (.turn ns) _ _ (by walk_at "Zkx") (box_mono (e6.trans (e7.trans f8)) (box_le (by omega) b6)) (dq_new h8 (dqs_two (.str _) (dq_mono f8 (dq_ofN hT)))) ⟨by omega, by omega, fun n hn2 => ?_, hn'⟩
              obtain ⟨j, _, _, rfl⟩ := hj n hn2
              exact ⟨Int.emod_nonneg _ (by omega), Int.emod_lt_of_pos _ pb⟩
          · walk_at "Zs"
            have fin : ∀ H1 n1, Sx H H1 → BoxAt W false n1 H1 v_pot_here → n1 ≤ n + 4 → (tRet (tOp (rIxU W.K) (tLst (tCons (tTupN (tCons (tC (.str "still")) (tNil))) (tCons (tTupN (tCons (tC (.str "drawn")) (tNil))) (tNil)))) (tCall (sp__law_draw W) [] E0 (tCons (tVar 0) (tCons (tC (.int 2)) (tNil)))))) ⟨fun _ _ => False, Q, fun _ _ => False, fun _ _ => False⟩ [some v_pot_here, some (.int (pl : Int)), some (.int b), some (.int (p2 b)), some (.int way), none, none, none] H1 := fun H1 n1 z1 bz ln => by
              walk_at "Zs"
              rename_i q1 K1 m1 g1 i1 q2 K2 m2 g2 i2 q3 K3 m3 g3 i3 d4 K4 g4 d40 d41 b4
              refine w_ixP (fun x => x = .ref q1 ∨ x = .ref q2) (by walk_at "Zsql") (by omega) (by walk_at "Zlen") (fun x hx => by simpa using hx) fun x hx => ?_
              rcases hx with rfl | rfl
              · exact q .still _ _ (by walk_at "Zkx") (box_le (by omega) b4) (dqx (by walk_at "Zkx") (dq_new i1 (dqs_one (.str _)))) trivial
              · exact q .drawn _ _ (by walk_at "Zkx") (box_le (by omega) b4) (dqx (by walk_at "Zkx") (dq_new i2 (dqs_one (.str _)))) trivial
            refine w_dec (fun c3 => ?_) (fun c3 => ?_)
            · walk_at "Zs"
              refine w_dec (fun c4 => ?_) (fun c4 => ?_)
              · walk_at "Zs"
                tbr_iter (fun t => -99 ≤ t ∧ t ≤ 99)
                intro m hm
                walk_at "Zs"
                rename_i d3 G3 f3 d30 d31 b3 d4 G4 f4 d40 d41 b4 p5 G5 n5 f5 h5 d6 G6 f6 d60 d61 b6 p7 G7 n7 f7 h7
                exact q (.wth d3 m) _ _ (by walk_at "Zkx") (box_mono f7 (box_le (by omega) b6)) (dq_new h7 (.cons (.str _) (dqs_two (.int _) (.int _)))) ⟨d30, d31, hm⟩
              · exact fin _ _ (by walk_at "Zkx") (box_mono f2 b1) (by omega)
            · exact fin _ _ (by walk_at "Zkx") (box_mono f2 b1) (by omega)
  exact F0
theorem c__law_kind {W : Wd} {mg : Str → Option Value} {base : Heap} (B : Bi mg) (S : Src W.K mg "_law_kind" s__law_kind) (T : Kl W.K mg) (C__law_draw : Cal W mg base "_law_draw" 1 ["_law_pot_here", "_law_many"] (sp__law_draw W)) (C__law_value : Cal W mg base "_law_value" 2 ["_law_pot_here", "_law_breadth"] (sp__law_value W)) : Cal W mg base "_law_kind" 3 ["_law_pot_here", "_law_many", "_law_breadth"] (sp__law_kind W) := by
  obtain ⟨f, fd, g, F⟩ := S
  exact ⟨f, fd, g, f__law_kind B F T C__law_draw C__law_value, F.kp, (F.binds (ps := ["_law_pot_here", "_law_many", "_law_breadth"]) fun _ _ _ _ _ _ us hl => match us, hl with | [_, _, _], _ => rfl)⟩
theorem go__law_kind {W : Wd} {H : Hp} {Q : VK} {E : XK} {v : V} {pl : Nat} {b n : Int} (hp : BoxAt W false n H v) (hpl : pl ≤ 11) (h0 : 1 ≤ b) (h1 : b ≤ 40) (hn : n ≤ 999990000) (q : ∀ (k : Kd) u H', Sx H H' → BoxAt W false (n + 12) H' v → Dq W.K H' u (kdD k) → OkKd pl b k → Q u H') : sp__law_kind W [v, .int (pl : Int), .int b] H Q E := ⟨pl, b, n, hp, rfl, hpl, rfl, h0, h1, hn, q⟩
def sp__law_shape (W : Wd) : Sp := fun vs H Q _ => match vs with
  | [v_pot_here] =>
  ∃ n : Int, BoxAt W false n H v_pot_here ∧ n ≤ 999980000 ∧ ∀ (s : Shp) v H', Sx H H' → BoxAt W false (n + 230) H' v_pot_here → Dq W.K H' v (shD s) → OkShp s → Q v H'
  | _ => False
abbrev N__law_shape : List Str := ["_law_pot_here", "_law_fields", "_law_name", "_law_breadth"]
theorem sc__law_shape : FnScope N__law_shape ["_law_pot_here"] (defScope s__law_shape) := ⟨rfl, rfl, rfl, by decide +kernel, rfl, by decide +kernel, by decide +kernel⟩
theorem f__law_shape {W : Wd} {mg : Str → Option Value} {base : Heap} (B : Bi mg) {f : Addr} {fd : FuncData} (F : Fun W.K "_law_shape" "_law_shape" s__law_shape f fd) (T : Kl W.K mg) (C__law_draw : Cal W mg base "_law_draw" 1 ["_law_pot_here", "_law_many"] (sp__law_draw W)) (C__law_size : Cal W mg base "_law_size" 2 ["_law_pot_here", "_law_few", "_law_most"] (sp__law_size W)) (C__law_names : Cal W mg base "_law_names" 3 ["_law_pot_here", "_law_many"] (sp__law_names W)) (C__law_kind : Cal W mg base "_law_kind" 3 ["_law_pot_here", "_law_many", "_law_breadth"] (sp__law_kind W)) : FnOk W.P W.w W.K mg base CX0 4 f fd ["_law_pot_here"] (sp__law_shape W) := by
  obtain ⟨a__law_draw, d__law_draw, g__law_draw, F__law_draw, k__law_draw, b__law_draw⟩ := C__law_draw
  obtain ⟨a__law_size, d__law_size, g__law_size, F__law_size, k__law_size, b__law_size⟩ := C__law_size
  obtain ⟨a__law_names, d__law_names, g__law_names, F__law_names, k__law_names, b__law_names⟩ := C__law_names
  obtain ⟨a__law_kind, d__law_kind, g__law_kind, F__law_kind, k__law_kind, b__law_kind⟩ := C__law_kind
  have nd := sc__law_shape.nd
  have F0 : FnOk W.P W.w W.K mg base CX0 4 f fd ["_law_pot_here"] (sp__law_shape W) := by
    refine F.ok sc__law_shape (fun vs H Q E h => ?_) (fun cdv A outer s H vs Q E hr h => ?_)
    · match vs, h with | [_], _ => rfl
    · match vs, h with
      | [v_pot_here], h =>
        change sp__law_shape W [v_pot_here] H Q E at h
        refine ⟨tSeq (tAsg (tLst (tNil)) (gName 1)) (tSeq (tFor (iAny W.K (tCall (sp__law_names W) [] E0 (tCons (tVar 0) (tCons (tCall (sp__law_size W) [] E0 (tCons (tVar 0) (tCons (tC (.int 3)) (tCons (tC (.int 12)) (tNil))))) (tNil))))) (gName 2) (tSeq (tAsg (tOp (rIxU W.K) (tLst (tCons (tOp (rAddN W.K) (tC (.int 1)) (tCall (sp__law_draw W) [] E0 (tCons (tVar 0) (tCons (tC (.int 8)) (tNil))))) (tCons (tOp (rAddN W.K) (tC (.int 1)) (tCall (sp__law_draw W) [] E0 (tCons (tVar 0) (tCons (tC (.int 8)) (tNil))))) (tCons (tC (.int 16)) (tCons (tOp (rAddN W.K) (tC (.int 1)) (tCall (sp__law_draw W) [] E0 (tCons (tVar 0) (tCons (tC (.int 40)) (tNil))))) (tCons (tC (.int 40)) (tNil))))))) (tCall (sp__law_draw W) [] E0 (tCons (tVar 0) (tCons (tC (.int 5)) (tNil))))) (gName 3)) (tDrop (tBM W.K "list" rAppend (tVar 1) (tCons (tTupN (tCons (tVar 2) (tCons (tVar 3) (tCons (tCall (sp__law_kind W) [] E0 (tCons (tVar 0) (tCons (tCB (rLenU W.K) (tCons (tVar 1) (tNil))) (tCons (tVar 3) (tNil))))) (tNil))))) (tNil)))))) (tRet (tTupN (tCons (tCB (rTupleOfN W.K) (tCons (tVar 1) (tNil))) (tCons (tOp (rIxU W.K) (tLst (tCons (tC (.int 251)) (tCons (tC (.int 1)) (tCons (tC (.int 2)) (tCons (tC (.int 16)) (tCons (tOp (rCon 10 6 1000000) (tC (.int 10)) (tC (.int 6))) (tCons (tOp (rAddN W.K) (tC (.int 1)) (tCall (sp__law_draw W) [] E0 (tCons (tVar 0) (tCons (tOp (rCon 10 6 1000000) (tC (.int 10)) (tC (.int 6))) (tNil))))) (tNil)))))))) (tCall (sp__law_draw W) [] E0 (tCons (tVar 0) (tCons (tC (.int 6)) (tNil))))) (tNil)))))), pss_cons (ps_set (i := 1) nd rfl (.inl rfl) (pe_lst (pa_nil))) (pss_cons (ps_for PassesOwn.never rfl (pi_any (pe_call F__law_names (hr.mono (by decide)) (by rfl) g__law_names k__law_names b__law_names .nil pass0 (pa_cons (pv 0) (pa_cons (pe_call F__law_size (hr.mono (by decide)) (by rfl) g__law_size k__law_size b__law_size .nil pass0 (pa_cons (pv 0) (pa_cons (pe_int) (pa_cons (pe_int) (pa_nil))))) (pa_nil))))) (pg_name (i := 2) nd rfl (by first | exact Or.inl rfl | exact Or.inr rfl)) (pss_cons (ps_set (i := 3) nd rfl (.inl rfl) (pe_ix u_ix (pe_lst (pa_cons (pe_op u_addN (pe_int) (pe_call F__law_draw (hr.mono (by decide)) (by rfl) g__law_draw k__law_draw b__law_draw .nil pass0 (pa_cons (pv 0) (pa_cons (pe_int) (pa_nil))))) (pa_cons (pe_op u_addN (pe_int) (pe_call F__law_draw (hr.mono (by decide)) (by rfl) g__law_draw k__law_draw b__law_draw .nil pass0 (pa_cons (pv 0) (pa_cons (pe_int) (pa_nil))))) (pa_cons (pe_int) (pa_cons (pe_op u_addN (pe_int) (pe_call F__law_draw (hr.mono (by decide)) (by rfl) g__law_draw k__law_draw b__law_draw .nil pass0 (pa_cons (pv 0) (pa_cons (pe_int) (pa_nil))))) (pa_cons (pe_int) (pa_nil))))))) (pe_call F__law_draw (hr.mono (by decide)) (by rfl) g__law_draw k__law_draw b__law_draw .nil pass0 (pa_cons (pv 0) (pa_cons (pe_int) (pa_nil)))) (fun _ _ => rfl))) (pss_one (ps_expr (pe_bm PySem.F.plainAttrs_list PySem.F.slot_list_append PySem.F.type_list_append mt_append (pv 1) (pa_cons (pe_tupN (pa_cons (pv 2) (pa_cons (pv 3) (pa_cons (pe_call F__law_kind (hr.mono (by decide)) (by rfl) g__law_kind k__law_kind b__law_kind .nil pass0 (pa_cons (pv 0) (pa_cons (pe_callB u_len (by rfl) B.b_len (by decide +kernel) (pa_cons (pv 1) (pa_nil))) (pa_cons (pv 3) (pa_nil))))) (pa_nil))))) (pa_nil))))))) (pss_one (ps_ret (pe_tupN (pa_cons (pe_callTy call_tuple_ofN (by rfl) B.b_tuple (by decide +kernel) (pa_cons (pv 1) (pa_nil))) (pa_cons (pe_ix u_ix (pe_lst (pa_cons (pe_int) (pa_cons (pe_int) (pa_cons (pe_int) (pa_cons (pe_int) (pa_cons (pe_op (u_powc ⟨by decide, by decide, by decide⟩ (by decide +kernel)) pe_int pe_int) (pa_cons (pe_op u_addN (pe_int) (pe_call F__law_draw (hr.mono (by decide)) (by rfl) g__law_draw k__law_draw b__law_draw .nil pass0 (pa_cons (pv 0) (pa_cons (pe_op (u_powc ⟨by decide, by decide, by decide⟩ (by decide +kernel)) pe_int pe_int) (pa_nil))))) (pa_nil)))))))) (pe_call F__law_draw (hr.mono (by decide)) (by rfl) g__law_draw k__law_draw b__law_draw .nil pass0 (pa_cons (pv 0) (pa_cons (pe_int) (pa_nil)))) (fun _ _ => rfl)) (pa_nil))))))), ?_⟩
        clear hr
        clear F__law_draw g__law_draw k__law_draw b__law_draw d__law_draw a__law_draw
        clear F__law_size g__law_size k__law_size b__law_size d__law_size a__law_size
        clear F__law_names g__law_names k__law_names b__law_names d__law_names a__law_names
        clear F__law_kind g__law_kind k__law_kind b__law_kind d__law_kind a__law_kind
        rw [show L2.start N__law_shape [v_pot_here] = [some v_pot_here, none, none, none] from rfl]
        obtain ⟨n, hp, hn, q⟩ := h
        walk_at "Zs"
        rename_i D G1 nD f1 hD1
        refine go__law_size (box_mono f1 hp) (by omega) (by decide) (by decide) (by decide) fun m G2 f2 b2 m0 m1 => ?_
        walk_at "Zs"
        refine go__law_names b2 (by omega) (by omega) (by omega) fun pn zs G3 f3 b3 nn hz lz okz ndz => ?_
        walk_at "Zs"
        have nDn : pn ≠ D := fun z => by
          have := f2.keep _ _ hD1 rfl
          rw [z, this] at nn
          cases nn
        refine w_goL (SqL.of hz) ?_
        have S3 : Sx H G3 := (Same.sx f1).trans (f2.trans f3)
        refine forL (fun i σ' H' => (∃ y2 y3, σ' = [some v_pot_here, some (.ref D), y2, y3]) ∧ Sx H H' ∧ BoxAt W false (n + 4 + 18 * (i : Int)) H' v_pot_here ∧ H' pn = some (.lst (zs.map V.str)) ∧ ∃ (fs : List Fd) (vs : List V), H' D = some (.lst vs) ∧ DqAll W.K H' vs (fs.map fdD) ∧ fs.map Fd.nm = zs.take i ∧ ∀ j f, fs[j]? = some f → OkFd j f) ⟨⟨_, _, rfl⟩, S3, box_le (by omega) b3, hz, [], [], f3.keep _ _ (f2.keep _ _ hD1 rfl) rfl, .nil, rfl, fun j f h => by simp at h⟩ (fun i σ' H' _ h => SqL.of h.2.2.2.1) (fun i x σ' H1 hx h => ?_) (fun σ' H1 h => ?_)
        · obtain ⟨⟨y2, y3, rfl⟩, S1, b1, hn1, fs, vs, hD, hvs, hfn, hok⟩ := h
          rw [List.getElem?_map] at hx
          obtain ⟨z, hzi, rfl⟩ := Option.map_eq_some_iff.mp hx
          have hi := (List.getElem?_eq_some_iff.mp hzi).1
          have hfl : fs.length = i := by rw [← List.length_map (f := Fd.nm), hfn, List.length_take]; omega
          have lv := dqs_len hvs
          rw [List.length_map] at lv
          walk_at "Zs"
          tbr_iter (fun t => 1 ≤ t ∧ t ≤ 40)
          intro br hbr
          walk_at "Zs"
          rename_i d4 G4 f4 d40 d41 b4 d5 G5 f5 d50 d51 b5 d6 G6 f6 d60 d61 b6 p7 G7 n7 f7 h7 d8 G8 f8 d80 d81 b8
          have S8 : Sx H1 G8 := by walk_at "Zkx"
          refine w_tyL (S8.keep _ _ hD rfl) ?_
          walk_at "Zs"
          refine w_lenL (SqL.of (S8.keep _ _ hD rfl)) ?_
          rw [lv, hfl]
          walk_at "Zs"
          refine go__law_kind b8 (by omega) hbr.1 hbr.2 (by omega) fun kd kv GD fD bD hkd hk => ?_
          walk_at "Zs"
          rename_i pA GA npA fA hA
          have zA : Sx H1 GA := S8.trans (fD.trans (Same.sx fA))
          have hDA := zA.keep _ _ hD rfl
          refine w_append hDA (by omega) ?_
          walk_at "Zs"
          have hf : Dq W.K GA (.ref pA) (fdD ⟨z, br, kd⟩) := dq_new hA (.cons (.str _) (dqs_two (.int br) (dq_mono fA hkd)))
          refine ⟨⟨_, _, rfl⟩, sx_mut (S1.trans zA) nD, box_lst (box_mono fA (box_le (by omega) bD)) hDA, by rw [upd_ne nDn]; exact zA.keep _ _ hn1 rfl, fs ++ [⟨z, br, kd⟩], vs ++ [.ref pA], upd_same, ?_, ?_, fun j g hg => ?_⟩
          · rw [List.map_append]
            refine dqs_lst hDA (dqs_app (dqsx zA hvs) (dqs_one hf)) ?_
            rw [← List.map_append]
            exact tupO_fds _
          · rw [List.map_append, hfn, take_snoc hzi]
            rfl
          · by_cases hj2 : j < fs.length
            · rw [List.getElem?_append_left hj2] at hg
              exact hok j g hg
            · rw [List.getElem?_append_right (by omega)] at hg
              have e : j = fs.length := by
                by_cases c : j - fs.length = 0
                · omega
                · rw [List.getElem?_eq_none (by simp; omega)] at hg
                  cases hg
              subst e
              rw [Nat.sub_self] at hg
              rw [← Option.some.inj hg, hfl]
              exact ⟨okz z (List.mem_of_getElem? hzi), hbr.1, hbr.2, hk⟩
        · obtain ⟨⟨y2, y3, rfl⟩, S1, b1, hn1, fs, vs, hD, hvs, hfn, hok⟩ := h
          rw [List.length_map] at hfn b1
          rw [List.take_of_length_le (Nat.le_refl _)] at hfn
          have hfl : fs.length = zs.length := by rw [← hfn, List.length_map]
          walk_at "Zs"
          refine w_tupleN (SqL.of hD) fun p6 G6 np6 f6 h6 => ?_
          walk_at "Zs"
          tbr_iter (fun t => 1 ≤ t ∧ t ≤ 1000000)
          intro m2 hm2
          walk_at "Zs"
          rename_i d7 G7 f7 d70 d71 b7 p8 G8 n8 f8 h8 d9 G9 f9 d90 d91 b9 pA GA npA fA hA
          have z6 : Sx G6 GA := by walk_at "Zkx"
          refine q ⟨fs, m2⟩ _ _ (S1.trans ((Same.sx f6).trans z6)) (box_mono fA (box_le (by omega) b9)) (dq_new hA (dqs_two (.tup (sx_n z6 (.inl h6)) (dqsx ((Same.sx f6).trans z6) hvs)) (.int m2))) ⟨?_, ?_, hok, ?_, hm2.1, hm2.2⟩
          · show 1 ≤ fs.length
            omega
          · show fs.length ≤ 12
            omega
          · show (fs.map Fd.nm).Nodup
            rw [hfn]
            exact ndz
  exact F0
theorem c__law_shape {W : Wd} {mg : Str → Option Value} {base : Heap} (B : Bi mg) (S : Src W.K mg "_law_shape" s__law_shape) (T : Kl W.K mg) (C__law_draw : Cal W mg base "_law_draw" 1 ["_law_pot_here", "_law_many"] (sp__law_draw W)) (C__law_size : Cal W mg base "_law_size" 2 ["_law_pot_here", "_law_few", "_law_most"] (sp__law_size W)) (C__law_names : Cal W mg base "_law_names" 3 ["_law_pot_here", "_law_many"] (sp__law_names W)) (C__law_kind : Cal W mg base "_law_kind" 3 ["_law_pot_here", "_law_many", "_law_breadth"] (sp__law_kind W)) : Cal W mg base "_law_shape" 4 ["_law_pot_here"] (sp__law_shape W) := by
  obtain ⟨f, fd, g, F⟩ := S
  exact ⟨f, fd, g, f__law_shape B F T C__law_draw C__law_size C__law_names C__law_kind, F.kp, (F.binds (ps := ["_law_pot_here"]) fun _ _ _ _ _ _ us hl => match us, hl with | [_], _ => rfl)⟩
theorem go__law_shape {W : Wd} {H : Hp} {Q : VK} {E : XK} {v : V} {n : Int} (hp : BoxAt W false n H v) (hn : n ≤ 999980000) (q : ∀ (s : Shp) u H', Sx H H' → BoxAt W false (n + 230) H' v → Dq W.K H' u (shD s) → OkShp s → Q u H') : sp__law_shape W [v] H Q E := ⟨n, hp, hn, q⟩
def sp__law_head_text (W : Wd) : Sp := fun vs H Q _ => match vs with
  | [v_head] =>
  ∃ ns : List Int, Dq W.K H v_head (headD ns) ∧ ns.length ≤ 1000 ∧ (∀ n ∈ ns, 0 ≤ n ∧ n < 10 ^ 15) ∧ ∀ H', Same H H' → Q (.str (headT ns)) H'
  | _ => False
abbrev N__law_head_text : List Str := ["_law_head", "_law_value_here"]
theorem sc__law_head_text : FnScope N__law_head_text ["_law_head"] (defScope s__law_head_text) := ⟨rfl, rfl, rfl, by decide +kernel, rfl, by decide +kernel, by decide +kernel⟩
theorem f__law_head_text {W : Wd} {mg : Str → Option Value} {base : Heap} (B : Bi mg) {f : Addr} {fd : FuncData} (F : Fun W.K "_law_head_text" "_law_head_text" s__law_head_text f fd) (T : Kl W.K mg)  : FnOk W.P W.w W.K mg base CX0 1 f fd ["_law_head"] (sp__law_head_text W) := by
  have nd := sc__law_head_text.nd
  have F0 : FnOk W.P W.w W.K mg base CX0 1 f fd ["_law_head"] (sp__law_head_text W) := by
    refine F.ok sc__law_head_text (fun vs H Q E h => ?_) (fun cdv A outer s H vs Q E hr h => ?_)
    · match vs, h with | [_], _ => rfl
    · match vs, h with
      | [v_head], h =>
        change sp__law_head_text W [v_head] H Q E at h
        refine ⟨tRet (tM1 (rJoinU W.K) (tC (.str ".")) (tLc (iAny W.K (tVar 0)) (gName 1) (tYes) (tCB (rStrU) (tCons (tVar 1) (tNil))) [1])), pss_one (ps_ret (pe_join (pe_str) (pe_lc (own := [("_law_value_here", 1)]) rfl nd (pi_any (pv 0)) (blkOk_by (own := [("_law_value_here", 1)]) (N := N__law_head_text) (sc := defScope s__law_head_text) (by decide +kernel)) (fun _ _ _ _ _ => pg_name (i := 1) nd rfl (by first | exact Or.inl rfl | exact Or.inr rfl)) (fun _ _ _ _ _ => pts_nil) (fun _ _ _ _ _ => pe_callTy u_str (by rfl) B.b_str (by decide +kernel) (pa_cons (pv 1) (pa_nil)))))), ?_⟩
        clear hr
        rw [show L2.start N__law_head_text [v_head] = [some v_head, none] from rfl]
        obtain ⟨ns, hh, ln, hn, q⟩ := h
        have t15 := ten15
        obtain ⟨a, rfl, ha⟩ := dq_ti hh
        walk_at "Zs"
        refine w_goT ha.t ?_
        refine lcT ha.t (fun i acc _ => acc = ((ns.take i).map sgS).map V.str) stb_pure (by rw [List.length_map]; omega) (fun i acc _ e => by rw [e, List.length_map, List.length_map, List.length_take]; omega) (fun _ _ => rfl) (fun i x acc H' hx e ea k k' hk1 hk' => ?_) fun D acc H1 hD e1 hD' ea => ?_
        · rw [List.getElem?_map] at hx
          obtain ⟨n, hn1, rfl⟩ := Option.map_eq_some_iff.mp hx
          have := hn n (List.mem_of_getElem? hn1)
          walk_at "Zs"
          refine w_strS6 (by omega) (by omega) ?_
          refine hk1 _ _ (Same.refl _) ?_
          rw [ea, take_snoc hn1, List.map_append, List.map_append]
          rfl
        · rw [List.length_map, List.take_of_length_le (Nat.le_refl _)] at ea
          subst ea
          refine w_joinL (ys := ns.map sgS) (SqL.of hD') (Nat.le_trans (head_join ln hn) (by decide)) ?_
          walk_at "Zs"
          exact q _ e1
  exact F0
theorem c__law_head_text {W : Wd} {mg : Str → Option Value} {base : Heap} (B : Bi mg) (S : Src W.K mg "_law_head_text" s__law_head_text) (T : Kl W.K mg)  : Cal W mg base "_law_head_text" 1 ["_law_head"] (sp__law_head_text W) := by
  obtain ⟨f, fd, g, F⟩ := S
  exact ⟨f, fd, g, f__law_head_text B F T , F.kp, (F.binds (ps := ["_law_head"]) fun _ _ _ _ _ _ us hl => match us, hl with | [_], _ => rfl)⟩
theorem go__law_head_text {W : Wd} {H : Hp} {Q : VK} {E : XK} {v : V} {ns : List Int} (hh : Dq W.K H v (headD ns)) (ln : ns.length ≤ 1000) (hn : ∀ n ∈ ns, 0 ≤ n ∧ n < 10 ^ 15) (q : ∀ H', Same H H' → Q (.str (headT ns)) H') : sp__law_head_text W [v] H Q E := ⟨ns, hh, ln, hn, q⟩
theorem kit_tl {K : PySem.W.Frag} {t : String} {r1 r2 : Bool} (h1 : kitB t "tuple" = some r1) (h2 : kitB t "list" = some r2) : PySem.W.kitAny K (.type t) [.type "tuple", .type "list"] = some (r1 || r2) :=
  kitAny_cons (kit_ty h1) (fun hb => by rw [hb, Bool.false_or]; exact kitAny_cons (kit_ty h2) (fun hb2 => by rw [hb2]; exact kitAny_nil) (fun hb2 => by rw [hb2])) (fun hb => by rw [hb, Bool.true_or])
theorem w_isTL {K : PySem.W.Frag} {H1 : Hp} {Q : VK} {v : V} {d : PyData} {p : Addr} (h : Dq K H1 v d) (hp : H1 p = some (.tup [.ty "tuple", .ty "list"])) (q : Q (.bl (isTupD d || isListD d)) H1) : rIsiT K [v, .ref p] H1 Q := by
  refine ⟨v, p, _, _, [.type "tuple", .type "list"], _, rfl, hp, .cons (.ty "tuple") (.cons (.ty "list") .nil), ty_of (dq_dp h), kit_tl (r1 := isTupD d) (r2 := isListD d) ?_ ?_, q⟩
  · cases d <;> first | exact (dp_nodict (dq_dp h) rfl).elim | (simp only [tyD, isTupD]; decide +kernel)
  · cases d <;> first | exact (dp_nodict (dq_dp h) rfl).elim | (simp only [tyD, isListD]; decide +kernel)
/-- of so many floors, without dicts -/
def PlL : Nat → PyData → Prop
  | _, .none => True
  | _, .int _ => True
  | _, .bool _ => True
  | _, .str _ => True
  | n + 1, .tuple ds => ds.length ≤ 1000 ∧ ∀ d ∈ ds, PlL n d
  | n + 1, .list ds => ds.length ≤ 1000 ∧ ∀ d ∈ ds, PlL n d
  | _, _ => False
theorem w_islst' {K : PySem.W.Frag} {H : Hp} {Q : VK} {v : V} {d : PyData} (h : Dp K H v d) (q : Q (.bl (isListD d)) H) : rIsi K [v, .ty "list"] H Q := w_isi h (by cases d <;> first | exact (dp_nodict h rfl).elim | (simp only [tyD, isListD]; decide +kernel)) q
def sp__law_same_ (n : Nat) (W : Wd) : Sp := fun vs H Q _ => match vs with
  | [v_found_here, v_due] =>
  ∃ d, Dq W.K H v_found_here d ∧ Dq W.K H v_due d ∧ PlL n d ∧ ∀ H', Same H H' → Q (.bl true) H'
  | _ => False
def spr__law_same : Nat → Wd → Sp
  | 0, _ => fun _ _ _ _ => False
  | n + 1, W => sp__law_same_ n W
abbrev sp__law_same (W : Wd) : Sp := sp__law_same_ 6 W
abbrev N__law_same : List Str := ["_law_found_here", "_law_due", "_law_one", "_law_other"]
theorem sc__law_same : FnScope N__law_same ["_law_found_here", "_law_due"] (defScope s__law_same) := ⟨rfl, rfl, rfl, by decide +kernel, rfl, by decide +kernel, by decide +kernel⟩
theorem f__law_same_ {W : Wd} {mg : Str → Option Value} {base : Heap} (B : Bi mg) {f : Addr} {fd : FuncData} (F : Fun W.K "_law_same" "_law_same" s__law_same f fd) (n : Nat) (T : Kl W.K mg)  (C__law_same : Cal W mg base "_law_same" (0 + n) ["_law_found_here", "_law_due"] (spr__law_same n W)) : FnOk W.P W.w W.K mg base CX0 (0 + n + 1) f fd ["_law_found_here", "_law_due"] (sp__law_same_ n W) := by
  obtain ⟨a__law_same, d__law_same, g__law_same, F__law_same, k__law_same, b__law_same⟩ := C__law_same
  have nd := sc__law_same.nd
  refine F.ok sc__law_same (fun vs H Q E h => ?_) (fun cdv A outer s H vs Q E hr h => ?_)
  · match vs, h with | [_, _], _ => rfl
  · match vs, h with
    | [v_found_here, v_due], h =>
        change sp__law_same_ n W [v_found_here, v_due] H Q E at h
        refine ⟨tSeq (tIfS (tB (tCB (rIsiT W.K) (tCons (tVar 1) (tCons (tTup (tCons (tC (.ty "tuple")) (tCons (tC (.ty "list")) (tNil)))) tNil)))) (tSeq (tIfS (tOr (tTest (tOp (rNeU W.K) (tCB (rIsi W.K) (tCons (tVar 0) (tCons (tC (.ty "tuple")) tNil))) (tCB (rIsi W.K) (tCons (tVar 1) (tCons (tC (.ty "tuple")) tNil))))) (tTest (tOp (rNeU W.K) (tCB (rIsi W.K) (tCons (tVar 0) (tCons (tC (.ty "list")) tNil))) (tCB (rIsi W.K) (tCons (tVar 1) (tCons (tC (.ty "list")) tNil)))))) (tRet (tC (.bl false))) (tNext)) (tRet (tAndV (tOp (rEqU W.K) (tCB (rLenU W.K) (tCons (tVar 0) (tNil))) (tCB (rLenU W.K) (tCons (tVar 1) (tNil)))) (tCB (rAll W.K) (tCons (tLc (iZipA W.K (tCons (tVar 0) (tCons (tVar 1) (tNil)))) (gTup W.K 2 (gCons (gName 2) (gCons (gName 3) (gNil)))) (tYes) (tCall (spr__law_same n W) [] E0 (tCons (tVar 2) (tCons (tVar 3) (tNil)))) [2, 3]) (tNil)))))) (tNext)) (tSeq (tIfS (tTest (tOp (rIsU) (tVar 1) (tC .non))) (tRet (tOp (rIsU) (tVar 0) (tC .non))) (tNext)) (tSeq (tIfS (tB (tCB (rIsi W.K) (tCons (tVar 1) (tCons (tC (.ty "bool")) tNil)))) (tRet (tAndV (tCB (rIsi W.K) (tCons (tVar 0) (tCons (tC (.ty "bool")) tNil))) (tOp (rEqU W.K) (tVar 0) (tVar 1)))) (tNext)) (tRet (tAndV (tOp (rEqU W.K) (tCB (rIsi W.K) (tCons (tVar 0) (tCons (tC (.ty "str")) tNil))) (tCB (rIsi W.K) (tCons (tVar 1) (tCons (tC (.ty "str")) tNil)))) (tAndV (tNotV (tCB (rIsi W.K) (tCons (tVar 0) (tCons (tC (.ty "bool")) tNil)))) (tOp (rEqU W.K) (tVar 0) (tVar 1))))))), pss_cons (ps_if (pt_val (pe_callB call_isiT (by rfl) B.b_isinstance (by decide +kernel) (pa_cons (pv 1) (pa_cons (pe_tup (pa_cons (pe_bltn (v := .ty "tuple") (u := .type "tuple") (by rfl) B.b_tuple (by decide +kernel) rfl) (pa_cons (pe_bltn (v := .ty "list") (u := .type "list") (by rfl) B.b_list (by decide +kernel) rfl) (pa_nil)))) pa_nil)))) (pss_cons (ps_if (PW.pt (pw_or (pt_cmpR (u_ne hr.units) (pe_callB call_isi (by rfl) B.b_isinstance (by decide +kernel) (pa_cons (pv 0) (pa_cons (pe_bltn (v := .ty "tuple") (u := .type "tuple") (by rfl) B.b_tuple (by decide +kernel) rfl) pa_nil))) (pe_callB call_isi (by rfl) B.b_isinstance (by decide +kernel) (pa_cons (pv 1) (pa_cons (pe_bltn (v := .ty "tuple") (u := .type "tuple") (by rfl) B.b_tuple (by decide +kernel) rfl) pa_nil))) (nomark _)) (pw_or1 (pt_cmpR (u_ne hr.units) (pe_callB call_isi (by rfl) B.b_isinstance (by decide +kernel) (pa_cons (pv 0) (pa_cons (pe_bltn (v := .ty "list") (u := .type "list") (by rfl) B.b_list (by decide +kernel) rfl) pa_nil))) (pe_callB call_isi (by rfl) B.b_isinstance (by decide +kernel) (pa_cons (pv 1) (pa_cons (pe_bltn (v := .ty "list") (u := .type "list") (by rfl) B.b_list (by decide +kernel) rfl) pa_nil))) (nomark _))))) (pss_one (ps_ret (pe_bl))) (pss_nil)) (pss_one (ps_ret (pe_and (pe_cmpR (u_eq hr.units) (pe_callB u_len (by rfl) B.b_len (by decide +kernel) (pa_cons (pv 0) (pa_nil))) (pe_callB u_len (by rfl) B.b_len (by decide +kernel) (pa_cons (pv 1) (pa_nil))) (nomark _)) (pe_one (pe_callB (cr_all rfl) (by rfl) B.b_all (by decide +kernel) (pa_cons (pe_lc (own := [("_law_one", 2), ("_law_other", 3)]) rfl nd (pi_zipA (by rfl) B.b_zip (pa_cons (pv 0) (pa_cons (pv 1) (pa_nil)))) (blkOk_by (own := [("_law_one", 2), ("_law_other", 3)]) (N := N__law_same) (sc := defScope s__law_same) (by decide +kernel)) (fun _ _ _ _ _ => pg_tup rfl (pgs_cons (pg_name (i := 2) nd rfl (by first | exact Or.inl rfl | exact Or.inr rfl)) (pgs_cons (pg_name (i := 3) nd rfl (by first | exact Or.inl rfl | exact Or.inr rfl)) (pgs_nil)))) (fun _ _ _ _ _ => pts_nil) (fun _ _ _ _ _ => pe_call F__law_same (hr.mono (by omega)) (by rfl) g__law_same k__law_same b__law_same .nil pass0 (pa_cons (pv 2) (pa_cons (pv 3) (pa_nil))))) (pa_nil)))))))) (pss_nil)) (pss_cons (ps_if (pt_cmpR u_is (pv 1) (pe_non) (nomark _)) (pss_one (ps_ret (pe_cmpR u_is (pv 0) (pe_non) (nomark _)))) (pss_nil)) (pss_cons (ps_if (pt_val (pe_callB call_isi (by rfl) B.b_isinstance (by decide +kernel) (pa_cons (pv 1) (pa_cons (pe_bltn (v := .ty "bool") (u := .type "bool") (by rfl) B.b_bool (by decide +kernel) rfl) pa_nil)))) (pss_one (ps_ret (pe_and (pe_callB call_isi (by rfl) B.b_isinstance (by decide +kernel) (pa_cons (pv 0) (pa_cons (pe_bltn (v := .ty "bool") (u := .type "bool") (by rfl) B.b_bool (by decide +kernel) rfl) pa_nil))) (pe_one (pe_cmpR (u_eq hr.units) (pv 0) (pv 1) (nomark _)))))) (pss_nil)) (pss_one (ps_ret (pe_and (pe_cmpR (u_eq hr.units) (pe_callB call_isi (by rfl) B.b_isinstance (by decide +kernel) (pa_cons (pv 0) (pa_cons (pe_bltn (v := .ty "str") (u := .type "str") (by rfl) B.b_str (by decide +kernel) rfl) pa_nil))) (pe_callB call_isi (by rfl) B.b_isinstance (by decide +kernel) (pa_cons (pv 1) (pa_cons (pe_bltn (v := .ty "str") (u := .type "str") (by rfl) B.b_str (by decide +kernel) rfl) pa_nil))) (nomark _)) (pe_and (pe_not (pe_callB call_isi (by rfl) B.b_isinstance (by decide +kernel) (pa_cons (pv 0) (pa_cons (pe_bltn (v := .ty "bool") (u := .type "bool") (by rfl) B.b_bool (by decide +kernel) rfl) pa_nil)))) (pe_one (pe_cmpR (u_eq hr.units) (pv 0) (pv 1) (nomark _))))))))), ?_⟩
        clear hr
        clear F__law_same g__law_same k__law_same b__law_same d__law_same a__law_same
        rw [show L2.start N__law_same [v_found_here, v_due] = [some v_found_here, some v_due, none, none] from rfl]
        obtain ⟨d, hf, hd, hp, q⟩ := h
        walk_at "Zs"
        rename_i p1 H1 n1 e1 h1
        have hf := dq_mono e1 hf
        have hd := dq_mono e1 hd
        refine w_isTL hd h1 ?_
        have q : ∀ H', Same H1 H' → Q (.bl true) H' := fun H' e => q H' (e1.trans e)
        cases d with
        | tuple ds =>
          walk_at "Zs"
          refine w_istup' (dq_dp hf) ?_
          walk_at "Zs"
          refine w_istup' (dq_dp hd) ?_
          walk_at "Zs"
          refine w_islst' (dq_dp hf) ?_
          walk_at "Zs"
          refine w_islst' (dq_dp hd) ?_
          walk_at "Zs"
          obtain ⟨a, xs, rfl, hxs, r1⟩ := dq_tt hf
          obtain ⟨b, ys, rfl, hys, r2⟩ := dq_tt hd
          have l1 := dqs_len r1
          have l2 := dqs_len r2
          have l12 : decide (xs.length = ys.length) = true := decide_eq_true (by omega)
          cases n with
          | zero => simp [PlL] at hp
          | succ m =>
            have hp1 : ds.length ≤ 1000 ∧ ∀ d ∈ ds, PlL m d := hp
            refine w_goZT hxs.t hys.t ?_
            refine lcZT hxs.t hys.t (fun i acc _ => acc = List.replicate i (V.bl true)) stb_pure (by omega) (fun i acc H' e => by rw [e, List.length_replicate]; exact Nat.le_refl _) (fun H' _ => rfl) (fun i x y acc H' hx hy e1 ea H2 e2 k k' hk hk' => ?_) fun D acc H' hD e1 hD' ea => ?_
            · obtain ⟨d1, hd1, hxd⟩ := dqs_get2 r1 hx
              obtain ⟨d2, hd2, hyd⟩ := dqs_get2 r2 hy
              obtain rfl := Option.some.inj (hd1.symm.trans hd2)
              walk_at "Zs"
              show sp__law_same_ m W [_, _] _ _ E0
              refine ⟨d1, dq_mono (e1.trans e2) hxd, dq_mono (e1.trans e2) hyd, hp1.2 _ (List.mem_of_getElem? hd1), fun H3 e3 => ?_⟩
              refine hk _ _ e3 ?_
              rw [ea, List.replicate_succ']
            · walk_at "Zs"
              refine w_all (bs := List.replicate (min xs.length ys.length) true) (SqL.of (by rw [hD', ea, List.map_replicate])) ?_
              have e : (List.replicate (min xs.length ys.length) true).all id = true := List.all_eq_true.mpr fun x hx => List.eq_of_mem_replicate hx
              rw [e]
              exact q _ e1
        | list ds =>
          walk_at "Zs"
          refine w_istup' (dq_dp hf) ?_
          walk_at "Zs"
          refine w_istup' (dq_dp hd) ?_
          walk_at "Zs"
          refine w_islst' (dq_dp hf) ?_
          walk_at "Zs"
          refine w_islst' (dq_dp hd) ?_
          walk_at "Zs"
          obtain ⟨a, xs, rfl, hxs, r1⟩ := dq_ll hf
          obtain ⟨b, ys, rfl, hys, r2⟩ := dq_ll hd
          have l1 := dqs_len r1
          have l2 := dqs_len r2
          have l12 : decide (xs.length = ys.length) = true := decide_eq_true (by omega)
          cases n with
          | zero => simp [PlL] at hp
          | succ m =>
            have hp1 : ds.length ≤ 1000 ∧ ∀ d ∈ ds, PlL m d := hp
            refine w_lenL hxs ?_
            walk_at "Zs"
            refine w_lenL hys ?_
            walk_at "Zs"
            refine w_goZL hxs hys ?_
            refine lcZL hxs hys (fun i acc _ => acc = List.replicate i (V.bl true)) stb_pure (by omega) (fun i acc H' e => by rw [e, List.length_replicate]; exact Nat.le_refl _) (fun H' _ => rfl) (fun i x y acc H' hx hy e1 ea H2 e2 k k' hk hk' => ?_) fun D acc H' hD e1 hD' ea => ?_
            · obtain ⟨d1, hd1, hxd⟩ := dqs_get2 r1 hx
              obtain ⟨d2, hd2, hyd⟩ := dqs_get2 r2 hy
              obtain rfl := Option.some.inj (hd1.symm.trans hd2)
              walk_at "Zs"
              show sp__law_same_ m W [_, _] _ _ E0
              refine ⟨d1, dq_mono (e1.trans e2) hxd, dq_mono (e1.trans e2) hyd, hp1.2 _ (List.mem_of_getElem? hd1), fun H3 e3 => ?_⟩
              refine hk _ _ e3 ?_
              rw [ea, List.replicate_succ']
            · walk_at "Zs"
              refine w_all (bs := List.replicate (min xs.length ys.length) true) (SqL.of (by rw [hD', ea, List.map_replicate])) ?_
              have e : (List.replicate (min xs.length ys.length) true).all id = true := List.all_eq_true.mpr fun x hx => List.eq_of_mem_replicate hx
              rw [e]
              exact q _ e1
        | none =>
          obtain rfl := dq_non hf
          obtain rfl := dq_non hd
          walk_at "Zs"
          exact q _ (Same.refl _)
        | str z =>
          obtain rfl := dq_str hf
          obtain rfl := dq_str hd
          walk_at "Zs"
          refine w_isbool' (Dp.str z) ?_
          walk_at "Zs"
          refine w_isstr' (Dp.str z) ?_
          walk_at "Zs"
          refine w_isstr' (Dp.str z) ?_
          walk_at "Zs"
          refine w_isbool' (Dp.str z) ?_
          walk_at "Zs"
          have e : decide (z = z) = true := decide_eq_true rfl
          rw [e]
          exact q _ (Same.refl _)
        | bool b =>
          obtain rfl := dq_bl hf
          obtain rfl := dq_bl hd
          walk_at "Zs"
          refine w_isbool' (Dp.bl b) ?_
          walk_at "Zs"
          refine w_isbool' (Dp.bl b) ?_
          walk_at "Zs"
          have e : decide (b = b) = true := decide_eq_true rfl
          rw [e]
          exact q _ (Same.refl _)
        | int i =>
          obtain rfl := dq_int hf
          obtain rfl := dq_int hd
          walk_at "Zs"
          refine w_isbool' (Dp.int i) ?_
          walk_at "Zs"
          refine w_isstr' (Dp.int i) ?_
          walk_at "Zs"
          refine w_isstr' (Dp.int i) ?_
          walk_at "Zs"
          refine w_isbool' (Dp.int i) ?_
          walk_at "Zs"
          have e : decide (i = i) = true := decide_eq_true rfl
          rw [e]
          exact q _ (Same.refl _)
        | dict _ => cases hf
theorem c__law_same {W : Wd} {mg : Str → Option Value} {base : Heap} (B : Bi mg) (S : Src W.K mg "_law_same" s__law_same) (T : Kl W.K mg)  : Cal W mg base "_law_same" 7 ["_law_found_here", "_law_due"] (sp__law_same W) := by
  obtain ⟨f, fd, g, F⟩ := S
  have key : ∀ n, FnOk W.P W.w W.K mg base CX0 (0 + n + 1) f fd ["_law_found_here", "_law_due"] (sp__law_same_ n W) := by
    intro n
    induction n with
    | zero => exact f__law_same_ B F 0 T  ⟨f, fd, g, ⟨fun _ _ _ _ h => h.elim, fun _ _ _ _ _ _ _ _ _ _ _ _ _ h => h.elim⟩, F.kp, (F.binds (ps := ["_law_found_here", "_law_due"]) fun _ _ _ _ _ _ us hl => match us, hl with | [_, _], _ => rfl)⟩
    | succ n ih => exact f__law_same_ B F (n + 1) T  ⟨f, fd, g, ih, F.kp, (F.binds (ps := ["_law_found_here", "_law_due"]) fun _ _ _ _ _ _ us hl => match us, hl with | [_, _], _ => rfl)⟩
  exact ⟨f, fd, g, key 6, F.kp, (F.binds (ps := ["_law_found_here", "_law_due"]) fun _ _ _ _ _ _ us hl => match us, hl with | [_, _], _ => rfl)⟩
theorem go__law_same {W : Wd} {H : Hp} {Q : VK} {E : XK} {u v : V} {d : PyData} (hf : Dq W.K H u d) (hd : Dq W.K H v d) (hp : PlL 6 d) (q : ∀ H', Same H H' → Q (.bl true) H') : sp__law_same W [u, v] H Q E := ⟨d, hf, hd, hp, q⟩
def tenC : List Str := ["NoHead", "NoLetter", "NoWord", "NoMore", "NoDeed", "NoPlace", "Beyond", "NoStream", "NoLine", "NoText"]
def markC (D : Str) (l : List Str) : List V := l.map fun c => V.bl (decide (c = D) || decide (c = "HeadError"))
theorem no_before {l : List V} {y : V} {j : Nat} (h : ((l.take j).all fun z => !eqV z y) = true) : ∀ (m : Nat) (z' : V), m < j → l[m]? = some z' → eqV z' y = false := fun m z' hm hz => by
  have := List.all_eq_true.mp h z' (List.mem_of_getElem? (i := m) (by rw [List.getElem?_take_of_lt hm]; exact hz))
  simpa using this
theorem mark_at {D : Str} (h : D ∈ tenC) : ∃ j : Nat, ((markC D tenC).countP fun z => eqV z (.bl true)) = 1 ∧ (markC D tenC)[j]? = some (.bl true) ∧ (∀ (m : Nat) (z' : V), m < j → (markC D tenC)[m]? = some z' → eqV z' (.bl true) = false) ∧ (tenC.map V.str)[j]? = some (.str D) := by
  simp only [tenC, List.mem_cons, List.not_mem_nil, or_false] at h
  rcases h with rfl | rfl | rfl | rfl | rfl | rfl | rfl | rfl | rfl | rfl
  · exact ⟨0, by decide +kernel, by decide +kernel, no_before (by decide +kernel), by decide +kernel⟩
  · exact ⟨1, by decide +kernel, by decide +kernel, no_before (by decide +kernel), by decide +kernel⟩
  · exact ⟨2, by decide +kernel, by decide +kernel, no_before (by decide +kernel), by decide +kernel⟩
  · exact ⟨3, by decide +kernel, by decide +kernel, no_before (by decide +kernel), by decide +kernel⟩
  · exact ⟨4, by decide +kernel, by decide +kernel, no_before (by decide +kernel), by decide +kernel⟩
  · exact ⟨5, by decide +kernel, by decide +kernel, no_before (by decide +kernel), by decide +kernel⟩
  · exact ⟨6, by decide +kernel, by decide +kernel, no_before (by decide +kernel), by decide +kernel⟩
  · exact ⟨7, by decide +kernel, by decide +kernel, no_before (by decide +kernel), by decide +kernel⟩
  · exact ⟨8, by decide +kernel, by decide +kernel, no_before (by decide +kernel), by decide +kernel⟩
  · exact ⟨9, by decide +kernel, by decide +kernel, no_before (by decide +kernel), by decide +kernel⟩
def sp__law_class_of (W : Wd) : Sp := fun vs H Q _ => match vs with
  | [v_error] =>
  ∃ (D : Str) (cs : List Str), ExAt W.K H v_error D ∧ ExvOk W.K D cs ∧ (∀ c ∈ tenC, c ∈ cs) ∧ D ∈ tenC ∧ ∀ p H', Same H H' → TupN H' p [.str "refused", .str D] → Q (.ref p) H'
  | _ => False
abbrev N__law_class_of : List Str := ["_law_error", "_law_words", "_law_marks"]
theorem sc__law_class_of : FnScope N__law_class_of ["_law_error"] (defScope s__law_class_of) := ⟨rfl, rfl, rfl, by decide +kernel, rfl, by decide +kernel, by decide +kernel⟩
theorem f__law_class_of {W : Wd} {mg : Str → Option Value} {base : Heap} (B : Bi mg) {f : Addr} {fd : FuncData} (F : Fun W.K "_law_class_of" "_law_class_of" s__law_class_of f fd) (T : Kl W.K mg)  : FnOk W.P W.w W.K mg base CX0 1 f fd ["_law_error"] (sp__law_class_of W) := by
  have nd := sc__law_class_of.nd
  have F0 : FnOk W.P W.w W.K mg base CX0 1 f fd ["_law_error"] (sp__law_class_of W) := by
    refine F.ok sc__law_class_of (fun vs H Q E h => ?_) (fun cdv A outer s H vs Q E hr h => ?_)
    · match vs, h with | [_], _ => rfl
    · match vs, h with
      | [v_error], h =>
        change sp__law_class_of W [v_error] H Q E at h
        refine ⟨tSeq (tAsg (tLst (tCons (tC (.str "NoHead")) (tCons (tC (.str "NoLetter")) (tCons (tC (.str "NoWord")) (tCons (tC (.str "NoMore")) (tCons (tC (.str "NoDeed")) (tCons (tC (.str "NoPlace")) (tCons (tC (.str "Beyond")) (tCons (tC (.str "NoStream")) (tCons (tC (.str "NoLine")) (tCons (tC (.str "NoText")) (tNil)))))))))))) (gName 1)) (tSeq (tAsg (tLst (tCons (tCB (rIsV W.K) (tCons (tVar 0) (tCons (tC (.ref (clsOf W.K "NoHead"))) (tNil)))) (tCons (tCB (rIsV W.K) (tCons (tVar 0) (tCons (tC (.ref (clsOf W.K "NoLetter"))) (tNil)))) (tCons (tCB (rIsV W.K) (tCons (tVar 0) (tCons (tC (.ref (clsOf W.K "NoWord"))) (tNil)))) (tNil))))) (gName 2)) (tSeq (tAsg (tOp (rAddN W.K) (tVar 2) (tLst (tCons (tCB (rIsV W.K) (tCons (tVar 0) (tCons (tC (.ref (clsOf W.K "NoMore"))) (tNil)))) (tCons (tCB (rIsV W.K) (tCons (tVar 0) (tCons (tC (.ref (clsOf W.K "NoDeed"))) (tNil)))) (tCons (tCB (rIsV W.K) (tCons (tVar 0) (tCons (tC (.ref (clsOf W.K "NoPlace"))) (tNil)))) (tNil)))))) (gName 2)) (tSeq (tAsg (tOp (rAddN W.K) (tVar 2) (tLst (tCons (tCB (rIsV W.K) (tCons (tVar 0) (tCons (tC (.ref (clsOf W.K "Beyond"))) (tNil)))) (tCons (tCB (rIsV W.K) (tCons (tVar 0) (tCons (tC (.ref (clsOf W.K "NoStream"))) (tNil)))) (tCons (tCB (rIsV W.K) (tCons (tVar 0) (tCons (tC (.ref (clsOf W.K "NoLine"))) (tNil)))) (tNil)))))) (gName 2)) (tSeq (tAsg (tOp (rAddN W.K) (tVar 2) (tLst (tCons (tCB (rIsV W.K) (tCons (tVar 0) (tCons (tC (.ref (clsOf W.K "NoText"))) (tNil)))) (tNil)))) (gName 2)) (tSeq (tIfS (tOr (tTest (tOp (rNeU W.K) (tBM W.K "list" (rCntF W.K) (tVar 2) (tCons (tC (.bl true)) (tNil))) (tC (.int 1)))) (tNot (tB (tCB (rIsV W.K) (tCons (tVar 0) (tCons (tC (.ty "ValueError")) (tNil))))))) (tRet (tTupN (tCons (tC (.str "refused")) (tCons (tC (.str "other")) (tNil))))) (tNext)) (tRet (tTupN (tCons (tC (.str "refused")) (tCons (tOp (rIxU W.K) (tVar 1) (tBM W.K "list" (rIndex W.K) (tVar 2) (tCons (tC (.bl true)) (tNil)))) (tNil)))))))))), pss_cons (ps_set (i := 1) nd rfl (.inl rfl) (pe_lst (pa_cons (pe_str) (pa_cons (pe_str) (pa_cons (pe_str) (pa_cons (pe_str) (pa_cons (pe_str) (pa_cons (pe_str) (pa_cons (pe_str) (pa_cons (pe_str) (pa_cons (pe_str) (pa_cons (pe_str) (pa_nil))))))))))))) (pss_cons (ps_set (i := 2) nd rfl (.inl rfl) (pe_lst (pa_cons (pe_callB call_isV (by rfl) B.b_isinstance (by decide +kernel) (pa_cons (pv 0) (pa_cons (pe_glob (by rfl) T.g_NoHead rfl) (pa_nil)))) (pa_cons (pe_callB call_isV (by rfl) B.b_isinstance (by decide +kernel) (pa_cons (pv 0) (pa_cons (pe_glob (by rfl) T.g_NoLetter rfl) (pa_nil)))) (pa_cons (pe_callB call_isV (by rfl) B.b_isinstance (by decide +kernel) (pa_cons (pv 0) (pa_cons (pe_glob (by rfl) T.g_NoWord rfl) (pa_nil)))) (pa_nil)))))) (pss_cons (ps_set (i := 2) nd rfl (.inl rfl) (pe_op u_addN (pv 2) (pe_lst (pa_cons (pe_callB call_isV (by rfl) B.b_isinstance (by decide +kernel) (pa_cons (pv 0) (pa_cons (pe_glob (by rfl) T.g_NoMore rfl) (pa_nil)))) (pa_cons (pe_callB call_isV (by rfl) B.b_isinstance (by decide +kernel) (pa_cons (pv 0) (pa_cons (pe_glob (by rfl) T.g_NoDeed rfl) (pa_nil)))) (pa_cons (pe_callB call_isV (by rfl) B.b_isinstance (by decide +kernel) (pa_cons (pv 0) (pa_cons (pe_glob (by rfl) T.g_NoPlace rfl) (pa_nil)))) (pa_nil))))))) (pss_cons (ps_set (i := 2) nd rfl (.inl rfl) (pe_op u_addN (pv 2) (pe_lst (pa_cons (pe_callB call_isV (by rfl) B.b_isinstance (by decide +kernel) (pa_cons (pv 0) (pa_cons (pe_glob (by rfl) T.g_Beyond rfl) (pa_nil)))) (pa_cons (pe_callB call_isV (by rfl) B.b_isinstance (by decide +kernel) (pa_cons (pv 0) (pa_cons (pe_glob (by rfl) T.g_NoStream rfl) (pa_nil)))) (pa_cons (pe_callB call_isV (by rfl) B.b_isinstance (by decide +kernel) (pa_cons (pv 0) (pa_cons (pe_glob (by rfl) T.g_NoLine rfl) (pa_nil)))) (pa_nil))))))) (pss_cons (ps_set (i := 2) nd rfl (.inl rfl) (pe_op u_addN (pv 2) (pe_lst (pa_cons (pe_callB call_isV (by rfl) B.b_isinstance (by decide +kernel) (pa_cons (pv 0) (pa_cons (pe_glob (by rfl) T.g_NoText rfl) (pa_nil)))) (pa_nil))))) (pss_cons (ps_if (PW.pt (pw_or (pt_cmpR (u_ne hr.units) (pe_bm PySem.F.plainAttrs_list PySem.F.slot_list_count PySem.F.type_list_count mt_cntF (pv 2) (pa_cons (pe_bl) (pa_nil))) (pe_int) (nomark _)) (pw_or1 (pt_not (pt_val (pe_callB call_isV (by rfl) B.b_isinstance (by decide +kernel) (pa_cons (pv 0) (pa_cons (pe_bltn (v := .ty "ValueError") (u := .type "ValueError") (by rfl) B.b_ValueError (by decide +kernel) rfl) (pa_nil))))))))) (pss_one (ps_ret (pe_tupN (pa_cons (pe_str) (pa_cons (pe_str) (pa_nil)))))) (pss_nil)) (pss_one (ps_ret (pe_tupN (pa_cons (pe_str) (pa_cons (pe_ix u_ix (pv 1) (pe_bm PySem.F.plainAttrs_list PySem.F.slot_list_index PySem.F.type_list_index mt_index (pv 2) (pa_cons (pe_bl) (pa_nil))) (fun _ _ => rfl)) (pa_nil))))))))))), ?_⟩
        clear hr
        rw [show L2.start N__law_class_of [v_error] = [some v_error, none, none] from rfl]
        obtain ⟨D, cs, hx, TV, hc, hD, q⟩ := h
        obtain ⟨j, c1, c2, c3, c4⟩ := mark_at hD
        walk_at "Zs"
        rename_i p0 H0 n0 f0 h0
        have hx := exAt_mono f0 hx
        refine w_isV (exAt_mono (Same.refl _) hx) TV (hc _ (by decide)) ?_
        walk_at "Zs"
        refine w_isV (exAt_mono (Same.refl _) hx) TV (hc _ (by decide)) ?_
        walk_at "Zs"
        refine w_isV (exAt_mono (Same.refl _) hx) TV (hc _ (by decide)) ?_
        walk_at "Zs"
        rename_i p1 H1 n1 f1 h1
        refine w_isV (exAt_mono f1 hx) TV (hc _ (by decide)) ?_
        walk_at "Zs"
        refine w_isV (exAt_mono f1 hx) TV (hc _ (by decide)) ?_
        walk_at "Zs"
        refine w_isV (exAt_mono f1 hx) TV (hc _ (by decide)) ?_
        walk_at "Zs"
        rename_i p2 H2 n2 f2 h2
        refine w_catL (f2 _ _ h1) h2 (show 3 + 3 ≤ 1000000 by decide) fun p3 H3 n3 f3 h3 => ?_
        have f13 := f1.trans (f2.trans f3)
        walk_at "Zs"
        refine w_isV (exAt_mono f13 hx) TV (hc _ (by decide)) ?_
        walk_at "Zs"
        refine w_isV (exAt_mono f13 hx) TV (hc _ (by decide)) ?_
        walk_at "Zs"
        refine w_isV (exAt_mono f13 hx) TV (hc _ (by decide)) ?_
        walk_at "Zs"
        rename_i p4 H4 n4 f4 h4
        refine w_catL (f4 _ _ h3) h4 (show 6 + 3 ≤ 1000000 by decide) fun p5 H5 n5 f5 h5 => ?_
        have f15 := f13.trans (f4.trans f5)
        walk_at "Zs"
        refine w_isV (exAt_mono f15 hx) TV (hc _ (by decide)) ?_
        walk_at "Zs"
        rename_i p6 H6 n6 f6 h6
        refine w_catL (f6 _ _ h5) h6 (show 9 + 1 ≤ 1000000 by decide) fun p7 H7 n7 f7 h7 => ?_
        have f17 := f15.trans (f6.trans f7)
        have hm : H7 p7 = some (.lst (markC D tenC)) := h7
        have h0' : H7 p0 = some (.lst (tenC.map V.str)) := f17 _ _ h0
        walk_at "Zs"
        refine w_tyL hm ?_
        walk_at "Zs"
        refine w_cntF (SqL.of hm) rfl rfl ?_
        rw [c1]
        walk_at "Zs"
        refine w_isVe (exAt_mono f17 hx) TV ?_
        walk_at "Zs"
        refine w_tyL hm ?_
        walk_at "Zs"
        refine w_idxF j (SqL.of hm) rfl rfl c2 rfl c3 ?_
        walk_at "Zs"
        refine w_ixl (SqL.of h0') (atI_nat c4) ?_
        walk_at "Zs"
        rename_i p8 H8 n8 f8 h8
        exact q p8 H8 (f0.trans (f17.trans f8)) h8
  exact F0
theorem c__law_class_of {W : Wd} {mg : Str → Option Value} {base : Heap} (B : Bi mg) (S : Src W.K mg "_law_class_of" s__law_class_of) (T : Kl W.K mg)  : Cal W mg base "_law_class_of" 1 ["_law_error"] (sp__law_class_of W) := by
  obtain ⟨f, fd, g, F⟩ := S
  exact ⟨f, fd, g, f__law_class_of B F T , F.kp, (F.binds (ps := ["_law_error"]) fun _ _ _ _ _ _ us hl => match us, hl with | [_], _ => rfl)⟩
theorem go__law_class_of {W : Wd} {H : Hp} {Q : VK} {E : XK} {v : V} {D : Str} {cs : List Str} (hx : ExAt W.K H v D) (TV : ExvOk W.K D cs) (hc : ∀ c ∈ tenC, c ∈ cs) (hD : D ∈ tenC) (q : ∀ p H', Same H H' → TupN H' p [.str "refused", .str D] → Q (.ref p) H') : sp__law_class_of W [v] H Q E := ⟨D, cs, hx, TV, hc, hD, q⟩
theorem numZ_law (z : Str) : numZ z = if (decide (z = "") || (decide (15 < z.length) || !decide (Txt.stripChars z "0123456789" = ""))) = true then none else if (decide (z = "0") || !decide ((cz z).head? = some 48)) = true then some ((NumText.digitsVal (cz z) : Nat) : Int) else none := by
  have hf : decide (Txt.stripChars z "0123456789" = "") = figB z := by
    rw [Bool.eq_iff_iff, decide_eq_true_iff, strip_all]
    unfold figB
    rw [List.all_eq_true, List.all_eq_true]
    constructor
    · intro h c hc
      have := h c hc
      rw [decide_eq_true_iff]
      simpa [Array.contains_iff_mem] using this
    · intro h c hc
      have := of_decide_eq_true (h c hc)
      simpa [Array.contains_iff_mem] using this
  have he : (z = "") ↔ z.length = 0 := by
    constructor
    · intro h
      rw [h]
      rfl
    · intro h
      refine cz_inj ?_
      have := cz_len z
      rw [h] at this
      rw [List.length_eq_zero_iff.mp this]
      rfl
  have h0 : (z = "0") ↔ (z.length = 1 ∧ (cz z).head? = some 48) := by
    constructor
    · intro h
      rw [h]
      exact ⟨rfl, rfl⟩
    · rintro ⟨h1, h2⟩
      refine cz_inj ?_
      have := cz_len z
      rw [h1] at this
      obtain ⟨c, hc⟩ := List.length_eq_one_iff.mp this
      rw [hc] at h2 ⊢
      cases h2
      rfl
  have hA : decide (z = "") = !decide (1 ≤ z.length) := by
    rw [Bool.eq_iff_iff, decide_eq_true_iff, he]
    simp
  have hB : decide (15 < z.length) = !decide (z.length ≤ 15) := by
    rw [Bool.eq_iff_iff, decide_eq_true_iff]
    simp
  unfold numZ
  rw [hf, hA, hB]
  by_cases a : 1 ≤ z.length
  · have hC : decide (z = "0") = (!decide (1 < z.length) && decide ((cz z).head? = some 48)) := by
      rw [Bool.eq_iff_iff, decide_eq_true_iff, h0]
      simp
      omega
    rw [hC, decide_eq_true a]
    generalize decide (z.length ≤ 15) = x
    generalize figB z = y
    generalize decide (1 < z.length) = u
    generalize decide ((cz z).head? = some 48) = w
    cases x <;> cases y <;> cases u <;> cases w <;> rfl
  · rw [decide_eq_false a]
    rfl
def sp__law_number (W : Wd) : Sp := fun vs H Q _ => match vs with
  | [v_word] =>
  ∃ z : Str, v_word = .str z ∧ z.length ≤ 1000000 ∧ ∀ H', Same H H' → Q (oV (numZ z)) H'
  | _ => False
abbrev N__law_number : List Str := ["_law_word"]
theorem sc__law_number : FnScope N__law_number ["_law_word"] (defScope s__law_number) := ⟨rfl, rfl, rfl, by decide +kernel, rfl, by decide +kernel, by decide +kernel⟩
theorem f__law_number {W : Wd} {mg : Str → Option Value} {base : Heap} (B : Bi mg) {f : Addr} {fd : FuncData} (F : Fun W.K "_law_number" "_law_number" s__law_number f fd) (T : Kl W.K mg)  : FnOk W.P W.w W.K mg base CX0 1 f fd ["_law_word"] (sp__law_number W) := by
  have nd := sc__law_number.nd
  have F0 : FnOk W.P W.w W.K mg base CX0 1 f fd ["_law_word"] (sp__law_number W) := by
    refine F.ok sc__law_number (fun vs H Q E h => ?_) (fun cdv A outer s H vs Q E hr h => ?_)
    · match vs, h with | [_], _ => rfl
    · match vs, h with
      | [v_word], h =>
        change sp__law_number W [v_word] H Q E at h
        refine ⟨tSeq (tIfS (tOr (tTest (tOp (rEqU W.K) (tVar 0) (tC (.str "")))) (tOr (tTest (tOp (rGtU) (tCB (rLenU W.K) (tCons (tVar 0) (tNil))) (tC (.int 15)))) (tTest (tOp (rNeU W.K) (tM1 rStripC (tVar 0) (tC (.str "0123456789"))) (tC (.str "")))))) (tRet (tC .non)) (tNext)) (tRet (tIf (tOr (tTest (tOp (rEqU W.K) (tVar 0) (tC (.str "0")))) (tTest (tOp (rNeU W.K) (tOp (rIxU W.K) (tVar 0) (tC (.int 0))) (tC (.str "0"))))) (tCB rIntS (tCons (tVar 0) (tNil))) (tC .non))), pss_cons (ps_if (PW.pt (pw_or (pt_cmpR (u_eq hr.units) (pv 0) (pe_str) (nomark _)) (pw_or (pt_cmpR u_gt (pe_callB u_len (by rfl) B.b_len (by decide +kernel) (pa_cons (pv 0) (pa_nil))) (pe_int) (nomark _)) (pw_or1 (pt_cmpR (u_ne hr.units) (pe_m1 PySem.F.slot_str_strip PySem.F.type_str_strip mt_stripC (pv 0) (pe_str)) (pe_str) (nomark _)))))) (pss_one (ps_ret (pe_non))) (pss_nil)) (pss_one (ps_ret (pe_ifExp (PW.pt (pw_or (pt_cmpR (u_eq hr.units) (pv 0) (pe_str) (nomark _)) (pw_or1 (pt_cmpR (u_ne hr.units) (pe_ix u_ix (pv 0) (pe_int) (fun _ _ => rfl)) (pe_str) (nomark _))))) (pe_callTy call_int_str (by rfl) B.b_int (by decide +kernel) (pa_cons (pv 0) (pa_nil))) (pe_non)))), ?_⟩
        clear hr
        rw [show L2.start N__law_number [v_word] = [some v_word] from rfl]
        obtain ⟨z, rfl, hz, q⟩ := h
        have line : (1000000 : Nat) ≤ sizeLine := by decide
        have q := q _ (Same.refl _)
        rw [numZ_law z] at q
        walk_at "Zs"
        refine w_dec (fun a => ?_) (fun a => ?_)
        · rw [decide_eq_true a, Bool.true_or, if_pos rfl] at q
          walk_at "Zs"
          exact q
        · rw [decide_eq_false a, Bool.false_or] at q
          walk_at "Zs"
          refine w_lenS (Nat.le_trans hz line) ?_
          walk_at "Zs"
          refine w_dec (fun b => ?_) (fun b => ?_)
          · rw [decide_eq_true (p := 15 < z.length) (by omega), Bool.true_or, if_pos rfl] at q
            walk_at "Zs"
            exact q
          · rw [decide_eq_false (p := 15 < z.length) (by omega), Bool.false_or] at q
            walk_at "Zs"
            refine w_stripC (Nat.le_trans hz line) ?_
            walk_at "Zs"
            cases hc : decide (Txt.stripChars z "0123456789" = "") with
            | false =>
              rw [hc] at q
              walk_at "Zs"
              exact q
            | true =>
              rw [hc] at q
              walk_at "Zs"
              have hf : figB z = true := by
                have h := of_decide_eq_true hc
                rw [strip_all, List.all_eq_true] at h
                exact List.all_eq_true.mpr fun c hc => by
                  have := h c hc
                  rw [decide_eq_true_iff]
                  simpa [Array.contains_iff_mem] using this
              have l1 : 1 ≤ z.length := by
                rcases Nat.eq_zero_or_pos z.length with h | h
                · exact absurd (cz_inj (by have := cz_len z; rw [h] at this; rw [List.length_eq_zero_iff.mp this]; rfl)) a
                · exact h
              have fin : (decide (z = "0") || !decide ((cz z).head? = some 48)) = true → rIntS [.str z] H Q := fun hn => by
                rw [hn] at q
                exact w_intS (int_fig hf l1 (by omega)) (by omega) q
              refine w_dec (fun c => ?_) (fun c => ?_)
              · walk_at "Zs"
                exact fin (by rw [decide_eq_true c, Bool.true_or])
              · walk_at "Zs"
                obtain ⟨x, r, hx⟩ : ∃ x r, cz z = x :: r := by
                  cases hc : cz z with
                  | nil => have := cz_len z; rw [hc] at this; simp at this; omega
                  | cons x r => exact ⟨x, r, rfl⟩
                refine w_ixs (Nat.le_trans hz line) (c := x) (by show atI (cz z) 0 = some x; rw [hx]; exact atI_zero) ?_
                walk_at "Zs"
                have ex : decide ((⟨#[x]⟩ : Str) = ("0" : Str)) = decide ((cz z).head? = some 48) := by
                  rw [decide_eq_decide, hx]
                  constructor
                  · intro h
                    have h2 : cz (⟨#[x]⟩ : Str) = cz ("0" : Str) := by rw [h]
                    have h3 : [x] = [48] := h2
                    simp at h3
                    rw [h3]
                    rfl
                  · intro h
                    have h2 : x = 48 := Option.some.inj h
                    rw [h2]
                    rfl
                rw [ex]
                cases c4 : decide ((cz z).head? = some 48) with
                | true =>
                  rw [decide_eq_false c, c4] at q
                  walk_at "Zs"
                  exact q
                | false =>
                  walk_at "Zs"
                  exact fin (by rw [c4]; simp)
  exact F0
theorem c__law_number {W : Wd} {mg : Str → Option Value} {base : Heap} (B : Bi mg) (S : Src W.K mg "_law_number" s__law_number) (T : Kl W.K mg)  : Cal W mg base "_law_number" 1 ["_law_word"] (sp__law_number W) := by
  obtain ⟨f, fd, g, F⟩ := S
  exact ⟨f, fd, g, f__law_number B F T , F.kp, (F.binds (ps := ["_law_word"]) fun _ _ _ _ _ _ us hl => match us, hl with | [_], _ => rfl)⟩
theorem go__law_number {W : Wd} {H : Hp} {Q : VK} {E : XK} {z : Str} (hz : z.length ≤ 1000000) (q : ∀ H', Same H H' → Q (oV (numZ z)) H') : sp__law_number W [.str z] H Q E := ⟨z, rfl, hz, q⟩
theorem readZ_some {fs : List Fd} {z : Str} {ns : List Int} (h : numsZ (Txt.split z ".") = some ns) : readZ fs (.str z) = if headB fs (headD ns) = true then some ns else none := by
  show (match numsZ (Txt.split z ".") with
    | some ns => if headB fs (headD ns) = true then some ns else none
    | none => none) = _
  rw [h]
theorem readZ_none {fs : List Fd} {z : Str} (h : numsZ (Txt.split z ".") = none) : readZ fs (.str z) = none := by
  show (match numsZ (Txt.split z ".") with
    | some ns => if headB fs (headD ns) = true then some ns else none
    | none => none) = _
  rw [h]
theorem readZ_len {fs : List Fd} {d : PyData} {ns : List Int} (h : readZ fs d = some ns) : ns.length = fs.length := by
  cases d with
  | str z =>
    cases hn : numsZ (Txt.split z ".") with
    | none => rw [readZ_none hn] at h; cases h
    | some ms =>
      rw [readZ_some hn] at h
      by_cases hb : headB fs (headD ms) = true
      · rw [if_pos hb] at h
        have hb : (decide ((ms.map PyData.int).length = fs.length) && (fs.zip (ms.map PyData.int)).all fun fd => betwD 0 (p2 fd.1.br - 1) fd.2) = true := hb
        have := of_decide_eq_true (Bool.and_eq_true_iff.mp hb).1
        cases h
        rw [List.length_map] at this
        exact this
      · rw [if_neg hb] at h
        cases h
  | _ => cases h
/-- some number is too great -/
def tooB (fs : List Fd) (ns : List Int) : Bool := (ns.zip fs).any fun x => decide (p2 x.2.br ≤ x.1)
theorem headB_too : ∀ {fs : List Fd} {ns : List Int}, (∀ n ∈ ns, 0 ≤ n) → ((fs.zip (ns.map PyData.int)).all fun fd => betwD 0 (p2 fd.1.br - 1) fd.2) = !tooB fs ns
  | [], ns, _ => by cases ns <;> rfl
  | _ :: _, [], _ => rfl
  | f :: fs, n :: ns, h => by
    have ih := headB_too (fs := fs) (ns := ns) fun m hm => h m (List.mem_cons_of_mem _ hm)
    have hn := h n List.mem_cons_self
    rw [List.map_cons, List.zip_cons_cons, List.all_cons, ih]
    unfold tooB
    rw [List.zip_cons_cons, List.any_cons, Bool.not_or]
    congr 1
    show (decide (0 ≤ n) && decide (n ≤ p2 f.br - 1)) = !decide (p2 f.br ≤ n)
    rw [decide_eq_true hn, Bool.true_and, Bool.eq_iff_iff]
    simp
    omega
theorem numZ_nn {z : Str} {n : Int} (h : numZ z = some n) : 0 ≤ n := by
  unfold numZ at h
  split at h
  · split at h
    · cases h
    · cases h
      omega
  · cases h
theorem numsZ_nn : ∀ {zs : List Str} {ns : List Int}, numsZ zs = some ns → ∀ n ∈ ns, 0 ≤ n
  | [], _, h => by cases h; exact fun _ h => nomatch h
  | z :: r, ns, h => by
    rw [numsZ_cons] at h
    cases h1 : numZ z with
    | none => rw [h1] at h; cases h
    | some m =>
      cases h2 : numsZ r with
      | none => rw [h1, h2] at h; cases h
      | some ms =>
        rw [h1, h2] at h
        cases h
        intro n hn
        rcases List.mem_cons.mp hn with rfl | hn
        · exact numZ_nn h1
        · exact numsZ_nn h2 n hn
def sp__law_read (W : Wd) : Sp := fun vs H Q _ => match vs with
  | [v_shape_here, v_text] =>
  ∃ (s : Shp) (d : PyData), Dq W.K H v_shape_here (shD s) ∧ OkShp s ∧ Dz W.K Ever H v_text d ∧ (∀ z, d = .str z → z.length ≤ 100000) ∧ (∀ ns, readZ s.fs d = some ns → ∀ p H', Same H H' → TupN H' p (ns.map V.int) → Q (.ref p) H') ∧ (readZ s.fs d = none → ∀ H', Same H H' → Q .non H')
  | _ => False
abbrev N__law_read : List Str := ["_law_shape_here", "_law_text", "_law_numbers", "_law_word", "_law_number_here", "_law_field"]
theorem sc__law_read : FnScope N__law_read ["_law_shape_here", "_law_text"] (defScope s__law_read) := ⟨rfl, rfl, rfl, by decide +kernel, rfl, by decide +kernel, by decide +kernel⟩
theorem f__law_read {W : Wd} {mg : Str → Option Value} {base : Heap} (B : Bi mg) {f : Addr} {fd : FuncData} (F : Fun W.K "_law_read" "_law_read" s__law_read f fd) (T : Kl W.K mg) (C__law_number : Cal W mg base "_law_number" 1 ["_law_word"] (sp__law_number W)) : FnOk W.P W.w W.K mg base CX0 2 f fd ["_law_shape_here", "_law_text"] (sp__law_read W) := by
  obtain ⟨a__law_number, d__law_number, g__law_number, F__law_number, k__law_number, b__law_number⟩ := C__law_number
  have nd := sc__law_read.nd
  have F0 : FnOk W.P W.w W.K mg base CX0 2 f fd ["_law_shape_here", "_law_text"] (sp__law_read W) := by
    refine F.ok sc__law_read (fun vs H Q E h => ?_) (fun cdv A outer s H vs Q E hr h => ?_)
    · match vs, h with | [_, _], _ => rfl
    · match vs, h with
      | [v_shape_here, v_text], h =>
        change sp__law_read W [v_shape_here, v_text] H Q E at h
        refine ⟨tSeq (tIfS (tNot (tB (tCB (rIsi W.K) (tCons (tVar 1) (tCons (tC (.ty "str")) tNil))))) (tRet (tC .non)) (tNext)) (tSeq (tAsg (tLc (iAny W.K (tM1 rSplitS (tVar 1) (tC (.str ".")))) (gName 3) (tYes) (tCall (sp__law_number W) [] E0 (tCons (tVar 3) (tNil))) [3]) (gName 2)) (tSeq (tIfS (tOr (tTest (tOp (rInU W.K) (tC .non) (tVar 2))) (tTest (tOp (rNeU W.K) (tCB (rLenU W.K) (tCons (tVar 2) (tNil))) (tCB (rLenU W.K) (tCons (tOp (rIxU W.K) (tVar 0) (tC (.int 0))) (tNil)))))) (tRet (tC .non)) (tNext)) (tSeq (tIfS (tB (tCB (rAny W.K) (tCons (tLc (iZipM W.K (tCons (tVar 2) (tCons (tOp (rIxU W.K) (tVar 0) (tC (.int 0))) (tNil)))) (gTup W.K 2 (gCons (gName 4) (gCons (gName 5) (gNil)))) (tYes) (tOp (rGeU) (tVar 4) (tOp (rShlU) (tC (.int 1)) (tOp (rIxU W.K) (tVar 5) (tC (.int 1))))) [4, 5]) (tNil)))) (tRet (tC .non)) (tNext)) (tRet (tCB (rTupleOfN W.K) (tCons (tVar 2) (tNil))))))), pss_cons (ps_if (pt_not (pt_val (pe_callB call_isi (by rfl) B.b_isinstance (by decide +kernel) (pa_cons (pv 1) (pa_cons (pe_bltn (v := .ty "str") (u := .type "str") (by rfl) B.b_str (by decide +kernel) rfl) pa_nil))))) (pss_one (ps_ret (pe_non))) (pss_nil)) (pss_cons (ps_setLc (i := 2) (own := [("_law_word", 3)]) rfl nd rfl rfl (sw_true rfl rfl rfl (by decide +kernel)) (pi_any (pe_m1 PySem.F.slot_str_split PySem.F.type_str_split mt_splitS (pv 1) (pe_str))) (blkOk_by (own := [("_law_word", 3)]) (N := N__law_read) (sc := defScope s__law_read) (by decide +kernel)) (fun _ _ _ _ _ => pg_name (i := 3) nd rfl (by first | exact Or.inl rfl | exact Or.inr rfl)) (fun _ _ _ _ _ => pts_nil) (fun _ _ _ _ _ => pe_call F__law_number (hr.mono (by decide)) (by rfl) g__law_number k__law_number b__law_number .nil pass0 (pa_cons (pv 3) (pa_nil)))) (pss_cons (ps_if (PW.pt (pw_or (pt_cmpR (u_in hr.units) (pe_non) (pv 2) (by rfl)) (pw_or1 (pt_cmpR (u_ne hr.units) (pe_callB u_len (by rfl) B.b_len (by decide +kernel) (pa_cons (pv 2) (pa_nil))) (pe_callB u_len (by rfl) B.b_len (by decide +kernel) (pa_cons (pe_ix u_ix (pv 0) (pe_int) (fun _ _ => rfl)) (pa_nil))) (nomark _))))) (pss_one (ps_ret (pe_non))) (pss_nil)) (pss_cons (ps_if (pt_val (pe_callB (cr_any rfl) (by rfl) B.b_any (by decide +kernel) (pa_cons (pe_lc (own := [("_law_number_here", 4), ("_law_field", 5)]) rfl nd (pi_zipM (by rfl) B.b_zip (pa_cons (pv 2) (pa_cons (pe_ix u_ix (pv 0) (pe_int) (fun _ _ => rfl)) (pa_nil)))) (blkOk_by (own := [("_law_number_here", 4), ("_law_field", 5)]) (N := N__law_read) (sc := defScope s__law_read) (by decide +kernel)) (fun _ _ _ _ _ => pg_tup rfl (pgs_cons (pg_name (i := 4) nd rfl (by first | exact Or.inl rfl | exact Or.inr rfl)) (pgs_cons (pg_name (i := 5) nd rfl (by first | exact Or.inl rfl | exact Or.inr rfl)) (pgs_nil)))) (fun _ _ _ _ _ => pts_nil) (fun _ _ _ _ _ => pe_cmpR u_ge (pv 4) (pe_op u_shl (pe_int) (pe_ix u_ix (pv 5) (pe_int) (fun _ _ => rfl))) (nomark _))) (pa_nil)))) (pss_one (ps_ret (pe_non))) (pss_nil)) (pss_one (ps_ret (pe_callTy call_tuple_ofN (by rfl) B.b_tuple (by decide +kernel) (pa_cons (pv 2) (pa_nil)))))))), ?_⟩
        clear hr
        clear F__law_number g__law_number k__law_number b__law_number d__law_number a__law_number
        rw [show L2.start N__law_read [v_shape_here, v_text] = [some v_shape_here, some v_text, none, none, none, none] from rfl]
        obtain ⟨s, d, hs, ok, hd, hl, qS, qN⟩ := h
        have l1 := ok.l1
        walk_at "Zs"
        refine w_isstrz hd ?_
        walk_at "Zs"
        cases hb : isStrD d with
        | false =>
          walk_at "Zs"
          exact qN (readZ_no hb) _ (Same.refl _)
        | true =>
          cases d <;> first | (cases hb; done) | skip
          rename_i z
          obtain rfl := dz_str hd
          have lzz := hl z rfl
          walk_at "Zs"
          refine w_splitS rfl (Nat.le_trans (hl z rfl) (by decide)) fun p1 H1 n1 e1 h1 => ?_
          have lz := split_le (z := z) (y := ".")
          walk_at "Zs"
          refine w_goL (SqL.of h1) ?_
          refine lcL (SqL.of h1) (fun i acc _ => acc = ((Txt.split z ".").take i).map fun z => oV (numZ z)) stb_pure (by rw [List.length_map]; omega) (fun i acc _ e => by rw [e, List.length_map, List.length_take]; omega) (fun _ _ => rfl) (fun i x acc H' hx e ea k k' hk hk' => ?_) fun D acc H2 hD e2 hD' ea => ?_
          · rw [List.getElem?_map] at hx
            obtain ⟨w, hw, rfl⟩ := Option.map_eq_some_iff.mp hx
            walk_at "Zs"
            refine go__law_number (Nat.le_trans (lz.2 w (List.mem_of_getElem? hw)) (by omega)) fun H3 e3 => ?_
            refine hk _ _ e3 ?_
            rw [ea, take_snoc hw, List.map_append]
            rfl
          · rw [List.length_map, List.take_of_length_le (Nat.le_refl _)] at ea
            subst ea
            walk_at "Zs"
            refine .inl ⟨D, _, rfl, .inl (SqL.of hD'), rfl, nums_flat _, ?_⟩
            rw [nums_non]
            have e12 := e1.trans e2
            cases hn : numsZ (Txt.split z ".") with
            | none =>
              show _
              walk_at "Zs"
              exact qN (readZ_none hn) _ e12
            | some ns =>
              show _
              have er := readZ_some (fs := s.fs) hn
              have nn := numsZ_nn hn
              have hD2 : H2 D = some (.lst (ns.map V.int)) := by rw [hD', nums_map hn]
              have lnn := numsZ_len hn
              walk_at "Zs"
              refine w_lenL (SqL.of hD2) ?_
              walk_at "Zs"
              obtain ⟨as, xf, xm, rfl, hsx, hf, hm⟩ := dq_t2 (dq_mono e12 hs)
              obtain ⟨af, fxs, rfl, hfx, hfd⟩ := dq_tt hf
              have lfx := dqs_len hfd
              rw [List.length_map] at lfx
              have hst := hsx.t
              have hft := hfx.t
              walk_at "Zs"
              rw [List.length_map]
              refine w_dec (fun c1 => ?_) (fun c1 => ?_)
              · have c2 : ns.length = s.fs.length := by omega
                have eh : headB s.fs (headD ns) = !tooB s.fs ns := by
                  show (decide ((ns.map PyData.int).length = s.fs.length) && (s.fs.zip (ns.map PyData.int)).all fun fd => betwD 0 (p2 fd.1.br - 1) fd.2) = _
                  rw [List.length_map, decide_eq_true c2, Bool.true_and, headB_too nn]
                walk_at "Zs"
                refine w_izipM ?_
                walk_at "Zs"
                refine w_goZM (SqL.of hD2) hft ?_
                refine lcZM (SqL.of hD2) hft (fun i acc _ => acc = ((ns.zip s.fs).take i).map fun x => V.bl (decide (p2 x.2.br ≤ x.1))) stb_pure (by rw [List.length_map]; omega) (fun i acc _ e => by rw [e, List.length_map, List.length_take]; omega) (fun _ _ => rfl) (fun i x y acc H' hx hy e ea H3 e3 k k' hk hk' => ?_) fun D2 acc H4 hD3 e4 hD4 ea => ?_
                · rw [List.getElem?_map] at hx
                  obtain ⟨n, hn1, rfl⟩ := Option.map_eq_some_iff.mp hx
                  obtain ⟨df, hdf, hyd⟩ := dqs_get2 hfd hy
                  obtain ⟨f, hf1, rfl⟩ := map_at hdf
                  have okf := ok.fd i f hf1
                  have b0 := okf.b0
                  have b1 := okf.b1
                  have hyd := dq_mono (e.trans e3) hyd
                  walk_at "Zs"
                  refine w_ixQTi (ds := [.str f.nm, .int f.br, kdD f.kd]) (n := f.br) hyd rfl ?_
                  walk_at "Zs"
                  refine hk _ _ (Same.refl _) ?_
                  rw [ea, take_snoc (x := (n, f)) (by rw [List.getElem?_zip_eq_some]; exact ⟨hn1, hf1⟩), List.map_append]
                  rfl
                · have el : min (ns.map V.int).length fxs.length = (ns.zip s.fs).length := by
                    rw [List.length_map, List.length_zip, lfx]
                  rw [el, List.take_of_length_le (Nat.le_refl _)] at ea
                  walk_at "Zs"
                  refine w_any (bs := (ns.zip s.fs).map fun x => decide (p2 x.2.br ≤ x.1)) (SqL.of (by rw [hD4, ea, List.map_map]; rfl)) ?_
                  rw [List.any_map, show ((ns.zip s.fs).any (id ∘ fun x => decide (p2 x.2.br ≤ x.1))) = tooB s.fs ns from rfl]
                  cases ht : tooB s.fs ns with
                  | true =>
                    rw [eh, ht] at er
                    walk_at "Zs"
                    exact qN er _ (e12.trans e4)
                  | false =>
                    rw [eh, ht] at er
                    walk_at "Zs"
                    refine w_tupleN (SqL.of (e4 _ _ hD2)) fun p5 H5 n5 e5 h5 => ?_
                    walk_at "Zs"
                    exact qS ns er p5 H5 (e12.trans (e4.trans e5)) h5
              · have eh : headB s.fs (headD ns) = false := by
                  show (decide ((ns.map PyData.int).length = s.fs.length) && (s.fs.zip (ns.map PyData.int)).all fun fd => betwD 0 (p2 fd.1.br - 1) fd.2) = _
                  rw [List.length_map, decide_eq_false (by omega), Bool.false_and]
                rw [eh] at er
                walk_at "Zs"
                exact qN er _ e12
  exact F0
theorem c__law_read {W : Wd} {mg : Str → Option Value} {base : Heap} (B : Bi mg) (S : Src W.K mg "_law_read" s__law_read) (T : Kl W.K mg) (C__law_number : Cal W mg base "_law_number" 1 ["_law_word"] (sp__law_number W)) : Cal W mg base "_law_read" 2 ["_law_shape_here", "_law_text"] (sp__law_read W) := by
  obtain ⟨f, fd, g, F⟩ := S
  exact ⟨f, fd, g, f__law_read B F T C__law_number, F.kp, (F.binds (ps := ["_law_shape_here", "_law_text"]) fun _ _ _ _ _ _ us hl => match us, hl with | [_, _], _ => rfl)⟩
theorem go__law_read {W : Wd} {H : Hp} {Q : VK} {E : XK} {u v : V} {s : Shp} {d : PyData} (hs : Dq W.K H u (shD s)) (ok : OkShp s) (hd : Dz W.K Ever H v d) (hl : ∀ z, d = .str z → z.length ≤ 100000) (qS : ∀ ns, readZ s.fs d = some ns → ∀ p H', Same H H' → TupN H' p (ns.map V.int) → Q (.ref p) H') (qN : readZ s.fs d = none → ∀ H', Same H H' → Q .non H') : sp__law_read W [u, v] H Q E := ⟨s, d, hs, ok, hd, hl, qS, qN⟩
theorem r_of {W : Wd} {mg : Str → Option Value} {base : Heap} (B : Bi mg) (S : Src W.K mg "_law_of" s__law_of) (C : Cal W mg base "_law_draw" 1 ["_law_pot_here", "_law_many"] (sp__law_draw W)) : OfRun W mg base 2 := by
  obtain ⟨f, fd, g, F⟩ := S
  have bi := F.binds (ps := ["_law_pot_here", "_law_some"]) fun _ _ _ _ _ _ us hl => match us, hl with | [_, _], _ => rfl
  have kp := F.kp
  obtain ⟨oc, od, kV, doc, pm, an, cdv, ct, osl, rfl, lk, hcd⟩ := F.ex
  obtain ⟨a_d, d_d, g_d, F_d, k_d, b_d⟩ := C
  refine ⟨f, g, kp, fun A outer s H p o its m zs pv u n hr e0 rv hp ho1 ho2 ht hbx hn z0 z1 => ?_⟩
  have SS := sc__law_of
  have KX : W.K.In s.heap := e0.mod.kin.keeps fun b o e => (e0.bs b o e).1
  have lim : s.heap.NoLimit := e0.mod.nolimit.keeps fun b o e => (e0.bs b o e).1
  have hkind : ∀ y ∈ (["_law_pot_here", "_law_some"] : List Str).zip [u, Value.ref p], (defScope s__law_of).names.lookup y.1 = some .local ∨ ((defScope s__law_of).names.lookup y.1 = some .cell ∧ ((cellsFrom (s.heap.objs.size + 1) (defScope s__law_of).names []).lookup y.1).isSome = true) := fun ⟨n, v⟩ hy => by
    rcases SS.par n (List.of_mem_zip hy).1 with q | q
    · exact .inl q
    · exact .inr ⟨q, PySem.W.cellsFrom_some _ _ _ (.inl q)⟩
  refine codeAny_call_function hr.depth (KX _ _ lk) rfl SS.co SS.gen rfl (PySem.W.codeRec_of KX hcd) (bi s [u, .ref p] KX rfl _ _ _ _ ?_)
  refine wpAny_newFunctionEnv_cells SS.kind hkind fun env he s1 xx => ?_
  subst he
  refine ⟨lim.keeps xx.toInCall.keep, codeAny_func ?_⟩
  have rvs : Vals [pv, V.ref p] [u, Value.ref p] := .cons rv (.cons rfl .nil)
  have I : Inv (cxOf CX0 W.P W.w W.K mg base N__law_of "_law_of" (defScope s__law_of) f cdv A outer s H (fun _ _ _ => False)) [] (L2.start N__law_of [pv, .ref p]) H s1 := inv_start SS hr.hd e0 rfl rvs xx
  have nd := SS.nd
  refine wpAny_execs_cons (wpAny_Return_some (Subscript_ (raw_name (i := 1) (x := "_law_some") (v := .ref p) rfl (.inl rfl) I rfl (fun v r => ?_))))
  obtain rfl : v = Value.ref p := r
  have hT : (tCall (sp__law_draw W) [] E0 (tCons (tVar 0) (tCons (tCB (rLenU W.K) (tCons (tVar 1) (tNil))) (tNil)))) (L2.start N__law_of [pv, .ref p]) H (fun v H' => ∃ d : Int, v = .int d ∧ 0 ≤ d ∧ d < zs.length ∧ Sx H H' ∧ BoxAt W false (n + 1) H' pv) := by
    rw [show L2.start N__law_of [pv, .ref p] = [some pv, some (.ref p)] from rfl]
    walk_at "Zq"
    refine w_lenL (xs := zs.map V.str) (.inl (.inr ⟨o, hp⟩)) ?_
    rw [List.length_map]
    walk_at "Zq"
    refine go__law_draw hbx (by omega) (by omega) hn fun d H1 e d0 d1 hb1 => ?_
    exact ⟨d, rfl, d0, d1, e, hb1⟩
  refine wpAny_mono ((pe_call F_d (hr.deeper _) (by rfl) g_d k_d b_d .nil pass0 (pa_cons (pe_var (i := 0) rfl (.inl rfl)) (pa_cons (pe_callB u_len (by rfl) B.b_len (by decide +kernel) (pa_cons (pe_var (i := 1) rfl (.inl rfl)) (pa_nil))) (pa_nil)))).run [] s1 _ H _ I hT) (fun dv s2 hq => ?_) (fun e s' h => wpAny_mono h (fun _ _ z => (show False from z).elim) fun _ _ z => (show False from z).elim)
  obtain ⟨dv', H2, I2, rd, d, dd, d0, d1, e2, hb2⟩ := hq
  subst dd
  obtain ⟨td, rfl⟩ := rd
  have hz : H2 p = some (.frz o (.lst (zs.map V.str))) := e2.keep _ _ hp rfl
  obtain ⟨h5, hl⟩ := (show ObjOk W.P W.w H2 s2.heap p (.frz o (.lst (zs.map V.str))) from I2.hok p _ hz)
  obtain ⟨_, us, n', r', h6⟩ := hl
  have eo : o = { cls := .type "list", data := .seq us.toArray n' } := Option.some.inj (h5.symm.trans h6)
  have ei : its = us.toArray := by
    rw [eo] at ho2
    injection ho2 with e1 e2
    exact e1.symm
  subst ei
  have dl : d.toNat < zs.length := by omega
  obtain ⟨w, hw, rw'⟩ := r'.get (i := d.toNat) (x := .str zs[d.toNat]) (by rw [List.getElem?_map, List.getElem?_eq_getElem dl]; rfl)
  obtain ⟨tw, rfl⟩ := rw'
  refine item_listR (s := s2) ⟨o, h5, ho1, m, ho2⟩ d0 (by omega) (x := .str zs[d.toNat] tw) (by rw [List.getElem?_toArray]; exact hw) ?_ (by rfl)
  exact ⟨zs[d.toNat], tw, rfl, ht _ (List.mem_of_getElem? hw) _ _ rfl, List.getElem_mem dl, .str zs[d.toNat], H2, I2.os, I2.bare, I2.base, I2.hok, ⟨tw, rfl⟩, rfl, e2, hb2⟩
theorem head_fig {s : Shp} {ns : List Int} (ok : OkShp s) (oh : OkHead s.fs ns) : ∀ n ∈ ns, 0 ≤ n ∧ n < 10 ^ 15 := fun n hn => by
  have t15 := ten15
  obtain ⟨i, hi⟩ := List.mem_iff_getElem?.mp hn
  have l := okHead_len oh
  have hl := (List.getElem?_eq_some_iff.mp hi).1
  obtain ⟨f, hf⟩ : ∃ f, s.fs[i]? = some f := ⟨_, List.getElem?_eq_getElem (by omega)⟩
  have := okHead_get oh hf hi
  have := p2_40 (ok.fd i f hf).b1
  omega
theorem head_len {s : Shp} {ns : List Int} (ok : OkShp s) (oh : OkHead s.fs ns) : (headT ns).length ≤ 600 := by
  have t15 := ten15
  have hf := head_fig ok oh
  have l := okHead_len oh
  have l1 := ok.l1
  have := join_le (y := ".") (m := 40) (by decide) (zs := ns.map sgS) fun z hz => by
    obtain ⟨n, hn, rfl⟩ := List.mem_map.mp hz
    have := hf n hn
    exact (clean_sg (n := n) (by omega) (by omega)).2.2.1
  rw [List.length_map] at this
  unfold headT
  omega
theorem join_any {zs : List Str} (l : zs.length ≤ 40) (h : ∀ z ∈ zs, z.length ≤ 60) : (zs.map (·.length)).sum + zs.length * ("." : Str).length ≤ 16777216 ∧ (Txt.join "." zs).length ≤ 100000 := by
  have s1 := sum_leT (l := zs.map (·.length)) (m := 60) fun m hm => by
    obtain ⟨z, hz, rfl⟩ := List.mem_map.mp hm
    exact h z hz
  have e : zs.length * ("." : Str).length = zs.length := Nat.mul_one _
  have j := join_le (y := ".") (m := 60) (by decide) h
  rw [List.length_map] at s1
  omega
def sp__law_bent (W : Wd) : Sp := fun vs H Q _ => match vs with
  | [v_pot_here, v_shape_here, v_head] =>
  ∃ (n : Int) (s : Shp) (ns : List Int), BoxAt W false n H v_pot_here ∧ n ≤ 999999000 ∧ Dq W.K H v_shape_here (shD s) ∧ OkShp s ∧ Dq W.K H v_head (headD ns) ∧ OkHead s.fs ns ∧ ∀ (z : Str) H', Sx H H' → z.length ≤ 100000 → BoxAt W false (n + 10) H' v_pot_here → Q (.str z) H'
  | _ => False
abbrev N__law_bent : List Str := ["_law_pot_here", "_law_shape_here", "_law_head", "_law_words", "_law_at", "_law_way", "_law_top", "_law_some", "_law_value_here"]
theorem sc__law_bent : FnScope N__law_bent ["_law_pot_here", "_law_shape_here", "_law_head"] (defScope s__law_bent) := ⟨rfl, rfl, rfl, by decide +kernel, rfl, by decide +kernel, by decide +kernel⟩
theorem f__law_bent {W : Wd} {mg : Str → Option Value} {base : Heap} (B : Bi mg) {f : Addr} {fd : FuncData} (F : Fun W.K "_law_bent" "_law_bent" s__law_bent f fd) (T : Kl W.K mg) (C__law_of : Cal W mg base "_law_of" 2 ["_law_pot_here", "_law_some"] (sp__law_of W)) (C__law_head_text : Cal W mg base "_law_head_text" 1 ["_law_head"] (sp__law_head_text W)) (C__law_draw : Cal W mg base "_law_draw" 1 ["_law_pot_here", "_law_many"] (sp__law_draw W)) (R_of : OfRun W mg base 2) : FnOk W.P W.w W.K mg base CX0 3 f fd ["_law_pot_here", "_law_shape_here", "_law_head"] (sp__law_bent W) := by
  obtain ⟨a__law_of, d__law_of, g__law_of, F__law_of, k__law_of, b__law_of⟩ := C__law_of
  obtain ⟨a__law_head_text, d__law_head_text, g__law_head_text, F__law_head_text, k__law_head_text, b__law_head_text⟩ := C__law_head_text
  obtain ⟨a__law_draw, d__law_draw, g__law_draw, F__law_draw, k__law_draw, b__law_draw⟩ := C__law_draw
  have nd := sc__law_bent.nd
  have F0 : FnOk W.P W.w W.K mg base CX0 3 f fd ["_law_pot_here", "_law_shape_here", "_law_head"] (sp__law_bent W) := by
    refine okT F sc__law_bent (by decide +kernel) (by decide) (fun vs H Q E h => ?_) (fun cdv A outer s H vs Q E hr h => ?_)
    · match vs, h with | [_, _, _], _ => rfl
    · match vs, h with
      | [v_pot_here, v_shape_here, v_head], h =>
        change sp__law_bent W [v_pot_here, v_shape_here, v_head] H Q E at h
        refine ⟨tSeq (tAsg (tLc (iAny W.K (tVar 2)) (gName 8) (tYes) (tCB (rStrU) (tCons (tVar 8) (tNil))) [8]) (gName 3)) (tSeq (tPar 4 5 (tCons (tCall (sp__law_draw W) [] E0 (tCons (tVar 0) (tCons (tCB (rLenU W.K) (tCons (tVar 3) (tNil))) (tNil)))) (tCons (tCall (sp__law_draw W) [] E0 (tCons (tVar 0) (tCons (tC (.int 8)) (tNil)))) (tNil)))) (tSeq (tAsg (tOp (rShlU) (tC (.int 1)) (tOp (rIxU W.K) (tOp (rIxU W.K) (tOp (rIxU W.K) (tVar 1) (tC (.int 0))) (tVar 4)) (tC (.int 1)))) (gName 6)) (tSeq (tIfS (tTest (tOp (rEqU W.K) (tVar 5) (tC (.int 0)))) (tRet (tM1 (rJoinU W.K) (tC (.str ".")) (tOp (rAddN W.K) (tSl (rSlU W.K) (tVar 3) (tNoPart) (tPart (tVar 4))) (tSl (rSlU W.K) (tVar 3) (tPart (tOp (rAddN W.K) (tVar 4) (tC (.int 1)))) (tNoPart))))) (tNext)) (tSeq (tIfS (tTest (tOp (rEqU W.K) (tVar 5) (tC (.int 1)))) (tRet (tM1 (rJoinU W.K) (tC (.str ".")) (tOp (rAddN W.K) (tOp (rAddN W.K) (tSl (rSlU W.K) (tVar 3) (tNoPart) (tPart (tVar 4))) (tLst (tCons (tOp (rIxU W.K) (tVar 3) (tVar 4)) (tNil)))) (tSl (rSlU W.K) (tVar 3) (tPart (tVar 4)) (tNoPart))))) (tNext)) (tSeq (tIfS (tTest (tOp (rEqU W.K) (tVar 5) (tC (.int 2)))) (tRet (tM1 (rJoinU W.K) (tC (.str ".")) (tRevL W.K (tVar 3)))) (tNext)) (tSeq (tIfS (tTest (tOp (rEqU W.K) (tVar 5) (tC (.int 3)))) (tRet (tCall (sp__law_of W) [] E0 (tCons (tVar 0) (tCons (tLst (tCons (tOp (rAddN W.K) (tC (.str ".")) (tCall (sp__law_head_text W) [] E0 (tCons (tVar 2) (tNil)))) (tCons (tOp (rAddN W.K) (tCall (sp__law_head_text W) [] E0 (tCons (tVar 2) (tNil))) (tC (.str "."))) (tCons (tOp (rAddN W.K) (tCall (sp__law_head_text W) [] E0 (tCons (tVar 2) (tNil))) (tC (.str "\n"))) (tNil))))) (tNil))))) (tNext)) (tSeq (tIfS (tTest (tOp (rEqU W.K) (tVar 5) (tC (.int 4)))) (tRet (tReplOf W (tCall (sp__law_head_text W) [] E0 (tCons (tVar 2) (tNil))) (tVar 0))) (tNext)) (tSeq (tAsg (tLst (tCons (tCB (rStrU) (tCons (tVar 6) (tNil))) (tCons (tCB (rStrU) (tCons (tOp (rSubU) (tVar 6) (tC (.int 1))) (tNil))) (tCons (tOp (rAddN W.K) (tC (.str "0")) (tOp (rIxU W.K) (tVar 3) (tVar 4))) (tCons (tOp (rAddN W.K) (tC (.str "-")) (tOp (rIxU W.K) (tVar 3) (tVar 4))) (tCons (tOp (rAddN W.K) (tOp (rIxU W.K) (tVar 3) (tVar 4)) (tC (.str " "))) (tCons (tOp (rAddN W.K) (tC (.str "+")) (tOp (rIxU W.K) (tVar 3) (tVar 4))) (tCons (tC (.str "")) (tCons (tC (.str "x")) (tNil)))))))))) (gName 7)) (tSeq (tAsg (tOp (rAddN W.K) (tVar 7) (tLst (tCons (tOp (rAddN W.K) (tOp (rMulN W.K) (tC (.str "0")) (tOp (rSubU) (tC (.int 16)) (tCB (rLenU W.K) (tCons (tOp (rIxU W.K) (tVar 3) (tVar 4)) (tNil))))) (tOp (rIxU W.K) (tVar 3) (tVar 4))) (tCons (tOp (rMulN W.K) (tC (.str "9")) (tC (.int 16))) (tCons (tOp (rMulN W.K) (tC (.str "9")) (tC (.int 15))) (tCons (tOp (rAddN W.K) (tOp (rIxU W.K) (tVar 3) (tVar 4)) (tC (.str "0"))) (tCons (tC (.str "1_0")) (tCons (tC (.str "-0")) (tNil))))))))) (gName 7)) (tRet (tM1 (rJoinU W.K) (tC (.str ".")) (tOp (rAddN W.K) (tOp (rAddN W.K) (tSl (rSlU W.K) (tVar 3) (tNoPart) (tPart (tVar 4))) (tLst (tCons (tCall (sp__law_of W) [] E0 (tCons (tVar 0) (tCons (tVar 7) (tNil)))) (tNil)))) (tSl (rSlU W.K) (tVar 3) (tPart (tOp (rAddN W.K) (tVar 4) (tC (.int 1)))) (tNoPart)))))))))))))), psst_cons (PST.of (ps_setLc (i := 3) (own := [("_law_value_here", 8)]) rfl nd rfl rfl (sw_true rfl rfl rfl (by decide +kernel)) (pi_any (pv 2)) (blkOk_by (own := [("_law_value_here", 8)]) (N := N__law_bent) (sc := defScope s__law_bent) (by decide +kernel)) (fun _ _ _ _ _ => pg_name (i := 8) nd rfl (by first | exact Or.inl rfl | exact Or.inr rfl)) (fun _ _ _ _ _ => pts_nil) (fun _ _ _ _ _ => pe_callTy u_str (by rfl) B.b_str (by decide +kernel) (pa_cons (pv 8) (pa_nil))))) (psst_cons (PST.of (ps_par (by rfl) nd rfl rfl (by decide) rfl rfl (pa_cons (pe_call F__law_draw (hr.mono (by decide)) (by rfl) g__law_draw k__law_draw b__law_draw .nil pass0 (pa_cons (pv 0) (pa_cons (pe_callB u_len (by rfl) B.b_len (by decide +kernel) (pa_cons (pv 3) (pa_nil))) (pa_nil)))) (pa_cons (pe_call F__law_draw (hr.mono (by decide)) (by rfl) g__law_draw k__law_draw b__law_draw .nil pass0 (pa_cons (pv 0) (pa_cons (pe_int) (pa_nil)))) (pa_nil))) (by rfl))) (psst_cons (PST.of (ps_set (i := 6) nd rfl (.inl rfl) (pe_op u_shl (pe_int) (pe_ix u_ix (pe_ix u_ix (pe_ix u_ix (pv 1) (pe_int) (fun _ _ => rfl)) (pv 4) (fun _ _ => rfl)) (pe_int) (fun _ _ => rfl))))) (psst_cons (PST.of (ps_if (pt_cmpR (u_eq hr.units) (pv 5) (pe_int) (nomark _)) (pss_one (ps_ret (pe_join (pe_str) (pe_op u_addN (pe_slice u_sl (pv 3) (po_none) (po_some (pv 4))) (pe_slice u_sl (pv 3) (po_some (pe_op u_addN (pv 4) (pe_int))) (po_none)))))) (pss_nil))) (psst_cons (PST.of (ps_if (pt_cmpR (u_eq hr.units) (pv 5) (pe_int) (nomark _)) (pss_one (ps_ret (pe_join (pe_str) (pe_op u_addN (pe_op u_addN (pe_slice u_sl (pv 3) (po_none) (po_some (pv 4))) (pe_lst (pa_cons (pe_ix u_ix (pv 3) (pv 4) (fun _ _ => rfl)) (pa_nil)))) (pe_slice u_sl (pv 3) (po_some (pv 4)) (po_none)))))) (pss_nil))) (psst_cons (PST.of (ps_if (pt_cmpR (u_eq hr.units) (pv 5) (pe_int) (nomark _)) (pss_one (ps_ret (pe_join (pe_str) (pe_revL (pv 3))))) (pss_nil))) (psst_cons (PST.of (ps_if (pt_cmpR (u_eq hr.units) (pv 5) (pe_int) (nomark _)) (pss_one (ps_ret (pe_call F__law_of (hr.mono (by decide)) (by rfl) g__law_of k__law_of b__law_of .nil pass0 (pa_cons (pv 0) (pa_cons (pe_lst (pa_cons (pe_op u_addN (pe_str) (pe_call F__law_head_text (hr.mono (by decide)) (by rfl) g__law_head_text k__law_head_text b__law_head_text .nil pass0 (pa_cons (pv 2) (pa_nil)))) (pa_cons (pe_op u_addN (pe_call F__law_head_text (hr.mono (by decide)) (by rfl) g__law_head_text k__law_head_text b__law_head_text .nil pass0 (pa_cons (pv 2) (pa_nil))) (pe_str)) (pa_cons (pe_op u_addN (pe_call F__law_head_text (hr.mono (by decide)) (by rfl) g__law_head_text k__law_head_text b__law_head_text .nil pass0 (pa_cons (pv 2) (pa_nil))) (pe_str)) (pa_nil))))) (pa_nil)))))) (pss_nil))) (psst_cons (CwR.pst_if (pt_cmpR (u_eq hr.units) (pv 5) (pe_int) (nomark _)) (CwR.psst_one (CwR.pst_ret (pet_replOf ⟨rfl, rfl, rfl⟩ R_of (hr.mono (by decide)) (by rfl) (pe_call F__law_head_text (hr.mono (by decide)) (by rfl) g__law_head_text k__law_head_text b__law_head_text .nil pass0 (pa_cons (pv 2) (pa_nil))) (pv 0)))) CwR.psst_nil) (psst_cons (PST.of (ps_set (i := 7) nd rfl (.inl rfl) (pe_lst (pa_cons (pe_callTy u_str (by rfl) B.b_str (by decide +kernel) (pa_cons (pv 6) (pa_nil))) (pa_cons (pe_callTy u_str (by rfl) B.b_str (by decide +kernel) (pa_cons (pe_op u_sub (pv 6) (pe_int)) (pa_nil))) (pa_cons (pe_op u_addN (pe_str) (pe_ix u_ix (pv 3) (pv 4) (fun _ _ => rfl))) (pa_cons (pe_op u_addN (pe_str) (pe_ix u_ix (pv 3) (pv 4) (fun _ _ => rfl))) (pa_cons (pe_op u_addN (pe_ix u_ix (pv 3) (pv 4) (fun _ _ => rfl)) (pe_str)) (pa_cons (pe_op u_addN (pe_str) (pe_ix u_ix (pv 3) (pv 4) (fun _ _ => rfl))) (pa_cons (pe_str) (pa_cons (pe_str) (pa_nil)))))))))))) (psst_cons (PST.of (ps_set (i := 7) nd rfl (.inl rfl) (pe_op u_addN (pv 7) (pe_lst (pa_cons (pe_op u_addN (pe_op u_mulN (pe_str) (pe_op u_sub (pe_int) (pe_callB u_len (by rfl) B.b_len (by decide +kernel) (pa_cons (pe_ix u_ix (pv 3) (pv 4) (fun _ _ => rfl)) (pa_nil))))) (pe_ix u_ix (pv 3) (pv 4) (fun _ _ => rfl))) (pa_cons (pe_op u_mulN (pe_str) (pe_int)) (pa_cons (pe_op u_mulN (pe_str) (pe_int)) (pa_cons (pe_op u_addN (pe_ix u_ix (pv 3) (pv 4) (fun _ _ => rfl)) (pe_str)) (pa_cons (pe_str) (pa_cons (pe_str) (pa_nil))))))))))) (CwR.psst_one (PST.of (ps_ret (pe_join (pe_str) (pe_op u_addN (pe_op u_addN (pe_slice u_sl (pv 3) (po_none) (po_some (pv 4))) (pe_lst (pa_cons (pe_call F__law_of (hr.mono (by decide)) (by rfl) g__law_of k__law_of b__law_of .nil pass0 (pa_cons (pv 0) (pa_cons (pv 7) (pa_nil)))) (pa_nil)))) (pe_slice u_sl (pv 3) (po_some (pe_op u_addN (pv 4) (pe_int))) (po_none)))))))))))))))), ?_⟩
        clear hr
        clear F__law_of g__law_of k__law_of b__law_of d__law_of a__law_of
        clear F__law_head_text g__law_head_text k__law_head_text b__law_head_text d__law_head_text a__law_head_text
        clear F__law_draw g__law_draw k__law_draw b__law_draw d__law_draw a__law_draw
        rw [show L2.start N__law_bent [v_pot_here, v_shape_here, v_head] = [some v_pot_here, some v_shape_here, some v_head, none, none, none, none, none, none] from rfl]
        obtain ⟨n, s, ns, hp, hn, hs, ok, hh, oh, q⟩ := h
        have t15 := ten15
        have fg := head_fig ok oh
        have lhd := okHead_len oh
        have l0 := ok.l0
        have l1 := ok.l1
        have lT := head_len ok oh
        obtain ⟨ah, rfl, hah⟩ := dq_ti hh
        walk_at "Zq"
        refine w_goT hah.t ?_
        refine lcT hah.t (fun i acc _ => acc = ((ns.take i).map sgS).map V.str) stb_pure (by rw [List.length_map]; omega) (fun i acc _ e => by rw [e, List.length_map, List.length_map, List.length_take]; omega) (fun _ _ => rfl) (fun i x acc H' hx e ea k k' hk1 hk' => ?_) fun D acc H1 hD e1 hD' ea => ?_
        · rw [List.getElem?_map] at hx
          obtain ⟨n, hn1, rfl⟩ := Option.map_eq_some_iff.mp hx
          have := fg n (List.mem_of_getElem? hn1)
          walk_at "Zq"
          refine w_strS6 (by omega) (by omega) ?_
          refine hk1 _ _ (Same.refl _) ?_
          rw [ea, take_snoc hn1, List.map_append, List.map_append]
          rfl
        · rw [List.length_map, List.take_of_length_le (Nat.le_refl _)] at ea
          subst ea
          have hs1 := dq_mono e1 hs
          have hh1 := dq_mono e1 hh
          have p1 := box_mono e1 hp
          have zl : ∀ z ∈ ns.map sgS, z.length ≤ 15 := fun z hz => by
            obtain ⟨m, hm, rfl⟩ := List.mem_map.mp hz
            obtain ⟨k, rfl⟩ := Int.eq_ofNat_of_zero_le (fg m hm).1
            have := (fg _ hm).2
            exact (sg_len (n := k) (by omega)).2
          have lzs : (ns.map sgS).length = s.fs.length := by rw [List.length_map, lhd]
          generalize ns.map sgS = zs at hD' zl lzs
          walk_at "Zq"
          refine w_lenL (SqL.of hD') ?_
          rw [List.length_map]
          walk_at "Zq"
          refine go__law_draw p1 (by omega) (by omega) (by omega) fun d H2 e2 d0 d1 p2 => ?_
          walk_at "Zq"
          refine go__law_draw p2 (by omega) (by omega) (by omega) fun y H3 e3 y0 y1 p3 => ?_
          walk_at "Zq"
          have e13 := e2.trans e3
          have hs3 := dqx e13 hs1
          have hh3 := dqx e13 hh1
          have hD3 : H3 D = some (.lst (zs.map V.str)) := e13.keep _ _ hD' rfl
          have fin : ∀ (ys : List Str) (a : Addr) (H' : Hp), H' a = some (.lst (ys.map V.str)) → ys.length ≤ 40 → (∀ z ∈ ys, z.length ≤ 60) → Sx H3 H' → BoxAt W false (n + 9) H' v_pot_here → rJoinU W.K (.str ".") [.ref a] H' Q := fun ys a H' ha l hy e b => by
            refine w_joinL (ys := ys) (SqL.of ha) (join_any l hy).1 ?_
            exact q _ _ ((Same.sx e1).trans (e13.trans e)) (join_any l hy).2 (box_le (by omega) b)
          refine w_ixQT hs3 (d := .tuple (s.fs.map fdD)) rfl fun x1 h1 => ?_
          walk_at "Zq"
          refine w_ixM h1 d0 (by omega) fun fd xf hfd hxf => ?_
          have okf := ok.fd _ _ hfd
          have bb0 := okf.b0
          have bb1 := okf.b1
          walk_at "Zq"
          refine w_ixQTi (ds := [.str fd.nm, .int fd.br, kdD fd.kd]) (n := fd.br) hxf rfl ?_
          refine w_shl1 (by omega) (by omega) ?_
          walk_at "Zq"
          have cl := fun (lo hi : Option Int) => cutD_len (xs := zs) (lo := lo) (hi := hi)
          have cm : ∀ (lo hi : Option Int), ∀ z ∈ cutD zs lo hi, z.length ≤ 60 := fun lo hi z hz => Nat.le_trans (zl z (cutD_mem hz)) (by decide)
          refine w_dec (fun c0 => ?_) (fun c0 => ?_)
          · walk_at "Zq"
            refine w_slLs (SqL.of hD3) fun pA HA nA eA hA => ?_
            walk_at "Zq"
            refine w_slLs (SqL.of (eA _ _ hD3)) fun pB HB nB eB hB => ?_
            walk_at "Zq"
            have la := cl none (some d)
            have lb := cl (some (d + 1)) none
            refine w_catL (eB _ _ hA) hB (by rw [List.length_map, List.length_map]; omega) fun pC HC nC eC hC => ?_
            walk_at "Zq"
            refine fin (cutD zs none (some d) ++ cutD zs (some (d + 1)) none) pC HC (by rw [hC, List.map_append]) (by rw [List.length_append]; omega) (fun z hz => ?_) (Same.sx (eA.trans (eB.trans eC))) (box_mono (eA.trans (eB.trans eC)) (box_le (by omega) p3))
            · rcases List.mem_append.mp hz with h | h
              · exact cm _ _ z h
              · exact cm _ _ z h
          · obtain ⟨wz, hw1, hw2⟩ := atI_get (l := zs) d0 (by omega)
            have hwl : wz.length ≤ 60 := Nat.le_trans (zl wz (List.mem_of_getElem? hw1)) (by decide)
            walk_at "Zq"
            refine w_dec (fun c1 => ?_) (fun c1 => ?_)
            · walk_at "Zq"
              refine w_slLs (SqL.of hD3) fun pA HA nA eA hA => ?_
              walk_at "Zq"
              refine w_ixLs (SqL.of (eA _ _ hD3)) hw2 ?_
              walk_at "Zq"
              rename_i pB HB nB eB hB
              have la := cl none (some d)
              have lb := cl (some d) none
              refine w_catL (eB _ _ hA) hB (by rw [List.length_map]; show _ + 1 ≤ _; omega) fun pC HC nC eC hC => ?_
              walk_at "Zq"
              have eAC := eA.trans (eB.trans eC)
              refine w_slLs (SqL.of (eAC _ _ hD3)) fun pE HE nE eE hE => ?_
              walk_at "Zq"
              refine w_catL (eE _ _ hC) hE (by rw [List.length_append, List.length_map, List.length_map]; show _ + 1 + _ ≤ _; omega) fun pF HF nF eF hF => ?_
              walk_at "Zq"
              have eAF := eAC.trans (eE.trans eF)
              refine fin (cutD zs none (some d) ++ [wz] ++ cutD zs (some d) none) pF HF (by rw [hF, List.map_append, List.map_append]; rfl) (by rw [List.length_append, List.length_append]; show _ + 1 + _ ≤ _; omega) (fun z hz => ?_) (Same.sx eAF) (box_mono eAF (box_le (by omega) p3))
              rcases List.mem_append.mp hz with h | h
              · rcases List.mem_append.mp h with h | h
                · exact cm _ _ z h
                · rw [List.mem_singleton.mp h]
                  exact hwl
              · exact cm _ _ z h
            · walk_at "Zq"
              refine w_dec (fun c2 => ?_) (fun c2 => ?_)
              · walk_at "Zq"
                refine w_revL ?_
                walk_at "Zq"
                refine ⟨D, _, rfl, SqL.of hD3, fun pE nE => ?_⟩
                have eE : Same H3 (upd H3 pE (.lst (zs.map V.str).reverse)) := same_new nE
                have hE : upd H3 pE (.lst (zs.map V.str).reverse) pE = some (.lst (zs.reverse.map V.str)) := by rw [upd_same, List.map_reverse]
                generalize upd H3 pE (.lst (zs.map V.str).reverse) = HE at eE hE
                refine fin zs.reverse pE HE hE (by rw [List.length_reverse]; omega) (fun z hz => Nat.le_trans (zl z (List.mem_reverse.mp hz)) (by decide)) (Same.sx eE) (box_mono eE (box_le (by omega) p3))
              · walk_at "Zq"
                refine w_dec (fun c3 => ?_) (fun c3 => ?_)
                · walk_at "Zq"
                  refine go__law_head_text hh3 (by omega) fg fun HA eA => ?_
                  refine w_addsN (Nat.le_trans (m := 1000) (by show 1 + _ ≤ 1000; omega) (by decide)) ?_
                  walk_at "Zq"
                  refine go__law_head_text (dq_mono eA hh3) (by omega) fg fun HB eB => ?_
                  walk_at "Zq"
                  refine w_addsN (Nat.le_trans (m := 1000) (by show _ + 1 ≤ 1000; omega) (by decide)) ?_
                  walk_at "Zq"
                  refine go__law_head_text (dq_mono (eA.trans eB) hh3) (by omega) fg fun HC eC => ?_
                  walk_at "Zq"
                  refine w_addsN (Nat.le_trans (m := 1000) (by show _ + 1 ≤ 1000; omega) (by decide)) ?_
                  walk_at "Zq"
                  rename_i pE HE nE eE hE
                  have eAE := eA.trans (eB.trans (eC.trans eE))
                  refine go__law_ofL (box_mono eAE p3) (SqL.of hE) (by omega) (show 0 < 3 by decide) (show 3 ≤ 1000000 by decide) fun i x H' hx e' b' => ?_
                  have hx := List.mem_of_getElem? hx
                  simp only [List.mem_cons, List.not_mem_nil, or_false] at hx
                  have la : ∀ a b : Str, (a ++ b).length = a.length + b.length := fun a b => len_app a b
                  rcases hx with rfl | rfl | rfl
                  · exact q _ _ ((Same.sx e1).trans (e13.trans ((Same.sx eAE).trans e'))) (by rw [la]; show 1 + _ ≤ _; omega) (box_le (by omega) b')
                  · exact q _ _ ((Same.sx e1).trans (e13.trans ((Same.sx eAE).trans e'))) (by rw [la]; show _ + 1 ≤ _; omega) (box_le (by omega) b')
                  · exact q _ _ ((Same.sx e1).trans (e13.trans ((Same.sx eAE).trans e'))) (by rw [la]; show _ + 1 ≤ _; omega) (box_le (by omega) b')
                · walk_at "Zq"
                  refine w_dec (fun c4 => ?_) (fun c4 => ?_)
                  · walk_at "Zq"
                    refine w_replOf ?_
                    walk_at "Zq"
                    refine go__law_head_text hh3 (by omega) fg fun HA eA => ?_
                    refine ⟨_, rfl, by omega, ?_⟩
                    walk_at "Zq"
                    refine ⟨_, box_mono eA p3, by omega, fun z H' e' b' hz => ?_⟩
                    exact q z H' ((Same.sx e1).trans (e13.trans ((Same.sx eA).trans e'))) hz (box_le (by omega) b')
                  · walk_at "Zq"
                    have pp := p2_40 bb1
                    have pq := p2_pos fd.br
                    have hw15 := zl wz (List.mem_of_getElem? hw1)
                    refine w_strS6 (by omega) (by omega) ?_
                    walk_at "Zq"
                    refine w_strS6 (by omega) (by omega) ?_
                    walk_at "Zq"
                    refine w_ixLs (SqL.of hD3) hw2 ?_
                    walk_at "Zq"
                    refine w_addsN (Nat.le_trans (m := 100) (by show 1 + _ ≤ 100; omega) (by decide)) ?_
                    walk_at "Zq"
                    refine w_ixLs (SqL.of hD3) hw2 ?_
                    walk_at "Zq"
                    refine w_addsN (Nat.le_trans (m := 100) (by show 1 + _ ≤ 100; omega) (by decide)) ?_
                    walk_at "Zq"
                    refine w_ixLs (SqL.of hD3) hw2 ?_
                    walk_at "Zq"
                    refine w_addsN (Nat.le_trans (m := 100) (by show _ + 1 ≤ 100; omega) (by decide)) ?_
                    walk_at "Zq"
                    refine w_ixLs (SqL.of hD3) hw2 ?_
                    walk_at "Zq"
                    refine w_addsN (Nat.le_trans (m := 100) (by show 1 + _ ≤ 100; omega) (by decide)) ?_
                    walk_at "Zq"
                    rename_i pA HA nA eA hA
                    have hDA := eA _ _ hD3
                    refine w_ixLs (SqL.of hDA) hw2 ?_
                    walk_at "Zq"
                    refine w_lenS (Nat.le_trans (m := 100) (by omega) (by decide)) ?_
                    walk_at "Zq"
                    obtain ⟨m, hm⟩ : ∃ m : Nat, (16 : Int) - (wz.length : Int) = m := Int.eq_ofNat_of_zero_le (by omega)
                    rw [hm]
                    refine w_mulNs (mul_ok (by omega) (by omega) (show (1 : Nat) ≤ 8 by decide)) ?_
                    have lm : (Txt.mul ("0" : Str) (m : Int)).length = m := mul1_len (c := 48)
                    walk_at "Zq"
                    refine w_ixLs (SqL.of hDA) hw2 ?_
                    walk_at "Zq"
                    refine w_addsN (Nat.le_trans (m := 100) (by rw [lm]; omega) (by decide)) ?_
                    walk_at "Zq"
                    refine w_mulNs (mul_ok (by omega) (by omega) (show (1 : Nat) ≤ 8 by decide)) ?_
                    walk_at "Zq"
                    refine w_mulNs (mul_ok (by omega) (by omega) (show (1 : Nat) ≤ 8 by decide)) ?_
                    walk_at "Zq"
                    refine w_ixLs (SqL.of hDA) hw2 ?_
                    walk_at "Zq"
                    refine w_addsN (Nat.le_trans (m := 100) (by show _ + 1 ≤ 100; omega) (by decide)) ?_
                    walk_at "Zq"
                    rename_i pB HB nB eB hB
                    have t1 := (clean_sg (n := Sh.p2 fd.br) (by omega) (by omega)).2.2.1
                    have t2 := (clean_sg (n := Sh.p2 fd.br - 1) (by omega) (by omega)).2.2.1
                    refine w_catL (eB _ _ hA) hB (show 8 + 6 ≤ 1000000 by decide) fun pC HC nC eC hC => ?_
                    walk_at "Zq"
                    have eAC := eA.trans (eB.trans eC)
                    refine w_slLs (SqL.of (eAC _ _ hD3)) fun pE HE nE eE hE => ?_
                    walk_at "Zq"
                    have eAE := eAC.trans eE
                    refine go__law_ofL (box_mono eAE p3) (SqL.of (eE _ _ hC)) (by omega) (show 0 < 14 by decide) (show 14 ≤ 1000000 by decide) fun i x HF hx eF bF => ?_
                    have hx := List.mem_of_getElem? hx
                    simp only [List.cons_append, List.nil_append, List.mem_cons, List.not_mem_nil, or_false] at hx
                    have hz : ∃ z : Str, x = .str z ∧ z.length ≤ 60 := by
                      rcases hx with h | h | h | h | h | h | h | h | h | h | h | h | h | h <;> refine ⟨_, h, ?_⟩
                      · omega
                      · omega
                      · rw [len_app]; show 1 + _ ≤ 60; omega
                      · rw [len_app]; show 1 + _ ≤ 60; omega
                      · rw [len_app]; show _ + 1 ≤ 60; omega
                      · rw [len_app]; show 1 + _ ≤ 60; omega
                      · decide
                      · decide
                      · rw [len_app, lm]; omega
                      · exact Nat.le_trans (Nat.le_of_eq (mul1_len (c := 57) (n := 16))) (by decide)
                      · exact Nat.le_trans (Nat.le_of_eq (mul1_len (c := 57) (n := 15))) (by decide)
                      · rw [len_app]; show _ + 1 ≤ 60; omega
                      · decide
                      · decide
                    obtain ⟨z, rfl, lz⟩ := hz
                    walk_at "Zq"
                    rename_i pG HG nG eG hG
                    have eEG : Sx HE HG := eF.trans (Same.sx eG)
                    refine w_catL (eEG.keep _ _ hE rfl) hG (by have := cl none (some d); rw [List.length_map]; show _ + 1 ≤ _; omega) fun pH HH nH eH hH => ?_
                    walk_at "Zq"
                    have e3H : Sx H3 HH := (Same.sx eAE).trans (eEG.trans (Same.sx eH))
                    refine w_slLs (SqL.of (e3H.keep _ _ hD3 rfl)) fun pI HI nI eI hI => ?_
                    walk_at "Zq"
                    have la := cl none (some d)
                    have lb := cl (some (d + 1)) none
                    refine w_catL (eI _ _ hH) hI (by rw [List.length_append, List.length_map, List.length_map]; show _ + 1 + _ ≤ _; omega) fun pJ HJ nJ eJ hJ => ?_
                    walk_at "Zq"
                    refine fin (cutD zs none (some d) ++ [z] ++ cutD zs (some (d + 1)) none) pJ HJ (by rw [hJ, List.map_append, List.map_append]; rfl) (by rw [List.length_append, List.length_append]; show _ + 1 + _ ≤ _; omega) (fun g hg => ?_) (e3H.trans (Same.sx (eI.trans eJ))) (box_mono (eG.trans (eH.trans (eI.trans eJ))) (box_le (by omega) bF))
                    rcases List.mem_append.mp hg with h | h
                    · rcases List.mem_append.mp h with h | h
                      · exact cm _ _ g h
                      · rw [List.mem_singleton.mp h]
                        exact lz
                    · exact cm _ _ g h
  exact F0
theorem c__law_bent {W : Wd} {mg : Str → Option Value} {base : Heap} (B : Bi mg) (S : Src W.K mg "_law_bent" s__law_bent) (T : Kl W.K mg) (C__law_of : Cal W mg base "_law_of" 2 ["_law_pot_here", "_law_some"] (sp__law_of W)) (C__law_head_text : Cal W mg base "_law_head_text" 1 ["_law_head"] (sp__law_head_text W)) (C__law_draw : Cal W mg base "_law_draw" 1 ["_law_pot_here", "_law_many"] (sp__law_draw W)) (R_of : OfRun W mg base 2) : Cal W mg base "_law_bent" 3 ["_law_pot_here", "_law_shape_here", "_law_head"] (sp__law_bent W) := by
  obtain ⟨f, fd, g, F⟩ := S
  exact ⟨f, fd, g, f__law_bent B F T C__law_of C__law_head_text C__law_draw R_of, F.kp, (F.binds (ps := ["_law_pot_here", "_law_shape_here", "_law_head"]) fun _ _ _ _ _ _ us hl => match us, hl with | [_, _, _], _ => rfl)⟩
theorem go__law_bent {W : Wd} {H : Hp} {Q : VK} {E : XK} {u v w : V} {n : Int} {s : Shp} {ns : List Int} (hp : BoxAt W false n H u) (hn : n ≤ 999999000) (hs : Dq W.K H v (shD s)) (ok : OkShp s) (hh : Dq W.K H w (headD ns)) (oh : OkHead s.fs ns) (q : ∀ (z : Str) H', Sx H H' → z.length ≤ 100000 → BoxAt W false (n + 10) H' u → Q (.str z) H') : sp__law_bent W [u, v, w] H Q E := ⟨n, s, ns, hp, hn, hs, ok, hh, oh, q⟩
/-- what is found: the head, or the row in a list -/
def fndD (o : Option (List Int)) : PyData := match o with
  | some ns => headD ns
  | none => .list [.none]
def sp__law_found (W : Wd) : Sp := fun vs H Q _ => match vs with
  | [v_shape_here, v_text] =>
  ∃ (s : Shp) (d : PyData), Dq W.K H v_shape_here (shD s) ∧ OkShp s ∧ Dz W.K Ever H v_text d ∧ (∀ z, d = .str z → z.length ≤ 100000) ∧ ∀ v H', Same H H' → Dq W.K H' v (fndD (readZ s.fs d)) → Q v H'
  | _ => False
abbrev N__law_found : List Str := ["_law_shape_here", "_law_text", "_law_found_here", "_law_caught", "_law_error"]
theorem sc__law_found : FnScope N__law_found ["_law_shape_here", "_law_text"] (defScope s__law_found) := ⟨rfl, rfl, rfl, by decide +kernel, rfl, by decide +kernel, by decide +kernel⟩
theorem f__law_found {W : Wd} {mg : Str → Option Value} {base : Heap} (B : Bi mg) {f : Addr} {fd : FuncData} (F : Fun W.K "_law_found" "_law_found" s__law_found f fd) (T : Kl W.K mg) (C__law_class_of : Cal W mg base "_law_class_of" 1 ["_law_error"] (sp__law_class_of W)) (C_read_head : CalX W mg base "read_head" 5 ["shape", "text"] (sp_read_head W)) : FnOk W.P W.w W.K mg base CX0 6 f fd ["_law_shape_here", "_law_text"] (sp__law_found W) := by
  obtain ⟨a__law_class_of, d__law_class_of, g__law_class_of, F__law_class_of, k__law_class_of, b__law_class_of⟩ := C__law_class_of
  obtain ⟨a_read_head, d_read_head, g_read_head, F_read_head, k_read_head, b_read_head⟩ := C_read_head
  have nd := sc__law_found.nd
  have F0 : FnOk W.P W.w W.K mg base CX0 6 f fd ["_law_shape_here", "_law_text"] (sp__law_found W) := by
    refine F.ok sc__law_found (fun vs H Q E h => ?_) (fun cdv A outer s H vs Q E hr h => ?_)
    · match vs, h with | [_, _], _ => rfl
    · match vs, h with
      | [v_shape_here, v_text], h =>
        change sp__law_found W [v_shape_here, v_text] H Q E at h
        refine ⟨tSeq (tAsg (tTupN (tCons (tC .non) (tCons (tC .non) (tNil)))) (gTup W.K 2 (gCons (gName 2) (gCons (gName 3) (gNil))))) (tSeq (sTryV W.K (.ref (clsOf W.K "HeadError")) 4 wNone (fun Wt => tAsg (tCallS (sp_read_head W) (WE Wt) (tCons (tVar 0) (tCons (tVar 1) (tNil)))) (gName 2)) (tAsg (tVar 4) (gName 3))) (tSeq (tIfS (tTest (tOp (rIsU) (tVar 3) (tC .non))) (tRet (tVar 2)) (tNext)) (tRet (tIf (tTest (tOp (rEqU W.K) (tCall (sp__law_class_of W) [] E0 (tCons (tVar 3) (tNil))) (tTupN (tCons (tC (.str "refused")) (tCons (tC (.str "NoText")) (tNil)))))) (tLst (tCons (tXv (clsOf W.K "NoText") (tVar 3) "row") (tNil))) (tC (.str "other")))))), pss_cons (ps_asg (pe_tupN (pa_cons (pe_non) (pa_cons (pe_non) (pa_nil)))) (pg_tup rfl (pgs_cons (pg_name (i := 2) nd rfl (by first | exact Or.inl rfl | exact Or.inr rfl)) (pgs_cons (pg_name (i := 3) nd rfl (by first | exact Or.inl rfl | exact Or.inr rfl)) (pgs_nil))))) (pss_cons (ps_tryv rfl rfl rfl nd rfl rfl ⟨by rfl, by decide, .inl T.g_HeadError⟩ takesN (fun Wt pn xe tk _ => pss_one (ps_set (i := 2) nd rfl (.inl rfl) (pe_callS F_read_head (hr.mono (by decide)) (by rfl) g_read_head k_read_head b_read_head (fun σ => L2N.passAt tk σ) (pa_cons (pv 0) (pa_cons (pv 1) (pa_nil)))))) (fun a pn => pss_one (ps_set (i := 3) nd rfl (.inl rfl) (pv 4)))) (pss_cons (ps_if (pt_cmpR u_is (pv 3) (pe_non) (nomark _)) (pss_one (ps_ret (pv 2))) (pss_nil)) (pss_one (ps_ret (pe_ifExp (pt_cmpR (u_eq hr.units) (pe_call F__law_class_of (hr.mono (by decide)) (by rfl) g__law_class_of k__law_class_of b__law_class_of .nil pass0 (pa_cons (pv 3) (pa_nil))) (pe_tupN (pa_cons (pe_str) (pa_cons (pe_str) (pa_nil)))) (nomark _)) (pe_lst (pa_cons (pe_xv T.o_NoText (pv 3) rfl) (pa_nil))) (pe_str)))))), ?_⟩
        clear hr
        clear F__law_class_of g__law_class_of k__law_class_of b__law_class_of d__law_class_of a__law_class_of
        clear F_read_head g_read_head k_read_head b_read_head d_read_head a_read_head
        rw [show L2.start N__law_found [v_shape_here, v_text] = [some v_shape_here, some v_text, none, none, none] from rfl]
        obtain ⟨s, d, hs, ok, hd, hl, q⟩ := h
        walk_at "Zs"
        rename_i p0 H0 n0 e0 h0
        have hs := dq_mono e0 hs
        have hd := dz_mono e0 hd
        refine w_tryV ?_
        walk_at "Zs"
        refine w_callS ?_
        walk_at "Zs"
        refine go_read_head hs ok hd hl (fun ns hn p H1 e1 h1 => ?_) (fun hn d' H1 e1 h1 => ?_)
        · walk_at "Zs"
          exact q _ H1 (e0.trans e1) (by rw [hn]; exact dq_new h1 (dqs_ints ns))
        · refine w_tookV T.v_NoText fun a na => ?_
          have ea := same_new (o := L2N.exV (.ref (clsOf W.K "NoText")) (some d') a) na
          have hx := exAt_newD (K := W.K) (D := "NoText") na h1
          have h1a := ea _ _ h1
          have hea : upd H1 a (L2N.exV (.ref (clsOf W.K "NoText")) (some d') a) a = some (L2N.exV (.ref (clsOf W.K "NoText")) (some d') a) := upd_same
          generalize upd H1 a (L2N.exV (.ref (clsOf W.K "NoText")) (some d') a) = H2 at ea hx h1a hea
          walk_at "Zs"
          refine go__law_class_of hx T.v_NoText (by decide) (by decide) fun p H3 e3 h3 => ?_
          walk_at "Zs"
          rename_i p4 H4 n4 e4 h4
          have e24 := e3.trans e4
          refine w_eqD (d := .tuple [.str "refused", .str "NoText"]) (e := .tuple [.str "refused", .str "NoText"]) (dq_new (h3.mono e4) (dqs_two (.str _) (.str _))) (dq_new h4 (dqs_two (.str _) (.str _))) (by decide +kernel) (by decide +kernel) ?_
          rw [SeqAt.eqv_refl _ (SeqAt.canLay_of_shaped (by decide +kernel))]
          walk_at "Zs"
          refine w_tXv ?_
          walk_at "Zs"
          refine w_xv (e24 _ _ hea) (e24 _ _ h1a) rfl ?_
          walk_at "Zs"
          rename_i p5 H5 n5 e5 h5
          exact q _ H5 (e0.trans (e1.trans (ea.trans (e24.trans e5)))) (by rw [hn]; exact dq_newl h5 (.cons .non .nil))
  exact F0
theorem c__law_found {W : Wd} {mg : Str → Option Value} {base : Heap} (B : Bi mg) (S : Src W.K mg "_law_found" s__law_found) (T : Kl W.K mg) (C__law_class_of : Cal W mg base "_law_class_of" 1 ["_law_error"] (sp__law_class_of W)) (C_read_head : CalX W mg base "read_head" 5 ["shape", "text"] (sp_read_head W)) : Cal W mg base "_law_found" 6 ["_law_shape_here", "_law_text"] (sp__law_found W) := by
  obtain ⟨f, fd, g, F⟩ := S
  exact ⟨f, fd, g, f__law_found B F T C__law_class_of C_read_head, F.kp, (F.binds (ps := ["_law_shape_here", "_law_text"]) fun _ _ _ _ _ _ us hl => match us, hl with | [_, _], _ => rfl)⟩
theorem go__law_found {W : Wd} {H : Hp} {Q : VK} {E : XK} {u v : V} {s : Shp} {d : PyData} (hs : Dq W.K H u (shD s)) (ok : OkShp s) (hd : Dz W.K Ever H v d) (hl : ∀ z, d = .str z → z.length ≤ 100000) (q : ∀ v H', Same H H' → Dq W.K H' v (fndD (readZ s.fs d)) → Q v H') : sp__law_found W [u, v] H Q E := ⟨s, d, hs, ok, hd, hl, q⟩
theorem pll_fnd {o : Option (List Int)} (h : ∀ ns, o = some ns → ns.length ≤ 1000) : PlL 6 (fndD o) := by
  cases o with
  | none => exact ⟨(show 1 ≤ 1000 by decide), fun d hd => by rw [List.mem_singleton.mp hd]; trivial⟩
  | some ns => exact ⟨by rw [List.length_map]; exact h ns rfl, fun d hd => by
      obtain ⟨n, _, rfl⟩ := List.mem_map.mp hd
      trivial⟩
def sp__law_right (W : Wd) : Sp := fun vs H Q _ => match vs with
  | [v_shape_here, v_text] =>
  ∃ (s : Shp) (d : PyData), Dq W.K H v_shape_here (shD s) ∧ OkShp s ∧ Dz W.K Ever H v_text d ∧ (∀ z, d = .str z → z.length ≤ 100000) ∧ ∀ H', Same H H' → Q (.bl true) H'
  | _ => False
abbrev N__law_right : List Str := ["_law_shape_here", "_law_text", "_law_due"]
theorem sc__law_right : FnScope N__law_right ["_law_shape_here", "_law_text"] (defScope s__law_right) := ⟨rfl, rfl, rfl, by decide +kernel, rfl, by decide +kernel, by decide +kernel⟩
theorem f__law_right {W : Wd} {mg : Str → Option Value} {base : Heap} (B : Bi mg) {f : Addr} {fd : FuncData} (F : Fun W.K "_law_right" "_law_right" s__law_right f fd) (T : Kl W.K mg) (C__law_found : Cal W mg base "_law_found" 6 ["_law_shape_here", "_law_text"] (sp__law_found W)) (C__law_same : Cal W mg base "_law_same" 7 ["_law_found_here", "_law_due"] (sp__law_same W)) (C__law_read : Cal W mg base "_law_read" 2 ["_law_shape_here", "_law_text"] (sp__law_read W)) : FnOk W.P W.w W.K mg base CX0 8 f fd ["_law_shape_here", "_law_text"] (sp__law_right W) := by
  obtain ⟨a__law_found, d__law_found, g__law_found, F__law_found, k__law_found, b__law_found⟩ := C__law_found
  obtain ⟨a__law_same, d__law_same, g__law_same, F__law_same, k__law_same, b__law_same⟩ := C__law_same
  obtain ⟨a__law_read, d__law_read, g__law_read, F__law_read, k__law_read, b__law_read⟩ := C__law_read
  have nd := sc__law_right.nd
  have F0 : FnOk W.P W.w W.K mg base CX0 8 f fd ["_law_shape_here", "_law_text"] (sp__law_right W) := by
    refine F.ok sc__law_right (fun vs H Q E h => ?_) (fun cdv A outer s H vs Q E hr h => ?_)
    · match vs, h with | [_, _], _ => rfl
    · match vs, h with
      | [v_shape_here, v_text], h =>
        change sp__law_right W [v_shape_here, v_text] H Q E at h
        refine ⟨tSeq (tAsg (tCall (sp__law_read W) [] E0 (tCons (tVar 0) (tCons (tVar 1) (tNil)))) (gName 2)) (tRet (tCall (sp__law_same W) [] E0 (tCons (tCall (sp__law_found W) [] E0 (tCons (tVar 0) (tCons (tVar 1) (tNil)))) (tCons (tIf (tTest (tOp (rIsU) (tVar 2) (tC .non))) (tLst (tCons (tC .non) (tNil))) (tVar 2)) (tNil))))), pss_cons (ps_set (i := 2) nd rfl (.inl rfl) (pe_call F__law_read (hr.mono (by decide)) (by rfl) g__law_read k__law_read b__law_read .nil pass0 (pa_cons (pv 0) (pa_cons (pv 1) (pa_nil))))) (pss_one (ps_ret (pe_call F__law_same (hr.mono (by decide)) (by rfl) g__law_same k__law_same b__law_same .nil pass0 (pa_cons (pe_call F__law_found (hr.mono (by decide)) (by rfl) g__law_found k__law_found b__law_found .nil pass0 (pa_cons (pv 0) (pa_cons (pv 1) (pa_nil)))) (pa_cons (pe_ifExp (pt_cmpR u_is (pv 2) (pe_non) (nomark _)) (pe_lst (pa_cons (pe_non) (pa_nil))) (pv 2)) (pa_nil)))))), ?_⟩
        clear hr
        clear F__law_found g__law_found k__law_found b__law_found d__law_found a__law_found
        clear F__law_same g__law_same k__law_same b__law_same d__law_same a__law_same
        clear F__law_read g__law_read k__law_read b__law_read d__law_read a__law_read
        rw [show L2.start N__law_right [v_shape_here, v_text] = [some v_shape_here, some v_text, none] from rfl]
        obtain ⟨s, d, hs, ok, hd, hl, q⟩ := h
        have l1 := ok.l1
        walk_at "Zs"
        refine go__law_read hs ok hd hl (fun ns hn p H1 e1 h1 => ?_) (fun hn H1 e1 => ?_)
        · walk_at "Zs"
          refine go__law_found (dq_mono e1 hs) ok (dz_mono e1 hd) hl fun v2 H2 e2 h2 => ?_
          walk_at "Zs"
          rw [hn] at h2
          refine go__law_same h2 (dq_new (h1.mono e2) (dqs_ints ns)) (pll_fnd fun m hm => ?_) fun H3 e3 => ?_
          · cases hm
            have := readZ_len hn
            omega
          · walk_at "Zs"
            exact q _ (e1.trans (e2.trans e3))
        · walk_at "Zs"
          refine go__law_found (dq_mono e1 hs) ok (dz_mono e1 hd) hl fun v2 H2 e2 h2 => ?_
          walk_at "Zs"
          rename_i p3 H3 n3 e3 h3
          rw [hn] at h2
          refine go__law_same (dq_mono e3 h2) (dq_newl h3 (.cons .non .nil)) (pll_fnd (o := none) fun m hm => nomatch hm) fun H4 e4 => ?_
          walk_at "Zs"
          exact q _ (e1.trans (e2.trans (e3.trans e4)))
  exact F0
theorem c__law_right {W : Wd} {mg : Str → Option Value} {base : Heap} (B : Bi mg) (S : Src W.K mg "_law_right" s__law_right) (T : Kl W.K mg) (C__law_found : Cal W mg base "_law_found" 6 ["_law_shape_here", "_law_text"] (sp__law_found W)) (C__law_same : Cal W mg base "_law_same" 7 ["_law_found_here", "_law_due"] (sp__law_same W)) (C__law_read : Cal W mg base "_law_read" 2 ["_law_shape_here", "_law_text"] (sp__law_read W)) : Cal W mg base "_law_right" 8 ["_law_shape_here", "_law_text"] (sp__law_right W) := by
  obtain ⟨f, fd, g, F⟩ := S
  exact ⟨f, fd, g, f__law_right B F T C__law_found C__law_same C__law_read, F.kp, (F.binds (ps := ["_law_shape_here", "_law_text"]) fun _ _ _ _ _ _ us hl => match us, hl with | [_, _], _ => rfl)⟩
theorem go__law_right {W : Wd} {H : Hp} {Q : VK} {E : XK} {u v : V} {s : Shp} {d : PyData} (hs : Dq W.K H u (shD s)) (ok : OkShp s) (hd : Dz W.K Ever H v d) (hl : ∀ z, d = .str z → z.length ≤ 100000) (q : ∀ H', Same H H' → Q (.bl true) H') : sp__law_right W [u, v] H Q E := ⟨s, d, hs, ok, hd, hl, q⟩
theorem head_back {s : Shp} {ns : List Int} (ok : OkShp s) (oh : OkHead s.fs ns) : readZ s.fs (.str (headT ns)) = some ns := by
  have hf := head_fig ok oh
  have l := okHead_len oh
  have l0 := ok.l0
  have e : Txt.split (headT ns) "." = ns.map sgS := by
    refine TL.split_join (s := 46) (S := []) rfl (by decide +kernel) (fun z => by have := congrArg List.length z; rw [List.length_map, List.length_nil] at this; omega) fun p hp hm => ?_
    obtain ⟨n, hn, rfl⟩ := List.mem_map.mp hp
    obtain ⟨m, rfl⟩ := Int.eq_ofNat_of_zero_le (hf n hn).1
    have := sg_dig (n := m) 46 hm
    omega
  rw [readZ_some (ns := ns) (by rw [e, numsZ_sg hf]), if_pos (headB_ok oh)]
def sp_law (W : Wd) : Sp := fun vs H Q _ => match vs with
  | [v_script] =>
  ∃ (a : Addr) (ns : List Int), v_script = .ref a ∧ SqL W.K H a (ns.map V.int) ∧ ns.length ≤ 63 ∧ (∀ z ∈ ns, Builtin.Int.intBits z ≤ 1048576) ∧ ∀ H', Q (.bl true) H'
  | _ => False
abbrev N_law : List Str := ["_law_script", "_law_pot_here", "_law_turn", "_law_shape_here", "_law_head", "_law_text", "_law_bent_here", "_law_field", "_law_k", "_law_thing"]
theorem sc_law : FnScope N_law ["_law_script"] (defScope s_law) := ⟨rfl, rfl, rfl, by decide +kernel, rfl, by decide +kernel, by decide +kernel⟩
theorem f_law {W : Wd} {mg : Str → Option Value} {base : Heap} (B : Bi mg) {f : Addr} {fd : FuncData} (F : Fun W.K "law" "law" s_law f fd) (T : Kl W.K mg) (C__law_right : Cal W mg base "_law_right" 8 ["_law_shape_here", "_law_text"] (sp__law_right W)) (C__law_bent : Cal W mg base "_law_bent" 3 ["_law_pot_here", "_law_shape_here", "_law_head"] (sp__law_bent W)) (C_show_head : Cal W mg base "show_head" 1 ["head"] (sp_show_head W)) (C__law_same : Cal W mg base "_law_same" 7 ["_law_found_here", "_law_due"] (sp__law_same W)) (C_read_head : CalX W mg base "read_head" 5 ["shape", "text"] (sp_read_head W)) (C__law_head_text : Cal W mg base "_law_head_text" 1 ["_law_head"] (sp__law_head_text W)) (C__law_value : Cal W mg base "_law_value" 2 ["_law_pot_here", "_law_breadth"] (sp__law_value W)) (C__law_shape : Cal W mg base "_law_shape" 4 ["_law_pot_here"] (sp__law_shape W)) (C__law_pot : Cal W mg base "_law_pot" 1 ["_law_script"] (sp__law_pot W)) : FnOk W.P W.w W.K mg base CX0 9 f fd ["_law_script"] (sp_law W) := by
  obtain ⟨a__law_right, d__law_right, g__law_right, F__law_right, k__law_right, b__law_right⟩ := C__law_right
  obtain ⟨a__law_bent, d__law_bent, g__law_bent, F__law_bent, k__law_bent, b__law_bent⟩ := C__law_bent
  obtain ⟨a_show_head, d_show_head, g_show_head, F_show_head, k_show_head, b_show_head⟩ := C_show_head
  obtain ⟨a__law_same, d__law_same, g__law_same, F__law_same, k__law_same, b__law_same⟩ := C__law_same
  obtain ⟨a_read_head, d_read_head, g_read_head, F_read_head, k_read_head, b_read_head⟩ := C_read_head
  obtain ⟨a__law_head_text, d__law_head_text, g__law_head_text, F__law_head_text, k__law_head_text, b__law_head_text⟩ := C__law_head_text
  obtain ⟨a__law_value, d__law_value, g__law_value, F__law_value, k__law_value, b__law_value⟩ := C__law_value
  obtain ⟨a__law_shape, d__law_shape, g__law_shape, F__law_shape, k__law_shape, b__law_shape⟩ := C__law_shape
  obtain ⟨a__law_pot, d__law_pot, g__law_pot, F__law_pot, k__law_pot, b__law_pot⟩ := C__law_pot
  have nd := sc_law.nd
  have F0 : FnOk W.P W.w W.K mg base CX0 9 f fd ["_law_script"] (sp_law W) := by
    refine F.ok sc_law (fun vs H Q E h => ?_) (fun cdv A outer s H vs Q E hr h => ?_)
    · match vs, h with | [_], _ => rfl
    · match vs, h with
      | [v_script], h =>
        change sp_law W [v_script] H Q E at h
        refine ⟨tSeq (tAsg (tCall (sp__law_pot W) [] E0 (tCons (tVar 0) (tNil))) (gName 1)) (tSeq (tFor (iRng1 (tCons (tC (.int 8)) (tNil))) (gName 2) (tSeq (tAsg (tCall (sp__law_shape W) [] E0 (tCons (tVar 1) (tNil))) (gName 3)) (tSeq (tAsg (tCB (rTupleOfN W.K) (tCons (tLc (iAny W.K (tOp (rIxU W.K) (tVar 3) (tC (.int 0)))) (gName 7) (tYes) (tCall (sp__law_value W) [] E0 (tCons (tVar 1) (tCons (tOp (rIxU W.K) (tVar 7) (tC (.int 1))) (tNil)))) [7]) (tNil))) (gName 4)) (tSeq (tAsg (tCall (sp__law_head_text W) [] E0 (tCons (tVar 4) (tNil))) (gName 5)) (tSeq (tIfS (tOr (tNot (tB (tCall (sp__law_same W) [] E0 (tCons (tCall (sp_show_head W) [] E0 (tCons (tVar 4) (tNil))) (tCons (tVar 5) (tNil)))))) (tNot (tB (tCall (sp__law_same W) [] E0 (tCons (tCall (sp_read_head W) [] E0 (tCons (tVar 3) (tCons (tVar 5) (tNil)))) (tCons (tVar 4) (tNil))))))) (tRet (tC (.bl false))) (tNext)) (tSeq (tAsg (tLc (iRng1 (tCons (tC (.int 6)) (tNil))) (gName 8) (tYes) (tCall (sp__law_bent W) [] E0 (tCons (tVar 1) (tCons (tVar 3) (tCons (tVar 4) (tNil))))) [8]) (gName 6)) (tIfS (tNot (tB (tCB (rAll W.K) (tCons (tLc (iAny W.K (tOp (rAddN W.K) (tVar 6) (tLst (tCons (tC .non) (tCons (tC (.int 7)) (tCons (tC (.bl true)) (tCons (tVar 4) (tCons (tCB (rListU W.K) (tCons (tVar 4) (tNil))) (tCons (tLst (tCons (tC (.str "0")) (tNil))) (tCons (tDNewK) (tCons (tC (.str "")) (tNil)))))))))))) (gName 9) (tYes) (tCall (sp__law_right W) [] E0 (tCons (tVar 3) (tCons (tVar 9) (tNil)))) [9]) (tNil))))) (tRet (tC (.bl false))) (tNext)))))))) (tRet (tC (.bl true)))), pss_cons (ps_set (i := 1) nd rfl (.inr rfl) (pe_call F__law_pot (hr.mono (by decide)) (by rfl) g__law_pot k__law_pot b__law_pot .nil pass0 (pa_cons (pv 0) (pa_nil)))) (pss_cons (ps_for PassesOwn.never rfl (pi_range1 (by rfl) B.b_range (pa_cons (pe_int) (pa_nil))) (pg_name (i := 2) nd rfl (by first | exact Or.inl rfl | exact Or.inr rfl)) (pss_cons (ps_set (i := 3) nd rfl (.inr rfl) (pe_call F__law_shape (hr.mono (by decide)) (by rfl) g__law_shape k__law_shape b__law_shape .nil pass0 (pa_cons (pv 1) (pa_nil)))) (pss_cons (ps_set (i := 4) nd rfl (.inr rfl) (pe_callTy call_tuple_ofN (by rfl) B.b_tuple (by decide +kernel) (pa_cons (pe_lc (own := [("_law_field", 7)]) rfl nd (pi_any (pe_ix u_ix (pv 3) (pe_int) (fun _ _ => rfl))) (blkOk_by (own := [("_law_field", 7)]) (N := N_law) (sc := defScope s_law) (by decide +kernel)) (fun _ _ _ _ _ => pg_name (i := 7) nd rfl (by first | exact Or.inl rfl | exact Or.inr rfl)) (fun _ _ _ _ _ => pts_nil) (fun _ _ _ _ _ => pe_call F__law_value (hr.mono (by decide)) (by rfl) g__law_value k__law_value b__law_value .nil pass0 (pa_cons (pv 1) (pa_cons (pe_ix u_ix (pv 7) (pe_int) (fun _ _ => rfl)) (pa_nil))))) (pa_nil)))) (pss_cons (ps_set (i := 5) nd rfl (.inl rfl) (pe_call F__law_head_text (hr.mono (by decide)) (by rfl) g__law_head_text k__law_head_text b__law_head_text .nil pass0 (pa_cons (pv 4) (pa_nil)))) (pss_cons (ps_if (PW.pt (pw_or (pt_not (pt_val (pe_call F__law_same (hr.mono (by decide)) (by rfl) g__law_same k__law_same b__law_same .nil pass0 (pa_cons (pe_call F_show_head (hr.mono (by decide)) (by rfl) g_show_head k_show_head b_show_head .nil pass0 (pa_cons (pv 4) (pa_nil))) (pa_cons (pv 5) (pa_nil)))))) (pw_or1 (pt_not (pt_val (pe_call F__law_same (hr.mono (by decide)) (by rfl) g__law_same k__law_same b__law_same .nil pass0 (pa_cons (pe_call F_read_head (hr.mono (by decide)) (by rfl) g_read_head k_read_head b_read_head .nil passN (pa_cons (pv 3) (pa_cons (pv 5) (pa_nil)))) (pa_cons (pv 4) (pa_nil))))))))) (pss_one (ps_ret (pe_bl))) (pss_nil)) (pss_cons (ps_setLc (i := 6) (own := [("_law_k", 8)]) rfl nd rfl rfl (sw_true rfl rfl rfl (by decide +kernel)) (pi_range1 (by rfl) B.b_range (pa_cons (pe_int) (pa_nil))) (blkOk_by (own := [("_law_k", 8)]) (N := N_law) (sc := defScope s_law) (by decide +kernel)) (fun _ _ _ _ _ => pg_name (i := 8) nd rfl (by first | exact Or.inl rfl | exact Or.inr rfl)) (fun _ _ _ _ _ => pts_nil) (fun _ _ _ _ _ => pe_call F__law_bent (hr.mono (by decide)) (by rfl) g__law_bent k__law_bent b__law_bent .nil pass0 (pa_cons (pv 1) (pa_cons (pv 3) (pa_cons (pv 4) (pa_nil)))))) (pss_one (ps_if (pt_not (pt_val (pe_callB (cr_all rfl) (by rfl) B.b_all (by decide +kernel) (pa_cons (pe_lc (own := [("_law_thing", 9)]) rfl nd (pi_any (pe_op u_addN (pv 6) (pe_lst (pa_cons (pe_non) (pa_cons (pe_int) (pa_cons (pe_bl) (pa_cons (pv 4) (pa_cons (pe_callTy (u_list (by rfl)) (by rfl) B.b_list (by decide +kernel) (pa_cons (pv 4) (pa_nil))) (pa_cons (pe_lst (pa_cons (pe_str) (pa_nil))) (pa_cons (pe_dnewK) (pa_cons (pe_str) (pa_nil)))))))))))) (blkOk_by (own := [("_law_thing", 9)]) (N := N_law) (sc := defScope s_law) (by decide +kernel)) (fun _ _ _ _ _ => pg_name (i := 9) nd rfl (by first | exact Or.inl rfl | exact Or.inr rfl)) (fun _ _ _ _ _ => pts_nil) (fun _ _ _ _ _ => pe_call F__law_right (hr.mono (by decide)) (by rfl) g__law_right k__law_right b__law_right .nil pass0 (pa_cons (pv 3) (pa_cons (pv 9) (pa_nil))))) (pa_nil))))) (pss_one (ps_ret (pe_bl))) (pss_nil))))))))) (pss_one (ps_ret (pe_bl)))), ?_⟩
        clear hr
        clear F__law_right g__law_right k__law_right b__law_right d__law_right a__law_right
        clear F__law_bent g__law_bent k__law_bent b__law_bent d__law_bent a__law_bent
        clear F_show_head g_show_head k_show_head b_show_head d_show_head a_show_head
        clear F__law_same g__law_same k__law_same b__law_same d__law_same a__law_same
        clear F_read_head g_read_head k_read_head b_read_head d_read_head a_read_head
        clear F__law_head_text g__law_head_text k__law_head_text b__law_head_text d__law_head_text a__law_head_text
        clear F__law_value g__law_value k__law_value b__law_value d__law_value a__law_value
        clear F__law_shape g__law_shape k__law_shape b__law_shape d__law_shape a__law_shape
        clear F__law_pot g__law_pot k__law_pot b__law_pot d__law_pot a__law_pot
        rw [show L2.start N_law [v_script] = [some v_script, none, none, none, none, none, none, none, none, none] from rfl]
        obtain ⟨a, ns, rfl, hS, hlen, hb, q⟩ := h
        walk_at "Zs"
        refine go__law_pot hS hlen fun v H1 e1 b1 => ?_
        walk_at "Zs"
        refine forR0 (fun i σ' H' => (∃ y2 y3 y4 y5 y6 y7 y8 y9, σ' = [some (.ref a), some v, y2, y3, y4, y5, y6, y7, y8, y9]) ∧ BoxAt W false (1000 * (i : Int)) H' v) ⟨⟨_, _, _, _, _, _, _, _, rfl⟩, box_le (by omega) b1⟩ (fun i σ' H3 hi h => ?_) (fun σ' H3 h => ?_)
        · obtain ⟨⟨y2, y3, y4, y5, y6, y7, y8, y9, rfl⟩, b3⟩ := h
          walk_at "Zs"
          refine go__law_shape b3 (by omega) fun s sv H4 e4 b4 hs ok => ?_
          have l0 := ok.l0
          have l1 := ok.l1
          walk_at "Zs"
          refine w_ixQT hs (d := .tuple (s.fs.map fdD)) rfl fun x1 h1 => ?_
          obtain ⟨af, fxs, rfl, hfx, hfd⟩ := dq_tt h1
          have lfx := dqs_len hfd
          rw [List.length_map] at lfx
          walk_at "Zs"
          refine w_goT hfx.t ?_
          refine lcTX hfx.t (fun j acc H' => BoxAt W false (1000 * (i : Int) + 230 + 4 * (j : Int)) H' v ∧ ∃ hd : List Int, acc = hd.map V.int ∧ hd.length = j ∧ OkHead (s.fs.take j) hd) (fun j acc H' D xs ys hD h => ⟨box_lst h.1 hD, h.2⟩) (by omega) (fun j acc H' h => ?_) (fun H' e => ⟨box_le (by omega) (box_mono e b4), [], rfl, rfl, trivial⟩) (fun j x acc H' hx e1 ea k k' hk hk' => ?_) fun D acc H5 hD e5 hD' ea => ?_
          · obtain ⟨_, hd, rfl, h, _⟩ := h
            rw [List.length_map, h]
            exact Nat.le_refl _
          · obtain ⟨b1, hd, rfl, lh, oh⟩ := ea
            obtain ⟨df, hdf, hxd⟩ := dqs_get2 hfd hx
            obtain ⟨f, hf, rfl⟩ := map_at hdf
            have okf := ok.fd j f hf
            have b0 := okf.b0
            have b2 := okf.b1
            have hj := (List.getElem?_eq_some_iff.mp hf).1
            have hxd := dqx e1 hxd
            walk_at "Zs"
            refine w_ixQTi (ds := [.str f.nm, .int f.br, kdD f.kd]) (n := f.br) hxd rfl ?_
            walk_at "Zq"
            refine go__law_value (b := f.br) b1 (by omega) (by omega) (by omega) fun m H3 e3 m0 m1 b3 => ?_
            refine hk _ _ e3 ⟨box_le (by omega) b3, hd ++ [m], by rw [List.map_append]; rfl, by rw [List.length_append, lh]; rfl, ?_⟩
            rw [List.take_add_one, hf]
            exact okHead_snoc oh m0 m1
          · obtain ⟨b5, hd, rfl, lh, oh⟩ := ea
            rw [List.take_of_length_le (by omega)] at oh
            walk_at "Zs"
            refine w_tupleN (SqL.of hD') fun pH H6 nH e6 hH => ?_
            have hs6 := dqx (e5.trans (Same.sx e6)) hs
            have hh : Dq W.K H6 (.ref pH) (headD hd) := dq_new hH (dqs_ints hd)
            have b6 := box_mono e6 b5
            have fg := head_fig ok oh
            have lT := head_len ok oh
            have lhd := okHead_len oh
            walk_at "Zs"
            refine go__law_head_text hh (by omega) fg fun H7 e7 => ?_
            walk_at "Zs"
            refine go_show_head (dq_mono e7 hh) (by omega) fg fun H8 e8 => ?_
            walk_at "Zs"
            refine go__law_same (.str (headT hd)) (.str (headT hd)) trivial fun H9 e9 => ?_
            walk_at "Zs"
            have e69 := e7.trans (e8.trans e9)
            refine go_read_head (dq_mono e69 hs6) ok (.str (headT hd)) (fun z hz => by cases hz; omega) (fun ms hm p HA eA hA => ?_) (fun hm => absurd (hm.symm.trans (head_back ok oh)) (fun h => nomatch h))
            obtain rfl := Option.some.inj (hm.symm.trans (head_back ok oh))
            walk_at "Zs"
            have e6A := e69.trans eA
            refine go__law_same (dq_new hA (dqs_ints ms)) (dq_mono e6A hh) ⟨by rw [List.length_map]; omega, fun d hd => ?_⟩ fun HB eB => ?_
            · obtain ⟨n, _, rfl⟩ := List.mem_map.mp hd
              trivial
            walk_at "Zs"
            have e6B := e6A.trans eB
            have hsB := dq_mono e6B hs6
            have hhB := dq_mono e6B hh
            refine lcRX (n := 6) (fun j acc H' => BoxAt W false (1000 * (i : Int) + 300 + 10 * (j : Int)) H' v ∧ ∃ zs : List Str, acc = zs.map V.str ∧ zs.length = j ∧ ∀ z ∈ zs, z.length ≤ 100000) (fun j acc H' D xs ys hD h => ⟨box_lst h.1 hD, h.2⟩) (by omega) (fun j acc H' h => by obtain ⟨_, zs, rfl, hl, _⟩ := h; rw [List.length_map]; omega) (fun H' e => ⟨box_le (by omega) (box_mono (e6B.trans e) b6), [], rfl, rfl, (fun _ h => nomatch h)⟩) (fun j acc H' hj eX ea k' kk' hk1 hk2 => ?_) fun D2 acc HC hD2 eC hDC ea => ?_
            · obtain ⟨bX, zs, rfl, lz, hzs⟩ := ea
              walk_at "Zs"
              refine go__law_bent bX (by omega) (dqx eX hsB) ok (dqx eX hhB) oh fun z HA eA hz bA => ?_
              refine hk1 _ _ eA ⟨box_le (by omega) bA, zs ++ [z], by rw [List.map_append]; rfl, by rw [List.length_append, lz]; rfl, fun g hg => ?_⟩
              rcases List.mem_append.mp hg with hg | hg
              · exact hzs g hg
              · rw [List.mem_singleton.mp hg]
                exact hz
            · obtain ⟨bC, zs, rfl, lz, hzs⟩ := ea
              have hsC := dqx eC hsB
              have hhC := dqx eC hhB
              walk_at "Zs"
              obtain ⟨aH, haH, hatH⟩ := dq_ti hhC
              cases haH
              refine w_listUT hatH.t fun pL HD nL eD hL => ?_
              walk_at "Zs"
              rename_i pZ HE nE eE hE pK HF nF eF hF pW HG nG eG hG
              have eDG := eE.trans (eF.trans eG)
              have eCG := eD.trans eDG
              refine w_catL (eCG _ _ hDC) hG (by rw [List.length_map, lz]; exact (show 6 + 8 ≤ 1000000 by decide)) fun pA HH nH eH hH => ?_
              have eCH := eCG.trans eH
              have hsH := dq_mono eCH hsC
              have hhH := dq_mono eCH hhC
              have all : ∀ x ∈ zs.map V.str ++ [V.non, .int 7, .bl true, .ref pH, .ref pL, .ref pZ, .ref pK, .str ""], ∃ d, Dz W.K Ever HH x d ∧ ∀ z, d = .str z → z.length ≤ 100000 := fun x hx => by
                rcases List.mem_append.mp hx with hx | hx
                · obtain ⟨z, hz, rfl⟩ := List.mem_map.mp hx
                  exact ⟨_, .str z, fun g hg => by cases hg; exact hzs z hz⟩
                · simp only [List.mem_cons, List.not_mem_nil, or_false] at hx
                  rcases hx with rfl | rfl | rfl | rfl | rfl | rfl | rfl | rfl
                  · exact ⟨_, .non, fun g hg => nomatch hg⟩
                  · exact ⟨_, .int 7, fun g hg => nomatch hg⟩
                  · exact ⟨_, .bl true, fun g hg => nomatch hg⟩
                  · exact ⟨_, dz_dq hhH, fun g hg => nomatch hg⟩
                  · exact ⟨_, dz_newl trivial (eDG.trans eH _ _ hL) (dzs_dq (dqs_ints ms)), fun g hg => nomatch hg⟩
                  · exact ⟨_, dz_newl trivial ((eF.trans (eG.trans eH)) _ _ hE) (.cons (.str _) .nil), fun g hg => nomatch hg⟩
                  · exact ⟨_, .dic trivial ((eG.trans eH) _ _ hF), fun g hg => nomatch hg⟩
                  · exact ⟨_, .str _, fun g hg => by cases hg; decide⟩
              have lall : (zs.map V.str ++ [V.non, .int 7, .bl true, .ref pH, .ref pL, .ref pZ, .ref pK, .str ""]).length = 14 := by rw [List.length_append, List.length_map, lz]; rfl
              generalize zs.map V.str ++ [V.non, .int 7, .bl true, .ref pH, .ref pL, .ref pZ, .ref pK, .str ""] = xs at hH all lall
              walk_at "Zs"
              refine w_goL (SqL.of hH) ?_
              refine lcL (SqL.of hH) (fun j acc _ => acc = List.replicate j (V.bl true)) stb_pure (by omega) (fun j acc _ e => by rw [e, List.length_replicate]; exact Nat.le_refl _) (fun _ _ => rfl) (fun j x acc H' hx e ea k k' hk hk' => ?_) fun D3 acc HI hD3 eI hDI ea => ?_
              · obtain ⟨d, hd, hl⟩ := all x (List.mem_of_getElem? hx)
                walk_at "Zs"
                refine go__law_right (dq_mono e hsH) ok (dz_mono e hd) hl fun H3' e3' => ?_
                exact hk _ _ e3' (by rw [ea, List.replicate_succ'])
              · walk_at "Zs"
                refine w_all (bs := List.replicate xs.length true) (SqL.of (by rw [hDI, ea, List.map_replicate])) ?_
                rw [show (List.replicate xs.length true).all id = true from List.all_eq_true.mpr fun x hx => List.eq_of_mem_replicate hx]
                walk_at "Zs"
                exact ⟨⟨_, _, _, _, _, _, _, _, rfl⟩, box_mono (eCH.trans eI) (box_le (by omega) bC)⟩
        · obtain ⟨⟨y2, y3, y4, y5, y6, y7, y8, y9, rfl⟩, b3⟩ := h
          walk_at "Zs"
          exact q _
  exact F0
theorem c_law {W : Wd} {mg : Str → Option Value} {base : Heap} (B : Bi mg) (S : Src W.K mg "law" s_law) (T : Kl W.K mg) (C__law_right : Cal W mg base "_law_right" 8 ["_law_shape_here", "_law_text"] (sp__law_right W)) (C__law_bent : Cal W mg base "_law_bent" 3 ["_law_pot_here", "_law_shape_here", "_law_head"] (sp__law_bent W)) (C_show_head : Cal W mg base "show_head" 1 ["head"] (sp_show_head W)) (C__law_same : Cal W mg base "_law_same" 7 ["_law_found_here", "_law_due"] (sp__law_same W)) (C_read_head : CalX W mg base "read_head" 5 ["shape", "text"] (sp_read_head W)) (C__law_head_text : Cal W mg base "_law_head_text" 1 ["_law_head"] (sp__law_head_text W)) (C__law_value : Cal W mg base "_law_value" 2 ["_law_pot_here", "_law_breadth"] (sp__law_value W)) (C__law_shape : Cal W mg base "_law_shape" 4 ["_law_pot_here"] (sp__law_shape W)) (C__law_pot : Cal W mg base "_law_pot" 1 ["_law_script"] (sp__law_pot W)) : Cal W mg base "law" 9 ["_law_script"] (sp_law W) := by
  obtain ⟨f, fd, g, F⟩ := S
  exact ⟨f, fd, g, f_law B F T C__law_right C__law_bent C_show_head C__law_same C_read_head C__law_head_text C__law_value C__law_shape C__law_pot, F.kp, (F.binds (ps := ["_law_script"]) fun _ _ _ _ _ _ us hl => match us, hl with | [_], _ => rfl)⟩
theorem all_ok {W : Wd} {mg : Str → Option Value} {base : Heap} (B : Bi mg) (T : Kl W.K mg) (S_NoText___init__ : SrcM W.K (clsOf W.K "NoText") "__init__" "NoText.__init__" s_NoText___init__) (S_is_whole : Src W.K mg "is_whole" s_is_whole) (S_is_between : Src W.K mg "is_between" s_is_between) (S_is_value : Src W.K mg "is_value" s_is_value) (S_is_head : Src W.K mg "is_head" s_is_head) (S_show_head : Src W.K mg "show_head" s_show_head) (S_number_in : Src W.K mg "number_in" s_number_in) (S_numbers_in : Src W.K mg "numbers_in" s_numbers_in) (S_read_head : Src W.K mg "read_head" s_read_head) (S__law_pot : Src W.K mg "_law_pot" s__law_pot) (S__law_draw : Src W.K mg "_law_draw" s__law_draw) (S__law_of : Src W.K mg "_law_of" s__law_of) (S__law_size : Src W.K mg "_law_size" s__law_size) (S__law_names : Src W.K mg "_law_names" s__law_names) (S__law_value : Src W.K mg "_law_value" s__law_value) (S__law_kind : Src W.K mg "_law_kind" s__law_kind) (S__law_shape : Src W.K mg "_law_shape" s__law_shape) (S__law_head_text : Src W.K mg "_law_head_text" s__law_head_text) (S__law_same : Src W.K mg "_law_same" s__law_same) (S__law_class_of : Src W.K mg "_law_class_of" s__law_class_of) (S__law_number : Src W.K mg "_law_number" s__law_number) (S__law_read : Src W.K mg "_law_read" s__law_read) (S__law_bent : Src W.K mg "_law_bent" s__law_bent) (S__law_found : Src W.K mg "_law_found" s__law_found) (S__law_right : Src W.K mg "_law_right" s__law_right) {f : Addr} {fd : FuncData} (F : Fun W.K "law" "law" s_law f fd) : FnOk W.P W.w W.K mg base CX0 9 f fd ["_law_script"] (sp_law W) := by
  have C_NoText___init__ := c_NoText___init__ (base := base) B S_NoText___init__ T 
  have C_is_whole := c_is_whole (base := base) B S_is_whole T 
  have C_is_between := c_is_between (base := base) B S_is_between T C_is_whole
  have C_is_value := c_is_value (base := base) B S_is_value T C_is_between
  have C_is_head := c_is_head (base := base) B S_is_head T C_is_value
  have C_show_head := c_show_head (base := base) B S_show_head T 
  have C_number_in := c_number_in (base := base) B S_number_in T 
  have C_numbers_in := c_numbers_in (base := base) B S_numbers_in T C_number_in
  have C_read_head := c_read_head (base := base) B S_read_head T C_is_head C_NoText___init__ C_numbers_in
  have C__law_pot := c__law_pot (base := base) B S__law_pot T 
  have C__law_draw := c__law_draw (base := base) B S__law_draw T 
  have C__law_of := c__law_of (base := base) B S__law_of T C__law_draw
  have C__law_size := c__law_size (base := base) B S__law_size T C__law_draw
  have C__law_names := c__law_names (base := base) B S__law_names T C__law_of C__law_draw
  have C__law_value := c__law_value (base := base) B S__law_value T C__law_draw
  have C__law_kind := c__law_kind (base := base) B S__law_kind T C__law_draw C__law_value
  have C__law_shape := c__law_shape (base := base) B S__law_shape T C__law_draw C__law_size C__law_names C__law_kind
  have C__law_head_text := c__law_head_text (base := base) B S__law_head_text T 
  have C__law_same := c__law_same (base := base) B S__law_same T 
  have C__law_class_of := c__law_class_of (base := base) B S__law_class_of T 
  have C__law_number := c__law_number (base := base) B S__law_number T 
  have C__law_read := c__law_read (base := base) B S__law_read T C__law_number
  have C__law_bent := c__law_bent (base := base) B S__law_bent T C__law_of C__law_head_text C__law_draw (r_of (base := base) B S__law_of C__law_draw)
  have C__law_found := c__law_found (base := base) B S__law_found T C__law_class_of C_read_head
  have C__law_right := c__law_right (base := base) B S__law_right T C__law_found C__law_same C__law_read
  exact f_law B F T C__law_right C__law_bent C_show_head C__law_same C_read_head C__law_head_text C__law_value C__law_shape C__law_pot
theorem all_mk {P : Program} {w : World} {K : PySem.W.Frag} {mg : Str → Option Value} {fa : Addr} (hfa : mg "law" = some (.ref fa)) (B : Bi mg) (T : Kl K mg) (S_NoText___init__ : SrcM K (clsOf K "NoText") "__init__" "NoText.__init__" s_NoText___init__) (S_is_whole : Src K mg "is_whole" s_is_whole) (S_is_between : Src K mg "is_between" s_is_between) (S_is_value : Src K mg "is_value" s_is_value) (S_is_head : Src K mg "is_head" s_is_head) (S_show_head : Src K mg "show_head" s_show_head) (S_number_in : Src K mg "number_in" s_number_in) (S_numbers_in : Src K mg "numbers_in" s_numbers_in) (S_read_head : Src K mg "read_head" s_read_head) (S__law_pot : Src K mg "_law_pot" s__law_pot) (S__law_draw : Src K mg "_law_draw" s__law_draw) (S__law_of : Src K mg "_law_of" s__law_of) (S__law_size : Src K mg "_law_size" s__law_size) (S__law_names : Src K mg "_law_names" s__law_names) (S__law_value : Src K mg "_law_value" s__law_value) (S__law_kind : Src K mg "_law_kind" s__law_kind) (S__law_shape : Src K mg "_law_shape" s__law_shape) (S__law_head_text : Src K mg "_law_head_text" s__law_head_text) (S__law_same : Src K mg "_law_same" s__law_same) (S__law_class_of : Src K mg "_law_class_of" s__law_class_of) (S__law_number : Src K mg "_law_number" s__law_number) (S__law_read : Src K mg "_law_read" s__law_read) (S__law_bent : Src K mg "_law_bent" s__law_bent) (S__law_found : Src K mg "_law_found" s__law_found) (S__law_right : Src K mg "_law_right" s__law_right) (S_law : Src K mg "law" s_law) :
    ∃ fd : FuncData, (∀ (s : Shared) (v : Value), BindsTo s fd ⟨[v], []⟩ [("_law_script", v)]) ∧ ∀ base : Heap, K.In base → base.Ns mainGlobals mg → FnOk P w K mg base CX0 9 fa fd ["_law_script"] (sp_law ⟨P, w, K⟩) := by
  obtain ⟨f, fd, g, F⟩ := S_law
  have e := hfa.symm.trans g
  cases e
  refine ⟨fd, fun s v => ?_, fun base _ _ => all_ok (W := ⟨P, w, K⟩) B T S_NoText___init__ S_is_whole S_is_between S_is_value S_is_head S_show_head S_number_in S_numbers_in S_read_head S__law_pot S__law_draw S__law_of S__law_size S__law_names S__law_value S__law_kind S__law_shape S__law_head_text S__law_same S__law_class_of S__law_number S__law_read S__law_bent S__law_found S__law_right F⟩
  obtain ⟨oc, od, kV, doc, pm, an, cdv, ct, osl, rfl, lk, hcd⟩ := F.ex
  exact .of_eq rfl
def zts : List (Str × List Str) := [("", ["NoText", "Beyond", "HeadError", "NoDeed", "NoHead", "NoLetter", "NoLine", "NoMore", "NoPlace", "NoStream", "NoText", "NoWord"]), ("", ["", "NoText", "HeadError", "row"])]
def zfa_0 : List He.Fa := [.free "ValueError", .free "abs", .free "all", .free "any", .free "bool", .free "int", .free "isinstance", .free "len", .free "list", .free "min", .free "range", .free "str", .free "tuple", .free "zip", .str "FIGURES" "0123456789", .int "MOST_FIGURES" 15, .glo "Beyond", .glo "HeadError", .glo "NoDeed", .glo "NoHead", .glo "NoLetter", .glo "NoLine", .glo "NoMore", .glo "NoPlace", .glo "NoStream", .glo "NoText", .glo "NoWord", .meth "NoText" "__init__", .glo "is_whole", .keep "is_whole", .glo "is_between", .keep "is_between", .glo "is_value", .keep "is_value", .glo "is_head", .keep "is_head", .glo "show_head", .keep "show_head", .glo "number_in", .keep "number_in", .glo "numbers_in", .keep "numbers_in", .glo "read_head", .keep "read_head", .glo "_law_pot", .keep "_law_pot", .glo "_law_draw", .keep "_law_draw", .glo "_law_of", .keep "_law_of", .glo "_law_size", .keep "_law_size", .glo "_law_names", .keep "_law_names", .glo "_law_value", .keep "_law_value", .glo "_law_kind", .keep "_law_kind", .glo "_law_shape", .keep "_law_shape", .glo "_law_head_text", .keep "_law_head_text", .glo "_law_same", .keep "_law_same", .glo "_law_class_of", .keep "_law_class_of", .glo "_law_number", .keep "_law_number", .glo "_law_read", .keep "_law_read", .glo "_law_bent", .keep "_law_bent", .glo "_law_found", .keep "_law_found", .glo "_law_right", .keep "_law_right", .glo "law", .keep "law"]
def zfn_0 : List He.FnD := [⟨("NoText", some "__init__"), "__init__", "NoText.__init__", defArgs s_NoText___init__, defBody s_NoText___init__, defScope s_NoText___init__⟩, ⟨("is_whole", none), "is_whole", "is_whole", defArgs s_is_whole, defBody s_is_whole, defScope s_is_whole⟩, ⟨("is_between", none), "is_between", "is_between", defArgs s_is_between, defBody s_is_between, defScope s_is_between⟩, ⟨("is_value", none), "is_value", "is_value", defArgs s_is_value, defBody s_is_value, defScope s_is_value⟩, ⟨("is_head", none), "is_head", "is_head", defArgs s_is_head, defBody s_is_head, defScope s_is_head⟩, ⟨("show_head", none), "show_head", "show_head", defArgs s_show_head, defBody s_show_head, defScope s_show_head⟩, ⟨("number_in", none), "number_in", "number_in", defArgs s_number_in, defBody s_number_in, defScope s_number_in⟩, ⟨("numbers_in", none), "numbers_in", "numbers_in", defArgs s_numbers_in, defBody s_numbers_in, defScope s_numbers_in⟩, ⟨("read_head", none), "read_head", "read_head", defArgs s_read_head, defBody s_read_head, defScope s_read_head⟩, ⟨("_law_pot", none), "_law_pot", "_law_pot", defArgs s__law_pot, defBody s__law_pot, defScope s__law_pot⟩, ⟨("_law_draw", none), "_law_draw", "_law_draw", defArgs s__law_draw, defBody s__law_draw, defScope s__law_draw⟩, ⟨("_law_of", none), "_law_of", "_law_of", defArgs s__law_of, defBody s__law_of, defScope s__law_of⟩, ⟨("_law_size", none), "_law_size", "_law_size", defArgs s__law_size, defBody s__law_size, defScope s__law_size⟩, ⟨("_law_names", none), "_law_names", "_law_names", defArgs s__law_names, defBody s__law_names, defScope s__law_names⟩, ⟨("_law_value", none), "_law_value", "_law_value", defArgs s__law_value, defBody s__law_value, defScope s__law_value⟩, ⟨("_law_kind", none), "_law_kind", "_law_kind", defArgs s__law_kind, defBody s__law_kind, defScope s__law_kind⟩, ⟨("_law_shape", none), "_law_shape", "_law_shape", defArgs s__law_shape, defBody s__law_shape, defScope s__law_shape⟩, ⟨("_law_head_text", none), "_law_head_text", "_law_head_text", defArgs s__law_head_text, defBody s__law_head_text, defScope s__law_head_text⟩, ⟨("_law_same", none), "_law_same", "_law_same", defArgs s__law_same, defBody s__law_same, defScope s__law_same⟩, ⟨("_law_class_of", none), "_law_class_of", "_law_class_of", defArgs s__law_class_of, defBody s__law_class_of, defScope s__law_class_of⟩, ⟨("_law_number", none), "_law_number", "_law_number", defArgs s__law_number, defBody s__law_number, defScope s__law_number⟩, ⟨("_law_read", none), "_law_read", "_law_read", defArgs s__law_read, defBody s__law_read, defScope s__law_read⟩, ⟨("_law_bent", none), "_law_bent", "_law_bent", defArgs s__law_bent, defBody s__law_bent, defScope s__law_bent⟩, ⟨("_law_found", none), "_law_found", "_law_found", defArgs s__law_found, defBody s__law_found, defScope s__law_found⟩, ⟨("_law_right", none), "_law_right", "_law_right", defArgs s__law_right, defBody s__law_right, defScope s__law_right⟩, ⟨("law", none), "law", "law", defArgs s_law, defBody s_law, defScope s_law⟩]
def zfa : List He.Fa := zfa_0
def zfn : List He.FnD := zfn_0
def ztt : List (Str × List Str) := zts
def znames_0 : List Str := ["HeadError", "NoHead", "NoLetter", "NoWord", "NoMore", "NoDeed", "NoPlace", "Beyond", "NoStream", "NoLine", "NoText", "is_whole", "is_between", "is_value", "is_head", "FIGURES", "MOST_FIGURES", "show_head", "number_in", "numbers_in", "read_head", "_law_pot", "_law_draw", "_law_of", "_law_size", "_law_names", "_law_value", "_law_kind", "_law_shape", "_law_head_text"]
def znames_1 : List Str := ["_law_same", "_law_class_of", "_law_number", "_law_read", "_law_bent", "_law_found", "_law_right"]
def znames : List Str := znames_0 ++ znames_1
abbrev zR : PySem.W.OpenRow := PySem.W.OpenLaw.row PySem.Challenge.rw_shorthead_k53_heads_written
abbrev zhk : PySem.W.Hook := hookZ zfa zfn ztt
def zob (s : PySem.W.SharedT) : AlZ := obsZG zfa zfn ztt (HandSHeadRun.getT s)
theorem zob_eq (s : PySem.W.SharedT) : zob s = zhk.obs s.abs := obsZG_eq (HandSHeadRun.getT_eq s)
theorem zrun_0 (w : World) : HandSHeadRun.RunEq zR (PySem.W.view zR.prog [41]) (hookZ zfa_0 zfn_0 zts) (fun s => obsZG zfa_0 zfn_0 zts (HandSHeadRun.getT s)) 20000 znames w := by
  intro os
  kernel_rfl
theorem zrun (w : World) : HandSHeadRun.RunEq zR (PySem.W.view zR.prog [41]) zhk zob 20000 znames w := zrun_0 w
theorem zfacts {P : Program} {w : World} {K : PySem.W.Frag} {h : Heap} {mg : Str → Option Value} {f : Addr} (X : K.In h) (G : h.Ns mainGlobals mg) (hfa : mg ("law" : Str) = some (.ref f)) (cz : SaysZ zfa zfn ztt K) :
    ∃ fd : FuncData, (∀ (s : Shared) (v : Value), BindsTo s fd ⟨[v], []⟩ [("_law_script", v)]) ∧ ∀ base : Heap, K.In base → base.Ns mainGlobals mg → FnOk P w K mg base CX0 9 f fd ["_law_script"] (sp_law ⟨P, w, K⟩) := by
  obtain ⟨c, ct⟩ := cz
  have B : Bi mg := ⟨He.free_ok X G (c.fact 0 rfl), He.free_ok X G (c.fact 1 rfl), He.free_ok X G (c.fact 2 rfl), He.free_ok X G (c.fact 3 rfl), He.free_ok X G (c.fact 4 rfl), He.free_ok X G (c.fact 5 rfl), He.free_ok X G (c.fact 6 rfl), He.free_ok X G (c.fact 7 rfl), He.free_ok X G (c.fact 8 rfl), He.free_ok X G (c.fact 9 rfl), He.free_ok X G (c.fact 10 rfl), He.free_ok X G (c.fact 11 rfl), He.free_ok X G (c.fact 12 rfl), He.free_ok X G (c.fact 13 rfl), (by obtain ⟨t, e⟩ := He.str_ok X G (c.fact 14 rfl); exact ⟨_, e, ⟨_, rfl⟩⟩), (by obtain ⟨t, e⟩ := He.int_ok X G (c.fact 15 rfl); exact ⟨_, e, ⟨_, rfl⟩⟩)⟩
  have T : Kl K mg := ⟨exoB_ok (tz_xo (ct _ (List.mem_of_getElem? (i := 1) rfl))), z_cls X G c 16 rfl, z_cls X G c 17 rfl, z_cls X G c 18 rfl, z_cls X G c 19 rfl, z_cls X G c 20 rfl, z_cls X G c 21 rfl, z_cls X G c 22 rfl, z_cls X G c 23 rfl, z_cls X G c 24 rfl, z_cls X G c 25 rfl, z_cls X G c 26 rfl, exvB_ok (tz_ex (by decide) (ct _ (List.mem_of_getElem? (i := 0) rfl)))⟩
  have S_NoText___init__ : SrcM K (clsOf K "NoText") "__init__" "NoText.__init__" s_NoText___init__ := z_srcM c 0 27 rfl rfl
  have S_is_whole : Src K mg "is_whole" s_is_whole := z_src X G c 1 28 rfl rfl rfl
  have S_is_between : Src K mg "is_between" s_is_between := z_src X G c 2 30 rfl rfl rfl
  have S_is_value : Src K mg "is_value" s_is_value := z_src X G c 3 32 rfl rfl rfl
  have S_is_head : Src K mg "is_head" s_is_head := z_src X G c 4 34 rfl rfl rfl
  have S_show_head : Src K mg "show_head" s_show_head := z_src X G c 5 36 rfl rfl rfl
  have S_number_in : Src K mg "number_in" s_number_in := z_src X G c 6 38 rfl rfl rfl
  have S_numbers_in : Src K mg "numbers_in" s_numbers_in := z_src X G c 7 40 rfl rfl rfl
  have S_read_head : Src K mg "read_head" s_read_head := z_src X G c 8 42 rfl rfl rfl
  have S__law_pot : Src K mg "_law_pot" s__law_pot := z_src X G c 9 44 rfl rfl rfl
  have S__law_draw : Src K mg "_law_draw" s__law_draw := z_src X G c 10 46 rfl rfl rfl
  have S__law_of : Src K mg "_law_of" s__law_of := z_src X G c 11 48 rfl rfl rfl
  have S__law_size : Src K mg "_law_size" s__law_size := z_src X G c 12 50 rfl rfl rfl
  have S__law_names : Src K mg "_law_names" s__law_names := z_src X G c 13 52 rfl rfl rfl
  have S__law_value : Src K mg "_law_value" s__law_value := z_src X G c 14 54 rfl rfl rfl
  have S__law_kind : Src K mg "_law_kind" s__law_kind := z_src X G c 15 56 rfl rfl rfl
  have S__law_shape : Src K mg "_law_shape" s__law_shape := z_src X G c 16 58 rfl rfl rfl
  have S__law_head_text : Src K mg "_law_head_text" s__law_head_text := z_src X G c 17 60 rfl rfl rfl
  have S__law_same : Src K mg "_law_same" s__law_same := z_src X G c 18 62 rfl rfl rfl
  have S__law_class_of : Src K mg "_law_class_of" s__law_class_of := z_src X G c 19 64 rfl rfl rfl
  have S__law_number : Src K mg "_law_number" s__law_number := z_src X G c 20 66 rfl rfl rfl
  have S__law_read : Src K mg "_law_read" s__law_read := z_src X G c 21 68 rfl rfl rfl
  have S__law_bent : Src K mg "_law_bent" s__law_bent := z_src X G c 22 70 rfl rfl rfl
  have S__law_found : Src K mg "_law_found" s__law_found := z_src X G c 23 72 rfl rfl rfl
  have S__law_right : Src K mg "_law_right" s__law_right := z_src X G c 24 74 rfl rfl rfl
  have S_law : Src K mg "law" s_law := z_src X G c 25 76 rfl rfl rfl
  exact all_mk hfa B T S_NoText___init__ S_is_whole S_is_between S_is_value S_is_head S_show_head S_number_in S_numbers_in S_read_head S__law_pot S__law_draw S__law_of S__law_size S__law_names S__law_value S__law_kind S__law_shape S__law_head_text S__law_same S__law_class_of S__law_number S__law_read S__law_bent S__law_found S__law_right S_law
end Sh
open PySem PySem.W PySem.Calls PyProof.Rows in
set_option maxRecDepth 100000 in
set_option maxHeartbeats 0 in
theorem PySem.Challenge.cw_shorthead_k53_heads_written_holds : PySem.Challenge.rw_shorthead_k53_heads_written.Holds := by
  w_on; o_law
  refine HandSHeadRun.head_any (r := OpenLaw.row PySem.Challenge.rw_shorthead_k53_heads_written) (q := view (OpenLaw.row PySem.Challenge.rw_shorthead_k53_heads_written).prog [41]) (H := Sh.zhk) (ob := Sh.zob) (M := 20000) (loose := Sh.znames) (d := HandSHeadRun.topDef (OpenLaw.row PySem.Challenge.rw_shorthead_k53_heads_written).prog 41) (kwd := []) Sh.zob_eq
    (by kernel_rfl) (fun s => by kernel_rfl) Sh.zrun (by kernel_rfl) (by kernel_rfl) (by kernel_rfl) (by rfl) (by first | assumption | decide +kernel) (by decide +kernel) ⟨rfl, rfl, rfl, rfl, rfl, by decide +kernel⟩ ?hw ?hc
  case hw => w_witness2
  case hc =>
    refine Sh.walk_ofZ (l := PySem.Challenge.rw_shorthead_k53_heads_written) (n := 63) (k := 9) (x := "_law_script") (CX := L2.CX0) rfl (by decide) (by kernel_rfl) ⟨rfl, by decide, by decide⟩ ?F (fun _ _ _ _ z => z)
    intro w mg fa h Y G hmg0
    obtain ⟨K, KX, c⟩ := Y
    have hmg : mg ("law" : PySem.Str) = some (.ref fa) := by
      have e : (HandSHeadRun.topDef (OpenLaw.row PySem.Challenge.rw_shorthead_k53_heads_written).prog 41).name = ("law" : PySem.Str) := by kernel_rfl
      rw [← e]
      exact hmg0
    obtain ⟨fd, hb, hF⟩ := Sh.zfacts (P := (PySem.Challenge.rw_shorthead_k53_heads_written).prog) (w := w) KX G hmg c
    exact ⟨K, fd, Sh.sp_law ⟨(PySem.Challenge.rw_shorthead_k53_heads_written).prog, w, K⟩, KX, hb, fun H a ns hl hbt _ hS => ⟨a, ns, rfl, hS, hl, hbt, fun _ => rfl⟩, hF⟩
