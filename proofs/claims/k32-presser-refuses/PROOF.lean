import PyProof.Rows.All
import Wide.All
import OpenK.AllK
import Wide.FinOn
import HandS.ForMost
import HandS.EndBits
import HandS.Wide
import HandS.IsInst
import HandS.TupAny
import HandS.Small
import HandS.TupMul
import HandS.WideBits
import KE.IntTextLaws
import HandS.SortInts
import HandS.Zip
import HandS.Strs
import HandS.SetFor
import HandS.Steps
import KE.KIndexOf
import KE.GoesEnum
import KE.GoesMore
import HandS.Conv
import HandS.Rev
import HandS.Style
import KE.GoesZip
import HandS.Exc
import HandS.ExcOwn
import HandS.TryOnly
import HandS.TryMany
import HandS.ExcCtx
import HandS.Hot
import HandS.HotCalls
import HandS.WordsExc
import HandS.IsInst
import KE.KExcIs
import HandS.ExcValue
import HandS.StrMore
import HandS.Head0
import HandS.Head1
import HandS.Head2
import HandS.HeadEnd
import HandS.HeadHook1
import PySem.Challenge.RW_shorthead_k32_presser_refuses
set_option Elab.async false
set_option linter.all false
set_option maxRecDepth 100000
set_option maxHeartbeats 4000000
/-! heaps, data -/
namespace Sh
open PySem PySem.Spec PyProof.Rows L2

theorem same_new {H : Hp} {p : Addr} {o : HO} (h : H p = none) : Same H (upd H p o) := fun a u e => by
  rw [upd_ne (ne_of_none e h)]
  exact e
theorem same_mut {H H' : Hp} {p : Addr} {o : HO} (e : Same H H') (h : H p = none) : Same H (upd H' p o) := fun a u ha => by
  rw [upd_ne (ne_of_none ha h)]
  exact e a u ha
theorem same_t {K : PySem.W.Frag} {H H' : Hp} {a : Addr} {xs : List V} (e : Same H H') (h : SqT K H a xs) : SqT K H' a xs := by
  rcases h with (h | ⟨o, h⟩) | h
  · exact .inl (.inl (e _ _ h))
  · exact .inl (.inr ⟨o, e _ _ h⟩)
  · exact .inr h
mutual
theorem dp_mono {K : PySem.W.Frag} {H H' : Hp} (e : Same H H') : ∀ {v : V} {d : PyData}, Dp K H v d → Dp K H' v d
  | _, _, .non => .non
  | _, _, .bl b => .bl b
  | _, _, .int i => .int i
  | _, _, .str x => .str x
  | _, _, .lst h r => .lst (e.seq h) (dps_mono e r)
  | _, _, .tup h r => .tup (same_t e h) (dps_mono e r)
theorem dps_mono {K : PySem.W.Frag} {H H' : Hp} (e : Same H H') : ∀ {vs : List V} {ds : List PyData}, DpAll K H vs ds → DpAll K H' vs ds
  | _, _, .nil => .nil
  | _, _, .cons h r => .cons (dp_mono e h) (dps_mono e r)
end
theorem dps_len {K : PySem.W.Frag} {H : Hp} : ∀ {vs : List V} {ds : List PyData}, DpAll K H vs ds → vs.length = ds.length
  | _, _, .nil => rfl
  | _, _, .cons _ r => congrArg (· + 1) (dps_len r)
theorem dps_get {K : PySem.W.Frag} {H : Hp} : ∀ {vs : List V} {ds : List PyData} {i : Nat} {d : PyData}, DpAll K H vs ds → ds[i]? = some d → ∃ v, vs[i]? = some v ∧ Dp K H v d
  | _, _, _, _, .nil, e => by simp at e
  | _, _, 0, _, .cons (v := v) h _, e => by
    simp at e
    subst e
    exact ⟨v, rfl, h⟩
  | _, _, i + 1, d, .cons _ r, e => by
    obtain ⟨v, h1, h2⟩ := dps_get (i := i) (d := d) r (by simpa using e)
    exact ⟨v, by simpa using h1, h2⟩
theorem dps_get2 {K : PySem.W.Frag} {H : Hp} {vs : List V} {ds : List PyData} {i : Nat} {v : V} (r : DpAll K H vs ds) (e : vs[i]? = some v) : ∃ d, ds[i]? = some d ∧ Dp K H v d := by
  have hl := dps_len r
  have hi := (List.getElem?_eq_some_iff.mp e).1
  have e2 : ds[i]? = some (ds[i]'(hl ▸ hi)) := List.getElem?_eq_getElem _
  obtain ⟨v2, h1, h2⟩ := dps_get r e2
  rw [e] at h1
  cases h1
  exact ⟨_, e2, h2⟩
theorem dps_app {K : PySem.W.Frag} {H : Hp} : ∀ {vs ws : List V} {ds es : List PyData}, DpAll K H vs ds → DpAll K H ws es → DpAll K H (vs ++ ws) (ds ++ es)
  | _, _, _, _, .nil, s => s
  | _, _, _, _, .cons h r, s => .cons h (dps_app r s)
theorem dps_ints {K : PySem.W.Frag} {H : Hp} : ∀ ns : List Int, DpAll K H (ns.map V.int) (ns.map PyData.int)
  | [] => .nil
  | n :: r => .cons (.int n) (dps_ints r)
theorem atI_map {α β : Type} (f : α → β) (xs : List α) (i : Int) : atI (xs.map f) i = (atI xs i).map f := by
  unfold atI
  rw [List.length_map]
  cases ixN xs.length i with
  | none => rfl
  | some j => simp
theorem dps_at {K : PySem.W.Frag} {H : Hp} {vs : List V} {ds : List PyData} {i : Int} {d : PyData} (r : DpAll K H vs ds) (e : atI ds i = some d) : ∃ v, atI vs i = some v ∧ Dp K H v d := by
  unfold atI at e ⊢
  rw [dps_len r]
  cases q : ixN ds.length i with
  | none => rw [q] at e; cases e
  | some j =>
    rw [q] at e
    exact dps_get r e

/-! ### rules that join -/
section
variable {X : Cx}
theorem opor {f : Value → Value → Sem Value} {r r' : R2} (h : OpR X f r) (h' : OpR X f r') : OpR X f (fun x y H Q => r x y H Q ∨ r' x y H Q) := by
  intro pins s σ H x y v u Q I rx ry q
  rcases q with q | q
  · exact h pins s σ H x y v u Q I rx ry q
  · exact h' pins s σ H x y v u Q I rx ry q
def rAddU (K : PySem.W.Frag) : R2 := fun x y H Q => rI0 (fun i j => .int (i + j)) x y H Q ∨ (∃ i j, x = .str i ∧ y = .str j ∧ i.length + j.length ≤ sizeLine ∧ Q (.str (i ++ j)) H) ∨ rCat x y H Q ∨ rCatA K x y H Q
theorem u_add : OpR X (binaryOp .Add) (rAddU X.K) := opor op_add (opor op_add_str (opor op_cat op_catA))
def rSubU : R2 := rI0 fun i j => .int (i - j)
theorem u_sub : OpR X (binaryOp .Sub) rSubU := op_sub
/-- x * n of a text -/
def rMulS : R2 := fun x y H Q => ∃ a n, x = .str a ∧ y = .int n ∧ MulOk a n ∧ Q (.str (Txt.mul a n)) H
theorem op_mulS {X : Cx} : OpR X (binaryOp .Mult) rMulS := by
  intro pins s σ H x y v u Q I rx ry q
  obtain ⟨a, n, rfl, rfl, hm, q⟩ := q
  obtain ⟨t, rfl⟩ := rx
  obtain ⟨t2, rfl⟩ := ry
  exact SB.mul hm fun t' k => ⟨.str (Txt.mul a n), H, I.tok _, ⟨_, rfl⟩, q⟩
def rMulU (K : PySem.W.Frag) : R2 := fun x y H Q => rI CMul (fun i j => .int (i * j)) x y H Q ∨ rI CMulW (fun i j => .int (i * j)) x y H Q ∨ rMulS x y H Q ∨ rRep x y H Q ∨ rRepT K x y H Q
theorem u_mul : OpR X (binaryOp .Mult) (rMulU X.K) := opor op_mul (opor op_mulW (opor op_mulS (opor op_rep op_repT)))
def rDivU : R2 := rI CDivW fun i j => .int (i / j)
theorem u_div : OpR X (binaryOp .FloorDiv) rDivU := op_fdivW
def rModU : R2 := rI (fun _ j => 0 < j) fun i j => .int (i % j)
theorem u_mod : OpR X (binaryOp .Mod) rModU := op_mod
def rShlU : R2 := rI CPow fun i j => .int (i * 2 ^ j.toNat)
theorem u_shl : OpR X (binaryOp .LShift) rShlU := op_shl
def rPowU : R2 := rI CPow fun i j => .int (i ^ j.toNat)
theorem u_pow : OpR X (binaryOp .Pow) rPowU := op_pow
def rEqU (K : PySem.W.Frag) : R2 := fun x y H Q => rEq x y H Q ∨ rEqD K x y H Q
theorem u_eq (hu : X.A.units + 64 < cLine) : OpR X (compareOp .Eq) (rEqU X.K) := opor op_eq (op_eqD hu)
def rNeU (K : PySem.W.Frag) : R2 := fun x y H Q => rNe x y H Q ∨ rNeD K x y H Q
theorem u_ne (hu : X.A.units + 64 < cLine) : OpR X (compareOp .NotEq) (rNeU X.K) := opor op_ne (op_neD hu)
def rLtU (K : PySem.W.Frag) : R2 := rI0 fun i j => .bl (decide (i < j))
theorem u_lt : OpR X (compareOp .Lt) (rLtU X.K) := op_lt
def rLeU : R2 := fun x y H Q => rI0 (fun i j => .bl (decide (i ≤ j))) x y H Q ∨ (∃ i j, x = .str i ∧ y = .str j ∧ Q (.bl (!decide (j.cps.toList < i.cps.toList))) H)
theorem u_le : OpR X (compareOp .LtE) rLeU := opor op_le op_le_str
def rGtU : R2 := rI0 fun i j => .bl (decide (j < i))
theorem u_gt : OpR X (compareOp .Gt) rGtU := op_gt
def rGeU : R2 := rI0 fun i j => .bl (decide (j ≤ i))
theorem u_ge : OpR X (compareOp .GtE) rGeU := op_ge
end
/-! ### readings, step by step -/
section
variable {K : PySem.W.Frag} {σ : L2.St} {H : Hp} {Q : VK} {R : Bool → Hp → Prop} {te ta tb tc : TE} {t u : TT} {tA tr : TA} {ts tz : TS} {nx bk ct : L2.St → Hp → Prop} {rt : VK} {x y v : V} {i j : Int} {r r' : R2} {g : TG} {n : Nat} {D : Ends}
theorem w_seq (h : ts ⟨tz ⟨nx, rt, bk, ct⟩, rt, bk, ct⟩ σ H) : tSeq ts tz ⟨nx, rt, bk, ct⟩ σ H := h
theorem w_next (h : nx σ H) : tNext ⟨nx, rt, bk, ct⟩ σ H := h
theorem w_asg (h : te σ H fun x H1 => g x σ H1 nx) : tAsg te g ⟨nx, rt, bk, ct⟩ σ H := h
theorem w_gname {k : L2.St → Hp → Prop} (h : k (σ.set n (some v)) H) : gName n v σ H k := h
theorem w_drop (h : te σ H fun _ H1 => nx σ H1) : tDrop te ⟨nx, rt, bk, ct⟩ σ H := h
theorem w_ret (h : te σ H rt) : tRet te ⟨nx, rt, bk, ct⟩ σ H := h
theorem w_retn (h : rt .non H) : tRetN ⟨nx, rt, bk, ct⟩ σ H := h
theorem w_ifs (h : t σ H fun b H1 => if b = true then ts ⟨nx, rt, bk, ct⟩ σ H1 else tz ⟨nx, rt, bk, ct⟩ σ H1) : tIfS t ts tz ⟨nx, rt, bk, ct⟩ σ H := h
theorem w_aug {ti : TIp} (hx : σ[n]? = some (some x)) (h : te σ H fun y H1 => ti x y H1 fun z H2 => nx (σ.set n (some z)) H2) : tAug n te ti ⟨nx, rt, bk, ct⟩ σ H := ⟨x, hx, h⟩
theorem w_ip {f : Int → Int → Int} (h : Q (.int (f i j)) H) : ipI f (.int i) (.int j) H Q := ⟨i, j, rfl, rfl, h⟩
theorem w_par {m : Nat} (h : tA σ H fun vs H1 => ∃ v w, vs = [v, w] ∧ nx ((σ.set n (some v)).set m (some w)) H1) : tPar n m tA ⟨nx, rt, bk, ct⟩ σ H := h
theorem w_two {k : V → V → Prop} (h : k x y) : ∃ v w, [x, y] = [v, w] ∧ k v w := ⟨x, y, rfl, h⟩
theorem w_var (h : σ[n]? = some (some v)) (q : Q v H) : tVar n σ H Q := ⟨v, h, q⟩
theorem w_c (q : Q v H) : tC v σ H Q := q
theorem w_op (h : ta σ H fun x H1 => tb σ H1 fun y H2 => r x y H2 Q) : tOp r ta tb σ H Q := h
theorem w_un {r : V → Hp → VK → Prop} (h : ta σ H fun x H1 => r x H1 Q) : tUn r ta σ H Q := h
theorem w_rU {g : Int → V} (h : Q (g i) H) : rU g (.int i) H Q := ⟨i, rfl, h⟩
theorem w_nil {k : List V → Hp → Prop} (q : k [] H) : tNil σ H k := q
theorem w_cons {k : List V → Hp → Prop} (h : ta σ H fun x H1 => tr σ H1 fun xs H2 => k (x :: xs) H2) : tCons ta tr σ H k := h
theorem w_cb {r : List V → Hp → VK → Prop} (h : tA σ H fun vs H1 => r vs H1 Q) : tCB r tA σ H Q := h
theorem w_call {sp : Sp} {E : XK} (h : tA σ H fun vs H1 => sp vs H1 Q E) : tCall sp [] E tA σ H Q := by
  show tA σ H fun vs H1 => sp (vs ++ []) H1 Q E
  have e : (fun vs H1 => sp (vs ++ []) H1 Q E) = fun vs H1 => sp vs H1 Q E := by
    funext vs H1
    rw [List.append_nil]
  rw [e]
  exact h
theorem w_test (h : te σ H fun x H1 => ∃ k, x = .bl k ∧ R k H1) : tTest te σ H R := h
theorem w_tB (h : te σ H fun x H1 => ∃ k, x = .bl k ∧ R k H1) : tB te σ H R := h
theorem w_bl {b : Bool} {k : Bool → Prop} (h : k b) : ∃ c, V.bl b = .bl c ∧ k c := ⟨b, rfl, h⟩
theorem w_and (h : t σ H fun c H1 => if c = true then u σ H1 R else R false H1) : tAnd t u σ H R := h
theorem w_or (h : t σ H fun c H1 => if c = true then R true H1 else u σ H1 R) : tOr t u σ H R := h
theorem w_not (h : t σ H fun c H1 => R (!c) H1) : tNot t σ H R := h
theorem w_andv (h : ta σ H fun x H1 => ∃ c, x = .bl c ∧ if c = true then tb σ H1 Q else Q (.bl false) H1) : tAndV ta tb σ H Q := h
theorem w_orv (h : ta σ H fun x H1 => ∃ c, x = .bl c ∧ if c = true then Q (.bl true) H1 else tb σ H1 Q) : tOrV ta tb σ H Q := h
theorem w_notv (h : ta σ H fun x H1 => ∃ c, x = .bl c ∧ Q (.bl (!c)) H1) : tNotV ta σ H Q := h
theorem w_ife (h : t σ H fun c H1 => if c = true then ta σ H1 Q else tb σ H1 Q) : tIf t ta tb σ H Q := h
theorem w_chain (h : ta σ H fun x H1 => tb σ H1 fun y H2 => r x y H2 fun z H3 => ∃ k, z = .bl k ∧ if k = true then tc σ H3 fun w H4 => r' y w H4 Q else Q (.bl false) H3) : tChain r r' ta tb tc σ H Q := h
/-- a new object is laid -/
def NewT (xs : List V) (o : HO) (Q : VK) (H : Hp) : Prop := xs.length ≤ sizeLine ∧ ∀ p, H p = none → Q (.ref p) (upd H p o)
theorem w_tup (h : tA σ H fun xs H1 => NewT xs (.tup xs) Q H1) : tTup tA σ H Q := h
theorem w_lst (h : tA σ H fun xs H1 => NewT xs (.lst xs) Q H1) : tLst tA σ H Q := h
/-- a new object: it is there, all else is kept -/
theorem w_new {xs : List V} {o : HO} (hl : xs.length ≤ sizeLine) (h : ∀ p H', H p = none → Same H H' → H' p = some o → Q (.ref p) H') : NewT xs o Q H :=
  ⟨hl, fun p hp => h p _ hp (same_new hp) upd_same⟩
theorem w_dec {p : Prop} [Decidable p] {A B : Prop} (h1 : p → A) (h2 : ¬ p → B) : if decide p = true then A else B := by
  by_cases h : p
  · rw [decide_eq_true h]
    exact iteT (h1 h)
  · rw [decide_eq_false h]
    exact iteF (h2 h)
theorem w_ndec {p : Prop} [Decidable p] {A B : Prop} (h1 : ¬ p → A) (h2 : p → B) : if (!decide p) = true then A else B := by
  by_cases h : p
  · rw [decide_eq_true h]
    exact iteF (h2 h)
  · rw [decide_eq_false h]
    exact iteT (h1 h)
theorem w_itet {b : Bool} {A B : Prop} (h : b = true) (q : A) : if b = true then A else B := by
  rw [h]
  exact iteT q
theorem w_itef {b : Bool} {A B : Prop} (h : b = false) (q : B) : if b = true then A else B := by
  rw [h]
  exact iteF q
theorem w_nn {b : Bool} {A B : Prop} (h : if b = true then B else A) : if (!b) = true then A else B := by
  cases b
  · exact h
  · exact h
theorem w_bool {b : Bool} {A B : Prop} (h1 : b = true → A) (h2 : b = false → B) : if b = true then A else B := by
  cases b
  · exact iteF (h2 rfl)
  · exact iteT (h1 rfl)
theorem w_add (h : Q (.int (i + j)) H) : rAddU K (.int i) (.int j) H Q := .inl ⟨i, j, rfl, rfl, h⟩
theorem w_adds {a b : Str} (hl : a.length + b.length ≤ sizeLine) (h : Q (.str (a ++ b)) H) : rAddU K (.str a) (.str b) H Q := .inr (.inl ⟨a, b, rfl, rfl, hl, h⟩)
theorem w_sub (h : Q (.int (i - j)) H) : rSubU (.int i) (.int j) H Q := ⟨i, j, rfl, rfl, h⟩
theorem w_mul (hc : CMul i j) (h : Q (.int (i * j)) H) : rMulU K (.int i) (.int j) H Q := .inl ⟨i, j, rfl, rfl, hc, h⟩
theorem w_mulw (hc : CMulW i j) (h : Q (.int (i * j)) H) : rMulU K (.int i) (.int j) H Q := .inr (.inl ⟨i, j, rfl, rfl, hc, h⟩)
theorem w_div (h0 : 0 < j) (hc : j.natAbs.log2 < 9000) (h : Q (.int (i / j)) H) : rDivU (.int i) (.int j) H Q := ⟨i, j, rfl, rfl, ⟨h0, hc⟩, h⟩
theorem w_mod (h0 : 0 < j) (h : Q (.int (i % j)) H) : rModU (.int i) (.int j) H Q := ⟨i, j, rfl, rfl, h0, h⟩
theorem w_shl (hc : CPow i j) (h : Q (.int (i * 2 ^ j.toNat)) H) : rShlU (.int i) (.int j) H Q := ⟨i, j, rfl, rfl, hc, h⟩
theorem w_pow (hc : CPow i j) (h : Q (.int (i ^ j.toNat)) H) : rPowU (.int i) (.int j) H Q := ⟨i, j, rfl, rfl, hc, h⟩
theorem w_lt (h : Q (.bl (decide (i < j))) H) : rLtU K (.int i) (.int j) H Q := ⟨i, j, rfl, rfl, h⟩
theorem w_le (h : Q (.bl (decide (i ≤ j))) H) : rLeU (.int i) (.int j) H Q := .inl ⟨i, j, rfl, rfl, h⟩
theorem w_gt (h : Q (.bl (decide (j < i))) H) : rGtU (.int i) (.int j) H Q := ⟨i, j, rfl, rfl, h⟩
theorem w_ge (h : Q (.bl (decide (j ≤ i))) H) : rGeU (.int i) (.int j) H Q := ⟨i, j, rfl, rfl, h⟩
theorem dec_ii : decide (V.int i = V.int j) = decide (i = j) := by
  by_cases h : i = j
  · subst h; simp
  · simp [h]
theorem dec_ss {a b : Str} : decide (V.str a = V.str b) = decide (a = b) := by
  by_cases h : a = b
  · subst h; simp
  · simp [h]
theorem w_eqi (h : Q (.bl (decide (i = j))) H) : rEqU K (.int i) (.int j) H Q := .inl ⟨rfl, by rw [dec_ii]; exact h⟩
theorem w_eqs {a b : Str} (h : Q (.bl (decide (a = b))) H) : rEqU K (.str a) (.str b) H Q := .inl ⟨rfl, by rw [dec_ss]; exact h⟩
theorem w_nei (h : Q (.bl (!decide (i = j))) H) : rNeU K (.int i) (.int j) H Q := .inl ⟨rfl, by rw [dec_ii]; exact h⟩
theorem w_nes {a b : Str} (h : Q (.bl (!decide (a = b))) H) : rNeU K (.str a) (.str b) H Q := .inl ⟨rfl, by rw [dec_ss]; exact h⟩
theorem w_div1 (h0 : 0 < j) (hb : j < 1267650600228229401496703205376) (h : Q (.int (i / j)) H) : rDivU (.int i) (.int j) H Q := by
  refine ⟨i, j, rfl, rfl, ⟨h0, ?_⟩, h⟩
  have hn : j.natAbs < 2 ^ 100 := by omega
  exact Nat.lt_of_lt_of_le (PySem.Flt.log2_lt_of (by decide) hn) (by decide)
def p2 (n : Int) : Int := 2 ^ n.toNat
theorem p2_pos (n : Int) : 0 < p2 n := Int.pow_pos (by decide)
theorem ipow_le {a : Nat} (ha : 0 < a) {m n : Nat} (h : m ≤ n) : (a : Int) ^ m ≤ (a : Int) ^ n := by
  rw [← Int.natCast_pow, ← Int.natCast_pow]
  exact Int.ofNat_le.mpr (Nat.pow_le_pow_right ha h)
theorem p2_le {m n : Int} (h : m ≤ n) : p2 m ≤ p2 n := by
  have h1 : m.toNat ≤ n.toNat := by omega
  have h2 : (2 : Nat) ^ m.toNat ≤ 2 ^ n.toNat := Nat.pow_le_pow_right (by decide) h1
  have e1 : ((2 ^ m.toNat : Nat) : Int) = (2 : Int) ^ m.toNat := by simp
  have e2 : ((2 ^ n.toNat : Nat) : Int) = (2 : Int) ^ n.toNat := by simp
  show (2 : Int) ^ m.toNat ≤ 2 ^ n.toNat
  omega
theorem w_shl1 (h0 : 0 ≤ j) (h1 : j ≤ 1000000) (h : Q (.int (p2 j)) H) : rShlU (.int 1) (.int j) H Q := ⟨1, j, rfl, rfl, ⟨h0, h1, by decide⟩, by
  show Q (V.int (1 * 2 ^ j.toNat)) H
  rw [Int.one_mul]
  exact h⟩
abbrev rMin2 : List V → Hp → VK → Prop := fun xs H Q => ∃ i j, xs = [V.int i, V.int j] ∧ Q (.int (if j < i then j else i)) H
abbrev rMax2 : List V → Hp → VK → Prop := fun xs H Q => ∃ i j, xs = [V.int i, V.int j] ∧ Q (.int (if j > i then j else i)) H
abbrev rAbs : List V → Hp → VK → Prop := fun xs H Q => ∃ i, xs = [V.int i] ∧ Q (.int (if i < 0 then -i else i)) H
theorem w_min2 (h : Q (.int (if j < i then j else i)) H) : rMin2 [.int i, .int j] H Q := ⟨i, j, rfl, h⟩
theorem w_max2 (h : Q (.int (if j > i then j else i)) H) : rMax2 [.int i, .int j] H Q := ⟨i, j, rfl, h⟩
theorem w_abs (h : Q (.int (if i < 0 then -i else i)) H) : rAbs [.int i] H Q := ⟨i, rfl, h⟩
abbrev rIntU : List V → Hp → VK → Prop := fun xs H Q => (∃ i, xs = [V.int i] ∧ Q (.int i) H) ∨ ∃ k, xs = [V.bl k] ∧ Q (.int (if k then 1 else 0)) H
theorem u_int {X : Cx} : CallR X (.type "int") rIntU := call_int1
theorem w_inti (h : Q (.int i) H) : rIntU [.int i] H Q := .inl ⟨i, rfl, h⟩
theorem w_intb {b : Bool} (h : Q (.int (if b = true then 1 else 0)) H) : rIntU [.bl b] H Q := .inr ⟨b, rfl, h⟩
def ipAddU (K : PySem.W.Frag) : TIp := ipI fun i j => i + j
theorem w_ipadd (h : Q (.int (i + j)) H) : ipAddU K (.int i) (.int j) H Q := ⟨i, j, rfl, rfl, h⟩
theorem u_ipadd {X : Cx} : PIp X .Add (ipAddU X.K) := ip_add
end
/-! ### what the law's text is made of -/
/-- a def of the text -/
def Src (K : PySem.W.Frag) (mg : Str → Option Value) (x : Str) (st : Stmt) : Prop := ∃ f fd, mg x = some (.ref f) ∧ Fun K x x st f fd
/-- the program, the world, the written part -/
structure Wd where
  P : Program
  w : World
  K : PySem.W.Frag
/-- a def that keeps a promise -/
def Cal (W : Wd) (mg : Str → Option Value) (base : Heap) (x : Str) (k : Nat) (ps : List Str) (sp : Sp) : Prop :=
  ∃ f fd, mg x = some (.ref f) ∧ FnOk W.P W.w W.K mg base CX0 k f fd ps sp ∧ PySem.W.keepIn W.K (.ref f) = true ∧ Binds W.K fd ps []
/-- an object of which no more is said than that it is one of U -/
def flatO : HO → Prop
  | .lst _ => True
  | .dK _ => True
  | _ => False
theorem ok_flat {P : Program} {w : World} {H H' : Hp} {h : Heap} {a : Addr} {u : HO} (hf : flatO u) (x : ObjOk P w H h a u) : ObjOk P w H' h a u := by
  cases u with
  | lst xs =>
    obtain ⟨z, its, n, r, e⟩ := x
    exact ⟨z, its, n, r, e⟩
  | dK kvs =>
    obtain ⟨z, y, vs, r, m⟩ := x
    exact ⟨z, y, vs, r, m⟩
  | _ => exact hf.elim
theorem flat_there {P : Program} {w : World} {H : Hp} {h : Heap} {a : Addr} {u : HO} (hf : flatO u) (x : ObjOk P w H h a u) : ∃ o, h.get? a = some o := by
  cases u with
  | lst xs =>
    obtain ⟨z, its, n, r, e⟩ := x
    exact ⟨_, e⟩
  | dK kvs =>
    obtain ⟨z, y, vs, r, o, es, ep, e, _⟩ := x
    exact ⟨_, e⟩
  | _ => exact hf.elim
def vw (W : Wd) (U : HO → Prop) (a : Addr) : HO := .ext fun h => ∃ u, U u ∧ flatO u ∧ ObjOk W.P W.w (fun _ => none) h a u
theorem vw_ok {W : Wd} {U : HO → Prop} {H H' : Hp} {h : Heap} {a : Addr} {u : HO} (hu : U u) (hf : flatO u) (x : ObjOk W.P W.w H h a u) : ObjOk W.P W.w H' h a (vw W U a) := by
  have x0 : ObjOk W.P W.w (fun _ => none) h a u := ok_flat hf x
  refine ⟨⟨u, hu, hf, x0⟩, flat_there hf x, fun h1 h2 ⟨u1, a1, a2, a3⟩ k => ⟨u1, a1, a2, ?_⟩⟩
  refine a3.stay (fun b o hb e => ?_) (fun _ q => q) fun _ _ q => q
  rcases hb with rfl | hb
  · exact k _ e
  · cases hb
theorem flat_cases {u : HO} (h : flatO u) : (∃ x, u = .lst x) ∨ ∃ k, u = .dK k := by
  cases u <;> first | exact .inl ⟨_, rfl⟩ | exact .inr ⟨_, rfl⟩ | exact h.elim
/-- p's object shown as one of U: all else is as it was -/
theorem hok_seal {W : Wd} {U : HO → Prop} {H : Hp} {h : Heap} {p : Addr} {u : HO} (x : HOk W.P W.w H h) (hp : H p = some u) (hu : U u) (hf : flatO u) : HOk W.P W.w (upd H p (vw W U p)) h := fun a o e => by
  by_cases ha : a = p
  · subst ha
    rw [upd_same] at e
    cases e
    exact vw_ok hu hf (x a u hp)
  · rw [upd_ne ha] at e
    refine (x a o e).stay (fun _ _ _ q => q) (fun b q => ?_) fun b xs q => ?_
    · have nb : b ≠ p := fun z => by
        rw [z, hp] at q
        cases q
        exact hf
      rw [upd_ne nb]
      exact q
    · have nb : b ≠ p := fun z => by
        rw [z, hp] at q
        cases q
        exact hf
      rw [upd_ne nb]
      exact q
theorem hok_open {W : Wd} {U : HO → Prop} {H : Hp} {h : Heap} {p : Addr} (x : HOk W.P W.w H h) (hp : H p = some (vw W U p)) : ∃ u, U u ∧ flatO u ∧ HOk W.P W.w (upd H p u) h := by
  obtain ⟨⟨u, hu, hf, o⟩, _, _⟩ := (show ObjOk W.P W.w H h p (vw W U p) from x p _ hp)
  refine ⟨u, hu, hf, fun a ob e => ?_⟩
  by_cases ha : a = p
  · subst ha
    rw [upd_same] at e
    cases e
    exact ok_flat hf o
  · rw [upd_ne ha] at e
    refine (x a ob e).stay (fun _ _ _ q => q) (fun b q => ?_) fun b xs q => ?_
    · have nb : b ≠ p := fun z => by
        rw [z, hp] at q
        cases q
      rw [upd_ne nb]
      exact q
    · have nb : b ≠ p := fun z => by
        rw [z, hp] at q
        cases q
      rw [upd_ne nb]
      exact q
theorem un_seal {W : Wd} {U : HO → Prop} {fs ex : List Addr} {H H' : Hp} {h h' : Heap} {p : Addr} {u : HO} (x : Un fs ex H H' h h') (hp : H' p = some u) (hf : flatO u) : Un fs ex H (upd H' p (vw W U p)) h h' where
  keep := x.keep
  slot := x.slot
  free := fun b o q n he => by
    have e := x.free b o q n he
    have nb : b ≠ p := fun z => by
      rw [z, hp] at e
      cases e
    rw [upd_ne nb]
    exact e
  there := x.there
  tups := fun b xs q => by
    have e := x.tups b xs q
    have nb : b ≠ p := fun z => by
      rw [z, hp] at e
      cases e
      exact hf
    rw [upd_ne nb]
    exact e
  frzs := fun b o v q => by
    have e := x.frzs b o v q
    have nb : b ≠ p := fun z => by
      rw [z, hp] at e
      cases e
      exact hf
    rw [upd_ne nb]
    exact e
  tbls := fun b ps q => by
    obtain ⟨m, e⟩ := x.tbls b ps q
    have nb : b ≠ p := fun z => by
      rw [z, hp] at e
      cases e
      exact hf
    exact ⟨m, by rw [upd_ne nb]; exact e⟩
theorem un_open {W : Wd} {U : HO → Prop} {fs ex : List Addr} {H H' : Hp} {h h' : Heap} {p : Addr} {u : HO} (x : Un fs ex (upd H p u) H' h h') (hp : H p = some (vw W U p)) : Un fs ex H H' h h' := by
  have nb : ∀ b, H b = none → b ≠ p := fun b e z => by
    rw [z, hp] at e
    cases e
  have up : ∀ b, b ≠ p → upd H p u b = H b := fun b z => upd_ne z
  have no : ∀ b o, H b = some o → (∀ φ, o ≠ .ext φ) → b ≠ p := fun b o e z q => by
    rw [q, hp] at e
    exact z _ (Option.some.inj e).symm
  refine ⟨fun b o q n => x.keep b o q (by rw [up b (nb b n)]; exact n), fun b o q n => x.slot b o q (by rw [up b (nb b n)]; exact n), fun b o q n => x.free b o q (by rw [up b (nb b n)]; exact n), x.there,
    fun b xs q => x.tups b xs ?_, fun b o v q => x.frzs b o v ?_, fun b ps q => x.tbls b ps ?_⟩
  · rw [up b (no b _ q fun φ z => by cases z)]
    exact q
  · rw [up b (no b _ q fun φ z => by cases z)]
    exact q
  · rw [up b (no b _ q fun φ z => by cases z)]
    exact q
/-- a def that has a promise by the object itself has one by its view -/
theorem fn_view {W : Wd} {mg : Str → Option Value} {base : Heap} {k : Nat} {f : Addr} {fd : FuncData} {ps : List Str} {sp sp' : Sp} {U : HO → Prop} (hU : ∀ u, U u → flatO u) (F : FnOk W.P W.w W.K mg base CX0 k f fd ps sp)
    (hl : ∀ vs H Q E, sp' vs H Q E → vs.length = ps.length)
    (h : ∀ vs H Q E, sp' vs H Q E → ∃ p, H p = some (vw W U p) ∧ ∀ u, U u → sp vs (upd H p u) (fun v H' => ∃ u', U u' ∧ H' p = some u' ∧ Q v (upd H' p (vw W U p))) E) :
    FnOk W.P W.w W.K mg base CX0 k f fd ps sp' := by
  refine ⟨hl, fun A outer s H args us vs Q E hr e0 hb hv hs => ?_⟩
  obtain ⟨p, hp, k⟩ := h _ _ _ _ hs
  obtain ⟨u, hu, hf, hok⟩ := hok_open e0.hok hp
  have np : ∀ b, H b = none → upd H p u b = none := fun b e => by
    have nb : b ≠ p := fun z => by
      rw [z, hp] at e
      cases e
    rw [upd_ne nb]
    exact e
  have e1 : Env0 W.P W.w W.K mg base A outer s (upd H p u) := ⟨e0.frames, e0.mod, fun b o q => ⟨(e0.bs b o q).1, np b (e0.bs b o q).2⟩, e0.bsz, e0.funs, fun b q => np b (e0.frf b q), hok, e0.bare⟩
  refine codeAny_mono (F.run A outer s (upd H p u) args us vs _ E hr e1 hb hv (k u hu)) fun r s' q => ?_
  cases r with
  | error e => exact q
  | ok fl =>
    cases fl with
    | ret v =>
      obtain ⟨v1, H', q1, q2, q3, q4, q5, u', hu', hp', q6⟩ := q
      exact ⟨v1, _, q1, q2, un_open (un_seal q3 hp' (hU _ hu')) hp, hok_seal q4 hp' hu' (hU _ hu'), q5, q6⟩
    | next => exact q
    | brk => exact q
    | cont => exact q
theorem fn_seal {W : Wd} {mg : Str → Option Value} {base : Heap} {k : Nat} {f : Addr} {fd : FuncData} {ps : List Str} {sp sp' : Sp} {U : HO → Prop} (hU : ∀ u, U u → flatO u) (F : FnOk W.P W.w W.K mg base CX0 k f fd ps sp)
    (hl : ∀ vs H Q E, sp' vs H Q E → vs.length = ps.length)
    (h : ∀ vs H Q E, sp' vs H Q E → sp vs H (fun v H' => ∃ p u', U u' ∧ H' p = some u' ∧ Q v (upd H' p (vw W U p))) E) :
    FnOk W.P W.w W.K mg base CX0 k f fd ps sp' := by
  refine ⟨hl, fun A outer s H args us vs Q E hr e0 hb hv hs => ?_⟩
  refine codeAny_mono (F.run A outer s H args us vs _ E hr e0 hb hv (h _ _ _ _ hs)) fun r s' q => ?_
  cases r with
  | error e => exact q
  | ok fl =>
    cases fl with
    | ret v =>
      obtain ⟨v1, H', q1, q2, q3, q4, q5, p, u', hu', hp', q6⟩ := q
      exact ⟨v1, _, q1, q2, un_seal q3 hp' (hU _ hu'), hok_seal q4 hp' hu' (hU _ hu'), q5, q6⟩
    | next => exact q
    | brk => exact q
    | cont => exact q
theorem src_mk {K : PySem.W.Frag} {mg : Str → Option Value} {h : Heap} {x : Str} {st : Stmt} {f : Addr} {oc : Value} {od an : Option Addr} {osl : Array (Option Value)} {kV doc pm cdv ct : Value} (X : K.In h) (G : h.Ns mainGlobals mg)
    (a : PySem.W.nsIn K mainGlobals x = some (some (.ref f))) (l : K.lookup f = some ⟨oc, od, .func (PySem.W.fnOf x x (defArgs st) (defBody st) (defScope st) .none kV doc pm an cdv ct), osl⟩)
    (c : PySem.W.codeIn K cdv x = true) (k : PySem.W.keepIn K (.ref f) = true) : Src K mg x st := ⟨f, _, PySem.W.mg_of X G a, fun_mk l c k⟩
/-! ### loops -/
section
variable {K : PySem.W.Frag} {σ : L2.St} {H : Hp} {Q : VK} {te : TE} {tA : TA} {tb : TS} {nx bk ct : L2.St → Hp → Prop} {rt : VK} {g : TG} {n : Nat} {wi : TI} {c : TT}
/-- what a for asks once its iterator has come -/
def ForOk (J : It) (g : TG) (tb : TS) (nx : L2.St → Hp → Prop) (rt : VK) (σ : L2.St) (H1 : Hp) : Prop := ∃ W : Nat → Nat → L2.St → Hp → Prop, (∃ m, W 0 m σ H1) ∧ ∀ i m σ H, W i m σ H →
  (J.stop i H ∧ nx σ H) ∨ (J.go i H ∧ ∃ N : L2.St → Hp → Prop, (∀ σ' H', N σ' H' → ∃ m', m' < m ∧ W (i + 1) m' σ' H') ∧ ∀ x H', J.yld i H x H' → g x σ H' fun σ2 H2 => tb ⟨N, rt, nx, N⟩ σ2 H2)
theorem w_for (h : wi σ H fun J H1 => ForOk J g tb nx rt σ H1) : tFor wi g tb ⟨nx, rt, bk, ct⟩ σ H := h
def Rg1 (R : It → Hp → Prop) (vs : List V) (H : Hp) : Prop := ∃ j : Int, vs = [.int j] ∧ -(2 ^ 62) ≤ j ∧ j < 2 ^ 62 ∧ R (Itr 0 j.toNat) H
def Rg2 (R : It → Hp → Prop) (vs : List V) (H : Hp) : Prop := ∃ i j : Int, vs = [.int i, .int j] ∧ (-(2 ^ 62) ≤ i ∧ i < 2 ^ 62 ∧ -(2 ^ 62) ≤ j ∧ j < 2 ^ 62) ∧ R (Itr i (j - i).toNat) H
theorem w_irng1 {R : It → Hp → Prop} (h : tA σ H fun vs H1 => Rg1 R vs H1) : iRng1 tA σ H R := h
theorem w_irng2 {R : It → Hp → Prop} (h : tA σ H fun vs H1 => Rg2 R vs H1) : iRng2 tA σ H R := h
theorem w_rg1 {R : It → Hp → Prop} {j : Int} (h0 : -(2 ^ 62) ≤ j) (h1 : j < 2 ^ 62) (h : R (Itr 0 j.toNat) H) : Rg1 R [.int j] H := ⟨j, rfl, h0, h1, h⟩
theorem w_rg2 {R : It → Hp → Prop} {i j : Int} (h0 : -(2 ^ 62) ≤ i ∧ i < 2 ^ 62 ∧ -(2 ^ 62) ≤ j ∧ j < 2 ^ 62) (h : R (Itr i (j - i).toNat) H) : Rg2 R [.int i, .int j] H := ⟨i, j, rfl, h0, h⟩
theorem forR {lo : Int} (I : Nat → L2.St → Hp → Prop) (h0 : I 0 σ H) (hs : ∀ i σ H, i < n → I i σ H → g (.int (lo + i)) σ H fun σ2 H2 => tb ⟨I (i + 1), rt, nx, I (i + 1)⟩ σ2 H2) (hd : ∀ σ H, I n σ H → nx σ H) : ForOk (Itr lo n) g tb nx rt σ H :=
  for_range (D := ⟨nx, rt, fun _ _ => False, fun _ _ => False⟩) I h0 hs hd
theorem forR0 (I : Nat → L2.St → Hp → Prop) (h0 : I 0 σ H) (hs : ∀ (i : Nat) σ H, i < n → I i σ H → g (.int (i : Int)) σ H fun σ2 H2 => tb ⟨I (i + 1), rt, nx, I (i + 1)⟩ σ2 H2) (hd : ∀ σ H, I n σ H → nx σ H) : ForOk (Itr 0 n) g tb nx rt σ H :=
  forR I h0 (fun i σ H hi q => by
    rw [Int.zero_add]
    exact hs i σ H hi q) hd
theorem w_while (I : Nat → L2.St → Hp → Prop) (m0 : Nat) (h0 : I m0 σ H) (hs : ∀ m σ H, I m σ H → c σ H fun b H1 => if b = true then ∃ N : L2.St → Hp → Prop, (∀ σ' H', N σ' H' → ∃ m', m' < m ∧ I m' σ' H') ∧ tb ⟨N, rt, nx, N⟩ σ H1 else nx σ H1) :
    tWhile c tb ⟨nx, rt, bk, ct⟩ σ H := ⟨I, ⟨m0, h0⟩, hs⟩
theorem w_N {P : (L2.St → Hp → Prop) → Prop} {J : L2.St → Hp → Prop} (h : P J) : ∃ N : L2.St → Hp → Prop, (∀ σ' H', N σ' H' → J σ' H') ∧ P N := ⟨J, fun _ _ h => h, h⟩
def GoAny (K : PySem.W.Frag) (R : It → Hp → Prop) (x : V) (H1 : Hp) : Prop := (∃ a, x = .ref a ∧ ((∃ xs, SqL K H1 a xs) ∧ R (Itl K a) H1 ∨ (∃ xs, SqT K H1 a xs) ∧ R (Itt K a) H1)) ∨ ∃ s, x = .str s ∧ R (Its s) H1
def iAny (K : PySem.W.Frag) (te : TE) : TI := fun σ H R => te σ H fun x H1 => GoAny K R x H1
theorem w_iany {R : It → Hp → Prop} (h : te σ H fun x H1 => GoAny K R x H1) : iAny K te σ H R := h
theorem w_goL {R : It → Hp → Prop} {a : Addr} {xs : List V} (h : SqL K H a xs) (q : R (Itl K a) H) : GoAny K R (.ref a) H := .inl ⟨a, rfl, .inl ⟨⟨xs, h⟩, q⟩⟩
theorem w_goT {R : It → Hp → Prop} {a : Addr} {xs : List V} (h : SqT K H a xs) (q : R (Itt K a) H) : GoAny K R (.ref a) H := .inl ⟨a, rfl, .inr ⟨⟨xs, h⟩, q⟩⟩
theorem w_goS {R : It → Hp → Prop} {z : Str} (q : R (Its z) H) : GoAny K R (.str z) H := .inr ⟨z, rfl, q⟩
theorem pi_any {X : Cx} {tg l : Expr} {tl : TE} (hl : PE X l tl) : PI X tg l (iAny X.K tl) := ⟨fun pins s σ H R I h => thn (hl.run pins s σ H _ I h) fun v s1 z => by
  obtain ⟨x, H1, J, rx, z⟩ := z
  have fp : ∀ b ∈ [s1.heap.objs.size], FpOk X pins H1 b := fun b hb => by
    rw [List.mem_singleton.mp hb]
    exact J.fpOk (Nat.le_refl _) (J.hok.fresh (Nat.le_refl _))
  rcases z with ⟨a, rfl, z⟩ | ⟨z, rfl, q⟩
  · obtain rfl : v = Value.ref a := rx
    rcases z with ⟨⟨xs, hs⟩, q⟩ | ⟨⟨xs, hs⟩, q⟩
    · obtain ⟨_, _, pl, _⟩ := J.list hs
      exact wpAny_pyIter_list pl.isList
        ⟨_, _, _, _, H1, rfl, J.kept (t' := s1.toks) (fun _ _ e => Heap.get?_push_of_some _ e), turn_list a _, ⟨_, Heap.get?_push_size _ rfl, rfl, rfl⟩, fp, q⟩
    · obtain ⟨_, _, pl, _⟩ := J.tuple hs
      exact wpAny_pyIter_tuple pl
        ⟨_, _, _, _, H1, rfl, J.kept (t' := s1.toks) (fun _ _ e => Heap.get?_push_of_some _ e), turn_tuple a _, ⟨_, Heap.get?_push_size _ rfl, rfl, rfl⟩, fp, q⟩
  · obtain ⟨t, rfl⟩ := rx
    cases ha : z.cps.all (· < 128) with
    | false => exact wpAny_pyIter_wide ha (pi_one (tk := s1.toks) J _ (turn_str _ z t "str_iterator" (.inr rfl)) ⟨_, Heap.get?_push_size _ rfl, rfl, rfl⟩ q)
    | true => exact wpAny_pyIter_ascii ha (pi_one (tk := s1.toks) J _ (turn_str _ z t "str_ascii_iterator" (.inl rfl)) ⟨_, Heap.get?_push_size _ rfl, rfl, rfl⟩ q)⟩
theorem forL {a : Addr} {xs : List V} (I : Nat → L2.St → Hp → Prop) (h0 : I 0 σ H) (hl : ∀ i σ H, i ≤ xs.length → I i σ H → SqL K H a xs)
    (hs : ∀ i x σ H, xs[i]? = some x → I i σ H → g x σ H fun σ2 H2 => tb ⟨I (i + 1), rt, nx, I (i + 1)⟩ σ2 H2) (hd : ∀ σ H, I xs.length σ H → nx σ H) : ForOk (Itl K a) g tb nx rt σ H :=
  for_list (D := ⟨nx, rt, fun _ _ => False, fun _ _ => False⟩) I h0 hl hs hd
theorem forT {a : Addr} {xs : List V} (I : Nat → L2.St → Hp → Prop) (h0 : I 0 σ H) (hl : ∀ i σ H, i ≤ xs.length → I i σ H → SqT K H a xs)
    (hs : ∀ i x σ H, xs[i]? = some x → I i σ H → g x σ H fun σ2 H2 => tb ⟨I (i + 1), rt, nx, I (i + 1)⟩ σ2 H2) (hd : ∀ σ H, I xs.length σ H → nx σ H) : ForOk (Itt K a) g tb nx rt σ H :=
  for_tup (D := ⟨nx, rt, fun _ _ => False, fun _ _ => False⟩) I h0 hl hs hd
end
/-! ### types, lengths, items -/
def tyD : PyData → String
  | .none => "NoneType"
  | .bool _ => "bool"
  | .int _ => "int"
  | .str _ => "str"
  | .list _ => "list"
  | .tuple _ => "tuple"
  | .dict _ => "dict"
theorem ty_of {K : PySem.W.Frag} {H : Hp} {v : V} {d : PyData} (h : Dp K H v d) : TyX K H v (.type (tyD d)) := by
  cases h with
  | non => exact .base .non
  | bl b => exact .base (.bl b)
  | int i => exact .base (.int i)
  | str x => exact .base (.str x)
  | lst h r =>
    rcases h with (h | ⟨o, h⟩) | ⟨o, its, n, h, c, _⟩
    · exact .base (.lst h)
    · exact .base (.frz h)
    · exact .kList h c
  | tup h r =>
    rcases h with (h | ⟨o, h⟩) | ⟨o, its, n, h, c, _⟩
    · exact .base (.tup h)
    · exact .fTuple h
    · exact .kTuple h c
def isIntD : PyData → Bool
  | .int _ => true
  | _ => false
def isIntB : PyData → Bool
  | .int _ => true
  | .bool _ => true
  | _ => false
def isBoolD : PyData → Bool
  | .bool _ => true
  | _ => false
def isStrD : PyData → Bool
  | .str _ => true
  | _ => false
def isTupD : PyData → Bool
  | .tuple _ => true
  | _ => false
def isListD : PyData → Bool
  | .list _ => true
  | _ => false
section
variable {K : PySem.W.Frag} {H : Hp} {Q : VK} {v : V} {d : PyData}
theorem w_isi {b : String} {r : Bool} (h : Dp K H v d) (hk : kitB (tyD d) b = some r) (q : Q (.bl r) H) : rIsi K [v, .ty b] H Q := ⟨v, .ty b, _, _, r, rfl, .ty b, ty_of h, kit_ty hk, q⟩
theorem w_isint (h : Dp K H v d) (hd : tyD d ≠ "dict") (q : Q (.bl (isIntB d)) H) : rIsi K [v, .ty "int"] H Q := w_isi h (by cases d <;> first | exact (hd rfl).elim | (simp only [tyD, isIntB]; decide +kernel)) q
theorem w_isbool (h : Dp K H v d) (hd : tyD d ≠ "dict") (q : Q (.bl (isBoolD d)) H) : rIsi K [v, .ty "bool"] H Q := w_isi h (by cases d <;> first | exact (hd rfl).elim | (simp only [tyD, isBoolD]; decide +kernel)) q
theorem w_isstr (h : Dp K H v d) (hd : tyD d ≠ "dict") (q : Q (.bl (isStrD d)) H) : rIsi K [v, .ty "str"] H Q := w_isi h (by cases d <;> first | exact (hd rfl).elim | (simp only [tyD, isStrD]; decide +kernel)) q
theorem w_istup (h : Dp K H v d) (hd : tyD d ≠ "dict") (q : Q (.bl (isTupD d)) H) : rIsi K [v, .ty "tuple"] H Q := w_isi h (by cases d <;> first | exact (hd rfl).elim | (simp only [tyD, isTupD]; decide +kernel)) q
theorem dp_nodict (h : Dp K H v d) : tyD d ≠ "dict" := by
  cases h <;> (intro z; simp [tyD] at z)
theorem w_isint' (h : Dp K H v d) (q : Q (.bl (isIntB d)) H) : rIsi K [v, .ty "int"] H Q := w_isint h (dp_nodict h) q
theorem w_isbool' (h : Dp K H v d) (q : Q (.bl (isBoolD d)) H) : rIsi K [v, .ty "bool"] H Q := w_isbool h (dp_nodict h) q
theorem w_isstr' (h : Dp K H v d) (q : Q (.bl (isStrD d)) H) : rIsi K [v, .ty "str"] H Q := w_isstr h (dp_nodict h) q
theorem w_istup' (h : Dp K H v d) (q : Q (.bl (isTupD d)) H) : rIsi K [v, .ty "tuple"] H Q := w_istup h (dp_nodict h) q
abbrev rLenU (K : PySem.W.Frag) : List V → Hp → VK → Prop := fun xs H Q => ∃ x n, xs = [x] ∧ LenV K x H n ∧ Q (.int n) H
theorem u_len {X : Cx} : CallR X (.builtin "len") (rLenU X.K) := call_len
theorem w_lenL {a : Addr} {xs : List V} (h : SqL K H a xs) (q : Q (.int xs.length) H) : rLenU K [.ref a] H Q := ⟨_, _, rfl, .inl ⟨xs, h, rfl⟩, q⟩
theorem w_lenT {a : Addr} {xs : List V} (h : SqT K H a xs) (q : Q (.int xs.length) H) : rLenU K [.ref a] H Q := ⟨_, _, rfl, .inr ⟨xs, h, rfl⟩, q⟩
theorem w_lenS {z : Str} (h : z.length ≤ sizeLine) (q : Q (.int z.length) H) : rLenU K [.str z] H Q := ⟨_, _, rfl, ⟨h, rfl⟩, q⟩
theorem w_lenDL {ds : List PyData} (h : Dp K H v (.list ds)) (q : Q (.int ds.length) H) : rLenU K [v] H Q := by
  cases h with
  | lst h r => exact w_lenL h (by rw [dps_len r]; exact q)
theorem w_lenDT {ds : List PyData} (h : Dp K H v (.tuple ds)) (q : Q (.int ds.length) H) : rLenU K [v] H Q := by
  cases h with
  | tup h r => exact w_lenT h (by rw [dps_len r]; exact q)
abbrev rIxU (K : PySem.W.Frag) : R2 := rIx K
theorem u_ix {X : Cx} : IxR X (rIxU X.K) := ix_seq
theorem w_ixl {a : Addr} {xs : List V} {i : Int} {x : V} (h : SqL K H a xs) (e : atI xs i = some x) (q : Q x H) : rIxU K (.ref a) (.int i) H Q := .inl ⟨a, xs, i, x, rfl, rfl, h, e, q⟩
theorem w_ixt {a : Addr} {xs : List V} {i : Int} {x : V} (h : SqT K H a xs) (e : atI xs i = some x) (q : Q x H) : rIxU K (.ref a) (.int i) H Q := .inr (.inl ⟨a, xs, i, x, rfl, rfl, h, e, q⟩)
theorem w_ixP {a : Addr} {xs : List V} {i : Int} (P : V → Prop) (h : SqL K H a xs) (h0 : 0 ≤ i) (h1 : i < xs.length) (hx : ∀ x ∈ xs, P x) (q : ∀ x, P x → Q x H) : rIxU K (.ref a) (.int i) H Q := by
  have hn : i.toNat < xs.length := by omega
  refine w_ixl h (x := xs[i.toNat]) ?_ (q _ (hx _ (List.getElem_mem hn)))
  unfold atI ixN
  rw [if_pos h0, if_pos (by omega)]
  simp [List.getElem?_eq_getElem hn]
def isI (P : Int → Prop) (x : V) : Prop := ∃ n, x = .int n ∧ P n
theorem w_ixI {a : Addr} {xs : List V} {i : Int} (P : Int → Prop) (h : SqL K H a xs) (h0 : 0 ≤ i) (h1 : i < xs.length) (hx : ∀ x ∈ xs, isI P x) (q : ∀ n, P n → Q (.int n) H) : rIxU K (.ref a) (.int i) H Q :=
  w_ixP (isI P) h h0 h1 hx fun x ⟨n, e, hn⟩ => by
    rw [e]
    exact q n hn
theorem isI_at {P : Int → Prop} {xs : List V} {i : Nat} {x : V} (h : ∀ x ∈ xs, isI P x) (e : xs[i]? = some x) : ∃ n, x = .int n ∧ P n := h x (List.mem_of_getElem? e)
theorem isI_nil {P : Int → Prop} : ∀ x ∈ ([] : List V), isI P x := fun x hx => nomatch hx
theorem isI_cons {P : Int → Prop} {n : Int} {r : List V} (h : P n) (hr : ∀ x ∈ r, isI P x) : ∀ x ∈ V.int n :: r, isI P x := fun x hx => by
  rcases List.mem_cons.mp hx with rfl | hx
  · exact ⟨n, rfl, h⟩
  · exact hr x hx
theorem w_ixs {z : Str} {i : Int} {c : Nat} (h : z.length ≤ sizeLine) (e : atI z.cps.toList i = some c) (q : Q (.str ⟨#[c]⟩) H) : rIxU K (.str z) (.int i) H Q := .inr (.inr ⟨z, i, c, rfl, rfl, h, e, q⟩)
theorem w_ixDL {ds : List PyData} {i : Int} (h : Dp K H v (.list ds)) (e : atI ds i = some d) (q : ∀ x, Dp K H x d → Q x H) : rIxU K v (.int i) H Q := by
  cases h with
  | lst h r =>
    obtain ⟨x, e1, e2⟩ := dps_at r e
    exact w_ixl h e1 (q x e2)
theorem w_ixDT {ds : List PyData} {i : Int} (h : Dp K H v (.tuple ds)) (e : atI ds i = some d) (q : ∀ x, Dp K H x d → Q x H) : rIxU K v (.int i) H Q := by
  cases h with
  | tup h r =>
    obtain ⟨x, e1, e2⟩ := dps_at r e
    exact w_ixt h e1 (q x e2)
theorem dp_int {i : Int} (h : Dp K H v (.int i)) : v = .int i := by cases h; rfl
theorem dp_str {x : Str} (h : Dp K H v (.str x)) : v = .str x := by cases h; rfl
theorem dp_bl {b : Bool} (h : Dp K H v (.bool b)) : v = .bl b := by cases h; rfl
theorem dp_non (h : Dp K H v .none) : v = .non := by cases h; rfl
theorem w_ixDLi {ds : List PyData} {i n : Int} (h : Dp K H v (.list ds)) (e : atI ds i = some (.int n)) (q : Q (.int n) H) : rIxU K v (.int i) H Q := w_ixDL h e fun x hx => by
  rw [dp_int hx]
  exact q
theorem w_ixDTi {ds : List PyData} {i n : Int} (h : Dp K H v (.tuple ds)) (e : atI ds i = some (.int n)) (q : Q (.int n) H) : rIxU K v (.int i) H Q := w_ixDT h e fun x hx => by
  rw [dp_int hx]
  exact q
theorem atI_of {α : Type} {xs : List α} {i : Int} (h0 : 0 ≤ i) (h1 : i < xs.length) : ∃ x, atI xs i = some x ∧ x ∈ xs := by
  have hn : i.toNat < xs.length := by omega
  refine ⟨xs[i.toNat], ?_, List.getElem_mem hn⟩
  unfold atI ixN
  rw [if_pos h0, if_pos (by omega)]
  simp [List.getElem?_eq_getElem hn]
end
def rSetU : TSet := fun o i v H Q => rSetL o i v H Q ∨ rSetD o i v H Q
theorem u_set {X : Cx} (hu : X.A.units + 64 < cLine) : PSet X rSetU := by
  intro pins s σ H o i v ov iv u Q I r1 r2 r3 q
  rcases q with q | q
  · exact set_list pins s σ H o i v ov iv u Q I r1 r2 r3 q
  · exact set_dict (Nat.lt_of_le_of_lt (Nat.add_le_add_left (by decide) _) hu) pins s σ H o i v ov iv u Q I r1 r2 r3 q
theorem w_gsub {to ti : TE} {t : TSet} {v : V} {σ : L2.St} {H : Hp} {k : L2.St → Hp → Prop} (h : to σ H fun o H1 => ti σ H1 fun i H2 => t o i v H2 fun H3 => k σ H3) : gSub to ti t v σ H k := h
theorem w_gnil {σ : L2.St} {H : Hp} {k : L2.St → Hp → Prop} (h : k σ H) : gNil [] σ H k := ⟨rfl, h⟩
theorem w_gcons {t : TG} {u : TGs} {v : V} {r : List V} {σ : L2.St} {H : Hp} {k : L2.St → Hp → Prop} (h : t v σ H fun σ' H' => u r σ' H' k) : gCons t u (v :: r) σ H k := ⟨v, r, rfl, h⟩
theorem w_gtup {K : PySem.W.Frag} {n : Nat} {t : TGs} {a : Addr} {xs : List V} {σ : L2.St} {H : Hp} {k : L2.St → Hp → Prop} (h : SqT K H a xs) (hl : xs.length = n) (q : t xs σ H k) : gTup K n t (.ref a) σ H k := ⟨a, xs, rfl, h, hl, q⟩
theorem w_setl {a : Addr} {xs : List V} {i : Int} {j : Nat} {v : V} {H : Hp} {k : Hp → Prop} (h : H a = some (.lst xs)) (e : ixN xs.length i = some j) (q : k (upd H a (.lst (xs.set j v)))) : rSetU (.ref a) (.int i) v H k := .inl ⟨a, xs, i, j, rfl, rfl, h, e, q⟩
/-! ### comprehensions -/
section
variable {K : PySem.W.Frag} {σ : L2.St} {H : Hp} {Q : VK} {te : TE} {tt : TT} {g : TG} {wi : TI} {vs : List Nat} {n : Nat}
def LcOk (J : It) (g : TG) (tt : TT) (te : TE) (vs : List Nat) (σ : L2.St) (Q : VK) (H1 : Hp) : Prop := ∀ D, H1 D = none → ∃ W : Nat → Nat → Hp → Prop, (∃ m, W 0 m (upd H1 D (.lst []))) ∧ ∀ i m H, W i m H →
  (J.stop i H ∧ Q (.ref D) H) ∨ (J.go i H ∧ ∃ Nx : Hp → Prop, (∀ H', Nx H' → ∃ m', m' < m ∧ W (i + 1) m' H') ∧ ∀ x H', J.yld i H x H' → g x (wipe σ vs) H' fun σ2 H2 => wipe σ2 vs = wipe σ vs ∧ tt σ2 H2 fun b H3 =>
    if b = true then te σ2 H3 fun y H4 => ∃ acc, H4 D = some (.lst acc) ∧ acc.length < sizeLine ∧ Nx (upd H4 D (.lst (acc ++ [y]))) else Nx H3)
theorem w_lc (h : wi σ H fun J H1 => LcOk J g tt te vs σ Q H1) : tLc wi g tt te vs σ H Q := h
theorem w_wp {σ2 : L2.St} {R : Prop} (e : wipe σ2 vs = wipe σ vs) (h : R) : wipe σ2 vs = wipe σ vs ∧ R := ⟨e, h⟩
theorem w_yes {R : Bool → Hp → Prop} (h : R true H) : tYes σ H R := h
/-- a word about a comprehension's list and the heap is not hurt by a list's change -/
def Stb (I : Nat → List V → Hp → Prop) : Prop := ∀ i acc H' D xs ys, H' D = some (.lst xs) → I i acc H' → I i acc (upd H' D (.lst ys))
theorem lc_gen {J : It} (I : Nat → List V → Hp → Prop) (hst : Stb I) (hn : n ≤ 1000000) (hI : ∀ i acc H', I i acc H' → acc.length ≤ i) (h0 : ∀ H', Same H H' → I 0 [] H')
    (hgo : ∀ i acc H', i < n → Same H H' → I i acc H' → J.go i H') (hstop : ∀ acc H', Same H H' → I n acc H' → J.stop n H')
    (hs : ∀ i acc x H' H'', i < n → Same H H' → I i acc H' → J.yld i H' x H'' → ∀ (k : VK) (k' : Hp → Prop), (∀ y H4, Same H' H4 → I (i + 1) (acc ++ [y]) H4 → k y H4) → (∀ H3, Same H' H3 → I (i + 1) acc H3 → k' H3) →
      g x (wipe σ vs) H'' fun σ2 H2 => wipe σ2 vs = wipe σ vs ∧ tt σ2 H2 fun b H3 => if b = true then te σ2 H3 k else k' H3)
    (hd : ∀ D acc H', H D = none → Same H H' → H' D = some (.lst acc) → I n acc H' → Q (.ref D) H') : LcOk J g tt te vs σ Q H := fun D hD => by
  refine ⟨fun i m H' => m = n - i ∧ i ≤ n ∧ ∃ acc, Same H H' ∧ H' D = some (.lst acc) ∧ I i acc H', ⟨n, by omega, by omega, [], same_new hD, upd_same, h0 _ (same_new hD)⟩, fun i m H1 ⟨em, hi, acc, s1, hD1, w1⟩ => ?_⟩
  by_cases hlt : i < n
  · refine .inr ⟨hgo i acc H1 hlt s1 w1, fun H' => i + 1 ≤ n ∧ ∃ acc, Same H H' ∧ H' D = some (.lst acc) ∧ I (i + 1) acc H', fun H' ⟨a, b⟩ => ⟨n - (i + 1), by omega, rfl, a, b⟩, fun x H' y => ?_⟩
    refine hs i acc x H1 H' hlt s1 w1 y _ _ (fun y H4 s4 w4 => ⟨acc, s4 _ _ hD1, ?_, hlt, _, same_mut (s1.trans s4) hD, upd_same, hst _ _ _ _ _ _ (s4 _ _ hD1) w4⟩) fun H3 s3 w3 => ⟨hlt, acc, s1.trans s3, s3 _ _ hD1, w3⟩
    have l1 := hI i acc H1 w1
    exact Nat.lt_of_le_of_lt (m := 1000000) (by omega) (by decide)
  · have e : i = n := by omega
    subst e
    exact .inl ⟨hstop acc H1 s1 w1, hd D acc H1 hD s1 hD1 w1⟩
theorem lcR (I : Nat → List V → Hp → Prop) (hst : Stb I) (hn : n ≤ 1000000) (hI : ∀ i acc H', I i acc H' → acc.length ≤ i) (h0 : ∀ H', Same H H' → I 0 [] H')
    (hs : ∀ (i : Nat) acc H', i < n → Same H H' → I i acc H' → ∀ (k : VK) (k' : Hp → Prop), (∀ y H4, Same H' H4 → I (i + 1) (acc ++ [y]) H4 → k y H4) → (∀ H3, Same H' H3 → I (i + 1) acc H3 → k' H3) →
      g (.int (i : Int)) (wipe σ vs) H' fun σ2 H2 => wipe σ2 vs = wipe σ vs ∧ tt σ2 H2 fun b H3 => if b = true then te σ2 H3 k else k' H3)
    (hd : ∀ D acc H', H D = none → Same H H' → H' D = some (.lst acc) → I n acc H' → Q (.ref D) H') : LcOk (Itr 0 n) g tt te vs σ Q H :=
  lc_gen I hst hn hI h0 (fun _ _ _ h _ _ => h) (fun _ _ _ _ => Nat.le_refl _) (fun i acc x H' H'' hi s1 w1 y => by
    obtain ⟨e1, e2⟩ := y
    rw [Int.zero_add] at e2
    subst e1
    subst e2
    exact hs i acc _ hi s1 w1) hd
theorem lcL {a : Addr} {xs : List V} (hx : SqL K H a xs) (I : Nat → List V → Hp → Prop) (hst : Stb I) (hn : xs.length ≤ 1000000) (hI : ∀ i acc H', I i acc H' → acc.length ≤ i) (h0 : ∀ H', Same H H' → I 0 [] H')
    (hs : ∀ i x acc H', xs[i]? = some x → Same H H' → I i acc H' → ∀ (k : VK) (k' : Hp → Prop), (∀ y H4, Same H' H4 → I (i + 1) (acc ++ [y]) H4 → k y H4) → (∀ H3, Same H' H3 → I (i + 1) acc H3 → k' H3) →
      g x (wipe σ vs) H' fun σ2 H2 => wipe σ2 vs = wipe σ vs ∧ tt σ2 H2 fun b H3 => if b = true then te σ2 H3 k else k' H3)
    (hd : ∀ D acc H', H D = none → Same H H' → H' D = some (.lst acc) → I xs.length acc H' → Q (.ref D) H') : LcOk (Itl K a) g tt te vs σ Q H :=
  lc_gen I hst hn hI h0 (fun i acc H' hi s1 _ => ⟨xs, xs[i], s1.seq hx, List.getElem?_eq_getElem hi⟩) (fun _ _ s1 _ => ⟨xs, s1.seq hx, Nat.le_refl _⟩) (fun i acc x H' H'' hi s1 w1 y => by
    obtain ⟨e1, e2⟩ := y
    subst e1
    exact hs i x acc _ (e2 xs (s1.seq hx)) s1 w1) hd
theorem lcT {a : Addr} {xs : List V} (hx : SqT K H a xs) (I : Nat → List V → Hp → Prop) (hst : Stb I) (hn : xs.length ≤ 1000000) (hI : ∀ i acc H', I i acc H' → acc.length ≤ i) (h0 : ∀ H', Same H H' → I 0 [] H')
    (hs : ∀ i x acc H', xs[i]? = some x → Same H H' → I i acc H' → ∀ (k : VK) (k' : Hp → Prop), (∀ y H4, Same H' H4 → I (i + 1) (acc ++ [y]) H4 → k y H4) → (∀ H3, Same H' H3 → I (i + 1) acc H3 → k' H3) →
      g x (wipe σ vs) H' fun σ2 H2 => wipe σ2 vs = wipe σ vs ∧ tt σ2 H2 fun b H3 => if b = true then te σ2 H3 k else k' H3)
    (hd : ∀ D acc H', H D = none → Same H H' → H' D = some (.lst acc) → I xs.length acc H' → Q (.ref D) H') : LcOk (Itt K a) g tt te vs σ Q H :=
  lc_gen I hst hn hI h0 (fun i acc H' hi s1 _ => ⟨xs, xs[i], same_t s1 hx, List.getElem?_eq_getElem hi⟩) (fun _ _ s1 _ => ⟨xs, same_t s1 hx, Nat.le_refl _⟩) (fun i acc x H' H'' hi s1 w1 y => by
    obtain ⟨e1, e2⟩ := y
    subst e1
    exact hs i x acc _ (e2 xs (same_t s1 hx)) s1 w1) hd
/-- words that do not speak of the heap -/
theorem stb_pure {P : Nat → List V → Prop} : Stb fun i acc _ => P i acc := fun _ _ _ _ _ _ _ h => h
abbrev rTupleOf (K : PySem.W.Frag) : List V → Hp → VK → Prop := fun xs H Q => ∃ p ys, xs = [.ref p] ∧ ((SqL K H p ys ∧ ∀ l, H l = none → Q (.ref l) (upd H l (.tup ys))) ∨ (SqT K H p ys ∧ Q (.ref p) H))
abbrev rListOf (K : PySem.W.Frag) : List V → Hp → VK → Prop := fun xs H Q => ∃ p ys, xs = [.ref p] ∧ (SqL K H p ys ∨ SqT K H p ys) ∧ ∀ l, H l = none → Q (.ref l) (upd H l (.lst ys))
theorem w_tupleL {a : Addr} {xs : List V} (h : SqL K H a xs) (q : ∀ p H', H p = none → Same H H' → H' p = some (.tup xs) → Q (.ref p) H') : rTupleOf K [.ref a] H Q := ⟨a, xs, rfl, .inl ⟨h, fun p hp => q p _ hp (same_new hp) upd_same⟩⟩
theorem w_listL {a : Addr} {xs : List V} (h : SqL K H a xs) (q : ∀ p H', H p = none → Same H H' → H' p = some (.lst xs) → Q (.ref p) H') : rListOf K [.ref a] H Q := ⟨a, xs, rfl, .inl h, fun p hp => q p _ hp (same_new hp) upd_same⟩
theorem w_listT {a : Addr} {xs : List V} (h : SqT K H a xs) (q : ∀ p H', H p = none → Same H H' → H' p = some (.lst xs) → Q (.ref p) H') : rListOf K [.ref a] H Q := ⟨a, xs, rfl, .inr h, fun p hp => q p _ hp (same_new hp) upd_same⟩
theorem w_all {a : Addr} {bs : List Bool} (h : SqL K H a (bs.map V.bl)) (q : Q (.bl (bs.all id)) H) : rAll K [.ref a] H Q := ⟨a, bs, rfl, h, q⟩
theorem w_any {a : Addr} {bs : List Bool} (h : SqL K H a (bs.map V.bl)) (q : Q (.bl (bs.any id)) H) : rAny K [.ref a] H Q := ⟨a, bs, rfl, h, q⟩
/-- ints of a list of values -/
theorem ints_of {P : Int → Prop} : ∀ {xs : List V}, (∀ x ∈ xs, isI P x) → ∃ ns : List Int, xs = ns.map V.int ∧ ∀ n ∈ ns, P n
  | [], _ => ⟨[], rfl, fun _ h => nomatch h⟩
  | x :: r, h => by
    obtain ⟨ns, e, hn⟩ := ints_of (xs := r) fun y hy => h y (List.mem_cons_of_mem _ hy)
    obtain ⟨n, rfl, h1⟩ := h x List.mem_cons_self
    refine ⟨n :: ns, by rw [e]; rfl, fun m hm => ?_⟩
    rcases List.mem_cons.mp hm with rfl | hm
    · exact h1
    · exact hn m hm
theorem isI_app {P : Int → Prop} {xs : List V} {n : Int} (h : ∀ x ∈ xs, isI P x) (hn : P n) : ∀ x ∈ xs ++ [V.int n], isI P x := fun x hx => by
  rcases List.mem_append.mp hx with hx | hx
  · exact h x hx
  · rw [List.mem_singleton.mp hx]
    exact ⟨n, rfl, hn⟩
end
/-! ### the pot -/
def PotU : HO → Prop := fun u => ∃ g s : Int, u = .lst [.int g, .int s] ∧ 0 ≤ g ∧ 0 ≤ s ∧ s < 2305843009213693951
theorem pot_flat : ∀ u, PotU u → flatO u := fun u ⟨_, _, e, _⟩ => by
  rw [e]
  trivial
def PotAt (W : Wd) (H : Hp) (v : V) : Prop := ∃ p, v = .ref p ∧ H p = some (vw W PotU p)
theorem pot_mono {W : Wd} {H H' : Hp} {v : V} (e : Same H H') (h : PotAt W H v) : PotAt W H' v := by
  obtain ⟨p, rfl, h⟩ := h
  exact ⟨p, rfl, e _ _ h⟩
/-! ### const operations -/
def rCon (a b c : Int) : R2 := fun x y H Q => x = .int a ∧ y = .int b ∧ Q (.int c) H
theorem u_powc {X : Cx} {a b c : Int} (hc : CPow a b) (h : a ^ b.toNat = c) : OpR X (binaryOp .Pow) (rCon a b c) := by
  intro pins s σ H x y v u Q I rx ry q
  obtain ⟨rfl, rfl, q⟩ := q
  exact op_pow pins s σ H _ _ v u Q I rx ry ⟨a, b, rfl, rfl, hc, by show Q (V.int (a ^ b.toNat)) H; rw [h]; exact q⟩
theorem u_shlc {X : Cx} {a b c : Int} (hc : CPow a b) (h : a * 2 ^ b.toNat = c) : OpR X (binaryOp .LShift) (rCon a b c) := by
  intro pins s σ H x y v u Q I rx ry q
  obtain ⟨rfl, rfl, q⟩ := q
  exact op_shl pins s σ H _ _ v u Q I rx ry ⟨a, b, rfl, rfl, hc, by show Q (V.int (a * 2 ^ b.toNat)) H; rw [h]; exact q⟩
theorem w_con {H : Hp} {Q : VK} {a b c : Int} (h : Q (.int c) H) : rCon a b c (.int a) (.int b) H Q := ⟨rfl, rfl, h⟩
/-- int('1' + '0' * 300) -/
def farN : Int := 10 ^ 300
theorem far_rep : ∀ (n : Nat) (acc : Array Nat), ((List.replicate n (#[48] : Array Nat)).foldl (· ++ ·) acc).toList = acc.toList ++ List.replicate n 48
  | 0, acc => by simp
  | n + 1, acc => by
    rw [List.replicate_succ, List.foldl_cons, far_rep n, Array.toList_append, List.replicate_succ]
    simp
theorem far_a : (("1" : Str) ++ Txt.mul ("0" : Str) 300).cps.toList = 49 :: List.replicate 300 48 := by
  have e : Txt.mul ("0" : Str) 300 = ⟨(List.replicate 300 (#[48] : Array Nat)).foldl (· ++ ·) #[]⟩ := by
    unfold Txt.mul
    rw [if_neg (by decide), if_neg (by decide +kernel)]
    rfl
  rw [e]
  show (("1" : Str).cps ++ _).toList = _
  rw [Array.toList_append, far_rep]
  rfl
theorem far_val : ∀ (n v : Nat), (List.replicate n 48).foldl (fun acc c => acc * 10 + (c - 48)) v = v * 10 ^ n
  | 0, v => by simp
  | n + 1, v => by
    rw [List.replicate_succ, List.foldl_cons, far_val n, Nat.pow_succ, Nat.mul_comm (10 ^ n) 10, ← Nat.mul_assoc]
    rfl
theorem far_len : (("1" : Str) ++ Txt.mul ("0" : Str) 300).length = 301 := by
  have h : (("1" : Str) ++ Txt.mul ("0" : Str) 300).cps.toList.length = 301 := by
    rw [far_a, List.length_cons, List.length_replicate]
  rw [Array.length_toList] at h
  exact h
theorem far_txt : PySem.intText? (("1" : Str) ++ Txt.mul ("0" : Str) 300) = some farN := by
  have hd : NumText.AllDigits (("1" : Str) ++ Txt.mul ("0" : Str) 300).cps.toList := by
    rw [far_a]
    intro c hc
    rcases List.mem_cons.mp hc with rfl | hc
    · exact ⟨by decide, by decide⟩
    · have e := List.eq_of_mem_replicate hc
      subst e
      exact ⟨by decide, by decide⟩
  rw [PySem.intText_digits hd (by rw [far_a]; simp) (by rw [far_len]; decide), far_a]
  have e : NumText.digitsVal (49 :: List.replicate 300 48) = 1 * 10 ^ 300 := by
    unfold NumText.digitsVal
    rw [List.foldl_cons]
    exact far_val 300 1
  rw [e]
  decide +kernel
theorem far_pos : 0 < farN := by decide +kernel
theorem far_mul : MulOk ("0" : Str) 300 := ⟨by decide +kernel, by decide +kernel, by decide +kernel⟩
theorem far_len2 : (("1" : Str) ++ Txt.mul ("0" : Str) 300).length ≤ 640 := by
  rw [far_len]
  decide
theorem far_sz : ("1" : Str).length + (Txt.mul ("0" : Str) 300).length ≤ sizeLine := by decide +kernel
theorem pe_far {X : Cx} {p p1 p2 p3 p4 pos : Pos} {k1 k2 k3 : Nat} (hg : Gl X "int") (hm : X.mg "int" = none) (hs : starEach [.BinOp (.Constant (.str "1") k1 p1) .Add (.BinOp (.Constant (.str "0") k2 p2) .Mult (.Constant (.int 300) k3 p3) p4) pos] X.env = [(false, eval (.BinOp (.Constant (.str "1") k1 p1) .Add (.BinOp (.Constant (.str "0") k2 p2) .Mult (.Constant (.int 300) k3 p3) p4) pos) X.env)] := by rfl)
    {ps : Pos} : PE X (.Call (.Name "int" p) [.BinOp (.Constant (.str "1") k1 p1) .Add (.BinOp (.Constant (.str "0") k2 p2) .Mult (.Constant (.int 300) k3 p3) p4) pos] [] ps) (tC (.int farN)) := by
  have h : PE X (.Call (.Name "int" p) [.BinOp (.Constant (.str "1") k1 p1) .Add (.BinOp (.Constant (.str "0") k2 p2) .Mult (.Constant (.int 300) k3 p3) p4) pos] [] ps) (tCB _ _) := pe_callTy call_int_str hg hm (by decide +kernel) (pa_cons (pe_op op_add_str pe_str (pe_op op_mulS pe_str pe_int)) pa_nil)
  refine ⟨fun pins s σ H Q I q => h.run pins s σ H Q I ?_⟩
  exact ⟨_, _, rfl, rfl, far_mul, _, _, rfl, rfl, far_sz, _, _, rfl, far_txt, far_len2, q⟩
end Sh
/-! enumerate over a tuple; over a list or a tuple -/
namespace ShE
open PySem Sem
open AutoSeq1 (wpAny_loadPart')
theorem enumT_new {v : Value} {ob : Obj} {Hb : Heap → Prop} (B : Begins v ob Hb) : Meets (Builtin.«enumerate.__new__» ⟨[.type "enumerate", v], []⟩) (fun _ R s => Hb s.heap ∧
    R (.ok (.ret (.ref (s.heap.push ob).objs.size))) { s with heap := (s.heap.push ob).push ⟨.type "enumerate", none, .fields #[.none, .bool false, .ref s.heap.objs.size, rawInt 0, .none, .none], #[]⟩ }) :=
  .of_wp fun prog w A R s z => by
    obtain ⟨hp, g, dr, tk, os⟩ := s
    have sub := sub_enumerate
    have it : ∀ {A2 : Around} {E2 : Value → Shared → Prop} {Q2 : Value → Shared → Prop}, Q2 (.ref hp.objs.size) ⟨hp.push ob, g, dr, tk, os⟩ → wpAny (model prog w) A2 (pyIter v) Q2 E2 ⟨hp, g, dr, tk, os⟩ := fun q => B.iter _ _ _ _ _ _ z.1 q
    wp_walk using it
    refine wpAny_stack_any fun _ => wpAny_pure ?_
    split
    · next c _ _ _ _ _ =>
      cases (c == Value.type "enumerate") <;> (wp_walk using it; exact ⟨_, rfl, z.2⟩)
    · wp_walk using it; exact ⟨_, rfl, z.2⟩
theorem enumT_call {prog : Program} {w : World} {A : Around} {E : Value → Shared → Prop} {s : Shared} {v : Value} {ob : Obj} {Hb : Heap → Prop} {Q : Value → Shared → Prop} (B : Begins v ob Hb) (hb : Hb s.heap)
    (q : ∀ h2, IsEnum h2 (s.heap.objs.size + 1) s.heap.objs.size 0 .none → h2.get? s.heap.objs.size = some ob → (∀ b o, s.heap.get? b = some o → h2.get? b = some o) → Q (.ref (s.heap.objs.size + 1)) { s with heap := h2 }) :
    wpAny (model prog w) A (call (.type "enumerate") [v]) Q E s := by
  have z : (s.heap.push ob).objs.size = s.heap.objs.size + 1 := Heap.size_push ..
  have old : ∀ (o2 : Obj) b o, s.heap.get? b = some o → ((s.heap.push ob).push o2).get? b = some o := fun _ _ _ e => Heap.get?_push_of_some _ (Heap.get?_push_of_some _ e)
  have new : IsEnum ((s.heap.push ob).push ⟨.type "enumerate", none, .fields #[.none, .bool false, .ref s.heap.objs.size, rawInt 0, .none, .none], #[]⟩) (s.heap.objs.size + 1) s.heap.objs.size 0 .none := by
    rw [← z]
    exact Heap.get?_push_size _ rfl
  refine callType_new F.called_enumerate (by decide) (F.typeCall_enumerate_1 _) (F.newCall_enumerate_1 _) (fun o => F.args_object_init_2 o _) F.entry_enumerate_new (enumT_new B) ⟨hb, ?_⟩
  show _ ∧ _
  rw [z]
  exact ⟨⟨_, new, rfl⟩, q _ new (Heap.get?_push_of_some _ (Heap.get?_push_size _ B.free)) (old _)⟩
end ShE
namespace Sh
open PySem PySem.Spec PyProof.Rows L2
/-- the tuple at a, its items with their places -/
def IteT (K : PySem.W.Frag) (a : Addr) : It where
  go i H := ∃ xs x, SqT K H a xs ∧ xs[i]? = some x
  yld i H v H' := ∃ T x, v = .ref T ∧ H T = none ∧ H' = upd H T (.tup [.int (i : Nat), x]) ∧ ∀ xs, SqT K H a xs → xs[i]? = some x
  stop i H := ∃ xs, SqT K H a xs ∧ xs.length ≤ i
theorem turn_enumT {P : Program} {w : World} {K : PySem.W.Frag} {es : List Expr} {kk : Nat} {tp : Pos} (a e it : Addr) :
    Turn P w K (.Tuple es kk tp) (IteT K a) [e, it] e (fun i h => (∃ old, IsEnum h e it (i : Int) old) ∧ h.IsTupleIter it a i ∧ e ≠ it) where
  mem := List.mem_cons_self
  obj i h st b hb := by
    obtain ⟨⟨old, he⟩, ⟨o, ho, _, hd⟩, _⟩ := st
    rcases List.mem_cons.mp hb with rfl | hb
    · exact ⟨_, he, fun v q => nomatch q⟩
    · rw [List.mem_singleton.mp hb]
      exact ⟨o, ho, fun v q => by rw [hd] at q; cases q⟩
  keep i h h' st k := by
    obtain ⟨⟨old, he⟩, hi, hne⟩ := st
    exact ⟨⟨old, k e List.mem_cons_self _ he⟩, hi.at fun o q => k it (List.mem_cons_of_mem _ List.mem_cons_self) o q, hne⟩
  item X hP hw hK hc i pins s σ H E I hf st hg := by
    subst hP hw hK
    obtain ⟨⟨old, he⟩, hit, hne⟩ := st
    obtain ⟨xs, x, hq, hx⟩ := hg
    obtain ⟨its, rv, p, _⟩ := I.tuple hq
    obtain ⟨u, hu, ru⟩ := rv.get hx
    have pt : s.heap.IsTuple a its.toArray := p
    have ane : a ≠ it := fun z => by
      obtain ⟨o1, h1, c1, _⟩ := p
      obtain ⟨o2, h2, c2, _⟩ := hit
      rw [z, h2] at h1
      cases h1
      rw [c2] at c1
      injection c1 with c1
      exact absurd c1 (by decide)
    have ene : e ≠ a := fun z => by
      obtain ⟨o1, h1, c1, _⟩ := p
      rw [← z, he] at h1
      cases h1
      injection c1 with c1
      exact absurd c1 (by decide)
    have hil : it < s.heap.objs.size := by obtain ⟨_, q, _⟩ := hit; exact Heap.lt_size q
    have hel : e < s.heap.objs.size := Heap.lt_size he
    have lt : i < its.toArray.size := by
      have l1 := (List.getElem?_eq_some_iff.mp hu).1
      simpa using l1
    refine wpAny_pyNext_enum_itemD (Draws.tuple (show X.A.in1.handled = none from I.ok.hd hc) it a ane its.toArray) he ⟨hit, pt⟩ lt hne (fun z => ?_) fun x1 h1 tk px ho st1 hT hsz hk => ?_
    · rcases List.mem_cons.mp z with z | z
      · exact hne z
      · exact ene (List.mem_singleton.mp z)
    have ex : x1 = u := by
      have px2 : its.toArray[i]? = some x1 := px
      rw [List.getElem?_toArray, hu] at px2
      exact (Option.some.inj px2).symm
    subst ex
    refine ⟨_, rfl, wpAny_letOwnedTupleGo_enum (s := { s with heap := h1, toks := tk + 1 }) ho fun h2 he2 sb => ?_⟩
    have hT2 : h2.get? s.heap.objs.size = some { cls := .type "tuple", data := .seq #[.int i tk, x1] } := (sb.2 _ (Nat.ne_of_gt hel)).trans hT
    have new : ObjOk X.prog X.w (upd H s.heap.objs.size (.tup [.int (i : Nat), x])) h2 s.heap.objs.size (.tup [.int (i : Nat), x]) :=
      ⟨(by decide : 2 ≤ sizeLine), _, .cons ⟨tk, rfl⟩ (.cons ru .nil), ⟨_, hT2, rfl, _, rfl⟩⟩
    have ne2 : ∀ b, b ∉ [e, it] → b ≠ e ∧ b ≠ it := fun b z => ⟨fun q => z (by rw [q]; exact List.mem_cons_self), fun q => z (by rw [q]; exact List.mem_cons_of_mem _ List.mem_cons_self)⟩
    have J : Inv X pins σ (upd H s.heap.objs.size (.tup [.int (i : Nat), x])) { s with heap := h2, toks := tk + 1 } :=
      I.turnedNew (ch := [e, it]) (fun b ob z q => (sb.2 b (ne2 b z).1).trans (hk b ob (ne2 b z).1 (ne2 b z).2 q)) hf (Nat.le_refl _) new
    refine ⟨.ref s.heap.objs.size, _, J, rfl, ⟨s.heap.objs.size, x, rfl, I.hok.fresh (Nat.le_refl _), rfl, fun ys hy => by rw [I.tuple_inj hy hq]; exact hx⟩, ⟨⟨x1, ?_⟩, st1.1.at fun o q => (sb.2 it (Ne.symm hne)).trans q, hne⟩, fun b hb => ?_⟩
    · have e1 : ((i + 1 : Nat) : Int) = (i : Int) + 1 := Int.natCast_succ i
      rw [e1]
      exact he2
    · have lb : b < s.heap.objs.size := by
        rcases List.mem_cons.mp hb with rfl | hb
        · exact hel
        · rw [List.mem_singleton.mp hb]
          exact hil
      rw [upd_ne (Nat.ne_of_lt lb)]
      exact (hf b hb).1
  done X hP hw hK hc i pins s σ H E I hf st hg := by
    subst hP hw hK
    obtain ⟨⟨old, he⟩, hit, hne⟩ := st
    obtain ⟨xs, hq, hx⟩ := hg
    obtain ⟨its, rv, p, _⟩ := I.tuple hq
    have pt : s.heap.IsTuple a its.toArray := p
    have ane : a ≠ it := fun z => by
      obtain ⟨o1, h1, c1, _⟩ := p
      obtain ⟨o2, h2, c2, _⟩ := hit
      rw [z, h2] at h1
      cases h1
      rw [c2] at c1
      injection c1 with c1
      exact absurd c1 (by decide)
    obtain ⟨f0, f1, f2, f3, f4, f5⟩ := hf it (List.mem_cons_of_mem _ List.mem_cons_self)
    have hl := rv.length
    have hT : s.TypeIs (.ref e) "enumerate" := ⟨_, he, rfl⟩
    unfold pyNext
    refine wpAny_bind (wpAny_attempt (wpAny_callSpecial?_slot (name := Str.ofString "__next__") hT F.slot_enumerate_next
      (wpAny_call_entry F.slot_enumerate_next hT F.entry_enumerate_next ?_ (F.args_enumerate_next_1 _))))
    show wpAny _ _ (field (.ref e) 2 >>= _) _ _ _
    refine wpAny_bind (wpAny_field he rfl (x := .ref it) rfl ?_)
    refine wpAny_bind (wpAny_nextOf_tuple_end (I.ok.hd hc) hit pt (by simp; omega) fun h1 er k1 z1 => ?_)
    obtain ⟨oe, z2, z3⟩ := z1
    refine wpAny_bind (wpAny_isInstance (T := "StopIteration") (b := true) ⟨oe, z2, z3⟩ isSubtype_stop (wpAny_pure ?_))
    exact ⟨rfl, I.turned (t' := s.toks) (fun b o hb q => k1 b o hb q) f0 f1 f3 f4 f5⟩
  self A i s Q E st q := by
    obtain ⟨⟨_, he⟩, _⟩ := st
    exact wpAny_pyIter_enum he q
/-- enumerate of a list or a tuple -/
def GoEnum (K : PySem.W.Frag) (R : It → Hp → Prop) (vs : List V) (H : Hp) : Prop := ∃ a, vs = [.ref a] ∧ ((∃ xs, SqL K H a xs) ∧ R (Ite K a) H ∨ (∃ xs, SqT K H a xs) ∧ R (IteT K a) H)
def iEnumU (K : PySem.W.Frag) (ta : TA) : TI := fun σ H R => ta σ H fun vs H1 => GoEnum K R vs H1
theorem pi_enumU {X : Cx} {e : Expr} {ta : TA} {p pos tpos : Pos} {elts : List Expr} {kk : Nat} (hg : Gl X "enumerate") (hm : X.mg "enumerate" = none) (ha : PA X [e] ta) (hs : starEach [e] X.env = [(false, eval e X.env)] := by rfl) :
    PI X (.Tuple elts kk tpos) (.Call (.Name "enumerate" p) [e] [] pos) (iEnumU X.K ta) := ⟨fun pins s σ H R I h =>
  Call_ (ld_blt I hg hm boot_enumerate (PyProof.Rows.callWith_type1 (thn (ha.run pos pins s σ H _ I h) fun us s1 z => by
    obtain ⟨vs, H1, J, rv, a, rfl, z⟩ := z
    cases rv with
    | cons r rr =>
      cases rr
      obtain rfl := r
      have fp : ∀ b ∈ [s1.heap.objs.size + 1, s1.heap.objs.size], FpOk X pins H1 b := fun b hb => by
        have hle : s1.heap.objs.size ≤ b := by
          rcases List.mem_cons.mp hb with rfl | hb
          · exact Nat.le_succ _
          · rw [List.mem_singleton.mp hb]
            exact Nat.le_refl _
        exact J.fpOk hle (J.hok.fresh hle)
      rcases z with ⟨⟨xs, hq⟩, q⟩ | ⟨⟨xs, hq⟩, q⟩
      · obtain ⟨its, _, pl, _⟩ := J.list hq
        refine call_enumerate_list pl.isList fun h2 he hit _ hk => wpAny_pyIter_enum he ?_
        exact ⟨_, _, _, _, H1, rfl, J.kept (t' := s1.toks) hk, turn_enum a (s1.heap.objs.size + 1) s1.heap.objs.size, ⟨⟨_, he⟩, hit, Nat.succ_ne_self _⟩, fp, q⟩
      · obtain ⟨its, _, pl, _⟩ := J.tuple hq
        have pt : s1.heap.IsTuple a its.toArray := pl
        refine ShE.enumT_call (begins_tuple a its.toArray) pt fun h2 he hit hk => wpAny_pyIter_enum he ?_
        exact ⟨_, _, _, _, H1, rfl, J.kept (t' := s1.toks) hk, turn_enumT a (s1.heap.objs.size + 1) s1.heap.objs.size, ⟨⟨_, he⟩, ⟨_, hit, rfl, rfl⟩, Nat.succ_ne_self _⟩, fp, q⟩) hs rfl))⟩
section
variable {K : PySem.W.Frag} {σ : L2.St} {H : Hp} {Q : VK} {te : TE} {tt : TT} {tA : TA} {tb : TS} {nx : L2.St → Hp → Prop} {rt : VK} {g : TG} {vs : List Nat}
theorem w_ienum {R : It → Hp → Prop} (h : tA σ H fun vs H1 => GoEnum K R vs H1) : iEnumU K tA σ H R := h
theorem w_goEL {R : It → Hp → Prop} {a : Addr} {xs : List V} (h : SqL K H a xs) (q : R (Ite K a) H) : GoEnum K R [.ref a] H := ⟨a, rfl, .inl ⟨⟨xs, h⟩, q⟩⟩
theorem w_goET {R : It → Hp → Prop} {a : Addr} {xs : List V} (h : SqT K H a xs) (q : R (IteT K a) H) : GoEnum K R [.ref a] H := ⟨a, rfl, .inr ⟨⟨xs, h⟩, q⟩⟩
/-- for place, item in enumerate(..): the target is two names -/
theorem forET {a : Addr} {xs : List V} {i1 i2 : Nat} (hx : SqT K H a xs) (I : Nat → L2.St → Hp → Prop) (h0 : I 0 σ H) (hI : ∀ i σ' H', I i σ' H' → Same H H')
    (hs : ∀ (i : Nat) x σ' H', xs[i]? = some x → I i σ' H' → ∀ H2, Same H' H2 → tb ⟨I (i + 1), rt, nx, I (i + 1)⟩ ((σ'.set i1 (some (.int (i : Int)))).set i2 (some x)) H2) (hd : ∀ σ' H', I xs.length σ' H' → nx σ' H') :
    ForOk (IteT K a) (gTup K 2 (gCons (gName i1) (gCons (gName i2) gNil))) tb nx rt σ H := by
  refine ⟨fun i m σ' H' => m = xs.length - i ∧ i ≤ xs.length ∧ I i σ' H', ⟨_, rfl, Nat.zero_le _, h0⟩, fun i m σ' H1 ⟨em, hi, w1⟩ => ?_⟩
  have s1 := hI _ _ _ w1
  by_cases hlt : i < xs.length
  · refine .inr ⟨⟨xs, xs[i], same_t s1 hx, List.getElem?_eq_getElem hlt⟩, I (i + 1), fun σ2 H2 w2 => ⟨_, by omega, rfl, hlt, w2⟩, fun v H2 y => ?_⟩
    obtain ⟨T, x, rfl, hT, rfl, hy⟩ := y
    have ex := hy xs (same_t s1 hx)
    exact ⟨T, _, rfl, SqT.of upd_same, rfl, _, _, rfl, _, _, rfl, rfl, hs i x σ' H1 ex w1 _ (same_new hT)⟩
  · have e : i = xs.length := by omega
    subst e
    exact .inl ⟨⟨xs, same_t s1 hx, Nat.le_refl _⟩, hd σ' H1 w1⟩
theorem forEL {a : Addr} {xs : List V} {i1 i2 : Nat} (hx : SqL K H a xs) (I : Nat → L2.St → Hp → Prop) (h0 : I 0 σ H) (hI : ∀ i σ' H', I i σ' H' → Same H H')
    (hs : ∀ (i : Nat) x σ' H', xs[i]? = some x → I i σ' H' → ∀ H2, Same H' H2 → tb ⟨I (i + 1), rt, nx, I (i + 1)⟩ ((σ'.set i1 (some (.int (i : Int)))).set i2 (some x)) H2) (hd : ∀ σ' H', I xs.length σ' H' → nx σ' H') :
    ForOk (Ite K a) (gTup K 2 (gCons (gName i1) (gCons (gName i2) gNil))) tb nx rt σ H := by
  refine ⟨fun i m σ' H' => m = xs.length - i ∧ i ≤ xs.length ∧ I i σ' H', ⟨_, rfl, Nat.zero_le _, h0⟩, fun i m σ' H1 ⟨em, hi, w1⟩ => ?_⟩
  have s1 := hI _ _ _ w1
  by_cases hlt : i < xs.length
  · refine .inr ⟨⟨xs, xs[i], s1.seq hx, List.getElem?_eq_getElem hlt⟩, I (i + 1), fun σ2 H2 w2 => ⟨_, by omega, rfl, hlt, w2⟩, fun v H2 y => ?_⟩
    obtain ⟨T, x, rfl, hT, rfl, hy⟩ := y
    have ex := hy xs (s1.seq hx)
    exact ⟨T, _, rfl, SqT.of upd_same, rfl, _, _, rfl, _, _, rfl, rfl, hs i x σ' H1 ex w1 _ (same_new hT)⟩
  · have e : i = xs.length := by omega
    subst e
    exact .inl ⟨⟨xs, s1.seq hx, Nat.le_refl _⟩, hd σ' H1 w1⟩
end
end Sh
/-! data whose tuples have no dict (so that their methods may be called); new tuples are such -/
namespace Sh
open PySem PySem.Spec PyProof.Rows L2
def TupN (H : Hp) (a : Addr) (xs : List V) : Prop := ∃ o : Obj, o.dict = none ∧ H a = some (.frz o (.tup xs))
def SqN (K : PySem.W.Frag) (H : Hp) (a : Addr) (xs : List V) : Prop :=
  TupN H a xs ∨ ∃ (o : Obj) (its : Array Value) (n : Nat), K.lookup a = some o ∧ o.dict = none ∧ o.cls = .type "tuple" ∧ o.data = .seq its n ∧ its.size ≤ sizeLine ∧ Vals xs its.toList
section
variable {K : PySem.W.Frag} {H H' : Hp} {a : Addr} {xs : List V}
theorem SqN.t (h : SqN K H a xs) : SqT K H a xs := by
  rcases h with ⟨o, _, h⟩ | ⟨o, its, n, h1, _, h2, h3, h4, h5⟩
  · exact .inl (.inr ⟨o, h⟩)
  · exact .inr ⟨o, its, n, h1, h2, h3, h4, h5⟩
theorem SqN.of (h : TupN H a xs) : SqN K H a xs := .inl h
theorem TupN.mono (e : Same H H') (h : TupN H a xs) : TupN H' a xs := by
  obtain ⟨o, d, h⟩ := h
  exact ⟨o, d, e _ _ h⟩
theorem same_n (e : Same H H') (h : SqN K H a xs) : SqN K H' a xs := by
  rcases h with h | h
  · exact .inl (h.mono e)
  · exact .inr h
end
/-! ### new ones -/
def NewN (xs : List V) (Q : VK) (H : Hp) : Prop := xs.length ≤ sizeLine ∧ ∀ (p : Addr) (o : Obj), H p = none → o.dict = none → Q (.ref p) (upd H p (.frz o (.tup xs)))
def tTupN (t : TA) : TE := fun σ H Q => t σ H fun xs H1 => NewN xs Q H1
section
variable {X : Cx} {es : List Expr} {t : TA} {pos : Pos}
theorem pe_tupN {x1} (h : PA X es t) : PE X (.Tuple es x1 pos) (tTupN t) := by
  refine ⟨fun pins s σ H Q I hq => ?_⟩
  refine wpAny_Tuple_spliced (thn (h.run pos pins s σ H _ I hq) fun us s1 z0 => ?_)
  obtain ⟨xs, H1, I1, r, z, q⟩ := z0
  refine ⟨by rw [← r.length]; exact z, ?_⟩
  have hf : H1 s1.heap.objs.size = none := I1.hok.fresh (Nat.le_refl _)
  have hg := Heap.get?_push_size s1.heap (o := { cls := .type "tuple", data := .seq us.toArray }) rfl
  exact ⟨.ref s1.heap.objs.size, _, I1.laid (o := .frz { cls := .type "tuple", data := .seq us.toArray } (.tup xs)) (t' := s1.toks) (fun b u e => Heap.get?_push_of_some _ e) (Nat.le_refl _) ⟨hg, z, us, r, ⟨_, hg, rfl, _, rfl⟩⟩, rfl, q _ _ hf rfl⟩
def rTupleOfN (K : PySem.W.Frag) : List V → Hp → VK → Prop := fun xs H Q => ∃ p ys, xs = [.ref p] ∧ ((SqL K H p ys ∧ ∀ (l : Addr) (o : Obj), H l = none → o.dict = none → Q (.ref l) (upd H l (.frz o (.tup ys)))) ∨ (SqT K H p ys ∧ Q (.ref p) H))
theorem call_tuple_ofN : CallR X (.type "tuple") (rTupleOfN X.K) := by
  intro pins s σ H xs us Q I r h
  obtain ⟨p, ys, rfl, h⟩ := h
  obtain ⟨u, rfl, rx⟩ := vals1 r
  cases rx
  rcases h with ⟨hq, q⟩ | ⟨hq, q⟩
  · obtain ⟨its, rv, pl, hz⟩ := I.list hq
    have hlen := rv.length
    refine call_tuple_list pl.isList (fun h' kp => ?_) (by simp only [List.size_toArray] <;> omega)
    have I1 : Inv X pins σ H { s with heap := h' } := I.kept (t' := s.toks) kp
    have hg := Heap.get?_push_size h' (o := { cls := .type "tuple", data := .seq its.toArray }) rfl
    exact ⟨.ref h'.objs.size, _, I1.laid (o := .frz { cls := .type "tuple", data := .seq its.toArray } (.tup ys)) (t' := s.toks) (fun b o e => Heap.get?_push_of_some _ e) (Nat.le_refl _) ⟨hg, hz, its, rv, IsTup.new _ _⟩, rfl, q _ _ (I1.hok.fresh (Nat.le_refl _)) rfl⟩
  · obtain ⟨its, rv, pl, hz⟩ := I.tuple hq
    exact call_tuple_same pl ⟨.ref p, H, I, rfl, q⟩
/-- t + u -/
def rCatN (K : PySem.W.Frag) : R2 := fun x y H Q => ∃ a b xs ys, x = .ref a ∧ y = .ref b ∧ SqT K H a xs ∧ SqT K H b ys ∧ xs.length + ys.length ≤ sizeLine ∧
  (xs = [] → Q (.ref b) H) ∧ (xs ≠ [] → ys = [] → Q (.ref a) H) ∧ (xs ≠ [] → ys ≠ [] → ∀ (p : Addr) (o : Obj), H p = none → o.dict = none → Q (.ref p) (upd H p (.frz o (.tup (xs ++ ys)))))
theorem op_catN : OpR X (binaryOp .Add) (rCatN X.K) := by
  intro pins s σ H x y v u Q I rx ry h
  obtain ⟨a, b, xs, ys, rfl, rfl, ha, hb, hz, q0, q1, q2⟩ := h
  cases rx
  cases ry
  obtain ⟨its, r1, p1, _⟩ := I.tuple ha
  obtain ⟨its2, r2, p2, _⟩ := I.tuple hb
  by_cases hx : xs = []
  · subst hx
    cases r1
    exact cat_tup0 p1 p2 ⟨.ref b, H, I, rfl, q0 rfl⟩
  · refine HT.cat_tup p1 p2 (fun z => hx (r1.nil_iff.mp z)) (fun z => ⟨.ref a, H, I, rfl, q1 hx (r2.nil_iff.mp z)⟩) (fun z => ?_) (by rw [← r1.length, ← r2.length]; exact hz)
    have hg := Heap.get?_push_size s.heap (o := { cls := .type "tuple", data := .seq (its ++ its2).toArray }) rfl
    exact ⟨.ref s.heap.objs.size, _, I.laid (t' := s.toks) (o := .frz { cls := .type "tuple", data := .seq (its ++ its2).toArray } (.tup (xs ++ ys))) (fun b ob q => Heap.get?_push_of_some _ q) (Nat.le_refl _) ⟨hg, by rw [List.length_append]; exact hz, _, r1.append r2, IsTup.new _ _⟩, rfl,
      q2 hx (fun w => z (r2.nil_iff.mpr w)) _ _ (I.hok.fresh (Nat.le_refl _)) rfl⟩
/-- t[lo:hi] -/
def rSlN (K : PySem.W.Frag) : V → Option Int → Option Int → Hp → VK → Prop := fun x lo hi H Q => ∃ a xs, x = .ref a ∧ SqT K H a xs ∧
  (HT.sIx xs.length 0 lo = 0 ∧ HT.sIx xs.length xs.length hi = xs.length → Q (.ref a) H) ∧
  (¬ (HT.sIx xs.length 0 lo = 0 ∧ HT.sIx xs.length xs.length hi = xs.length) → ∀ (p : Addr) (o : Obj), H p = none → o.dict = none → Q (.ref p) (upd H p (.frz o (.tup (cutV xs lo hi)))))
theorem sl_tupN : SlR X (rSlN X.K) := by
  intro pins s σ H x v vl vu lo hi sl Q I rx hs pl pu h
  obtain ⟨a, xs, rfl, hx, q1, q2⟩ := h
  cases rx
  obtain ⟨its, r, ht, hz⟩ := I.tuple hx
  have hlen : its.toArray.size = xs.length := by rw [List.size_toArray]; exact r.length.symm
  refine ⟨"tuple", _, PyProof.Rows.slot_tuple_getitem.lookup, ht.typeIs, ?_⟩
  by_cases hw : HT.sIx xs.length 0 lo = 0 ∧ HT.sIx xs.length xs.length hi = xs.length
  · exact getItem_tuple_whole ht hs pl pu (by rw [hlen]; exact hw) ⟨.ref a, H, I, rfl, q1 hw⟩
  · refine HT.getItem_tuple_cut ht hs pl pu (by rw [hlen]; exact hw) ?_ (by rw [hlen]; exact hz)
    rw [hlen]
    have hg := Heap.get?_push_size s.heap (o := { cls := .type "tuple", data := .seq ((its.drop (HT.sIx xs.length 0 lo)).take (HT.sIx xs.length xs.length hi - HT.sIx xs.length 0 lo)).toArray }) rfl
    exact ⟨.ref s.heap.objs.size, _, I.laid (t' := s.toks) (o := .frz { cls := .type "tuple", data := .seq ((its.drop (HT.sIx xs.length 0 lo)).take (HT.sIx xs.length xs.length hi - HT.sIx xs.length 0 lo)).toArray } (.tup (cutV xs lo hi))) (fun b ob q => Heap.get?_push_of_some _ q) (Nat.le_refl _)
      ⟨hg, Nat.le_trans (cutV_length xs lo hi) hz, _, (r.drop (HT.sIx xs.length 0 lo)).take (HT.sIx xs.length xs.length hi - HT.sIx xs.length 0 lo), IsTup.new _ _⟩, rfl, q2 hw _ _ (I.hok.fresh (Nat.le_refl _)) rfl⟩
/-! ### methods of tuples -/
def TyN (K : PySem.W.Frag) (x : V) (H : Hp) : Prop := ∃ a xs, x = .ref a ∧ SqN K H a xs
theorem tyN_is {pins : List (Addr × Obj)} {σ : L2.St} {H : Hp} {s : Shared} {x : V} {v : Value} (I : Inv X pins σ H s) (r : RelV x v) (ty : TyN X.K x H) : s.TypeIs v "tuple" ∧ ∀ a, v = .ref a → ∃ ob, s.heap.get? a = some ob ∧ ob.dict = none := by
  obtain ⟨a, xs, rfl, h⟩ := ty
  cases r
  obtain ⟨its, rv, pl, _⟩ := I.tuple h.t
  refine ⟨pl.typeIs, fun b e => ?_⟩
  cases e
  rcases h with ⟨o, d, h⟩ | ⟨o, _, _, h, d, _⟩
  · obtain ⟨g, _⟩ := (show ObjOk X.prog X.w H s.heap a (.frz o (.tup xs)) from I.hok a _ h)
    exact ⟨o, g, d⟩
  · exact ⟨o, I.kIn _ _ h, d⟩
def tTM (K : PySem.W.Frag) (r : V → List V → Hp → VK → Prop) (to : TE) (t : TA) : TE := fun σ H Q => to σ H fun x H1 => TyN K x H1 ∧ t σ H1 fun xs H2 => r x xs H2 Q
theorem pe_tm {o e : Expr} {es : List Expr} {to : TE} {t : TA} {name : Str} {apos cpos : Pos} {id : String} {r : V → List V → Hp → VK → Prop} (slot : Slot "tuple" name id) (hty : typeOf (.builtin id) = pure (.type "method_descriptor")) (hm : MtR X id r) (ho : PE X o to) (ha : PA X (e :: es) t)
    (hbase : attributeBase o name X.env (eval o X.env) = eval o X.env := by rfl)
    (hfew : ((backTo cpos (starEach (e :: es) X.env)).all (fun x => !x.1) && (backToKw cpos (keywordEach [] X.env)).all (fun x => x.1.isSome)
      && decide ((e :: es).length + ([] : List Keyword).length + (if ([] : List Keyword).isEmpty then 0 else 1) < 30)) = true := by rfl)
    (hline : (apos.endLine == cpos.line) = true := by rfl) (hs : starEach (e :: es) X.env = (false, eval e X.env) :: starEach es X.env := by rfl) (hplain : (backTo cpos (starEach es X.env)).any (·.1) = false := by rfl) :
    PE X (.Call (.Attribute o name apos) (e :: es) [] cpos) (tTM X.K r to t) := by
  refine ⟨fun pins s σ H Q I h => ?_⟩
  refine wpAny_Call_method_late hbase hfew hline rfl (thn (ho.run pins s σ H _ I h) fun v s1 z => ?_)
  obtain ⟨x, H1, I1, r1, ty, q1⟩ := z
  obtain ⟨h1, h2⟩ := tyN_is I1 r1 ty
  refine ⟨"tuple", id, PySem.F.plainAttrs_tuple, slot, hty, h1, h2, ?_⟩
  have hA := ha.run cpos pins s1 σ H1 _ I1 q1
  rw [hs] at hA ⊢
  refine Calls.callWith_builtin (by show (false || (backTo cpos (starEach es X.env)).any (·.1)) = false; rw [hplain] <;> rfl) (Calls.evalArgs_plain ?_)
  refine thn hA fun us s2 z2 => ?_
  obtain ⟨vs, H2, I2, r2, q2⟩ := z2
  exact hm pins s2 σ H2 x vs v us Q I2 r1 r2 q2
/-- t.index(n) of ints, n among them -/
def rIndexT (K : PySem.W.Frag) : V → List V → Hp → VK → Prop := fun x xs H Q => ∃ (a : Addr) (ns : List Int) (n : Int), x = .ref a ∧ xs = [.int n] ∧ SqT K H a (ns.map V.int) ∧ n ∈ ns ∧ Q (.int (ns.idxOf n : Nat)) H
theorem mt_indexT : MtR X "tuple.index" (rIndexT X.K) := by
  intro pins s σ H x xs v us Q I rx rs h
  obtain ⟨a, ns, n, rfl, rfl, hq, hn, q⟩ := h
  cases rx
  obtain ⟨u, rfl, t, rfl⟩ := vals1 rs
  obtain ⟨its, r, pl, hz⟩ := I.tuple hq
  exact PySem.SeqAt.tuple_index_ints pl (intsAre_of r) hn ⟨.int (ns.idxOf n : Nat), H, I.tok _, ⟨_, rfl⟩, q⟩
end
/-! ### among -/
def rInU (K : PySem.W.Frag) : R2 := fun x y H Q => rIn K false x y H Q ∨ rInS x y H Q
theorem u_in {X : Cx} (_ : X.A.units + 64 < cLine) : OpR X (compareOp .In) (rInU X.K) := opor op_in_seq op_inS
def rNotInU (K : PySem.W.Frag) : R2 := rIn K true
theorem u_notin {X : Cx} (_ : X.A.units + 64 < cLine) : OpR X (compareOp .NotIn) (rNotInU X.K) := op_notIn_seq
theorem inV_ints (n : Int) : ∀ ns : List Int, inV (.int n) (ns.map V.int) = decide (n ∈ ns)
  | [] => rfl
  | m :: r => by
    have z := inV_ints n r
    unfold inV at z ⊢
    rw [List.map_cons, List.any_cons, z]
    show (m == n || decide (n ∈ r)) = decide (n ∈ m :: r)
    by_cases h : m = n
    · subst h
      simp
    · have h2 : ¬ n = m := fun e => h e.symm
      simp [h, h2]
theorem flat_ints (ns : List Int) : (ns.map V.int).all flatV = true := by
  rw [List.all_map]
  exact List.all_eq_true.mpr fun _ _ => rfl
section
variable {K : PySem.W.Frag} {H : Hp} {Q : VK} {σ : L2.St} {a : Addr} {ns : List Int} {n : Int} {xs : List V}
theorem w_inT (h : SqT K H a (ns.map V.int)) (q : Q (.bl (decide (n ∈ ns))) H) : rInU K (.int n) (.ref a) H Q := .inl ⟨a, _, rfl, .inr h, rfl, flat_ints ns, by rw [inV_ints]; exact q⟩
theorem w_inL (h : SqL K H a (ns.map V.int)) (q : Q (.bl (decide (n ∈ ns))) H) : rInU K (.int n) (.ref a) H Q := .inl ⟨a, _, rfl, .inl h, rfl, flat_ints ns, by rw [inV_ints]; exact q⟩
theorem w_ninT (h : SqT K H a (ns.map V.int)) (q : Q (.bl (!decide (n ∈ ns))) H) : rNotInU K (.int n) (.ref a) H Q := ⟨a, _, rfl, .inr h, rfl, flat_ints ns, by rw [inV_ints]; exact q⟩
theorem w_tm {to : TE} {t : TA} {r : V → List V → Hp → VK → Prop} (h : to σ H fun x H1 => TyN K x H1 ∧ t σ H1 fun xs H2 => r x xs H2 Q) : tTM K r to t σ H Q := h
theorem w_tyN {R : Prop} (h : SqN K H a xs) (q : R) : TyN K (.ref a) H ∧ R := ⟨⟨a, xs, rfl, h⟩, q⟩
theorem w_indexT (h : SqT K H a (ns.map V.int)) (hn : n ∈ ns) (q : Q (.int (ns.idxOf n : Nat)) H) : rIndexT K (.ref a) [.int n] H Q := ⟨a, ns, n, rfl, rfl, h, hn, q⟩
theorem w_tupN {tA : TA} (h : tA σ H fun xs H1 => NewN xs Q H1) : tTupN tA σ H Q := h
theorem w_newN (hl : xs.length ≤ sizeLine) (h : ∀ p H', H p = none → Same H H' → TupN H' p xs → Q (.ref p) H') : NewN xs Q H := ⟨hl, fun p o hp hd => h p _ hp (same_new hp) ⟨o, hd, upd_same⟩⟩
theorem w_tupleN (h : SqL K H a xs) (q : ∀ p H', H p = none → Same H H' → TupN H' p xs → Q (.ref p) H') : rTupleOfN K [.ref a] H Q := ⟨a, xs, rfl, .inl ⟨h, fun p o hp hd => q p _ hp (same_new hp) ⟨o, hd, upd_same⟩⟩⟩
theorem w_tupleT (h : SqT K H a xs) (q : Q (.ref a) H) : rTupleOfN K [.ref a] H Q := ⟨a, xs, rfl, .inr ⟨h, q⟩⟩
end
/-! ### sums, cuts -/
def rAddN (K : PySem.W.Frag) : R2 := fun x y H Q => rI0 (fun i j => .int (i + j)) x y H Q ∨ (∃ i j, x = .str i ∧ y = .str j ∧ i.length + j.length ≤ sizeLine ∧ Q (.str (i ++ j)) H) ∨ rCat x y H Q ∨ rCatN K x y H Q
theorem u_addN {X : Cx} : OpR X (binaryOp .Add) (rAddN X.K) := opor op_add (opor op_add_str (opor op_cat op_catN))
def rSlU (K : PySem.W.Frag) : V → Option Int → Option Int → Hp → VK → Prop := fun x lo hi H Q => rSlN K x lo hi H Q ∨ rSlS x lo hi H Q ∨ rSlL K x lo hi H Q
theorem u_sl {X : Cx} : SlR X (rSlU X.K) := .or sl_tupN (.or sl_str sl_list)
/-! ### data -/
mutual
inductive Dq (K : PySem.W.Frag) (H : Hp) : V → PyData → Prop
  | non : Dq K H .non .none
  | bl (b : Bool) : Dq K H (.bl b) (.bool b)
  | int (i : Int) : Dq K H (.int i) (.int i)
  | str (x : Str) : Dq K H (.str x) (.str x)
  | lst {a : Addr} {xs : List V} {ds : List PyData} : SqL K H a xs → DqAll K H xs ds → Dq K H (.ref a) (.list ds)
  | tup {a : Addr} {xs : List V} {ds : List PyData} : SqN K H a xs → DqAll K H xs ds → Dq K H (.ref a) (.tuple ds)
inductive DqAll (K : PySem.W.Frag) (H : Hp) : List V → List PyData → Prop
  | nil : DqAll K H [] []
  | cons {v : V} {vs : List V} {d : PyData} {ds : List PyData} : Dq K H v d → DqAll K H vs ds → DqAll K H (v :: vs) (d :: ds)
end
mutual
theorem dq_dp {K : PySem.W.Frag} {H : Hp} : ∀ {v : V} {d : PyData}, Dq K H v d → Dp K H v d
  | _, _, .non => .non
  | _, _, .bl b => .bl b
  | _, _, .int i => .int i
  | _, _, .str x => .str x
  | _, _, .lst h r => .lst h (dqs_dp r)
  | _, _, .tup h r => .tup h.t (dqs_dp r)
theorem dqs_dp {K : PySem.W.Frag} {H : Hp} : ∀ {vs : List V} {ds : List PyData}, DqAll K H vs ds → DpAll K H vs ds
  | _, _, .nil => .nil
  | _, _, .cons h r => .cons (dq_dp h) (dqs_dp r)
end
mutual
theorem dq_mono {K : PySem.W.Frag} {H H' : Hp} (e : Same H H') : ∀ {v : V} {d : PyData}, Dq K H v d → Dq K H' v d
  | _, _, .non => .non
  | _, _, .bl b => .bl b
  | _, _, .int i => .int i
  | _, _, .str x => .str x
  | _, _, .lst h r => .lst (e.seq h) (dqs_mono e r)
  | _, _, .tup h r => .tup (same_n e h) (dqs_mono e r)
theorem dqs_mono {K : PySem.W.Frag} {H H' : Hp} (e : Same H H') : ∀ {vs : List V} {ds : List PyData}, DqAll K H vs ds → DqAll K H' vs ds
  | _, _, .nil => .nil
  | _, _, .cons h r => .cons (dq_mono e h) (dqs_mono e r)
end
theorem dqs_len {K : PySem.W.Frag} {H : Hp} {vs : List V} {ds : List PyData} (h : DqAll K H vs ds) : vs.length = ds.length := dps_len (dqs_dp h)
theorem dqs_get {K : PySem.W.Frag} {H : Hp} : ∀ {vs : List V} {ds : List PyData} {i : Nat} {d : PyData}, DqAll K H vs ds → ds[i]? = some d → ∃ v, vs[i]? = some v ∧ Dq K H v d
  | _, _, _, _, .nil, e => by simp at e
  | _, _, 0, _, .cons (v := v) h _, e => by
    simp at e
    subst e
    exact ⟨v, rfl, h⟩
  | _, _, i + 1, d, .cons _ r, e => by
    obtain ⟨v, h1, h2⟩ := dqs_get (i := i) (d := d) r (by simpa using e)
    exact ⟨v, by simpa using h1, h2⟩
theorem dqs_get2 {K : PySem.W.Frag} {H : Hp} {vs : List V} {ds : List PyData} {i : Nat} {v : V} (r : DqAll K H vs ds) (e : vs[i]? = some v) : ∃ d, ds[i]? = some d ∧ Dq K H v d := by
  have hl := dqs_len r
  have hi := (List.getElem?_eq_some_iff.mp e).1
  have e2 : ds[i]? = some (ds[i]'(hl ▸ hi)) := List.getElem?_eq_getElem _
  obtain ⟨v2, h1, h2⟩ := dqs_get r e2
  rw [e] at h1
  cases h1
  exact ⟨_, e2, h2⟩
theorem dqs_app {K : PySem.W.Frag} {H : Hp} : ∀ {vs ws : List V} {ds es : List PyData}, DqAll K H vs ds → DqAll K H ws es → DqAll K H (vs ++ ws) (ds ++ es)
  | _, _, _, _, .nil, s => s
  | _, _, _, _, .cons h r, s => .cons h (dqs_app r s)
theorem dqs_ints {K : PySem.W.Frag} {H : Hp} : ∀ ns : List Int, DqAll K H (ns.map V.int) (ns.map PyData.int)
  | [] => .nil
  | n :: r => .cons (.int n) (dqs_ints r)
theorem dqs_at {K : PySem.W.Frag} {H : Hp} {vs : List V} {ds : List PyData} {i : Int} {d : PyData} (r : DqAll K H vs ds) (e : atI ds i = some d) : ∃ v, atI vs i = some v ∧ Dq K H v d := by
  unfold atI at e ⊢
  rw [dqs_len r]
  cases q : ixN ds.length i with
  | none => rw [q] at e; cases e
  | some j =>
    rw [q] at e
    exact dqs_get r e
end Sh
/-! data: tuples of data, cuts, sums; the shapes -/
namespace Sh
open PySem PySem.Spec PyProof.Rows L2
section
variable {K : PySem.W.Frag} {σ : L2.St} {H H' : Hp} {Q : VK} {v u : V} {d : PyData} {te : TE} {tA : TA} {tl th : TO} {a D : Addr} {xs ys : List V}
/-! ### data that a change of a list does not touch -/
mutual
def tupO : PyData → Prop
  | .list _ => False
  | .dict _ => False
  | .tuple ds => tupOs ds
  | _ => True
def tupOs : List PyData → Prop
  | [] => True
  | d :: r => tupO d ∧ tupOs r
end
theorem sqn_lst {o : HO} (h : SqN K H a xs) (e : H D = some (.lst ys)) : SqN K (upd H D o) a xs := by
  rcases h with ⟨b, hd, h⟩ | h
  · refine .inl ⟨b, hd, ?_⟩
    rw [upd_ne fun z => by rw [z, e] at h; cases h]
    exact h
  · exact .inr h
mutual
theorem dq_lst {o : HO} (e : H D = some (.lst ys)) : ∀ {v : V} {d : PyData}, Dq K H v d → tupO d → Dq K (upd H D o) v d
  | _, _, .non, _ => .non
  | _, _, .bl b, _ => .bl b
  | _, _, .int i, _ => .int i
  | _, _, .str x, _ => .str x
  | _, _, .lst _ _, z => (show False from z).elim
  | _, _, .tup h r, z => .tup (sqn_lst h e) (dqs_lst e r z)
theorem dqs_lst {o : HO} (e : H D = some (.lst ys)) : ∀ {vs : List V} {ds : List PyData}, DqAll K H vs ds → tupOs ds → DqAll K (upd H D o) vs ds
  | _, _, .nil, _ => .nil
  | _, _, .cons h r, z => .cons (dq_lst e h z.1) (dqs_lst e r z.2)
end
theorem tupOs_of : ∀ {ds : List PyData}, (∀ d ∈ ds, tupO d) → tupOs ds
  | [], _ => trivial
  | _ :: _, h => ⟨h _ List.mem_cons_self, tupOs_of fun d hd => h d (List.mem_cons_of_mem _ hd)⟩
theorem tupOs_ints (ns : List Int) : tupOs (ns.map PyData.int) := tupOs_of fun d hd => by
  obtain ⟨n, _, rfl⟩ := List.mem_map.mp hd
  trivial
/-! ### ints -/
theorem dq_int {i : Int} (h : Dq K H v (.int i)) : v = .int i := by cases h; rfl
theorem dq_str {x : Str} (h : Dq K H v (.str x)) : v = .str x := by cases h; rfl
theorem dq_bl {b : Bool} (h : Dq K H v (.bool b)) : v = .bl b := by cases h; rfl
theorem dq_non (h : Dq K H v .none) : v = .non := by cases h; rfl
theorem dqs_int_of : ∀ {vs : List V} {ns : List Int}, DqAll K H vs (ns.map PyData.int) → vs = ns.map V.int
  | _, [], h => by cases h; rfl
  | _, n :: r, h => by
    cases h with
    | cons h1 h2 => rw [dq_int h1, dqs_int_of h2]; rfl
theorem dq_ti {ns : List Int} (h : Dq K H v (.tuple (ns.map PyData.int))) : ∃ a, v = .ref a ∧ SqN K H a (ns.map V.int) := by
  cases h with
  | tup h r => exact ⟨_, rfl, by rw [← dqs_int_of r]; exact h⟩
theorem dq_ofN {ns : List Int} (h : TupN H a (ns.map V.int)) : Dq K H (.ref a) (.tuple (ns.map PyData.int)) := .tup (.inl h) (dqs_ints ns)
theorem dq_tt {ds : List PyData} (h : Dq K H v (.tuple ds)) : ∃ a xs, v = .ref a ∧ SqN K H a xs ∧ DqAll K H xs ds := by
  cases h with
  | tup h r => exact ⟨_, _, rfl, h, r⟩
theorem dq_ll {ds : List PyData} (h : Dq K H v (.list ds)) : ∃ a xs, v = .ref a ∧ SqL K H a xs ∧ DqAll K H xs ds := by
  cases h with
  | lst h r => exact ⟨_, _, rfl, h, r⟩
theorem dq_new {ds : List PyData} (h : TupN H a xs) (r : DqAll K H xs ds) : Dq K H (.ref a) (.tuple ds) := .tup (.inl h) r
theorem dq_newl {ds : List PyData} (h : H a = some (.lst xs)) (r : DqAll K H xs ds) : Dq K H (.ref a) (.list ds) := .lst (SqL.of h) r
theorem dqs_one (h : Dq K H v d) : DqAll K H [v] [d] := .cons h .nil
theorem dqs_two {d2 : PyData} (h : Dq K H v d) (h2 : Dq K H u d2) : DqAll K H [v, u] [d, d2] := .cons h (.cons h2 .nil)
theorem dqs_mem {vs : List V} {ds : List PyData} {P : PyData → Prop} (r : DqAll K H vs ds) (h : ∀ d ∈ ds, P d) : ∀ x ∈ vs, ∃ d, Dq K H x d ∧ P d := fun x hx => by
  obtain ⟨i, hi⟩ := List.getElem?_of_mem hx
  obtain ⟨d, h1, h2⟩ := dqs_get2 r hi
  exact ⟨d, h2, h d (List.mem_of_getElem? h1)⟩
/-! ### items, lengths -/
theorem w_ixQL {ds : List PyData} {i : Int} (h : Dq K H v (.list ds)) (e : atI ds i = some d) (q : ∀ x, Dq K H x d → Q x H) : rIxU K v (.int i) H Q := by
  cases h with
  | lst h r =>
    obtain ⟨x, e1, e2⟩ := dqs_at r e
    exact w_ixl h e1 (q x e2)
theorem w_ixQT {ds : List PyData} {i : Int} (h : Dq K H v (.tuple ds)) (e : atI ds i = some d) (q : ∀ x, Dq K H x d → Q x H) : rIxU K v (.int i) H Q := by
  cases h with
  | tup h r =>
    obtain ⟨x, e1, e2⟩ := dqs_at r e
    exact w_ixt h.t e1 (q x e2)
theorem w_ixQTi {ds : List PyData} {i n : Int} (h : Dq K H v (.tuple ds)) (e : atI ds i = some (.int n)) (q : Q (.int n) H) : rIxU K v (.int i) H Q := w_ixQT h e fun x hx => by
  rw [dq_int hx]
  exact q
theorem w_ixQTs {ds : List PyData} {i : Int} {z : Str} (h : Dq K H v (.tuple ds)) (e : atI ds i = some (.str z)) (q : Q (.str z) H) : rIxU K v (.int i) H Q := w_ixQT h e fun x hx => by
  rw [dq_str hx]
  exact q
theorem w_lenQT {ds : List PyData} (h : Dq K H v (.tuple ds)) (q : Q (.int ds.length) H) : rLenU K [v] H Q := by
  cases h with
  | tup h r => exact w_lenT h.t (by rw [dqs_len r]; exact q)
theorem w_lenQL {ds : List PyData} (h : Dq K H v (.list ds)) (q : Q (.int ds.length) H) : rLenU K [v] H Q := by
  cases h with
  | lst h r => exact w_lenL h (by rw [dqs_len r]; exact q)
theorem w_tyQT {ds : List PyData} {R : Prop} (h : Dq K H v (.tuple ds)) (q : R) : TyN K v H ∧ R := by
  cases h with
  | tup h r => exact ⟨⟨_, _, rfl, h⟩, q⟩
/-! ### cuts -/
theorem w_sl (h : te σ H fun x H1 => tl σ H1 fun l H2 => th σ H2 fun u H3 => rSlU K x l u H3 Q) : tSl (rSlU K) te tl th σ H Q := h
theorem w_nopart {k : Option Int → Hp → Prop} (h : k none H) : tNoPart σ H k := h
theorem w_part {k : Option Int → Hp → Prop} (h : te σ H fun x H1 => ∃ i, x = .int i ∧ k (some i) H1) : tPart te σ H k := h
theorem w_ii {k : Int → Prop} {i : Int} (h : k i) : ∃ j, V.int i = .int j ∧ k j := ⟨i, rfl, h⟩
def cutD {α : Type} (xs : List α) (lo hi : Option Int) : List α := (xs.drop (HT.sIx xs.length 0 lo)).take (HT.sIx xs.length xs.length hi - HT.sIx xs.length 0 lo)
theorem dqs_drop : ∀ {vs : List V} {ds : List PyData} (n : Nat), DqAll K H vs ds → DqAll K H (vs.drop n) (ds.drop n)
  | _, _, 0, r => r
  | _, _, _ + 1, .nil => .nil
  | _, _, n + 1, .cons _ r => dqs_drop n r
theorem dqs_take : ∀ {vs : List V} {ds : List PyData} (n : Nat), DqAll K H vs ds → DqAll K H (vs.take n) (ds.take n)
  | _, _, 0, r => .nil
  | _, _, _ + 1, .nil => .nil
  | _, _, n + 1, .cons h r => .cons h (dqs_take n r)
theorem dqs_cut {ds : List PyData} {lo hi : Option Int} (r : DqAll K H xs ds) : DqAll K H (cutV xs lo hi) (cutD ds lo hi) := by
  unfold cutV cutD
  rw [dqs_len r]
  exact dqs_take _ (dqs_drop _ r)
theorem w_slQT {ds : List PyData} {lo hi : Option Int} (h : Dq K H v (.tuple ds)) (q : ∀ x H', Same H H' → Dq K H' x (.tuple (cutD ds lo hi)) → Q x H') : rSlU K v lo hi H Q := by
  obtain ⟨a, xs, rfl, hs, r⟩ := dq_tt h
  refine .inl ⟨a, xs, rfl, hs.t, fun hw => q _ _ (Same.refl _) (.tup hs ?_), fun _ p o hp hd => q _ _ (same_new hp) (.tup (SqN.of ⟨o, hd, upd_same⟩) (dqs_mono (same_new hp) (dqs_cut r)))⟩
  rw [dqs_len r] at hw
  have e : cutD ds lo hi = ds := by
    unfold cutD
    rw [hw.1, hw.2]
    simp
  rw [e]
  exact r
theorem w_slQL {ds : List PyData} {lo hi : Option Int} (h : Dq K H v (.list ds)) (q : ∀ x H', Same H H' → Dq K H' x (.list (cutD ds lo hi)) → Q x H') : rSlU K v lo hi H Q := by
  obtain ⟨a, xs, rfl, hs, r⟩ := dq_ll h
  exact .inr (.inr ⟨a, xs, rfl, hs, fun p hp => q _ _ (same_new hp) (.lst (SqL.of upd_same) (dqs_mono (same_new hp) (dqs_cut r)))⟩)
theorem w_slS {z : Str} {lo hi : Option Int} (h : z.length ≤ sizeLine) (q : Q (.str (cutS z lo hi)) H) : rSlU K (.str z) lo hi H Q := .inr (.inl ⟨z, rfl, h, q⟩)
theorem six_of {n i : Nat} (d : Nat) (h : i ≤ n) : HT.sIx n d (some (i : Int)) = i := by
  unfold HT.sIx
  dsimp only
  rw [if_neg (by omega)]
  omega
theorem cutD_to {α : Type} {xs : List α} {i : Int} (h0 : 0 ≤ i) (h1 : i ≤ xs.length) : cutD xs none (some i) = xs.take i.toNat := by
  obtain ⟨n, rfl⟩ : ∃ n : Nat, i = n := ⟨i.toNat, by omega⟩
  unfold cutD
  rw [six_of _ (by omega)]
  simp [HT.sIx]
theorem cutD_from {α : Type} {xs : List α} {i : Int} (h0 : 0 ≤ i) (h1 : i ≤ xs.length) : cutD xs (some i) none = xs.drop i.toNat := by
  obtain ⟨n, rfl⟩ : ∃ n : Nat, i = n := ⟨i.toNat, by omega⟩
  unfold cutD
  rw [six_of _ (by omega)]
  show (xs.drop n).take (xs.length - n) = _
  rw [List.take_of_length_le (by rw [List.length_drop]; exact Nat.le_refl _), Int.toNat_natCast]
/-! ### sums of tuples -/
theorem w_catQT {ds es : List PyData} (h : Dq K H v (.tuple ds)) (h' : Dq K H u (.tuple es)) (hl : ds.length + es.length ≤ sizeLine) (q : ∀ x H', Same H H' → Dq K H' x (.tuple (ds ++ es)) → Q x H') : rAddN K v u H Q := by
  obtain ⟨a, xs, rfl, hs, r⟩ := dq_tt h
  obtain ⟨b, ys, rfl, hs', r'⟩ := dq_tt h'
  have l1 := dqs_len r
  have l2 := dqs_len r'
  refine .inr (.inr (.inr ⟨a, b, xs, ys, rfl, rfl, hs.t, hs'.t, by omega, fun e => ?_, fun _ e => ?_, fun _ _ p o hp hd => q _ _ (same_new hp) (.tup (SqN.of ⟨o, hd, upd_same⟩) (dqs_mono (same_new hp) (dqs_app r r')))⟩))
  · subst e
    cases r
    exact q _ _ (Same.refl _) h'
  · subst e
    cases r'
    rw [List.append_nil] at q
    exact q _ _ (Same.refl _) h
theorem w_addN {i j : Int} (h : Q (.int (i + j)) H) : rAddN K (.int i) (.int j) H Q := .inl ⟨i, j, rfl, rfl, h⟩
theorem w_addsN {x y : Str} (hl : x.length + y.length ≤ sizeLine) (h : Q (.str (x ++ y)) H) : rAddN K (.str x) (.str y) H Q := .inr (.inl ⟨x, y, rfl, rfl, hl, h⟩)
/-! ### the list that grows -/
theorem w_bm {T : String} {r : V → List V → Hp → VK → Prop} {to : TE} (h : to σ H fun x H1 => tyV K T x H1 ∧ tA σ H1 fun xs H2 => r x xs H2 Q) : tBM K T r to tA σ H Q := h
theorem w_tyL {R : Prop} (h : H a = some (.lst xs)) (q : R) : tyV K "list" (.ref a) H ∧ R := ⟨.inl ⟨rfl, xs, SqL.of h⟩, q⟩
theorem w_append {y : V} (h : H a = some (.lst xs)) (hl : xs.length < 1000000) (q : Q .non (upd H a (.lst (xs ++ [y])))) : rAppend (.ref a) [y] H Q := ⟨a, xs, y, rfl, rfl, h, Nat.lt_trans hl (by decide), q⟩
theorem pot_lst {W : Wd} {o : HO} (h : PotAt W H v) (e : H D = some (.lst ys)) : PotAt W (upd H D o) v := by
  obtain ⟨p, rfl, h⟩ := h
  refine ⟨p, rfl, ?_⟩
  rw [upd_ne fun z => by rw [z, e] at h; cases h]
  exact h
theorem w_irest {R : Prop} {k : Prop} (h : k) (q : R) : k ∧ R := ⟨h, q⟩
end
section
variable {K : PySem.W.Frag} {σ : L2.St} {H : Hp} {tb : TS} {nx : L2.St → Hp → Prop} {rt : VK} {a : Addr} {xs : List V} {i1 i2 : Nat}
theorem forEL2 (I : Nat → L2.St → Hp → Prop) (h0 : I 0 σ H) (hI : ∀ i σ' H', I i σ' H' → SqL K H' a xs)
    (hs : ∀ (i : Nat) x σ' H', xs[i]? = some x → I i σ' H' → ∀ H2, Same H' H2 → tb ⟨I (i + 1), rt, nx, I (i + 1)⟩ ((σ'.set i1 (some (.int (i : Int)))).set i2 (some x)) H2) (hd : ∀ σ' H', I xs.length σ' H' → nx σ' H') :
    ForOk (Ite K a) (gTup K 2 (gCons (gName i1) (gCons (gName i2) gNil))) tb nx rt σ H := by
  refine ⟨fun i m σ' H' => m = xs.length - i ∧ i ≤ xs.length ∧ I i σ' H', ⟨_, rfl, Nat.zero_le _, h0⟩, fun i m σ' H1 ⟨em, hi, w1⟩ => ?_⟩
  have s1 := hI _ _ _ w1
  by_cases hlt : i < xs.length
  · refine .inr ⟨⟨xs, xs[i], s1, List.getElem?_eq_getElem hlt⟩, I (i + 1), fun σ2 H2 w2 => ⟨_, by omega, rfl, hlt, w2⟩, fun v H2 y => ?_⟩
    obtain ⟨T, x, rfl, hT, rfl, hy⟩ := y
    have ex := hy xs s1
    exact ⟨T, _, rfl, SqT.of upd_same, rfl, _, _, rfl, _, _, rfl, rfl, hs i x σ' H1 ex w1 _ (same_new hT)⟩
  · have e : i = xs.length := by omega
    subst e
    exact .inl ⟨⟨xs, s1, Nat.le_refl _⟩, hd σ' H1 w1⟩
theorem none_of {H H' : Hp} {D : Addr} (e : Same H H') (h : H' D = none) : H D = none := by
  cases hc : H D with
  | none => rfl
  | some u => rw [e _ _ hc] at h; cases h
end
section
variable {K : PySem.W.Frag} {H : Hp} {Q : VK} {v : V} {i : Int}
theorem atI_get {α : Type} {l : List α} (h0 : 0 ≤ i) (h1 : i < l.length) : ∃ x, l[i.toNat]? = some x ∧ atI l i = some x := by
  have hn : i.toNat < l.length := by omega
  refine ⟨l[i.toNat], List.getElem?_eq_getElem hn, ?_⟩
  unfold atI ixN
  rw [if_pos h0, if_pos (by omega)]
  simp [List.getElem?_eq_getElem hn]
theorem w_ixM {α : Type} {g : α → PyData} {l : List α} (h : Dq K H v (.tuple (l.map g))) (h0 : 0 ≤ i) (h1 : i < l.length) (q : ∀ f x, l[i.toNat]? = some f → Dq K H x (g f) → Q x H) : rIxU K v (.int i) H Q := by
  obtain ⟨f, e, e2⟩ := atI_get h0 h1
  exact w_ixQT h (d := g f) (by rw [atI_map, e2]; rfl) fun x hx => q f x e hx
theorem atI_mem {α : Type} {l : List α} (h0 : -(l.length : Int) ≤ i) (h1 : i < l.length) : ∃ x, atI l i = some x ∧ x ∈ l := by
  by_cases c : 0 ≤ i
  · exact atI_of c h1
  · have hn : (i + l.length).toNat < l.length := by omega
    refine ⟨l[(i + l.length).toNat], ?_, List.getElem_mem hn⟩
    unfold atI ixN
    rw [if_neg c, if_pos h0]
    simp [List.getElem?_eq_getElem hn]
theorem w_ixMm {α : Type} {g : α → PyData} {l : List α} (h : Dq K H v (.tuple (l.map g))) (h0 : -(l.length : Int) ≤ i) (h1 : i < l.length) (q : ∀ f x, f ∈ l → Dq K H x (g f) → Q x H) : rIxU K v (.int i) H Q := by
  obtain ⟨f, e, hm⟩ := atI_mem h0 h1
  exact w_ixQT h (d := g f) (by rw [atI_map, e]; rfl) fun x hx => q f x hm hx
theorem w_ixMim {l : List Int} (h : Dq K H v (.tuple (l.map PyData.int))) (h0 : -(l.length : Int) ≤ i) (h1 : i < l.length) (q : ∀ n, n ∈ l → Q (.int n) H) : rIxU K v (.int i) H Q :=
  w_ixMm h h0 h1 fun f x hm hx => by
    rw [dq_int hx]
    exact q f hm
theorem w_ixMi {l : List Int} (h : Dq K H v (.tuple (l.map PyData.int))) (h0 : 0 ≤ i) (h1 : i < l.length) (q : ∀ n, l[i.toNat]? = some n → Q (.int n) H) : rIxU K v (.int i) H Q :=
  w_ixM h h0 h1 fun f x e hx => by
    rw [dq_int hx]
    exact q f e
theorem w_lenQTm {α : Type} {g : α → PyData} {l : List α} (h : Dq K H v (.tuple (l.map g))) (q : Q (.int l.length) H) : rLenU K [v] H Q := w_lenQT h (by
  rw [List.length_map]
  exact q)
theorem w_lenQLm {α : Type} {g : α → PyData} {l : List α} (h : Dq K H v (.list (l.map g))) (q : Q (.int l.length) H) : rLenU K [v] H Q := w_lenQL h (by
  rw [List.length_map]
  exact q)
theorem w_it {p A B : Prop} [Decidable p] (h : p) (q : A) : if decide p = true then A else B := by
  rw [decide_eq_true h]
  exact iteT q
theorem w_if {p A B : Prop} [Decidable p] (h : ¬ p) (q : B) : if decide p = true then A else B := by
  rw [decide_eq_false h]
  exact iteF q
theorem w_cut {t : TT} {ts tz : TS} {nx bk ct : L2.St → Hp → Prop} {rt : VK} {σ : L2.St} (P : L2.St → Hp → Prop) (hz : ∀ σ' H', P σ' H' → nx σ' H') (h : ∀ nx' : L2.St → Hp → Prop, (∀ σ' H', P σ' H' → nx' σ' H') → t σ H fun b H1 => if b = true then ts ⟨nx', rt, bk, ct⟩ σ H1 else tz ⟨nx', rt, bk, ct⟩ σ H1) : tIfS t ts tz ⟨nx, rt, bk, ct⟩ σ H := h nx hz
theorem w_neb {b c : Bool} (h : Q (.bl (!decide (b = c))) H) : rNeU K (.bl b) (.bl c) H Q := .inl ⟨rfl, by
  have e : decide (V.bl b = V.bl c) = decide (b = c) := by cases b <;> cases c <;> rfl
  rw [e]
  exact h⟩
theorem w_eqb {b c : Bool} (h : Q (.bl (decide (b = c))) H) : rEqU K (.bl b) (.bl c) H Q := .inl ⟨rfl, by
  have e : decide (V.bl b = V.bl c) = decide (b = c) := by cases b <;> cases c <;> rfl
  rw [e]
  exact h⟩
theorem w_same {A B : Prop} [Decidable A] [Decidable B] {D E : Prop} (h : A ↔ B) (q : E) : if (!decide (decide A = decide B)) = true then D else E := by
  have e : decide A = decide B := by rw [decide_eq_decide]; exact h
  rw [e, decide_eq_true (rfl : decide B = decide B)]
  exact iteF q
theorem w_same2 {A B : Prop} [Decidable A] [Decidable B] {D E : Prop} (h : A ↔ B) (q : E) : if decide (decide A = decide B) = true then E else D := by
  have e : decide A = decide B := by rw [decide_eq_decide]; exact h
  rw [e, decide_eq_true (rfl : decide B = decide B)]
  exact iteT q
end
/-! ### the shapes -/
inductive Kd where
  | still
  | drawn
  | step (n : Int)
  | turn (ns : List Int)
  | wth (p b : Int)
def kdD : Kd → PyData
  | .still => .tuple [.str "still"]
  | .drawn => .tuple [.str "drawn"]
  | .step n => .tuple [.str "step", .int n]
  | .turn ns => .tuple [.str "turn", .tuple (ns.map .int)]
  | .wth p b => .tuple [.str "with", .int p, .int b]
structure Fd where
  nm : Str
  br : Int
  kd : Kd
def fdD (f : Fd) : PyData := .tuple [.str f.nm, .int f.br, kdD f.kd]
structure Shp where
  fs : List Fd
  m : Int
def shD (s : Shp) : PyData := .tuple [.tuple (s.fs.map fdD), .int s.m]
def OkKd (place : Nat) (b : Int) : Kd → Prop
  | .still => True
  | .drawn => True
  | .step n => 0 ≤ n ∧ n < p2 b
  | .turn ns => 2 ≤ ns.length ∧ ns.length ≤ 12 ∧ (∀ n ∈ ns, 0 ≤ n ∧ n < p2 b) ∧ ns.Nodup
  | .wth p z => 0 ≤ p ∧ p < place ∧ -99 ≤ z ∧ z ≤ 99
def OkNm (z : Str) : Prop := 1 ≤ z.length ∧ z.length ≤ 8 ∧ ∀ c ∈ z.cps.toList, 97 ≤ c ∧ c ≤ 122
structure OkFd (place : Nat) (f : Fd) : Prop where
  nm : OkNm f.nm
  b0 : 1 ≤ f.br
  b1 : f.br ≤ 40
  kd : OkKd place f.br f.kd
structure OkShp (s : Shp) : Prop where
  l0 : 1 ≤ s.fs.length
  l1 : s.fs.length ≤ 12
  fd : ∀ i f, s.fs[i]? = some f → OkFd i f
  nd : (s.fs.map Fd.nm).Nodup
  m0 : 1 ≤ s.m
  m1 : s.m ≤ 1000000
theorem tupO_kd (k : Kd) : tupO (kdD k) := by
  cases k with
  | turn ns => exact ⟨trivial, tupOs_ints ns, trivial⟩
  | _ => simp [kdD, tupO, tupOs]
theorem tupO_fd (f : Fd) : tupO (fdD f) := ⟨trivial, trivial, tupO_kd _, trivial⟩
theorem tupO_fds (fs : List Fd) : tupOs (fs.map fdD) := tupOs_of fun d hd => by
  obtain ⟨n, _, rfl⟩ := List.mem_map.mp hd
  exact tupO_fd n
/-- heads of a shape -/
def OkHead : List Fd → List Int → Prop
  | [], [] => True
  | f :: fs, n :: ns => (0 ≤ n ∧ n < p2 f.br) ∧ OkHead fs ns
  | _, _ => False
theorem okHead_len : ∀ {fs : List Fd} {ns : List Int}, OkHead fs ns → ns.length = fs.length
  | [], [], _ => rfl
  | _ :: _, _ :: _, h => congrArg (· + 1) (okHead_len h.2)
  | [], _ :: _, h => h.elim
  | _ :: _, [], h => h.elim
theorem okHead_get : ∀ {fs : List Fd} {ns : List Int} {i : Nat} {f : Fd} {n : Int}, OkHead fs ns → fs[i]? = some f → ns[i]? = some n → 0 ≤ n ∧ n < p2 f.br
  | f :: _, n :: _, 0, _, _, h, e1, e2 => by
    simp at e1 e2
    subst e1 e2
    exact h.1
  | _ :: _, _ :: _, i + 1, _, _, h, e1, e2 => okHead_get (i := i) h.2 (by simpa using e1) (by simpa using e2)
  | [], [], _, _, _, _, e1, _ => by simp at e1
  | [], _ :: _, _, _, _, h, _, _ => h.elim
  | _ :: _, [], _, _, _, h, _, _ => h.elim
theorem okHead_snoc : ∀ {fs : List Fd} {ns : List Int} {f : Fd} {n : Int}, OkHead fs ns → 0 ≤ n → n < p2 f.br → OkHead (fs ++ [f]) (ns ++ [n])
  | [], [], _, _, _, h0, h1 => ⟨⟨h0, h1⟩, trivial⟩
  | _ :: _, _ :: _, _, _, h, h0, h1 => ⟨h.1, okHead_snoc h.2 h0 h1⟩
  | [], _ :: _, _, _, h, _, _ => h.elim
  | _ :: _, [], _, _, h, _, _ => h.elim
/-- r is the value so many places on in its row, going round -/
def GoneR (ns : List Int) (v m r : Int) : Prop := (v ∉ ns → r = v) ∧ (v ∈ ns → ns[((((ns.idxOf v : Nat) : Int) + m) % (ns.length : Int)).toNat]? = some r)
theorem GoneR.one {ns : List Int} {v m r r' : Int} (h : GoneR ns v m r) (h' : GoneR ns v m r') : r = r' := by
  by_cases c : v ∈ ns
  · exact Option.some.inj ((h.2 c).symm.trans (h'.2 c))
  · rw [h.1 c, h'.1 c]
/-- r is what the field's kind lets look for, ahead of the rest -/
def ExpK (fo ah : List Int) (more v : Int) : Kd → Int → Prop
  | .still, r => r = v
  | .drawn, r => r = v
  | .step n, r => r = v + more * n
  | .turn ns, r => GoneR ns v more r
  | .wth p b, r => ∃ x y, ah[p.toNat]? = some x ∧ fo[p.toNat]? = some y ∧ r = v + b * (x - y)
theorem ExpK.one {fo ah : List Int} {more v : Int} {k : Kd} {r r' : Int} (h : ExpK fo ah more v k r) (h' : ExpK fo ah more v k r') : r = r' := by
  cases k with
  | turn ns => exact GoneR.one h h'
  | wth p b =>
    obtain ⟨x, y, e1, e2, rfl⟩ := h
    obtain ⟨x', y', e3, e4, rfl⟩ := h'
    obtain rfl := Option.some.inj (e1.symm.trans e3)
    obtain rfl := Option.some.inj (e2.symm.trans e4)
    rfl
  | _ => exact Eq.trans h (Eq.symm h')
end Sh
/-! zip of two, sorted, min -/
namespace Sh
open PySem PySem.Spec PyProof.Rows L2
open RZ
section
variable {K : PySem.W.Frag} {σ : L2.St} {H : Hp} {Q : VK} {te : TE} {tt : TT} {tA : TA} {tb : TS} {nx : L2.St → Hp → Prop} {rt : VK} {a b : Addr} {xs ys : List V} {i1 i2 : Nat} {vs : List Nat}
def GoZip (K : PySem.W.Frag) (R : It → Hp → Prop) (vs : List V) (H1 : Hp) : Prop := ∃ a b xs ys, vs = [.ref a, .ref b] ∧ ((SqL K H1 a xs ∧ SqL K H1 b ys ∧ R (Itz K a b) H1) ∨ (SqT K H1 a xs ∧ SqT K H1 b ys ∧ R (ItzT K a b) H1))
theorem w_izip {R : It → Hp → Prop} (h : tA σ H fun vs H1 => GoZip K R vs H1) : iZipA K tA σ H R := h
theorem w_goZL {R : It → Hp → Prop} (h : SqL K H a xs) (h2 : SqL K H b ys) (q : R (Itz K a b) H) : GoZip K R [.ref a, .ref b] H := ⟨a, b, xs, ys, rfl, .inl ⟨h, h2, q⟩⟩
theorem w_goZT {R : It → Hp → Prop} (h : SqT K H a xs) (h2 : SqT K H b ys) (q : R (ItzT K a b) H) : GoZip K R [.ref a, .ref b] H := ⟨a, b, xs, ys, rfl, .inr ⟨h, h2, q⟩⟩
/-- for x, y in zip(xs, ys), lists of any lengths -/
theorem forZL (I : Nat → L2.St → Hp → Prop) (h0 : I 0 σ H) (hI : ∀ i σ' H', I i σ' H' → SqL K H' a xs ∧ SqL K H' b ys)
    (hs : ∀ (i : Nat) x y σ' H', xs[i]? = some x → ys[i]? = some y → I i σ' H' → ∀ H2, Same H' H2 → tb ⟨I (i + 1), rt, nx, I (i + 1)⟩ ((σ'.set i1 (some x)).set i2 (some y)) H2) (hd : ∀ σ' H', I (min xs.length ys.length) σ' H' → nx σ' H') :
    ForOk (Itz K a b) (gTup K 2 (gCons (gName i1) (gCons (gName i2) gNil))) tb nx rt σ H := by
  refine ⟨fun i m σ' H' => m = min xs.length ys.length - i ∧ i ≤ min xs.length ys.length ∧ I i σ' H', ⟨_, rfl, Nat.zero_le _, h0⟩, fun i m σ' H1 ⟨em, hi, w1⟩ => ?_⟩
  obtain ⟨s1, s2⟩ := hI _ _ _ w1
  by_cases hlt : i < min xs.length ys.length
  · have l1 : i < xs.length := by omega
    have l2 : i < ys.length := by omega
    refine .inr ⟨⟨xs, ys, xs[i], ys[i], s1, s2, List.getElem?_eq_getElem l1, List.getElem?_eq_getElem l2⟩, I (i + 1), fun σ2 H2 w2 => ⟨_, by omega, rfl, hlt, w2⟩, fun v H2 z => ?_⟩
    obtain ⟨T, x, y, rfl, hT, rfl, hx, hy⟩ := z
    exact ⟨T, _, rfl, SqT.of upd_same, rfl, _, _, rfl, _, _, rfl, rfl, hs i x y σ' H1 (hx xs s1) (hy ys s2) w1 _ (same_new hT)⟩
  · have e : i = min xs.length ys.length := by omega
    refine .inl ⟨⟨xs, ys, s1, s2, by omega⟩, hd σ' H1 ?_⟩
    rw [← e]
    exact w1
/-- [.. for x, y in zip(t, u)], tuples of any lengths -/
theorem lcZT (hx : SqT K H a xs) (hy : SqT K H b ys) (I : Nat → List V → Hp → Prop) (hst : Stb I) (hn : xs.length ≤ 1000000) (hI : ∀ i acc H', I i acc H' → acc.length ≤ i) (h0 : ∀ H', Same H H' → I 0 [] H')
    (hs : ∀ i x y acc H', xs[i]? = some x → ys[i]? = some y → Same H H' → I i acc H' → ∀ H2, Same H' H2 → ∀ (k : VK) (k' : Hp → Prop), (∀ z H4, Same H2 H4 → I (i + 1) (acc ++ [z]) H4 → k z H4) → (∀ H3, Same H2 H3 → I (i + 1) acc H3 → k' H3) →
      wipe (((wipe σ vs).set i1 (some x)).set i2 (some y)) vs = wipe σ vs ∧ tt (((wipe σ vs).set i1 (some x)).set i2 (some y)) H2 fun b H3 => if b = true then te (((wipe σ vs).set i1 (some x)).set i2 (some y)) H3 k else k' H3)
    (hd : ∀ D acc H', H D = none → Same H H' → H' D = some (.lst acc) → I (min xs.length ys.length) acc H' → Q (.ref D) H') :
    LcOk (ItzT K a b) (gTup K 2 (gCons (gName i1) (gCons (gName i2) gNil))) tt te vs σ Q H :=
  lc_gen (n := min xs.length ys.length) I hst (by omega) hI h0
    (fun i acc H' hi s1 _ => ⟨xs, ys, xs[i]'(by omega), ys[i]'(by omega), same_t s1 hx, same_t s1 hy, List.getElem?_eq_getElem (by omega), List.getElem?_eq_getElem (by omega)⟩)
    (fun _ _ s1 _ => ⟨xs, ys, same_t s1 hx, same_t s1 hy, by omega⟩)
    (fun i acc v H' H'' hi s1 w1 z => by
      obtain ⟨T, x, y, rfl, hT, rfl, ex, ey⟩ := z
      intro k k' hk hk'
      refine ⟨T, _, rfl, SqT.of upd_same, rfl, _, _, rfl, _, _, rfl, rfl, ?_⟩
      exact hs i x y acc H' (ex xs (same_t s1 hx)) (ey ys (same_t s1 hy)) s1 w1 _ (same_new hT) k k' (fun z H4 e => hk z H4 ((same_new hT).trans e)) fun H3 e => hk' H3 ((same_new hT).trans e))
    hd
theorem w_catL (h : H a = some (.lst xs)) (h2 : H b = some (.lst ys)) (hl : xs.length + ys.length ≤ 1000000) (q : ∀ p H', H p = none → Same H H' → H' p = some (.lst (xs ++ ys)) → Q (.ref p) H') : rAddN K (.ref a) (.ref b) H Q :=
  .inr (.inr (.inl ⟨a, b, xs, ys, rfl, rfl, h, h2, Nat.le_trans hl (by decide), fun p hp => q p _ hp (same_new hp) upd_same⟩))
theorem w_min {ns : List Int} (h : SqL K H a (ns.map V.int)) (h0 : 0 < ns.length) (q : ∀ m, m ∈ ns → (∀ y, y ∈ ns → m ≤ y) → Q (.int m) H) : rMin K [.ref a] H Q := ⟨a, ns, rfl, h, h0, q⟩
def RgNew (Q : VK) (x : V) (H1 : Hp) : Prop := ∃ n : Int, x = .int n ∧ (RgOk 0 n ∧ ∀ q, H1 q = none → Q (.ref q) (upd H1 q (.lst (rgV 0 n))))
theorem w_lstRg {te : TE} (h : te σ H fun x H1 => RgNew Q x H1) : tLstRg (tRg1 te) σ H Q := h
theorem w_rgN {n : Int} (h0 : 0 ≤ n) (h1 : n ≤ 1000000) (q : ∀ p H', H p = none → Same H H' → H' p = some (.lst (((List.range n.toNat).map fun i : Nat => (i : Int)).map V.int)) → Q (.ref p) H') : RgNew Q (.int n) H :=
  ⟨n, rfl, RgOk.of_le (by omega) (by omega) (by omega) (by omega), fun p hp => q p _ hp (same_new hp) (by
    rw [upd_same, List.map_map]
    unfold rgV
    rw [Int.sub_zero]
    have e : (fun i : Nat => V.int (0 + (i : Int))) = V.int ∘ fun i : Nat => (i : Int) := by
      funext i
      show V.int (0 + (i : Int)) = V.int (i : Int)
      rw [Int.zero_add]
    rw [e])⟩
theorem w_neD {v u : V} {d e : PyData} (h : Dq K H v d) (h' : Dq K H u e) (s1 : SeqAt.shaped d = true) (s2 : SeqAt.shaped e = true) (q : Q (.bl (!PyData.eqv d e)) H) : rNeU K v u H Q := .inr ⟨d, e, dq_dp h, dq_dp h', s1, s2, q⟩
theorem w_eqD {v u : V} {d e : PyData} (h : Dq K H v d) (h' : Dq K H u e) (s1 : SeqAt.shaped d = true) (s2 : SeqAt.shaped e = true) (q : Q (.bl (PyData.eqv d e)) H) : rEqU K v u H Q := .inr ⟨d, e, dq_dp h, dq_dp h', s1, s2, q⟩
theorem eqv_nil (ns : List Int) : PyData.eqv (.list (ns.map .int)) (.list []) = decide (ns = []) := by
  cases ns with
  | nil => rfl
  | cons n r => rfl
theorem w_neNil {p : Addr} {ns : List Int} (h : SqL K H a (ns.map V.int)) (h' : SqL K H p []) (q : Q (.bl (!decide (ns = []))) H) : rNeU K (.ref a) (.ref p) H Q :=
  w_neD (.lst h (dqs_ints ns)) (.lst h' .nil) (PySem.W.shaped_ints ns) (PySem.W.shaped_ints []) (by rw [eqv_nil]; exact q)
end
theorem atI_zero {α : Type} {x : α} {r : List α} : atI (x :: r) 0 = some x := by
  unfold atI ixN
  rw [if_pos (by decide), if_pos (by rw [List.length_cons]; omega)]
  rfl
theorem atI_one {α : Type} {x y : α} {r : List α} : atI (x :: y :: r) 1 = some y := by
  unfold atI ixN
  rw [if_pos (by decide), if_pos (by rw [List.length_cons, List.length_cons]; omega)]
  rfl
theorem ints_at {ns : List Int} {i : Nat} {x : V} (h : (ns.map V.int)[i]? = some x) : ∃ n, ns[i]? = some n ∧ x = .int n := by
  rw [List.getElem?_map] at h
  cases e : ns[i]? with
  | none => rw [e] at h; cases h
  | some n => rw [e] at h; exact ⟨n, rfl, (Option.some.inj h).symm⟩
theorem map_at {α : Type} {g : α → PyData} {l : List α} {i : Nat} {d : PyData} (h : (l.map g)[i]? = some d) : ∃ n, l[i]? = some n ∧ d = g n := by
  rw [List.getElem?_map] at h
  cases e : l[i]? with
  | none => rw [e] at h; cases h
  | some n => rw [e] at h; exact ⟨n, rfl, (Option.some.inj h).symm⟩
/-! ### the window's least width (k07) -/
def InWin (w : Int) (os : List Int) (wd bl : Int) : Prop := bl < p2 wd ∧ ∀ o ∈ os, (o + bl) % p2 w < p2 wd
structure Tight (w : Int) (os : List Int) (wd bl : Int) : Prop where
  w0 : 0 ≤ wd
  b0 : 0 ≤ bl
  win : InWin w os wd bl
  least : ∀ wd' bl', 0 ≤ wd' → 0 ≤ bl' → InWin w os wd' bl' → wd ≤ wd' ∧ (wd' = wd → bl ≤ bl')
theorem Tight.one {w : Int} {os : List Int} {wd bl wd' bl' : Int} (h : Tight w os wd bl) (h' : Tight w os wd' bl') : wd = wd' ∧ bl = bl' := by
  have a := h.least wd' bl' h'.w0 h'.b0 h'.win
  have b := h'.least wd bl h.w0 h.b0 h.win
  have e : wd = wd' := by omega
  have c := a.2 e.symm
  have d := b.2 e
  exact ⟨e, by omega⟩
theorem least_of {α : Type} (f : α → Int) : ∀ (a : α) (l : List α), ∃ m ∈ a :: l, ∀ x ∈ a :: l, f m ≤ f x
  | a, [] => ⟨a, List.mem_cons_self, fun x hx => by rw [List.mem_singleton.mp hx]; exact Int.le_refl _⟩
  | a, b :: r => by
    obtain ⟨m, hm, h⟩ := least_of f b r
    by_cases c : f a ≤ f m
    · refine ⟨a, List.mem_cons_self, fun x hx => ?_⟩
      rcases List.mem_cons.mp hx with rfl | hx
      · exact Int.le_refl _
      · exact Int.le_trans c (h x hx)
    · refine ⟨m, List.mem_cons_of_mem _ hm, fun x hx => ?_⟩
      rcases List.mem_cons.mp hx with rfl | hx
      · omega
      · exact h x hx
/-- below some place where an offset or nought begins, it is no worse -/
theorem win_cand {w : Int} {os : List Int} {wd bl : Int} (hw : wd ≤ w) (b0 : 0 ≤ bl) (h : InWin w os wd bl) : ∃ c, 0 ≤ c ∧ c ≤ bl ∧ InWin w os wd c ∧ (c = 0 ∨ ∃ o ∈ os, c = (0 - o) % p2 w) := by
  have pw := p2_pos w
  have le := p2_le hw
  have nn : ∀ x, 0 ≤ x % p2 w := fun x => Int.emod_nonneg _ (Int.ne_of_gt pw)
  obtain ⟨m, hm, hl⟩ := least_of (fun o => (o + bl) % p2 w) 0 os
  have hb : (0 + bl) % p2 w = bl := by rw [Int.zero_add]; exact Int.emod_eq_of_lt b0 (by have := h.1; omega)
  have h0 : (m + bl) % p2 w ≤ bl := by
    have z : (m + bl) % p2 w ≤ (0 + bl) % p2 w := hl 0 List.mem_cons_self
    omega
  have d0 := nn (m + bl)
  have e1 := Int.mul_ediv_add_emod (m + bl) (p2 w)
  refine ⟨bl - (m + bl) % p2 w, by omega, by omega, ⟨by have := h.1; omega, fun o ho => ?_⟩, ?_⟩
  · have e2 := Int.mul_ediv_add_emod (o + bl) (p2 w)
    have z : (m + bl) % p2 w ≤ (o + bl) % p2 w := hl o (List.mem_cons_of_mem _ ho)
    have z2 := h.2 o ho
    have lt := Int.emod_lt_of_pos (o + bl) pw
    have e3 : o + (bl - (m + bl) % p2 w) = ((o + bl) % p2 w - (m + bl) % p2 w) + p2 w * ((o + bl) / p2 w) := by omega
    rw [e3, Int.add_mul_emod_self_left, Int.emod_eq_of_lt (by omega) (by omega)]
    omega
  · rcases List.mem_cons.mp hm with rfl | hm
    · left
      omega
    · right
      refine ⟨m, hm, ?_⟩
      have e3 : 0 - m = (bl - (m + bl) % p2 w) + p2 w * (-((m + bl) / p2 w)) := by
        rw [Int.mul_neg]
        omega
      have lt := h.1
      rw [e3, Int.add_mul_emod_self_left]
      exact (Int.emod_eq_of_lt (by omega) (by omega)).symm
theorem tight_of {w : Int} {os : List Int} {wd bl : Int} (w0 : 0 ≤ wd) (hw : wd ≤ w) (b0 : 0 ≤ bl) (win : InWin w os wd bl)
    (least : ∀ wd' c, 0 ≤ wd' → wd' ≤ w → 0 ≤ c → InWin w os wd' c → (c = 0 ∨ ∃ o ∈ os, c = (0 - o) % p2 w) → wd ≤ wd' ∧ (wd' = wd → bl ≤ c)) : Tight w os wd bl := by
  refine ⟨w0, b0, win, fun wd' bl' h0 h1 hi => ?_⟩
  by_cases c : wd' ≤ w
  · obtain ⟨x, x0, x1, x2, x3⟩ := win_cand c h1 hi
    have z := least wd' x h0 c x0 x2 x3
    exact ⟨z.1, fun e => Int.le_trans (z.2 e) x1⟩
  · exact ⟨by omega, fun e => by omega⟩
end Sh
/-! texts: walked, made lists and tuples of, joined from behind -/
namespace Sh
open PySem PySem.Spec PyProof.Rows L2
/-- a text's signs, each a text -/
def chs (z : Str) : List V := z.cps.toList.map fun c => V.str ⟨#[c]⟩
theorem chs_len (z : Str) : (chs z).length = z.length := by
  unfold chs
  rw [List.length_map, Array.length_toList]
  rfl
theorem chs_vals {z : Str} {acc : Array Value} (h : ItemsOf (SignAt z) acc z.cps.size) : Vals (chs z) acc.toList := by
  refine vals_of_at ?_ fun j x u h1 h2 => ?_
  · unfold chs
    rw [List.length_map, Array.length_toList, Array.length_toList, h.1]
  · rw [Array.getElem?_toList] at h2
    obtain ⟨c, t, e1, rfl⟩ := h.2 j u h2
    unfold chs at h1
    rw [List.getElem?_map, Array.getElem?_toList, e1] at h1
    cases h1
    exact ⟨t, rfl⟩
def callor {X : Cx} {f : Value} {r r' : List V → Hp → VK → Prop} (h : CallR X f r) (h' : CallR X f r') : CallR X f (fun vs H Q => r vs H Q ∨ r' vs H Q) := by
  intro pins s σ H vs us Q I rv q
  rcases q with q | q
  · exact h pins s σ H vs us Q I rv q
  · exact h' pins s σ H vs us Q I rv q
section
variable {X : Cx}
def rListStr : List V → Hp → VK → Prop := fun vs H Q => ∃ z, vs = [.str z] ∧ z.length ≤ sizeLine ∧ ∀ p, H p = none → Q (.ref p) (upd H p (.lst (chs z)))
theorem call_listStr (hc : X.calm = true) : CallR X (.type "list") rListStr := by
  intro pins s σ H vs us Q I r h
  obtain ⟨z, rfl, hz, q⟩ := h
  obtain ⟨u, rfl, ru⟩ := vals1 r
  obtain ⟨t, rfl⟩ := ru
  refine call_list_str (I.ok.hd hc) z t (fun h' tk acc c k e hi => ?_) hz
  refine ⟨.ref s.heap.objs.size, upd H s.heap.objs.size (.lst (chs z)), I.laid (t' := tk) k (Nat.le_refl _) ⟨?_, acc.toList, c, chs_vals hi, ?_⟩, rfl, q _ (I.hok.fresh (Nat.le_refl _))⟩
  · rw [chs_len]
    exact hz
  · rw [Array.toArray_toList]
    exact e
def rTupStr : List V → Hp → VK → Prop := fun vs H Q => ∃ z, vs = [.str z] ∧ z.length ≤ sizeLine ∧ ∀ (p : Addr) (o : Obj), H p = none → o.dict = none → Q (.ref p) (upd H p (.frz o (.tup (chs z))))
theorem call_tupStr (hc : X.calm = true) : CallR X (.type "tuple") rTupStr := by
  intro pins s σ H vs us Q I r h
  obtain ⟨z, rfl, hz, q⟩ := h
  obtain ⟨u, rfl, ru⟩ := vals1 r
  obtain ⟨t, rfl⟩ := ru
  refine call_tuple_str (I.ok.hd hc) z t (fun h' tk acc k hi => ?_) hz
  have I1 : Inv X pins σ H { s with heap := h', toks := tk } := I.kept k
  have hg := Heap.get?_push_size h' (o := { cls := .type "tuple", data := .seq acc }) rfl
  refine ⟨.ref h'.objs.size, upd H h'.objs.size (.frz { cls := .type "tuple", data := .seq acc } (.tup (chs z))), I1.laid (t' := tk) (fun b o e => Heap.get?_push_of_some _ e) (Nat.le_refl _) ⟨hg, ?_, acc.toList, chs_vals hi, ⟨_, hg, rfl, ?_⟩⟩, rfl, q _ _ (I1.hok.fresh (Nat.le_refl _)) rfl⟩
  · rw [chs_len]
    exact hz
  · exact ⟨0, by rw [Array.toArray_toList]⟩
def rListU (K : PySem.W.Frag) : List V → Hp → VK → Prop := fun vs H Q => rListOf K vs H Q ∨ rListStr vs H Q
theorem u_list (hc : X.calm = true) : CallR X (.type "list") (rListU X.K) := callor call_list_of (call_listStr hc)
def rTupleU (K : PySem.W.Frag) : List V → Hp → VK → Prop := fun vs H Q => rTupleOfN K vs H Q ∨ rTupStr vs H Q
theorem u_tuple (hc : X.calm = true) : CallR X (.type "tuple") (rTupleU X.K) := callor call_tuple_ofN (call_tupStr hc)
/-- s.index(t), found -/
def rIndexS : V → List V → Hp → VK → Prop := fun x xs H Q => ∃ (a b : Str) (k : Nat), x = .str a ∧ xs = [.str b] ∧ (∃ r, Builtin.Str.occurrences a b 0 a.length 1 = k :: r) ∧ Q (.int (k : Nat)) H
theorem mt_indexS : MtR X "str.index" rIndexS := by
  intro pins s σ H x xs v us Q I rx rs h
  obtain ⟨a, b, k, rfl, rfl, ⟨r, e⟩, q⟩ := h
  obtain ⟨t, rfl⟩ := rx
  obtain ⟨u, rfl, u2, rfl⟩ := vals1 rs
  exact PySem.SC.index e ⟨.int (k : Nat), H, I.tok _, ⟨_, rfl⟩, q⟩
/-! ### sep.join(reversed(xs)) -/
theorem join_rev {prog : Program} {w : World} {A : Around} {E : Value → Shared → Prop} {s : Shared} {x : Str} {t : Tok} {Q : Value → Shared → Prop} {it l : Addr} {items : Array Value} (hh : A.handled = none)
    (hit : s.heap.IsRevIter it l ((items.size : Int) - 1)) (hl : s.heap.IsList l items) (hne : l ≠ it) (hn : items.size ≤ sizeLine)
    (hq : ∀ (h' : Heap) (acc : Array Value), (∀ b o, b ≠ it → s.heap.get? b = some o → h'.get? b = some o) → ItemsOf (fun i v => items[items.size - 1 - i]? = some v) acc items.size → ∃ k : List (Str × Tok), acc.toList = strValues k ∧ JoinOk x (k.map (·.1)) = true ∧ ∀ t' tk, Q (.str (Txt.join x (k.map (·.1))) t') { s with heap := h', toks := tk }) :
    wpAny (model prog w) A (call (.builtin "str.join") [.str x t, .ref it]) Q E s := by
  refine wpAny_call (codeAny_call_builtin F.slot_str_join.plain F.entry_str_join (F.slot_str_join.check _ _ _ _ _ _ _ _ (typeIs_str _ _ _) (F.args_str_join_2 _ _) ?_))
  rw [join_tree_other]
  refine wpAny_bind (wpAny_typeOf hit.typeIs ?_)
  show wpAny _ A.in1 ((pyIter (.ref it)).tryCatch _ >>= fun it => collect it >>= fun items => joinTail x items) _ _ s
  refine wpAny_bind (wpAny_tryCatch (wpAny_pyIter_revIter hit ?_))
  refine wpAny_bind (RT.collect_rev (A := A.in1) hh hit hl hne hn fun h' tk acc hk hacc => ?_)
  obtain ⟨k, ek, hok, hpost⟩ := hq h' acc hk hacc
  rw [ek]
  unfold JoinOk at hok
  rw [Bool.not_eq_true'] at hok
  have g : Gives (joinTail x (strValues k)) (joinMade x k) := by
    have g0 := gives_joinTail x k hok
    cases k with
    | nil => exact g0
    | cons p r => cases r with
      | nil => exact g0
      | cons q r' => exact g0
  exact g prog w A (wants Q E) _ (post_join k ⟨joinFit_length hok, fun t' tk' => hpost t' tk'⟩)
def tJoinRev (K : PySem.W.Frag) (to te : TE) : TE := fun σ H Q => to σ H fun x H1 => (∃ a, x = .str a) ∧ te σ H1 fun y H2 => ∃ (a : Str) (p : Addr) (ys : List Str), x = .str a ∧ y = .ref p ∧ SqL K H2 p (ys.map V.str) ∧ (ys.map (·.length)).sum + ys.length * a.length ≤ 16777216 ∧ Q (.str (Txt.join a ys.reverse)) H2
theorem pe_joinRev {o e : Expr} {to te : TE} {p2 pos2 apos pos : Pos} (hc : X.calm = true) (hg2 : Gl X "reversed") (hm2 : X.mg "reversed" = none) (ho : PE X o to) (he : PE X e te)
    (hs : starEach [e] X.env = (false, eval e X.env) :: starEach [] X.env := by rfl)
    (hs2 : starEach [.Call (.Name "reversed" p2) [e] [] pos2] X.env = [(false, eval (.Call (.Name "reversed" p2) [e] [] pos2) X.env)] := by rfl)
    (hbase : attributeBase o "join" X.env (eval o X.env) = eval o X.env := by rfl) (hline : (apos.endLine == pos.line) = true := by rfl) :
    PE X (.Call (.Attribute o "join" apos) [.Call (.Name "reversed" p2) [e] [] pos2] [] pos) (tJoinRev X.K to te) := by
  refine ⟨fun pins s σ H Q I h => ?_⟩
  refine PySem.Call_method1 hbase hs2 hline (thn (ho.run pins s σ H _ I h) fun v s1 z => ?_)
  obtain ⟨x, H1, I1, r1, ⟨a, rfl⟩, q1⟩ := z
  obtain ⟨t, rfl⟩ := _root_.id r1
  refine ⟨"str", _, F.plainAttrs_str, F.slot_str_join, F.type_str_join, typeIs_str _ _ _, (fun _ e => nomatch e), Calls.callWith_builtin rfl (Calls.evalArgs_plain (Calls.spliced_cons ?_))⟩
  refine Call_ (ld_blt I1 hg2 hm2 PyProof.Rows.boot_reversed (PyProof.Rows.callWith_type1 (args_cons (thn (he.run pins s1 σ H1 _ I1 q1) fun u s2 z => args_nil ?_) hs) hs rfl))
  obtain ⟨y, H2, I2, r2, a', p, ys, ea, rfl, hq, hz, q⟩ := z
  cases ea
  obtain rfl : u = Value.ref p := r2
  obtain ⟨its, rv, p', hz2⟩ := I2.list hq
  refine call_reversed_list p'.isList (Calls.spliced_nil ?_)
  have k0 : ∀ b o, s2.heap.get? b = some o → (s2.heap.push (revObj p ((its.toArray.size : Int) - 1))).get? b = some o := fun b o e => Heap.get?_push_of_some _ e
  have I3 : Inv X pins σ H2 { s2 with heap := s2.heap.push (revObj p ((its.toArray.size : Int) - 1)) } := I2.kept (t' := s2.toks) k0
  obtain ⟨f0, f1, f2, f3, f4, f5⟩ := I2.fpOk (H' := H2) (b := s2.heap.objs.size) (Nat.le_refl _) (I2.hok.fresh (Nat.le_refl _))
  have hl := p'.isList
  obtain ⟨ol, hol, _⟩ := _root_.id hl
  have hne : p ≠ s2.heap.objs.size := Nat.ne_of_lt (Heap.lt_size hol)
  have hn : its.toArray.size ≤ sizeLine := by rw [List.size_toArray, ← rv.length]; exact hz2
  refine join_rev (s := { s2 with heap := s2.heap.push (revObj p ((its.toArray.size : Int) - 1)) }) (I2.ok.hd hc) ⟨_, Heap.get?_push_size _ rfl, rfl, rfl⟩ (hl.push _) hne hn fun h' acc hk hi => ?_
  have r4 := RT.vals_rev rv hi
  rw [← List.map_reverse] at r4
  obtain ⟨k, hv, ht⟩ := strsAre_values (strs_of_vals r4)
  refine ⟨k, hv, ?_, fun t' tk => ?_⟩
  · rw [ht]
    refine joinOk_of ?_
    rw [List.map_reverse, List.sum_reverse, List.length_reverse]
    exact hz
  · rw [ht]
    exact ⟨.str _, H2, I3.turned (t' := tk) (fun b o hb e => hk b o hb e) f0 f1 f3 f4 f5, ⟨t', rfl⟩, q⟩
end
section
variable {K : PySem.W.Frag} {σ : L2.St} {H : Hp} {Q : VK} {to te : TE} {z a b : Str} {ys : List Str} {p : Addr} {tA : TA}
theorem w_joinRev (h : to σ H fun x H1 => (∃ a, x = .str a) ∧ te σ H1 fun y H2 => ∃ (a : Str) (p : Addr) (ys : List Str), x = .str a ∧ y = .ref p ∧ SqL K H2 p (ys.map V.str) ∧ (ys.map (·.length)).sum + ys.length * a.length ≤ 16777216 ∧ Q (.str (Txt.join a ys.reverse)) H2) : tJoinRev K to te σ H Q := h
theorem w_isS {R : Prop} (q : R) : (∃ c, V.str a = .str c) ∧ R := ⟨⟨a, rfl⟩, q⟩
theorem w_joinR (h : SqL K H p (ys.map V.str)) (hz : (ys.map (·.length)).sum + ys.length * a.length ≤ 16777216) (q : Q (.str (Txt.join a ys.reverse)) H) :
    ∃ (a' : Str) (p' : Addr) (ys : List Str), V.str a = .str a' ∧ V.ref p = .ref p' ∧ SqL K H p' (ys.map V.str) ∧ (ys.map (·.length)).sum + ys.length * a'.length ≤ 16777216 ∧ Q (.str (Txt.join a' ys.reverse)) H := ⟨a, p, ys, rfl, rfl, h, hz, q⟩
theorem w_listStr (h : z.length ≤ sizeLine) (q : ∀ p H', H p = none → Same H H' → H' p = some (.lst (chs z)) → Q (.ref p) H') : rListU K [.str z] H Q := .inr ⟨z, rfl, h, fun p hp => q p _ hp (same_new hp) upd_same⟩
theorem w_listUL {xs : List V} (h : SqL K H p xs) (q : ∀ p H', H p = none → Same H H' → H' p = some (.lst xs) → Q (.ref p) H') : rListU K [.ref p] H Q := .inl (w_listL h q)
theorem w_listUT {xs : List V} (h : SqT K H p xs) (q : ∀ p H', H p = none → Same H H' → H' p = some (.lst xs) → Q (.ref p) H') : rListU K [.ref p] H Q := .inl (w_listT h q)
theorem w_tupStr (h : z.length ≤ sizeLine) (q : ∀ p H', H p = none → Same H H' → TupN H' p (chs z) → Q (.ref p) H') : rTupleU K [.str z] H Q := .inr ⟨z, rfl, h, fun p o hp hd => q p _ hp (same_new hp) ⟨o, hd, upd_same⟩⟩
theorem w_tupleUN {xs : List V} (h : SqL K H p xs) (q : ∀ p H', H p = none → Same H H' → TupN H' p xs → Q (.ref p) H') : rTupleU K [.ref p] H Q := .inl (w_tupleN h q)
theorem w_tupleUT {xs : List V} (h : SqT K H p xs) (q : Q (.ref p) H) : rTupleU K [.ref p] H Q := .inl (w_tupleT h q)
theorem w_indexS {k : Nat} (h : ∃ r, Builtin.Str.occurrences a b 0 a.length 1 = k :: r) (q : Q (.int (k : Nat)) H) : rIndexS (.str a) [.str b] H Q := ⟨a, b, k, rfl, rfl, h, q⟩
abbrev rJoinU (K : PySem.W.Frag) : V → List V → Hp → VK → Prop := fun x xs H Q => ∃ a p, ∃ ys : List Str, x = .str a ∧ xs = [.ref p] ∧ (SqL K H p (ys.map V.str) ∨ SqT K H p (ys.map V.str)) ∧ (ys.map (·.length)).sum + ys.length * a.length ≤ 16777216 ∧ Q (.str (Txt.join a ys)) H
theorem w_m1 {r : V → List V → Hp → VK → Prop} (h : to σ H fun x H1 => (∃ a, x = .str a) ∧ te σ H1 fun y H2 => r x [y] H2 Q) : tM1 r to te σ H Q := h
theorem w_joinL (h : SqL K H p (ys.map V.str)) (hz : (ys.map (·.length)).sum + ys.length * a.length ≤ 16777216) (q : Q (.str (Txt.join a ys)) H) : rJoinU K (.str a) [.ref p] H Q := ⟨a, p, ys, rfl, rfl, .inl h, hz, q⟩
theorem w_joinT (h : SqT K H p (ys.map V.str)) (hz : (ys.map (·.length)).sum + ys.length * a.length ≤ 16777216) (q : Q (.str (Txt.join a ys)) H) : rJoinU K (.str a) [.ref p] H Q := ⟨a, p, ys, rfl, rfl, .inr h, hz, q⟩
theorem w_muls {n : Int} (hm : MulOk a n) (q : Q (.str (Txt.mul a n)) H) : rMulU K (.str a) (.int n) H Q := .inr (.inr (.inl ⟨a, n, rfl, rfl, hm, q⟩))
theorem w_inS {c : Nat} (q : Q (.bl (decide (c ∈ z.cps.toList))) H) : rInU K (.str ⟨#[c]⟩) (.str z) H Q := .inr ⟨c, z, rfl, rfl, q⟩
end
section
variable {K : PySem.W.Frag} {σ : L2.St} {H : Hp} {Q : VK} {te : TE} {tt : TT} {g : TG} {vs : List Nat} {tb : TS} {nx : L2.St → Hp → Prop} {rt : VK} {z : Str}
/-- [.. for c in z], z a text -/
theorem lcS (I : Nat → List V → Hp → Prop) (hst : Stb I) (hn : z.length ≤ 1000000) (hI : ∀ i acc H', I i acc H' → acc.length ≤ i) (h0 : ∀ H', Same H H' → I 0 [] H')
    (hs : ∀ i c acc H', z.cps.toList[i]? = some c → Same H H' → I i acc H' → ∀ (k : VK) (k' : Hp → Prop), (∀ y H4, Same H' H4 → I (i + 1) (acc ++ [y]) H4 → k y H4) → (∀ H3, Same H' H3 → I (i + 1) acc H3 → k' H3) →
      g (.str ⟨#[c]⟩) (wipe σ vs) H' fun σ2 H2 => wipe σ2 vs = wipe σ vs ∧ tt σ2 H2 fun b H3 => if b = true then te σ2 H3 k else k' H3)
    (hd : ∀ D acc H', H D = none → Same H H' → H' D = some (.lst acc) → I z.length acc H' → Q (.ref D) H') : LcOk (Its z) g tt te vs σ Q H :=
  lc_gen (n := z.length) I hst hn hI h0 (fun i acc H' hi _ _ => hi) (fun _ _ _ _ => Nat.le_refl _) (fun i acc x H' H'' hi s1 w1 y => by
    obtain ⟨e1, c, e2, e3⟩ := y
    subst e1
    subst e3
    exact hs i c acc _ (by rw [Array.getElem?_toList]; exact e2) s1 w1) hd
/-- for c in z, z a text -/
theorem forS (I : Nat → L2.St → Hp → Prop) (h0 : I 0 σ H)
    (hs : ∀ (i : Nat) c σ' H', z.cps.toList[i]? = some c → I i σ' H' → g (.str ⟨#[c]⟩) σ' H' fun σ2 H2 => tb ⟨I (i + 1), rt, nx, I (i + 1)⟩ σ2 H2) (hd : ∀ σ' H', I z.length σ' H' → nx σ' H') : ForOk (Its z) g tb nx rt σ H := by
  refine ⟨fun i m σ' H' => m = z.length - i ∧ i ≤ z.length ∧ I i σ' H', ⟨_, rfl, Nat.zero_le _, h0⟩, fun i m σ' H1 ⟨em, hi, w1⟩ => ?_⟩
  by_cases hlt : i < z.length
  · refine .inr ⟨hlt, I (i + 1), fun σ2 H2 w2 => ⟨_, by omega, rfl, hlt, w2⟩, fun v H2 y => ?_⟩
    obtain ⟨e1, c, e2, e3⟩ := y
    subst e1
    subst e3
    exact hs i c σ' _ (by rw [Array.getElem?_toList]; exact e2) w1
  · have e : i = z.length := by omega
    subst e
    exact .inl ⟨Nat.le_refl _, hd σ' H1 w1⟩
end
/-! ### a text's signs -/
abbrev cz (z : Str) : List Nat := z.cps.toList
theorem cz_len (z : Str) : (cz z).length = z.length := Array.length_toList
theorem cz_app (a b : Str) : cz (a ++ b) = cz a ++ cz b := by
  show (a.cps ++ b.cps).toList = _
  rw [Array.toList_append]
theorem cz_inj {a b : Str} (h : cz a = cz b) : a = b := by
  obtain ⟨x⟩ := a
  obtain ⟨y⟩ := b
  have e : x = y := Array.toList_inj.mp h
  rw [e]
theorem cz_fold (g : Array Nat) : ∀ (ys : List Str) (acc : Array Nat), (ys.foldl (fun acc p => acc ++ g ++ p.cps) acc).toList = acc.toList ++ (ys.map fun p => g.toList ++ cz p).flatten
  | [], acc => by simp
  | y :: r, acc => by
    rw [List.foldl_cons, cz_fold g r, Array.toList_append, Array.toList_append, List.map_cons, List.flatten_cons, List.append_assoc, List.append_assoc, List.append_assoc]
theorem cz_join (ys : List Str) : cz (Txt.join "" ys) = (ys.map cz).flatten := by
  cases ys with
  | nil => rfl
  | cons y r =>
    show ((r.foldl (fun acc p => acc ++ ("" : Str).cps ++ p.cps) y.cps)).toList = _
    rw [cz_fold]
    rw [List.map_cons, List.flatten_cons]
    rfl
theorem cz_mulfold (x : Array Nat) : ∀ (n : Nat) (acc : Array Nat), ((List.replicate n x).foldl (· ++ ·) acc).toList = acc.toList ++ (List.replicate n x.toList).flatten
  | 0, acc => by simp
  | n + 1, acc => by
    rw [List.replicate_succ, List.foldl_cons, cz_mulfold x n, Array.toList_append, List.replicate_succ, List.flatten_cons, List.append_assoc]
theorem cz_mul {a : Str} {n : Int} : cz (Txt.mul a n) = (List.replicate n.toNat (cz a)).flatten := by
  unfold Txt.mul
  by_cases h : n < 1
  · rw [if_pos h, show n.toNat = 0 by omega]
    rfl
  · rw [if_neg h]
    by_cases h2 : (n == 1 || a.length == 0) = true
    · rw [if_pos h2]
      rcases Bool.or_eq_true_iff.mp h2 with e | e
      · have e2 : n = 1 := eq_of_beq e
        subst e2
        show cz a = (cz a) ++ []
        rw [List.append_nil]
      · have e2 : (cz a).length = 0 := by rw [cz_len]; exact eq_of_beq e
        rw [List.eq_nil_of_length_eq_zero e2]
        simp
    · rw [if_neg h2]
      show ((List.replicate n.toNat a.cps).foldl (· ++ ·) #[]).toList = _
      rw [cz_mulfold]
      simp
theorem cz_cut (z : Str) (lo hi : Option Int) : cz (cutS z lo hi) = cutD (cz z) lo hi := by
  unfold cutS cutD
  show (List.toArray _).toList = _
  rw [List.toList_toArray, cz_len]
theorem mul_ok {a : Str} {n : Int} (h0 : 0 ≤ n) (h1 : n ≤ 1000000) (h2 : a.length ≤ 8) : MulOk a n := by
  refine ⟨by simp only [Bool.or_eq_false_iff, decide_eq_false_iff_not]; omega, fun h _ => ?_, fun _ _ => ?_⟩
  · have h3 : ((a.length : Nat) : Int) * n ≤ 8 * n := Int.mul_le_mul_of_nonneg_right (by omega) h0
    have e : ((2 : Int) ^ 63 - 1) = 9223372036854775807 := by decide
    rw [e]
    have h4 : ((a.length : Nat) : Int) ≤ 9223372036854775807 / n := Int.le_ediv_of_mul_le (by omega) (by omega)
    omega
  · unfold Builtin.Str.tooLong
    have h3 : a.length * n.toNat ≤ 8 * n.toNat := Nat.mul_le_mul_right _ h2
    rw [decide_eq_false_iff_not, sizeLine_eq]
    omega
/-! ### dicts -/
section
variable {σ : L2.St} {H : Hp} {Q : VK}
theorem w_dnewK (q : ∀ p H', H p = none → Same H H' → H' p = some (.dK []) → Q (.ref p) H') : tDNewK σ H Q := fun p hp => q p _ hp (same_new hp) upd_same
theorem w_disp1 {k : Str} {x : V} (q : ∀ p H' kvs, H p = none → Same H H' → H' p = some (.dK kvs) → Q (.ref p) H') : tDisp [(tC (.str k), tC x)] σ H Q := fun p hp =>
  ⟨upd_same, [(.inr k, x)], rfl, (by decide : 1 ≤ 15), q p _ _ hp (same_mut (same_new hp) hp) upd_same⟩
end
/-! ### numbers and their bits -/
section
variable {H : Hp} {Q : VK}
abbrev rDivmod : List V → Hp → VK → Prop := fun xs H Q => ∃ i j, xs = [V.int i, V.int j] ∧ CDivP i j ∧ ∀ p, H p = none → Q (.ref p) (upd H p (.tup [.int (i / j), .int (i % j)]))
theorem w_divmod2 {i : Int} (q : ∀ p H', H p = none → Same H H' → H' p = some (.tup [.int (i / 2), .int (i % 2)]) → Q (.ref p) H') : rDivmod [.int i, .int 2] H Q :=
  ⟨i, 2, rfl, ⟨by decide, PyProof.noPylong_small (by decide)⟩, fun p hp => q p _ hp (same_new hp) upd_same⟩
end
/-- the place's sign -/
def sgn (n : Int) (i : Nat) : Nat := 48 + (n / 2 ^ i % 2).toNat
/-- the bits, the least place first -/
def lowB (n : Int) (w : Nat) : List Nat := (List.range w).map (sgn n)
def bitsT (n : Int) (w : Nat) : Str := ⟨(lowB n w).reverse.toArray⟩
theorem cz_bitsT (n : Int) (w : Nat) : cz (bitsT n w) = (lowB n w).reverse := List.toList_toArray
theorem lowB_len (n : Int) (w : Nat) : (lowB n w).length = w := by
  unfold lowB
  rw [List.length_map, List.length_range]
theorem len_bitsT (n : Int) (w : Nat) : (bitsT n w).length = w := by rw [← cz_len, cz_bitsT, List.length_reverse, lowB_len]
theorem lowB_snoc (n : Int) (w : Nat) : lowB n (w + 1) = lowB n w ++ [sgn n w] := by
  unfold lowB
  rw [List.range_succ, List.map_append]
  rfl
theorem lowB_cons (n : Int) (w : Nat) : lowB n (w + 1) = (48 + (n % 2).toNat) :: lowB (n / 2) w := by
  unfold lowB
  rw [List.range_succ_eq_map, List.map_cons, List.map_map]
  congr 1
  · show sgn n 0 = _
    unfold sgn
    rw [Int.pow_zero, Int.ediv_one]
  · refine List.map_congr_left fun i _ => ?_
    show sgn n (i + 1) = sgn (n / 2) i
    unfold sgn
    have e : n / 2 ^ (i + 1) = n / 2 / 2 ^ i := by
      rw [Int.ediv_ediv_of_nonneg (by decide), Int.pow_succ, Int.mul_comm]
    rw [e]
theorem sgn_01 (n : Int) (i : Nat) : sgn n i = 48 ∨ sgn n i = 49 := by
  unfold sgn
  omega
theorem lowB_01 (n : Int) (w : Nat) : ∀ c ∈ lowB n w, c = 48 ∨ c = 49 := fun c hc => by
  obtain ⟨i, _, rfl⟩ := List.mem_map.mp hc
  exact sgn_01 n i
/-- the number of a row of bits, the least place first -/
def valL : List Nat → Int
  | [] => 0
  | c :: r => ((c : Int) - 48) + 2 * valL r
def numT (z : Str) : Int := valL (cz z).reverse
theorem valL_low : ∀ (w : Nat) (n : Int), 0 ≤ n → n < 2 ^ w → valL (lowB n w) = n
  | 0, n, h0, h1 => by
    have h1' : n < 1 := h1
    have e : n = 0 := by omega
    subst e
    rfl
  | w + 1, n, h0, h1 => by
    rw [Int.pow_succ] at h1
    rw [lowB_cons]
    show (((48 + (n % 2).toNat : Nat) : Int) - 48) + 2 * valL (lowB (n / 2) w) = n
    rw [valL_low w (n / 2) (by omega) (by omega)]
    omega
theorem low_valL : ∀ l : List Nat, (∀ c ∈ l, c = 48 ∨ c = 49) → lowB (valL l) l.length = l
  | [], _ => rfl
  | c :: r, h => by
    rw [List.length_cons, lowB_cons]
    have hc := h c List.mem_cons_self
    have e1 : valL (c :: r) = ((c : Int) - 48) + 2 * valL r := rfl
    have e2 : valL (c :: r) / 2 = valL r := by
      rw [e1]
      omega
    have e3 : 48 + (valL (c :: r) % 2).toNat = c := by
      rw [e1]
      omega
    rw [e2, e3, low_valL r fun x hx => h x (List.mem_cons_of_mem _ hx)]
theorem valL_snoc (c : Nat) : ∀ l : List Nat, valL (l ++ [c]) = valL l + 2 ^ l.length * ((c : Int) - 48)
  | [] => by
    show ((c : Int) - 48) + 2 * 0 = 0 + 1 * ((c : Int) - 48)
    omega
  | x :: r => by
    rw [List.cons_append, List.length_cons]
    show ((x : Int) - 48) + 2 * valL (r ++ [c]) = ((x : Int) - 48) + 2 * valL r + 2 ^ (r.length + 1) * ((c : Int) - 48)
    rw [valL_snoc c r, Int.pow_succ, Int.mul_add, Int.mul_comm (2 ^ r.length) 2, Int.mul_assoc]
    omega
theorem valL_bound : ∀ l : List Nat, (∀ c ∈ l, c = 48 ∨ c = 49) → 0 ≤ valL l ∧ valL l < 2 ^ l.length
  | [], _ => ⟨Int.le_refl _, by decide⟩
  | c :: r, h => by
    have hc := h c List.mem_cons_self
    have ih := valL_bound r fun x hx => h x (List.mem_cons_of_mem _ hx)
    have e1 : valL (c :: r) = ((c : Int) - 48) + 2 * valL r := rfl
    rw [List.length_cons, Int.pow_succ, e1]
    omega
theorem numT_bits {n : Int} {w : Nat} (h0 : 0 ≤ n) (h1 : n < 2 ^ w) : numT (bitsT n w) = n := by
  unfold numT
  rw [cz_bitsT, List.reverse_reverse]
  exact valL_low w n h0 h1
theorem bits_numT {z : Str} (h : ∀ c ∈ cz z, c = 48 ∨ c = 49) : bitsT (numT z) z.length = z := by
  refine cz_inj ?_
  rw [cz_bitsT]
  have e := low_valL (cz z).reverse fun c hc => h c (List.mem_reverse.mp hc)
  rw [List.length_reverse, cz_len] at e
  unfold numT
  rw [e, List.reverse_reverse]
theorem bits_01 {n : Int} {w : Nat} : ∀ c ∈ cz (bitsT n w), c = 48 ∨ c = 49 := fun c hc => by
  rw [cz_bitsT] at hc
  exact lowB_01 n w c (List.mem_reverse.mp hc)
theorem join_ones (l : List Nat) : Txt.join "" ((l.map fun c => (⟨#[c]⟩ : Str)).reverse) = ⟨l.reverse.toArray⟩ := by
  refine cz_inj ?_
  rw [cz_join, ← List.map_reverse, List.map_map]
  show ((l.reverse.map fun c => [c])).flatten = l.reverse.toArray.toList
  rw [List.toList_toArray]
  induction l.reverse with
  | nil => rfl
  | cons c r ih => rw [List.map_cons, List.flatten_cons, ih]; rfl
end Sh
/-! the pots that are dicts: views that count; heaps alike but for the views -/
namespace Sh
open PySem PySem.Spec PyProof.Rows L2
def noE : HO → Bool
  | .ext _ => false
  | _ => true
/-- all but the views is kept -/
structure Sx (H H' : Hp) : Prop where
  keep : ∀ a u, H a = some u → noE u = true → H' a = some u
  there : ∀ a u, H a = some u → ∃ w, H' a = some w
section
variable {K : PySem.W.Frag} {H H' H2 : Hp} {a p D : Addr} {xs : List V} {o : HO}
theorem Same.sx (e : Same H H') : Sx H H' := ⟨fun a u h _ => e a u h, fun a u h => ⟨u, e a u h⟩⟩
theorem Sx.refl (H : Hp) : Sx H H := Same.sx (Same.refl H)
theorem Sx.trans (e : Sx H H') (e' : Sx H' H2) : Sx H H2 := ⟨fun a u h hn => e'.keep a u (e.keep a u h hn) hn, fun a u h => by
  obtain ⟨w, hw⟩ := e.there a u h
  exact e'.there a w hw⟩
theorem sx_mut (e : Sx H H') (h : H p = none) : Sx H (upd H' p o) := ⟨fun a u ha hn => by
  rw [upd_ne (ne_of_none ha h)]
  exact e.keep a u ha hn, fun a u ha => by
  rw [upd_ne (ne_of_none ha h)]
  exact e.there a u ha⟩
theorem none_sx (e : Sx H H') (h : H' D = none) : H D = none := by
  cases hc : H D with
  | none => rfl
  | some u =>
    obtain ⟨w, hw⟩ := e.there _ _ hc
    rw [hw] at h
    cases h
theorem sx_l (e : Sx H H') (h : SqL K H a xs) : SqL K H' a xs := by
  rcases h with (h | ⟨o, h⟩) | h
  · exact .inl (.inl (e.keep _ _ h rfl))
  · exact .inl (.inr ⟨o, e.keep _ _ h rfl⟩)
  · exact .inr h
theorem sx_t (e : Sx H H') (h : SqT K H a xs) : SqT K H' a xs := by
  rcases h with (h | ⟨o, h⟩) | h
  · exact .inl (.inl (e.keep _ _ h rfl))
  · exact .inl (.inr ⟨o, e.keep _ _ h rfl⟩)
  · exact .inr h
theorem sx_tup (e : Sx H H') (h : TupN H a xs) : TupN H' a xs := by
  obtain ⟨o, d, h⟩ := h
  exact ⟨o, d, e.keep _ _ h rfl⟩
theorem sx_n (e : Sx H H') (h : SqN K H a xs) : SqN K H' a xs := by
  rcases h with h | h
  · exact .inl (sx_tup e h)
  · exact .inr h
end
mutual
theorem dqx {K : PySem.W.Frag} {H H' : Hp} (e : Sx H H') : ∀ {v : V} {d : PyData}, Dq K H v d → Dq K H' v d
  | _, _, .non => .non
  | _, _, .bl b => .bl b
  | _, _, .int i => .int i
  | _, _, .str x => .str x
  | _, _, .lst h r => .lst (sx_l e h) (dqsx e r)
  | _, _, .tup h r => .tup (sx_n e h) (dqsx e r)
theorem dqsx {K : PySem.W.Frag} {H H' : Hp} (e : Sx H H') : ∀ {vs : List V} {ds : List PyData}, DqAll K H vs ds → DqAll K H' vs ds
  | _, _, .nil => .nil
  | _, _, .cons h r => .cons (dqx e h) (dqsx e r)
end
/-! ### views, two at once -/
/-- p's object u is shown as one of U' -/
theorem fn_view2 {W : Wd} {mg : Str → Option Value} {base : Heap} {k : Nat} {f : Addr} {fd : FuncData} {ps : List Str} {sp sp' : Sp} (F : FnOk W.P W.w W.K mg base CX0 k f fd ps sp)
    (hl : ∀ vs H Q E, sp' vs H Q E → vs.length = ps.length)
    (h : ∀ vs H Q E, sp' vs H Q E → ∃ (p o : Addr) (U U2 U' U2' : HO → Prop), p ≠ o ∧ (∀ u, U' u → flatO u) ∧ (∀ u, U2' u → flatO u) ∧ H p = some (vw W U p) ∧ H o = some (vw W U2 o) ∧
      ∀ u u2, U u → U2 u2 → sp vs (upd (upd H p u) o u2) (fun v H' => ∃ u' u2', U' u' ∧ U2' u2' ∧ H' p = some u' ∧ H' o = some u2' ∧ Q v (upd (upd H' p (vw W U' p)) o (vw W U2' o))) E) :
    FnOk W.P W.w W.K mg base CX0 k f fd ps sp' := by
  refine ⟨hl, fun A outer s H args us vs Q E hr e0 hb hv hs => ?_⟩
  obtain ⟨p, o, U, U2, U', U2', hpo, f1, f2, hp, ho, k⟩ := h _ _ _ _ hs
  obtain ⟨u, hu, hf, hok⟩ := hok_open e0.hok hp
  have ho1 : upd H p u o = some (vw W U2 o) := by
    rw [upd_ne (Ne.symm hpo)]
    exact ho
  obtain ⟨u2, hu2, hf2, hok2⟩ := hok_open hok ho1
  have np : ∀ b, H b = none → upd (upd H p u) o u2 b = none := fun b e => by
    have nb : b ≠ p := fun z => by
      rw [z, hp] at e
      cases e
    have nb2 : b ≠ o := fun z => by
      rw [z, ho] at e
      cases e
    rw [upd_ne nb2, upd_ne nb]
    exact e
  have e1 : Env0 W.P W.w W.K mg base A outer s (upd (upd H p u) o u2) := ⟨e0.frames, e0.mod, fun b ob q => ⟨(e0.bs b ob q).1, np b (e0.bs b ob q).2⟩, e0.bsz, e0.funs, fun b q => np b (e0.frf b q), hok2, e0.bare⟩
  refine codeAny_mono (F.run A outer s (upd (upd H p u) o u2) args us vs _ E hr e1 hb hv (k u u2 hu hu2)) fun r s' q => ?_
  cases r with
  | error e => exact q
  | ok fl =>
    cases fl with
    | ret v =>
      obtain ⟨v1, H', q1, q2, q3, q4, q5, u', u2', hu', hu2', hp', ho', q6⟩ := q
      have ho'2 : upd H' p (vw W U' p) o = some u2' := by
        rw [upd_ne (Ne.symm hpo)]
        exact ho'
      refine ⟨v1, _, q1, q2, ?_, hok_seal (hok_seal q4 hp' hu' (f1 _ hu')) ho'2 hu2' (f2 _ hu2'), q5, q6⟩
      have q7 := un_seal (W := W) (U := U2') (un_seal (W := W) (U := U') q3 hp' (f1 _ hu')) ho'2 (f2 _ hu2')
      exact un_open (un_open q7 ho1) hp
    | next => exact q
    | brk => exact q
    | cont => exact q
theorem fn_seal2 {W : Wd} {mg : Str → Option Value} {base : Heap} {k : Nat} {f : Addr} {fd : FuncData} {ps : List Str} {sp sp' : Sp} (F : FnOk W.P W.w W.K mg base CX0 k f fd ps sp)
    (hl : ∀ vs H Q E, sp' vs H Q E → vs.length = ps.length)
    (h : ∀ vs H Q E, sp' vs H Q E → sp vs H (fun v H' => ∃ (p o : Addr) (U' U2' : HO → Prop) (u' u2' : HO), p ≠ o ∧ (∀ u, U' u → flatO u) ∧ (∀ u, U2' u → flatO u) ∧ U' u' ∧ U2' u2' ∧ H' p = some u' ∧ H' o = some u2' ∧ Q v (upd (upd H' p (vw W U' p)) o (vw W U2' o))) E) :
    FnOk W.P W.w W.K mg base CX0 k f fd ps sp' := by
  refine ⟨hl, fun A outer s H args us vs Q E hr e0 hb hv hs => ?_⟩
  refine codeAny_mono (F.run A outer s H args us vs _ E hr e0 hb hv (h _ _ _ _ hs)) fun r s' q => ?_
  cases r with
  | error e => exact q
  | ok fl =>
    cases fl with
    | ret v =>
      obtain ⟨v1, H', q1, q2, q3, q4, q5, p, o, U', U2', u', u2', hpo, f1, f2, hu', hu2', hp', ho', q6⟩ := q
      have ho'2 : upd H' p (vw W U' p) o = some u2' := by
        rw [upd_ne (Ne.symm hpo)]
        exact ho'
      exact ⟨v1, _, q1, q2, un_seal (W := W) (U := U2') (un_seal (W := W) (U := U') q3 hp' (f1 _ hu')) ho'2 (f2 _ hu2'), hok_seal (hok_seal q4 hp' hu' (f1 _ hu')) ho'2 hu2' (f2 _ hu2'), q5, q6⟩
    | next => exact q
    | brk => exact q
    | cont => exact q
/-! ### the pot -/
/-- the dict: with or without the entry left -/
def boxKV (b : Bool) (o : Addr) (l s t : Int) : List (Key × V) :=
  match b with
  | false => [(.inr "own", .ref o), (.inr "seed", .int s), (.inr "turn", .int t)]
  | true => [(.inr "own", .ref o), (.inr "left", .int l), (.inr "seed", .int s), (.inr "turn", .int t)]
def BoxU (b : Bool) (o : Addr) (n : Int) : HO → Prop := fun u => ∃ l s t : Int, u = .dK (boxKV b o l s t) ∧ 0 ≤ l ∧ 0 ≤ s ∧ s < 2305843009213693952 ∧ 0 ≤ t ∧ t ≤ n
def OwnU : HO → Prop := fun u => ∃ ns : List Int, u = .lst (ns.map V.int) ∧ ∀ x ∈ ns, 0 ≤ x
theorem box_flat {b : Bool} {o : Addr} {n : Int} : ∀ u, BoxU b o n u → flatO u := fun u ⟨_, _, _, e, _⟩ => by
  rw [e]
  trivial
theorem own_flat : ∀ u, OwnU u → flatO u := fun u ⟨_, e, _⟩ => by
  rw [e]
  trivial
/-- the pot, of which at most n turns were drawn -/
def BoxAt (W : Wd) (b : Bool) (n : Int) (H : Hp) (v : V) : Prop := ∃ (p o : Addr) (k : Int), v = .ref p ∧ p ≠ o ∧ k ≤ n ∧ H p = some (vw W (BoxU b o k) p) ∧ H o = some (vw W OwnU o)
section
variable {W : Wd} {b : Bool} {n m : Int} {H H' : Hp} {v : V} {D : Addr} {ys : List V} {ob : HO}
theorem box_mono (e : Same H H') (h : BoxAt W b n H v) : BoxAt W b n H' v := by
  obtain ⟨p, o, k, rfl, hpo, hk, hp, ho⟩ := h
  exact ⟨p, o, k, rfl, hpo, hk, e _ _ hp, e _ _ ho⟩
theorem box_le (h : n ≤ m) (q : BoxAt W b n H v) : BoxAt W b m H v := by
  obtain ⟨p, o, k, rfl, hpo, hk, hp, ho⟩ := q
  exact ⟨p, o, k, rfl, hpo, Int.le_trans hk h, hp, ho⟩
theorem box_lst (h : BoxAt W b n H v) (e : H D = some (.lst ys)) : BoxAt W b n (upd H D ob) v := by
  obtain ⟨p, o, k, rfl, hpo, hk, hp, ho⟩ := h
  refine ⟨p, o, k, rfl, hpo, hk, ?_, ?_⟩
  · rw [upd_ne fun z => by rw [z, e] at hp; cases hp]
    exact hp
  · rw [upd_ne fun z => by rw [z, e] at ho; cases ho]
    exact ho
end
/-! ### dicts, read and written -/
theorem pe_dgetU {X : Cx} {o i : Expr} {td ty : TE} {pos : Pos} (hu : X.A.units + 64 < cLine) (ho : PE X o td) (hi : PE X i ty) (hs : NoSl i) : PE X (.Subscript o i pos) (tDGet td ty) := pe_dget (Nat.lt_of_le_of_lt (Nat.add_le_add_left (by decide) _) hu) ho hi hs
section
variable {K : PySem.W.Frag} {σ : L2.St} {H : Hp} {Q : VK} {a : Addr} {kvs : List (Key × V)} {z : Str} {x v : V} {td ty : TE} {xs : List V}
def DG (Q : VK) (x y : V) (H : Hp) : Prop := ∃ a v, x = .ref a ∧ DGet H a y (some v) ∧ Q v H
theorem w_dget (h : td σ H fun x H1 => ty σ H1 fun y H2 => DG Q x y H2) : tDGet td ty σ H Q := h
theorem w_dgs (h : H a = some (.dK kvs)) (e : valV kvs (.inr z) = some v) (q : Q v H) : DG Q (.ref a) (.str z) H := ⟨a, v, rfl, by rw [← e]; exact DGet.k (k := .inr z) h, q⟩
theorem w_dputs {k : Hp → Prop} (h : H a = some (.dK kvs)) (hl : kvs.length < 1000) (q : k (upd H a (.dK (putK kvs (.inr z) v)))) : rSetU (.ref a) (.str z) v H k :=
  .inr ⟨a, _, rfl, DPut.k (k := .inr z) h (Nat.lt_trans hl (by decide)), q⟩
theorem w_pop0 {y : V} (h : H a = some (.lst (y :: xs))) (q : Q y (upd H a (.lst xs))) : rPopAt (.ref a) [.int 0] H Q := ⟨a, _, 0, 0, y, rfl, rfl, h, by decide, by decide, by
  unfold seqIndex?
  rw [List.length_cons]
  simp, rfl, q⟩
end
section
variable {K : PySem.W.Frag} {H : Hp} {Q : VK} {a : Addr} {ns : List Int} {lo hi : Option Int}
theorem w_slLi (h : SqL K H a (ns.map V.int)) (q : ∀ p H', H p = none → Same H H' → H' p = some (.lst ((cutD ns lo hi).map V.int)) → Q (.ref p) H') : rSlU K (.ref a) lo hi H Q :=
  .inr (.inr ⟨a, _, rfl, h, fun p hp => q p _ hp (same_new hp) (by
    have e : cutV (ns.map V.int) lo hi = (cutD ns lo hi).map V.int := by
      unfold cutV cutD
      rw [List.length_map, List.map_take, List.map_drop]
    rw [upd_same, e])⟩)
theorem cutD_len {α : Type} {xs : List α} {lo hi : Option Int} : (cutD xs lo hi).length ≤ xs.length := by
  unfold cutD
  rw [List.length_take, List.length_drop]
  omega
end
section
variable {σ : L2.St} {H : Hp} {Q : VK}
def DB (Q : VK) (p : Addr) (ps : List (V × V)) (H3 : Hp) : Prop := H3 p = some (.dK []) ∧ ∃ kvs : List (Key × V), ps = kvs.map (fun kv => (kV kv.1, kv.2)) ∧ kvs.length ≤ 15 ∧ Q (.ref p) (upd H3 p (.dK (mergeK [] kvs)))
theorem w_disp {trs : List (TE × TE)} (h : ∀ p, H p = none → tPairs trs σ (upd H p (.dK [])) fun ps H2 => DB Q p ps H2) : tDisp trs σ H Q := h
theorem w_pairs {tk tv : TE} {r : List (TE × TE)} {F : List (V × V) → Hp → Prop} (h : tk σ H fun x H1 => tv σ H1 fun y H2 => tPairs r σ H2 fun ps H3 => F ((x, y) :: ps) H3) : tPairs ((tk, tv) :: r) σ H F := h
theorem w_pnil {F : List (V × V) → Hp → Prop} (h : F [] H) : tPairs [] σ H F := h
theorem w_DB3 {p : Addr} {x1 x2 x3 : V} (h : H p = some (.dK [])) (q : Q (.ref p) (upd H p (.dK [(.inr "own", x1), (.inr "seed", x2), (.inr "turn", x3)]))) : DB Q p [(.str "own", x1), (.str "seed", x2), (.str "turn", x3)] H :=
  ⟨h, [(.inr "own", x1), (.inr "seed", x2), (.inr "turn", x3)], rfl, (by decide : 3 ≤ 15), q⟩
theorem w_DB4 {p : Addr} {x1 x2 x3 x4 : V} (h : H p = some (.dK [])) (q : Q (.ref p) (upd H p (.dK [(.inr "own", x1), (.inr "left", x2), (.inr "seed", x3), (.inr "turn", x4)]))) : DB Q p [(.str "own", x1), (.str "left", x2), (.str "seed", x3), (.str "turn", x4)] H :=
  ⟨h, [(.inr "own", x1), (.inr "left", x2), (.inr "seed", x3), (.inr "turn", x4)], rfl, (by decide : 4 ≤ 15), q⟩
end
/-! ### is -/
def rIsU : R2 := fun x y H Q => rIsN x y H Q ∨ rIsB x y H Q
theorem u_is {X : Cx} : OpR X (compareOp .Is) rIsU := opor op_isN1 op_isBl
def rIsNotU : R2 := fun x y H Q => rNotN x y H Q ∨ rNotB x y H Q
theorem u_isnot {X : Cx} : OpR X (compareOp .IsNot) rIsNotU := opor op_notN1 op_notBl
section
variable {H : Hp} {Q : VK} {x : V} {a b : Bool}
theorem w_isN (q : Q (.bl (decide (x = .non))) H) : rIsU x .non H Q := .inl ⟨rfl, q⟩
theorem w_isB (q : Q (.bl (decide (a = b))) H) : rIsU (.bl a) (.bl b) H Q := .inr ⟨a, b, rfl, rfl, q⟩
theorem w_notN (q : Q (.bl (!decide (x = .non))) H) : rIsNotU x .non H Q := .inl ⟨rfl, q⟩
theorem w_notB (q : Q (.bl (!decide (a = b))) H) : rIsNotU (.bl a) (.bl b) H Q := .inr ⟨a, b, rfl, rfl, q⟩
end
/-- simple data of so many floors -/
def PlD : Nat → PyData → Prop
  | _, .none => True
  | _, .int _ => True
  | _, .str _ => True
  | n + 1, .tuple ds => ds.length ≤ 1000 ∧ ∀ d ∈ ds, PlD n d
  | _, _ => False
/-! ### constants -/
theorem u_mulc {X : Cx} {a b c : Int} (hc : CMulW a b) (h : a * b = c) : OpR X (binaryOp .Mult) (rCon a b c) := by
  intro pins s σ H x y v u Q I rx ry q
  obtain ⟨rfl, rfl, q⟩ := q
  exact op_mulW pins s σ H _ _ v u Q I rx ry ⟨a, b, rfl, rfl, hc, by show Q (V.int (a * b)) H; rw [h]; exact q⟩
/-! ### loops and comprehensions that draw -/
section
variable {K : PySem.W.Frag} {σ : L2.St} {H : Hp} {Q : VK} {te : TE} {tt : TT} {g : TG} {vs : List Nat} {n : Nat}
theorem lc_genX {J : It} (I : Nat → List V → Hp → Prop) (hst : Stb I) (hn : n ≤ 1000000) (hI : ∀ i acc H', I i acc H' → acc.length ≤ i) (h0 : ∀ H', Same H H' → I 0 [] H')
    (hgo : ∀ i acc H', i < n → Sx H H' → I i acc H' → J.go i H') (hstop : ∀ acc H', Sx H H' → I n acc H' → J.stop n H')
    (hs : ∀ i acc x H' H'', i < n → Sx H H' → I i acc H' → J.yld i H' x H'' → ∀ (k : VK) (k' : Hp → Prop), (∀ y H4, Sx H' H4 → I (i + 1) (acc ++ [y]) H4 → k y H4) → (∀ H3, Sx H' H3 → I (i + 1) acc H3 → k' H3) →
      g x (wipe σ vs) H'' fun σ2 H2 => wipe σ2 vs = wipe σ vs ∧ tt σ2 H2 fun b H3 => if b = true then te σ2 H3 k else k' H3)
    (hd : ∀ D acc H', H D = none → Sx H H' → H' D = some (.lst acc) → I n acc H' → Q (.ref D) H') : LcOk J g tt te vs σ Q H := fun D hD => by
  refine ⟨fun i m H' => m = n - i ∧ i ≤ n ∧ ∃ acc, Sx H H' ∧ H' D = some (.lst acc) ∧ I i acc H', ⟨n, by omega, by omega, [], Same.sx (same_new hD), upd_same, h0 _ (same_new hD)⟩, fun i m H1 ⟨em, hi, acc, s1, hD1, w1⟩ => ?_⟩
  by_cases hlt : i < n
  · refine .inr ⟨hgo i acc H1 hlt s1 w1, fun H' => i + 1 ≤ n ∧ ∃ acc, Sx H H' ∧ H' D = some (.lst acc) ∧ I (i + 1) acc H', fun H' ⟨a, b⟩ => ⟨n - (i + 1), by omega, rfl, a, b⟩, fun x H' y => ?_⟩
    refine hs i acc x H1 H' hlt s1 w1 y _ _ (fun y H4 s4 w4 => ⟨acc, s4.keep _ _ hD1 rfl, ?_, hlt, _, sx_mut (s1.trans s4) hD, upd_same, hst _ _ _ _ _ _ (s4.keep _ _ hD1 rfl) w4⟩) fun H3 s3 w3 => ⟨hlt, acc, s1.trans s3, s3.keep _ _ hD1 rfl, w3⟩
    have l1 := hI i acc H1 w1
    exact Nat.lt_of_le_of_lt (m := 1000000) (by omega) (by decide)
  · have e : i = n := by omega
    subst e
    exact .inl ⟨hstop acc H1 s1 w1, hd D acc H1 hD s1 hD1 w1⟩
theorem lcRX (I : Nat → List V → Hp → Prop) (hst : Stb I) (hn : n ≤ 1000000) (hI : ∀ i acc H', I i acc H' → acc.length ≤ i) (h0 : ∀ H', Same H H' → I 0 [] H')
    (hs : ∀ (i : Nat) acc H', i < n → Sx H H' → I i acc H' → ∀ (k : VK) (k' : Hp → Prop), (∀ y H4, Sx H' H4 → I (i + 1) (acc ++ [y]) H4 → k y H4) → (∀ H3, Sx H' H3 → I (i + 1) acc H3 → k' H3) →
      g (.int (i : Int)) (wipe σ vs) H' fun σ2 H2 => wipe σ2 vs = wipe σ vs ∧ tt σ2 H2 fun b H3 => if b = true then te σ2 H3 k else k' H3)
    (hd : ∀ D acc H', H D = none → Sx H H' → H' D = some (.lst acc) → I n acc H' → Q (.ref D) H') : LcOk (Itr 0 n) g tt te vs σ Q H :=
  lc_genX I hst hn hI h0 (fun _ _ _ h _ _ => h) (fun _ _ _ _ => Nat.le_refl _) (fun i acc x H' H'' hi s1 w1 y => by
    obtain ⟨e1, e2⟩ := y
    rw [Int.zero_add] at e2
    subst e1
    subst e2
    exact hs i acc _ hi s1 w1) hd
theorem lcLX {a : Addr} {xs : List V} (hx : SqL K H a xs) (I : Nat → List V → Hp → Prop) (hst : Stb I) (hn : xs.length ≤ 1000000) (hI : ∀ i acc H', I i acc H' → acc.length ≤ i) (h0 : ∀ H', Same H H' → I 0 [] H')
    (hs : ∀ i x acc H', xs[i]? = some x → Sx H H' → I i acc H' → ∀ (k : VK) (k' : Hp → Prop), (∀ y H4, Sx H' H4 → I (i + 1) (acc ++ [y]) H4 → k y H4) → (∀ H3, Sx H' H3 → I (i + 1) acc H3 → k' H3) →
      g x (wipe σ vs) H' fun σ2 H2 => wipe σ2 vs = wipe σ vs ∧ tt σ2 H2 fun b H3 => if b = true then te σ2 H3 k else k' H3)
    (hd : ∀ D acc H', H D = none → Sx H H' → H' D = some (.lst acc) → I xs.length acc H' → Q (.ref D) H') : LcOk (Itl K a) g tt te vs σ Q H :=
  lc_genX I hst hn hI h0 (fun i acc H' hi s1 _ => ⟨xs, xs[i], sx_l s1 hx, List.getElem?_eq_getElem hi⟩) (fun _ _ s1 _ => ⟨xs, sx_l s1 hx, Nat.le_refl _⟩) (fun i acc x H' H'' hi s1 w1 y => by
    obtain ⟨e1, e2⟩ := y
    subst e1
    exact hs i x acc _ (e2 xs (sx_l s1 hx)) s1 w1) hd
theorem lcTX {a : Addr} {xs : List V} (hx : SqT K H a xs) (I : Nat → List V → Hp → Prop) (hst : Stb I) (hn : xs.length ≤ 1000000) (hI : ∀ i acc H', I i acc H' → acc.length ≤ i) (h0 : ∀ H', Same H H' → I 0 [] H')
    (hs : ∀ i x acc H', xs[i]? = some x → Sx H H' → I i acc H' → ∀ (k : VK) (k' : Hp → Prop), (∀ y H4, Sx H' H4 → I (i + 1) (acc ++ [y]) H4 → k y H4) → (∀ H3, Sx H' H3 → I (i + 1) acc H3 → k' H3) →
      g x (wipe σ vs) H' fun σ2 H2 => wipe σ2 vs = wipe σ vs ∧ tt σ2 H2 fun b H3 => if b = true then te σ2 H3 k else k' H3)
    (hd : ∀ D acc H', H D = none → Sx H H' → H' D = some (.lst acc) → I xs.length acc H' → Q (.ref D) H') : LcOk (Itt K a) g tt te vs σ Q H :=
  lc_genX I hst hn hI h0 (fun i acc H' hi s1 _ => ⟨xs, xs[i], sx_t s1 hx, List.getElem?_eq_getElem hi⟩) (fun _ _ s1 _ => ⟨xs, sx_t s1 hx, Nat.le_refl _⟩) (fun i acc x H' H'' hi s1 w1 y => by
    obtain ⟨e1, e2⟩ := y
    subst e1
    exact hs i x acc _ (e2 xs (sx_t s1 hx)) s1 w1) hd
end
section
variable {K : PySem.W.Frag} {σ : L2.St} {H : Hp} {tb : TS} {nx : L2.St → Hp → Prop} {rt : VK} {a : Addr} {xs : List V} {i1 i2 : Nat}
/-- for place, item in enumerate(a tuple) -/
theorem forET2 (I : Nat → L2.St → Hp → Prop) (h0 : I 0 σ H) (hI : ∀ i σ' H', I i σ' H' → SqT K H' a xs)
    (hs : ∀ (i : Nat) x σ' H', xs[i]? = some x → I i σ' H' → ∀ H2, Same H' H2 → tb ⟨I (i + 1), rt, nx, I (i + 1)⟩ ((σ'.set i1 (some (.int (i : Int)))).set i2 (some x)) H2) (hd : ∀ σ' H', I xs.length σ' H' → nx σ' H') :
    ForOk (IteT K a) (gTup K 2 (gCons (gName i1) (gCons (gName i2) gNil))) tb nx rt σ H := by
  refine ⟨fun i m σ' H' => m = xs.length - i ∧ i ≤ xs.length ∧ I i σ' H', ⟨_, rfl, Nat.zero_le _, h0⟩, fun i m σ' H1 ⟨em, hi, w1⟩ => ?_⟩
  have s1 := hI _ _ _ w1
  by_cases hlt : i < xs.length
  · refine .inr ⟨⟨xs, xs[i], s1, List.getElem?_eq_getElem hlt⟩, I (i + 1), fun σ2 H2 w2 => ⟨_, by omega, rfl, hlt, w2⟩, fun v H2 y => ?_⟩
    obtain ⟨T, x, rfl, hT, rfl, hy⟩ := y
    have ex := hy xs s1
    exact ⟨T, _, rfl, SqT.of upd_same, rfl, _, _, rfl, _, _, rfl, rfl, hs i x σ' H1 ex w1 _ (same_new hT)⟩
  · have e : i = xs.length := by omega
    subst e
    exact .inl ⟨⟨xs, s1, Nat.le_refl _⟩, hd σ' H1 w1⟩
end
end Sh
/-! forms; what is of what kind -/
namespace Sh
open PySem PySem.Spec PyProof.Rows L2
theorem dvd_oddF {c : Int} (hc : c % 2 = 1) : ∀ (n : Nat) (x : Int), (2 : Int) ^ n ∣ c * x → (2 : Int) ^ n ∣ x
  | 0, x, _ => by simp
  | n + 1, x, h => by
    obtain ⟨k, hk⟩ := h
    have e0 : (2 : Int) ^ (n + 1) = 2 * 2 ^ n := by rw [Int.pow_succ, Int.mul_comm]
    rw [e0, Int.mul_assoc] at hk
    have hx : x % 2 = 0 := by
      have z : (c * x) % 2 = 0 := by rw [hk]; exact Int.mul_emod_right 2 _
      rw [Int.mul_emod, hc] at z
      omega
    obtain ⟨y, rfl⟩ : ∃ y, x = 2 * y := ⟨x / 2, by omega⟩
    have h2 : (2 : Int) ^ n ∣ c * y := ⟨k, by
      have z : c * (2 * y) = 2 * (c * y) := by rw [← Int.mul_assoc, Int.mul_comm c 2, Int.mul_assoc]
      omega⟩
    obtain ⟨w, hw⟩ := dvd_oddF hc n y h2
    exact ⟨w, by rw [hw, e0, Int.mul_assoc]⟩
theorem turn_neF {b f c i j : Int} (hc : c % 2 = 1) (h0 : 0 ≤ i) (h1 : i < j) (h2 : j < p2 b) (e : (f + c * i) % p2 b = (f + c * j) % p2 b) : False := by
  have hd : p2 b ∣ c * (j - i) := by
    have z : (f + c * j) - (f + c * i) = c * (j - i) := by
      rw [Int.mul_sub]
      omega
    rw [← z]
    exact Int.dvd_of_emod_eq_zero (Int.emod_eq_emod_iff_emod_sub_eq_zero.mp e.symm)
  have h3 := dvd_oddF hc b.toNat _ hd
  have h4 := Int.le_of_dvd (by omega) h3
  have h5 : p2 b = 2 ^ b.toNat := rfl
  omega
inductive Wy where
  | keep
  | whole
  | low (w l : Int)
def wyD : Wy → PyData
  | .keep => .tuple [.str "keep"]
  | .whole => .tuple [.str "whole"]
  | .low w l => .tuple [.str "low", .int w, .int l]
structure Fm where
  r : Int
  c : Int
  ws : List Wy
def fmD (f : Fm) : PyData := .tuple [.int f.r, .int f.c, .tuple (f.ws.map wyD)]
def OkWy (b : Int) : Wy → Prop
  | .keep => True
  | .whole => True
  | .low w l => 1 ≤ w ∧ w ≤ b ∧ 0 ≤ l ∧ l < p2 w
structure OkFm (s : Shp) (f : Fm) : Prop where
  r0 : 1 ≤ f.r
  r1 : f.r ≤ 40
  c0 : 1 ≤ f.c
  c1 : f.c ≤ 40
  len : f.ws.length = s.fs.length
  ok : ∀ (i : Nat) w fd, f.ws[i]? = some w → s.fs[i]? = some fd → OkWy fd.br w
theorem tupO_wy (w : Wy) : tupO (wyD w) := by
  cases w <;> simp [wyD, tupO, tupOs]
theorem tupO_wys (ws : List Wy) : tupOs (ws.map wyD) := tupOs_of fun d hd => by
  obtain ⟨n, _, rfl⟩ := List.mem_map.mp hd
  exact tupO_wy n
theorem tupO_fm (f : Fm) : tupO (fmD f) := ⟨trivial, trivial, tupO_wys _, trivial⟩
/-- a whole number from lo to hi -/
def betwD (lo hi : Int) : PyData → Bool
  | .int i => decide (lo ≤ i) && decide (i ≤ hi)
  | _ => false
def lowD (b : Int) (s : Str) (d1 d2 : PyData) : Bool := decide (s = "low") && (betwD 1 b d1 && match d1 with
  | .int w => betwD 0 (p2 w - 1) d2
  | _ => false)
def wayD (b : Int) : PyData → Bool
  | .tuple [.str s, d1, d2] => lowD b s d1 d2
  | .tuple [.str s] => decide (s = "keep") || decide (s = "whole")
  | _ => false
def formD (s : Shp) : PyData → Bool
  | .tuple [d0, d1, .tuple ws] => betwD 1 40 d0 && (betwD 1 40 d1 && (decide (ws.length = s.fs.length) && (s.fs.zip ws).all fun fw => wayD fw.1.br fw.2))
  | _ => false
theorem betw_ok {lo hi i : Int} (h0 : lo ≤ i) (h1 : i ≤ hi) : betwD lo hi (.int i) = true := by
  show (decide (lo ≤ i) && decide (i ≤ hi)) = true
  rw [decide_eq_true h0, decide_eq_true h1]
  rfl
theorem way_ok {b : Int} {w : Wy} (h : OkWy b w) : wayD b (wyD w) = true := by
  cases w with
  | keep => rfl
  | whole => rfl
  | low w l =>
    obtain ⟨h0, h1, h2, h3⟩ := h
    show (decide (("low" : Str) = "low") && (betwD 1 b (.int w) && betwD 0 (p2 w - 1) (.int l))) = true
    rw [betw_ok h0 h1, betw_ok h2 (by omega), decide_eq_true rfl]
    rfl
theorem form_ok {s : Shp} {f : Fm} (h : OkFm s f) : formD s (fmD f) = true := by
  show (betwD 1 40 (.int f.r) && (betwD 1 40 (.int f.c) && (decide ((f.ws.map wyD).length = s.fs.length) && (s.fs.zip (f.ws.map wyD)).all fun fw => wayD fw.1.br fw.2))) = true
  rw [betw_ok h.r0 h.r1, betw_ok h.c0 h.c1, decide_eq_true (by rw [List.length_map]; exact h.len)]
  simp only [Bool.true_and]
  rw [List.all_eq_true]
  intro fw hfw
  obtain ⟨i, hi⟩ := List.getElem?_of_mem hfw
  obtain ⟨e1, e2⟩ := List.getElem?_zip_eq_some.mp hi
  rw [List.getElem?_map] at e2
  cases ew : f.ws[i]? with
  | none => rw [ew] at e2; cases e2
  | some w =>
    rw [ew] at e2
    rw [← Option.some.inj e2]
    exact way_ok (h.ok i w fw.1 ew e1)
section
variable {K : PySem.W.Frag} {H : Hp} {Q : VK} {a : Addr} {z : Str} {zs : List Str}
theorem inV_strs (z : Str) : ∀ zs : List Str, inV (.str z) (zs.map V.str) = zs.any fun y => decide (y = z)
  | [] => rfl
  | m :: r => by
    have e := inV_strs z r
    unfold inV at e ⊢
    rw [List.map_cons, List.any_cons, e, List.any_cons]
    have e2 : (m == z) = decide (m = z) := by
      by_cases h : m = z
      · subst h
        simp
      · simp [h]
    show (m == z || _) = _
    rw [e2]
theorem w_inTs (h : SqT K H a (zs.map V.str)) (q : Q (.bl (zs.any fun y => decide (y = z))) H) : rInU K (.str z) (.ref a) H Q :=
  .inl ⟨a, _, rfl, .inr h, rfl, (by
    rw [List.all_map]
    exact List.all_eq_true.mpr fun _ _ => rfl), by
    rw [inV_strs]
    exact q⟩
end
end Sh
/-! t * n of a tuple: the new one has no dict -/
namespace ShT
open PySem PySem.Spec PyProof.Rows L2
theorem tuple_mul1 (l : Addr) (items : Array Value) (n : Nat) (dd : Option Addr) (sl : Array (Option Value)) (u : Tok) :
    Meets (Builtin.«tuple.__mul__» ⟨[.ref l, .int 1 u], []⟩) (fun _ R s => s.heap.get? l = some { cls := .type "tuple", dict := dd, data := .seq items n, slots := sl } ∧ R (.ok (.ret (Value.ref l))) s) :=
  .of_wp fun prog w A R s h => by
    obtain ⟨hp, g, d, tk, os⟩ := s
    obtain ⟨hl, h⟩ := h
    have f1 := AutoSeq1.idx_int
    have c0 : (decide ((1 : Int) < -(2 ^ 63)) || decide ((1 : Int) ≥ 2 ^ 63)) = false := by decide
    have c1 : (items.isEmpty || (1 : Int) == 1) = true := by rw [show ((1 : Int) == 1) = true from rfl, Bool.or_true]
    wp_walk using PySem.AutoSeq1.wpAny_loadPart' hl
    repeat (first
      | (refine wpAny_ite_false (decide_eq_false (by rw [c0]; exact Bool.false_ne_true)) ?_; wp_walk using PySem.AutoSeq1.wpAny_loadPart' hl)
      | (refine wpAny_ite_true (decide_eq_true c1) ?_; wp_walk using PySem.AutoSeq1.wpAny_loadPart' hl))
    exact ⟨_, rfl, h⟩
end ShT
namespace Sh
open PySem PySem.Spec PyProof.Rows L2
def rRepN (K : PySem.W.Frag) : R2 := fun x y H Q => ∃ l k xs, x = .ref l ∧ y = .int k ∧ SqT K H l xs ∧ xs ≠ [] ∧ 1 ≤ k ∧ k ≤ 1000 ∧ xs.length ≤ 1000 ∧ (k = 1 → Q (.ref l) H) ∧ (2 ≤ k → ∀ (p : Addr) (o : Obj), H p = none → o.dict = none → Q (.ref p) (upd H p (.frz o (.tup (List.replicate k.toNat xs).flatten))))
theorem op_repN {X : Cx} : OpR X (binaryOp .Mult) (rRepN X.K) := by
  intro pins s σ H x y v u Q I rx ry h
  obtain ⟨l, k, xs, rfl, rfl, hT, hne, h1, h2, hz, q1, q2⟩ := h
  cases rx
  obtain ⟨t, rfl⟩ := ry
  obtain ⟨its, r, ⟨⟨cls, dd, data, sl⟩, ho, hc, n, hd⟩, hs⟩ := I.tuple hT
  simp only at hc hd
  subst hc hd
  have hle : its.length = xs.length := r.length.symm
  have hn : its ≠ [] := fun e => hne (by
    rw [e] at hle
    exact List.eq_nil_of_length_eq_zero hle.symm)
  by_cases hk : k = 1
  · subst hk
    exact wpAny_binaryOp_repeat_ref (T := "tuple") (U := "int") (by decide) ⟨_, ho, rfl⟩ (fun s' => typeIs_int s' 1 t) noFill_tuple_mul F.fills_int_mul F.slot_int_rmul repeat_tuple F.slot_int_index.lookup
      (call_meets F.slot_int_rmul (typeIs_int s 1 t) F.entry_int_rmul (F.args_int_rmul_2 _ _) (int_rmul_tuple 1 t l its.toArray n dd sl)
        ⟨ho, rfl, ⟨_, ho, rfl⟩, call_meets F.slot_tuple_mul ⟨_, ho, rfl⟩ F.entry_tuple_mul (F.args_tuple_mul_2 _ _) (ShT.tuple_mul1 l its.toArray n dd sl t) ⟨ho, ⟨.ref l, H, I, rfl, q1 rfl⟩⟩⟩)
  have hi : its.toArray.isEmpty = false := by
    cases its with
    | nil => exact absurd rfl hn
    | cons a b => rfl
  have hsz0 : its.toArray.size = xs.length := by rw [List.size_toArray, hle]
  have hm : ((its.toArray.size : Nat) : Int) * k ≤ 1000000 := by
    rw [hsz0]
    have a1 : ((xs.length : Nat) : Int) * k ≤ 1000 * k := Int.mul_le_mul_of_nonneg_right (by omega) (by omega)
    omega
  have flen : (List.replicate k.toNat its).flatten.length ≤ sizeLine := by
    rw [PyProof.Rows.lm_len_rep_flat, hle, sizeLine_eq]
    have a1 : k.toNat * xs.length ≤ 1000 * 1000 := Nat.mul_le_mul (by omega) hz
    omega
  have c0 : (decide (k < -(2 ^ 63)) || decide (k ≥ 2 ^ 63)) = false := by
    rw [decide_eq_false (by omega), decide_eq_false (by omega)] <;> rfl
  have c1 : (its.toArray.isEmpty || k == 1) = false := by
    rw [hi, Bool.false_or]
    exact beq_eq_false_iff_ne.mpr (by omega)
  have c2 : (decide (k ≤ 0) || its.toArray.isEmpty) = false := by
    rw [hi, Bool.or_false]
    exact decide_eq_false (by omega)
  have c4 : Builtin.Tuple.tupleTooMany (((its.toArray.size : Nat) : Int) * k) = false := by
    unfold Builtin.Tuple.tupleTooMany
    rw [sizeLine_eq]
    exact decide_eq_false (by omega)
  refine wpAny_binaryOp_repeat_ref (T := "tuple") (U := "int") (by decide) ⟨_, ho, rfl⟩ (fun s' => typeIs_int s' k t) noFill_tuple_mul F.fills_int_mul F.slot_int_rmul repeat_tuple F.slot_int_index.lookup
    (call_meets F.slot_int_rmul (typeIs_int s k t) F.entry_int_rmul (F.args_int_rmul_2 _ _) (int_rmul_tuple k t l its.toArray n dd sl)
      ⟨ho, rfl, ⟨_, ho, rfl⟩, call_meets F.slot_tuple_mul ⟨_, ho, rfl⟩ F.entry_tuple_mul (F.args_tuple_mul_2 _ _) (tuple_mulW l its.toArray n dd sl k t c0 c1 c2 (by omega) c4 (by rw [size_rep, List.size_toArray]; exact flen)) ⟨ho, ?_⟩⟩)
  rw [size_rep]
  have hg := Heap.get?_push_size s.heap (o := { cls := .type "tuple", data := .seq (List.replicate k.toNat its).flatten.toArray }) rfl
  refine ⟨.ref s.heap.objs.size, _, I.laid (t' := s.toks) (o := .frz { cls := .type "tuple", data := .seq (List.replicate k.toNat its).flatten.toArray } (.tup (List.replicate k.toNat xs).flatten)) (fun b ob q => Heap.get?_push_of_some _ q) (Nat.le_refl _) ?_, rfl, q2 (by omega) _ _ (I.hok.fresh (Nat.le_refl _)) rfl⟩
  exact ⟨hg, by rw [PyProof.Rows.lm_len_rep_flat, sizeLine_eq]; have a1 : k.toNat * xs.length ≤ 1000 * 1000 := Nat.mul_le_mul (by omega) hz; omega, _, r.rep k.toNat, IsTup.new _ _⟩
def rMulN (K : PySem.W.Frag) : R2 := fun x y H Q => rI CMul (fun i j => .int (i * j)) x y H Q ∨ rI CMulW (fun i j => .int (i * j)) x y H Q ∨ rMulS x y H Q ∨ rRep x y H Q ∨ rRepN K x y H Q
theorem u_mulN {X : Cx} : OpR X (binaryOp .Mult) (rMulN X.K) := opor op_mul (opor op_mulW (opor op_mulS (opor op_rep op_repN)))
section
variable {K : PySem.W.Frag} {H : Hp} {Q : VK} {i j n : Int} {a : Str} {v : V} {d : PyData}
theorem w_mulN (hc : CMul i j) (h : Q (.int (i * j)) H) : rMulN K (.int i) (.int j) H Q := .inl ⟨i, j, rfl, rfl, hc, h⟩
theorem w_mulNw (hc : CMulW i j) (h : Q (.int (i * j)) H) : rMulN K (.int i) (.int j) H Q := .inr (.inl ⟨i, j, rfl, rfl, hc, h⟩)
theorem w_mulNs (hm : MulOk a n) (q : Q (.str (Txt.mul a n)) H) : rMulN K (.str a) (.int n) H Q := .inr (.inr (.inl ⟨a, n, rfl, rfl, hm, q⟩))
theorem dqs_rep : ∀ (m : Nat) {x : V}, Dq K H x d → DqAll K H (List.replicate m [x]).flatten (List.replicate m d)
  | 0, _, _ => .nil
  | m + 1, _, h => .cons h (dqs_rep m h)
/-- (x,) * n -/
theorem w_mulN1 (h : Dq K H v (.tuple [d])) (h0 : 1 ≤ n) (h1 : n ≤ 1000) (q : ∀ x H', Same H H' → Dq K H' x (.tuple (List.replicate n.toNat d)) → Q x H') : rMulN K v (.int n) H Q := by
  obtain ⟨a, xs, rfl, hs, r⟩ := dq_tt h
  cases r with
  | cons hx r =>
    cases r
    refine .inr (.inr (.inr (.inr ⟨a, n, _, rfl, rfl, hs.t, (fun z => nomatch z), h0, h1, (show (1 : Nat) ≤ 1000 by decide), fun e => ?_, fun _ p o hp hd => ?_⟩)))
    · subst e
      exact q _ _ (Same.refl _) (.tup hs (dqs_one hx))
    · exact q _ _ (same_new hp) (.tup (.inl ⟨o, hd, upd_same⟩) (dqs_mono (same_new hp) (dqs_rep _ hx)))
end
end Sh
/-! zip of three tuples -/
namespace Sh
open PySem PySem.Spec PyProof.Rows L2
def ItzT3 (K : PySem.W.Frag) (a b c : Addr) : It :=
  ⟨fun i H => ∃ (xs ys zs : List V) (x y z : V), SqT K H a xs ∧ SqT K H b ys ∧ SqT K H c zs ∧ xs[i]? = some x ∧ ys[i]? = some y ∧ zs[i]? = some z,
    fun i H v H' => ∃ T x y z, v = .ref T ∧ H T = none ∧ H' = upd H T (.tup [x, y, z]) ∧ (∀ xs, SqT K H a xs → xs[i]? = some x) ∧ (∀ ys, SqT K H b ys → ys[i]? = some y) ∧ ∀ zs, SqT K H c zs → zs[i]? = some z,
    fun i H => ∃ xs ys zs : List V, SqT K H a xs ∧ SqT K H b ys ∧ SqT K H c zs ∧ i ≤ xs.length ∧ i ≤ ys.length ∧ i ≤ zs.length ∧ (i = xs.length ∨ i = ys.length ∨ i = zs.length)⟩
theorem iter_ne {h : Heap} {it t : Addr} {i : Nat} {t0 : Addr} {items : Array Value} (x : h.IsTupleIter it t0 i) (p : h.IsTuple t items) : t ≠ it := fun z => by
  obtain ⟨o1, h1, c1, _⟩ := p
  obtain ⟨o2, h2, c2, _⟩ := x
  rw [z, h2] at h1
  cases h1
  rw [c2] at c1
  injection c1 with c1
  exact absurd c1 (by decide)
theorem turn_zipT3 {P : Program} {w : World} {K : PySem.W.Frag} {elts : List Expr} {kk : Nat} {tpos : Pos} {a b c z TI TO i1 i2 i3 : Addr} (S : ZipSep3 z TI TO i1 i2 i3 [i1, a] [i2, b] [i3, c]) :
    Turn P w K (.Tuple elts kk tpos) (ItzT3 K a b c) [z, TI, TO, i1, i2, i3] z (fun i h => IsZip h z TI TO .none ∧ IsTupOf3 h TI (.ref i1) (.ref i2) (.ref i3) ∧ (∃ x y u, IsTupOf3 h TO x y u) ∧ h.IsTupleIter i1 a i ∧ h.IsTupleIter i2 b i ∧ h.IsTupleIter i3 c i) where
  mem := by simp
  obj := fun i h st q hq => by
    obtain ⟨hz, hTI, ⟨x, y, u, hTO⟩, ⟨o1, e1, _, d1⟩, ⟨o2, e2, _, d2⟩, ⟨o3, e3, _, d3⟩⟩ := st
    have e' : q = z ∨ q = TI ∨ q = TO ∨ q = i1 ∨ q = i2 ∨ q = i3 := by simpa using hq
    rcases e' with r | r | r | r | r | r
    · rw [r]; exact ⟨_, hz, fun v q => nomatch q⟩
    · rw [r]; exact ⟨_, hTI, fun v q => nomatch q⟩
    · rw [r]; exact ⟨_, hTO, fun v q => nomatch q⟩
    · rw [r]; exact ⟨o1, e1, fun v q => by rw [d1] at q; cases q⟩
    · rw [r]; exact ⟨o2, e2, fun v q => by rw [d2] at q; cases q⟩
    · rw [r]; exact ⟨o3, e3, fun v q => by rw [d3] at q; cases q⟩
  keep := fun i h h' st k => by
    obtain ⟨hz, hTI, ⟨x, y, u, hTO⟩, h1, h2, h3⟩ := st
    exact ⟨k z (by simp) _ hz, k TI (by simp) _ hTI, ⟨x, y, u, k TO (by simp) _ hTO⟩, h1.at fun o q => k i1 (by simp) o q, h2.at fun o q => k i2 (by simp) o q, h3.at fun o q => k i3 (by simp) o q⟩
  item := by
    intro X hP hw hK hc i pins s σ H E I hf st hg
    subst hP hw hK
    obtain ⟨hz, hTI, ⟨x0, y0, u0, hTO⟩, h1, h2, h3⟩ := st
    obtain ⟨xs, ys, zs, x, y, u, hqx, hqy, hqz, hx, hy, hu⟩ := hg
    obtain ⟨its, rv, p, _⟩ := I.tuple hqx
    obtain ⟨its2, rv2, p2, _⟩ := I.tuple hqy
    obtain ⟨its3, rv3, p3, _⟩ := I.tuple hqz
    have pt : s.heap.IsTuple a its.toArray := p
    have pt2 : s.heap.IsTuple b its2.toArray := p2
    have pt3 : s.heap.IsTuple c its3.toArray := p3
    obtain ⟨w1, hw1, r1⟩ := rv.get hx
    obtain ⟨w2, hw2, r2⟩ := rv2.get hy
    obtain ⟨w3, hw3, r3⟩ := rv3.get hu
    have hzl : z < s.heap.objs.size := Heap.lt_size hz
    have lt1 : i < its.toArray.size := by have l := (List.getElem?_eq_some_iff.mp hw1).1; simpa using l
    have lt2 : i < its2.toArray.size := by have l := (List.getElem?_eq_some_iff.mp hw2).1; simpa using l
    have lt3 : i < its3.toArray.size := by have l := (List.getElem?_eq_some_iff.mp hw3).1; simpa using l
    have hh : X.A.in1.handled = none := I.ok.hd hc
    refine wpAny_pyNext_zipD3_item S (Draws.tuple hh i1 a (iter_ne h1 pt) its.toArray) (Draws.tuple hh i2 b (iter_ne h2 pt2) its2.toArray) (Draws.tuple hh i3 c (iter_ne h3 pt3) its3.toArray) hz hTI hTO ⟨h1, pt⟩ ⟨h2, pt2⟩ ⟨h3, pt3⟩ lt1 lt2 lt3 fun x1 x2 x3 h' tk q1 q2 q3 z' TO' s1 s2 s3 hT hsz hk => ?_
    have e1 : x1 = w1 := by
      have px : its.toArray[i]? = some x1 := q1
      rw [List.getElem?_toArray, hw1] at px
      exact (Option.some.inj px).symm
    have e2 : x2 = w2 := by
      have px : its2.toArray[i]? = some x2 := q2
      rw [List.getElem?_toArray, hw2] at px
      exact (Option.some.inj px).symm
    have e3 : x3 = w3 := by
      have px : its3.toArray[i]? = some x3 := q3
      rw [List.getElem?_toArray, hw3] at px
      exact (Option.some.inj px).symm
    subst e1 e2 e3
    refine ⟨_, rfl, wpAny_letOwnedTupleGo_zip (s := { s with heap := h', toks := tk }) z' fun h'' z'' sb => ?_⟩
    have hT2 : h''.get? s.heap.objs.size = some { cls := .type "tuple", data := .seq #[x1, x2, x3] } := (sb.2 _ (Nat.ne_of_gt hzl)).trans hT
    have new : ObjOk X.prog X.w (upd H s.heap.objs.size (.tup [x, y, u])) h'' s.heap.objs.size (.tup [x, y, u]) :=
      ⟨by show 3 ≤ sizeLine; decide, [x1, x2, x3], .cons r1 (.cons r2 (.cons r3 .nil)), ⟨_, hT2, rfl, _, rfl⟩⟩
    have I1 : Inv X pins σ (upd H s.heap.objs.size (.tup [x, y, u])) { s with heap := h'', toks := tk } :=
      I.turnedNew (t' := tk) (ch := [z, TI, TO, i1, i2, i3]) (fun q o hb e => (sb.2 q (fun q' => hb (by simp [q']))).trans (hk q o (fun q' => hb (by simp [q'])) (fun q' => hb (by simp [q'])) (fun q' => hb (by simp [q'])) (fun q' => hb (by simp [q'])) (fun q' => hb (by simp [q'])) e)) hf (Nat.le_refl _) new
    have ni1 : i1 ≠ z := fun e => S.zf1 (by rw [← e]; exact S.mem1)
    have ni2 : i2 ≠ z := fun e => S.zf2 (by rw [← e]; exact S.mem2)
    have ni3 : i3 ≠ z := fun e => S.zf3 (by rw [← e]; exact S.mem3)
    refine ⟨.ref s.heap.objs.size, _, I1, rfl, ⟨_, x, y, u, rfl, I.hok.fresh (Nat.le_refl _), rfl, fun l hl => by rw [I.tuple_inj hl hqx]; exact hx, fun l hl => by rw [I.tuple_inj hl hqy]; exact hy, fun l hl => by rw [I.tuple_inj hl hqz]; exact hu⟩, ⟨z'', ?_, ⟨x1, x2, x3, ?_⟩, ?_, ?_, ?_⟩, fun q hcm => ?_⟩
    · exact (sb.2 _ S.TIz).trans (hk _ _ S.TIz S.TITO S.TIi1 S.TIi2 S.TIi3 hTI)
    · exact (sb.2 _ S.TOz).trans TO'
    · exact s1.1.at fun o q => (sb.2 _ ni1).trans q
    · exact s2.1.at fun o q => (sb.2 _ ni2).trans q
    · exact s3.1.at fun o q => (sb.2 _ ni3).trans q
    · have hlt : q < s.heap.objs.size := by
        have e' : q = z ∨ q = TI ∨ q = TO ∨ q = i1 ∨ q = i2 ∨ q = i3 := by simpa using hcm
        rcases e' with r | r | r | r | r | r
        · rw [r]; exact hzl
        · rw [r]; exact Heap.lt_size hTI
        · rw [r]; exact Heap.lt_size hTO
        · rw [r]; obtain ⟨_, e1, _⟩ := h1; exact Heap.lt_size e1
        · rw [r]; obtain ⟨_, e2, _⟩ := h2; exact Heap.lt_size e2
        · rw [r]; obtain ⟨_, e3, _⟩ := h3; exact Heap.lt_size e3
      rw [upd_ne (Nat.ne_of_lt hlt)]
      exact (hf q hcm).1
  done := by
    intro X hP hw hK hc i pins s σ H E I hf st hg
    subst hP hw hK
    obtain ⟨hz, hTI, ⟨x0, y0, u0, hTO⟩, h1, h2, h3⟩ := st
    obtain ⟨xs, ys, zs, hqx, hqy, hqz, g1, g2, g3, hend⟩ := hg
    obtain ⟨its, rv, p, _⟩ := I.tuple hqx
    obtain ⟨its2, rv2, p2, _⟩ := I.tuple hqy
    obtain ⟨its3, rv3, p3, _⟩ := I.tuple hqz
    have pt : s.heap.IsTuple a its.toArray := p
    have pt2 : s.heap.IsTuple b its2.toArray := p2
    have pt3 : s.heap.IsTuple c its3.toArray := p3
    have l1 := rv.length
    have l2 := rv2.length
    have l3 := rv3.length
    have hh : X.A.in1.handled = none := I.ok.hd hc
    refine wpAny_pyNext_zipD3_end S (Draws.tuple hh i1 a (iter_ne h1 pt) its.toArray) (Draws.tuple hh i2 b (iter_ne h2 pt2) its2.toArray) (Draws.tuple hh i3 c (iter_ne h3 pt3) its3.toArray) hz hTI hTO ⟨h1, pt⟩ ⟨h2, pt2⟩ ⟨h3, pt3⟩ (by simp; omega) (by simp; omega) (by simp; omega) (by simp; omega) fun h' tk hk => ⟨rfl, I.turnedL (t' := tk) (ch := [z, TI, TO, i1, i2, i3]) (fun q o hb e =>
      hk q o (fun q' => hb (by simp [q'])) (fun q' => hb (by simp [q'])) (fun q' => hb (by simp [q'])) (fun q' => hb (by simp [q'])) (fun q' => hb (by simp [q'])) e) hf⟩
  self := fun A i s Q E st h => wpAny_pyIter_zip st.1 h
def iZip3 (K : PySem.W.Frag) (ta : TA) : TI := fun σ H R => ta σ H fun vs H1 => ∃ a b c xs ys zs, vs = [.ref a, .ref b, .ref c] ∧ SqT K H1 a xs ∧ SqT K H1 b ys ∧ SqT K H1 c zs ∧ R (ItzT3 K a b c) H1
theorem pi_zip3 {X : Cx} {e e2 e3 : Expr} {ta : TA} {p pos tpos : Pos} {elts : List Expr} {kk : Nat} (hg : Gl X "zip") (hm : X.mg "zip" = none) (ha : PA X [e, e2, e3] ta)
    (hs : starEach [e, e2, e3] X.env = (false, eval e X.env) :: starEach [e2, e3] X.env := by rfl) (hpl : (backTo pos (starEach [e2, e3] X.env)).any (·.1) = false := by rfl) :
    PI X (.Tuple elts kk tpos) (.Call (.Name "zip" p) [e, e2, e3] [] pos) (iZip3 X.K ta) := by
  refine ⟨fun pins s σ H R I h => ?_⟩
  refine Call_ (ld_blt I hg hm PyProof.Rows.boot_zip (PyProof.Rows.callWith_type1 (thn (ha.run pos pins s σ H _ I h) fun us s1 z => ?_) hs hpl))
  obtain ⟨vs, H1, I1, r1, a, b, c, xs, ys, zs, ex, hqx, hqy, hqz, q⟩ := z
  subst ex
  cases r1 with
  | cons r rr =>
    cases rr with
    | cons r' rr =>
      cases rr with
      | cons r'' rr =>
        cases rr
        cases r
        cases r'
        cases r''
        obtain ⟨its, rv, p1, _⟩ := I1.tuple hqx
        obtain ⟨its2, rv2, p2, _⟩ := I1.tuple hqy
        obtain ⟨its3, rv3, p3, _⟩ := I1.tuple hqz
        have pt1 : s1.heap.IsTuple a its.toArray := p1
        have pt2 : s1.heap.IsTuple b its2.toArray := p2
        have pt3 : s1.heap.IsTuple c its3.toArray := p3
        obtain ⟨o1, ho1, _⟩ := _root_.id pt1
        obtain ⟨o2, ho2, _⟩ := _root_.id pt2
        obtain ⟨o3, ho3, _⟩ := _root_.id pt3
        refine zip_begins3 (begins_tuple a its.toArray) (begins_tuple b its2.toArray) (begins_tuple c its3.toArray) pt1 pt2 pt3 fun h' hz hTI hTO h1 h2 h3 hsz hk => wpAny_pyIter_zip hz ?_
        have I2 : Inv X pins σ H1 { s1 with heap := h' } := I1.kept (t' := s1.toks) hk
        have sep := zip_sep3 (N := s1.heap.objs.size) (fp1 := [a]) (fp2 := [b]) (fp3 := [c]) (fun q hq => by rw [List.mem_singleton.mp hq]; exact Heap.lt_size ho1) (fun q hq => by rw [List.mem_singleton.mp hq]; exact Heap.lt_size ho2) (fun q hq => by rw [List.mem_singleton.mp hq]; exact Heap.lt_size ho3)
        have fresh6 : ∀ q, q ∈ [s1.heap.objs.size + 5, s1.heap.objs.size + 3, s1.heap.objs.size + 4, s1.heap.objs.size, s1.heap.objs.size + 1, s1.heap.objs.size + 2] → FpOk X pins H1 q := fun q hcm => by
          have e' : q = s1.heap.objs.size + 5 ∨ q = s1.heap.objs.size + 3 ∨ q = s1.heap.objs.size + 4 ∨ q = s1.heap.objs.size ∨ q = s1.heap.objs.size + 1 ∨ q = s1.heap.objs.size + 2 := by simpa using hcm
          have hle : s1.heap.objs.size ≤ q := by
            rcases e' with z | z | z | z | z | z
            · rw [z]; exact Nat.le_add_right _ _
            · rw [z]; exact Nat.le_add_right _ _
            · rw [z]; exact Nat.le_add_right _ _
            · rw [z]; exact Nat.le_refl _
            · rw [z]; exact Nat.le_add_right _ _
            · rw [z]; exact Nat.le_add_right _ _
          exact I1.fpOk hle (I1.hok.fresh hle)
        exact ⟨s1.heap.objs.size + 5, [s1.heap.objs.size + 5, s1.heap.objs.size + 3, s1.heap.objs.size + 4, s1.heap.objs.size, s1.heap.objs.size + 1, s1.heap.objs.size + 2], _, _, H1, rfl, I2, turn_zipT3 sep, ⟨hz, hTI, ⟨_, _, _, hTO⟩, ⟨_, h1, rfl, rfl⟩, ⟨_, h2, rfl, rfl⟩, ⟨_, h3, rfl, rfl⟩⟩, fresh6, q⟩
section
variable {K : PySem.W.Frag} {σ : L2.St} {H : Hp} {Q : VK} {te : TE} {tt : TT} {tA : TA} {tb : TS} {nx : L2.St → Hp → Prop} {rt : VK} {a b c : Addr} {xs ys zs : List V} {i1 i2 i3 : Nat} {vs : List Nat}
def GoZip3 (K : PySem.W.Frag) (R : It → Hp → Prop) (vs : List V) (H1 : Hp) : Prop := ∃ a b c xs ys zs, vs = [.ref a, .ref b, .ref c] ∧ SqT K H1 a xs ∧ SqT K H1 b ys ∧ SqT K H1 c zs ∧ R (ItzT3 K a b c) H1
theorem w_izip3 {R : It → Hp → Prop} (h : tA σ H fun vs H1 => GoZip3 K R vs H1) : iZip3 K tA σ H R := h
theorem w_goZ3 {R : It → Hp → Prop} (h : SqT K H a xs) (h2 : SqT K H b ys) (h3 : SqT K H c zs) (q : R (ItzT3 K a b c) H) : GoZip3 K R [.ref a, .ref b, .ref c] H := ⟨a, b, c, xs, ys, zs, rfl, h, h2, h3, q⟩
/-- for x, y, z in zip(xs, ys, zs), tuples of one length -/
theorem forZ3 (l2 : ys.length = xs.length) (l3 : zs.length = xs.length) (I : Nat → L2.St → Hp → Prop) (h0 : I 0 σ H) (hI : ∀ i σ' H', I i σ' H' → SqT K H' a xs ∧ SqT K H' b ys ∧ SqT K H' c zs)
    (hs : ∀ (i : Nat) x y z σ' H', xs[i]? = some x → ys[i]? = some y → zs[i]? = some z → I i σ' H' → ∀ H2, Same H' H2 → tb ⟨I (i + 1), rt, nx, I (i + 1)⟩ (((σ'.set i1 (some x)).set i2 (some y)).set i3 (some z)) H2) (hd : ∀ σ' H', I xs.length σ' H' → nx σ' H') :
    ForOk (ItzT3 K a b c) (gTup K 3 (gCons (gName i1) (gCons (gName i2) (gCons (gName i3) gNil)))) tb nx rt σ H := by
  refine ⟨fun i m σ' H' => m = xs.length - i ∧ i ≤ xs.length ∧ I i σ' H', ⟨_, rfl, Nat.zero_le _, h0⟩, fun i m σ' H1 ⟨em, hi, w1⟩ => ?_⟩
  obtain ⟨s1, s2, s3⟩ := hI _ _ _ w1
  by_cases hlt : i < xs.length
  · refine .inr ⟨⟨xs, ys, zs, xs[i], ys[i]'(by omega), zs[i]'(by omega), s1, s2, s3, List.getElem?_eq_getElem hlt, List.getElem?_eq_getElem _, List.getElem?_eq_getElem _⟩, I (i + 1), fun σ2 H2 w2 => ⟨_, by omega, rfl, hlt, w2⟩, fun v H2 q => ?_⟩
    obtain ⟨T, x, y, z, rfl, hT, rfl, hx, hy, hz⟩ := q
    exact ⟨T, _, rfl, SqT.of upd_same, rfl, _, _, rfl, _, _, rfl, _, _, rfl, rfl, hs i x y z σ' H1 (hx xs s1) (hy ys s2) (hz zs s3) w1 _ (same_new hT)⟩
  · have e : i = xs.length := by omega
    refine .inl ⟨⟨xs, ys, zs, s1, s2, s3, by omega, by omega, by omega, .inl e⟩, hd σ' H1 ?_⟩
    rw [← e]
    exact w1
end
end Sh
/-! pieces; texts that grow -/
namespace Sh
open PySem PySem.Spec PyProof.Rows L2
def ipAddN (K : PySem.W.Frag) : TIp := fun x y H Q => ipI (fun i j => i + j) x y H Q ∨ rAddS x y H Q
theorem ip_addN {X : Cx} : PIp X .Add (ipAddN X.K) := by
  intro pins s σ H x y v u Q I rx ry h
  rcases h with h | h
  · exact ip_add pins s σ H x y v u Q I rx ry h
  · obtain ⟨i, j, rfl, rfl, hz, q⟩ := h
    obtain ⟨t, rfl⟩ := rx
    obtain ⟨t2, rfl⟩ := ry
    exact PyProof.Rows.iadd_str (fun t' tk => ⟨.str (i ++ j), H, I.tok _, ⟨_, rfl⟩, q⟩) hz
abbrev rStrU : List V → Hp → VK → Prop := fun xs H Q => ∃ i : Int, xs = [.int i] ∧ i.natAbs.log2 < 1920 ∧ Q (.str (toString i)) H
theorem u_str {X : Cx} : CallR X (.type "str") rStrU := call_str_int
section
variable {K : PySem.W.Frag} {H : Hp} {Q : VK} {i j : Int} {a b : Str} {p p2 : Addr} {xs ys : List V} {ns : List Int}
theorem w_ipaddN (h : Q (.int (i + j)) H) : ipAddN K (.int i) (.int j) H Q := .inl ⟨i, j, rfl, rfl, h⟩
theorem w_ipaddS (hz : a.length + b.length ≤ sizeLine) (h : Q (.str (a ++ b)) H) : ipAddN K (.str a) (.str b) H Q := .inr ⟨a, b, rfl, rfl, hz, h⟩
theorem w_strI (hz : i.natAbs.log2 < 1920) (h : Q (.str (toString i)) H) : rStrU [.int i] H Q := ⟨i, rfl, hz, h⟩
theorem w_sum (h : SqL K H p (ns.map V.int)) (q : Q (.int ns.sum) H) : rSum K [.ref p] H Q := ⟨p, ns, rfl, h, q⟩
theorem w_extend (h : H p = some (.lst xs)) (h2 : H p2 = some (.lst ys)) (hl : xs.length + ys.length ≤ 1000000) (q : Q .non (upd H p (.lst (xs ++ ys)))) : rExtend (.ref p) [.ref p2] H Q := ⟨p, p2, xs, ys, rfl, rfl, h, h2, Nat.le_trans hl (by decide), q⟩
end
/-- how wide a field's piece is -/
def wW (f : Fd) : Wy → Nat
  | .keep => 0
  | .whole => f.br.toNat
  | .low w _ => w.toNat
abbrev Tri := Fd × Wy × Int
def pieceT (t : Tri) : Str := bitsT (t.2.2 % p2 (wW t.1 t.2.1 : Nat)) (wW t.1 t.2.1)
def triL (fs : List Fd) (ws : List Wy) (vs : List Int) : List Tri := fs.zip (ws.zip vs)
def piecesT (ts : List Tri) : Str := ⟨(ts.map fun t => cz (pieceT t)).flatten.toArray⟩
theorem cz_pieces (ts : List Tri) : cz (piecesT ts) = (ts.map fun t => cz (pieceT t)).flatten := List.toList_toArray
theorem pieces_nil : piecesT [] = "" := rfl
theorem pieces_snoc (ts : List Tri) (t : Tri) : piecesT (ts ++ [t]) = piecesT ts ++ pieceT t := by
  refine cz_inj ?_
  rw [cz_pieces, cz_app, cz_pieces, List.map_append, List.flatten_append]
  simp
def triW (ts : List Tri) : Nat := (ts.map fun t => wW t.1 t.2.1).sum
theorem pieces_len : ∀ ts : List Tri, (piecesT ts).length = triW ts
  | [] => rfl
  | t :: r => by
    have ih := pieces_len r
    rw [← cz_len, cz_pieces] at ih ⊢
    rw [List.map_cons, List.flatten_cons, List.length_append, ih, cz_len]
    show (pieceT t).length + triW r = wW t.1 t.2.1 + triW r
    unfold pieceT
    rw [len_bitsT]
theorem tri_get {fs : List Fd} {ws : List Wy} {vs : List Int} {i : Nat} {f : Fd} {w : Wy} {v : Int} (h1 : fs[i]? = some f) (h2 : ws[i]? = some w) (h3 : vs[i]? = some v) : (triL fs ws vs)[i]? = some (f, w, v) :=
  List.getElem?_zip_eq_some.mpr ⟨h1, List.getElem?_zip_eq_some.mpr ⟨h2, h3⟩⟩
theorem tri_len {fs : List Fd} {ws : List Wy} {vs : List Int} (h1 : ws.length = fs.length) (h2 : vs.length = fs.length) : (triL fs ws vs).length = fs.length := by
  unfold triL
  rw [List.length_zip, List.length_zip]
  omega
theorem wW_le {f : Fd} {w : Wy} (h : OkWy f.br w) (b0 : 0 ≤ f.br) : (wW f w : Int) ≤ f.br := by
  cases w with
  | keep => exact b0
  | whole =>
    show ((f.br.toNat : Nat) : Int) ≤ f.br
    omega
  | low w l =>
    have := h.1
    have := h.2.1
    show ((w.toNat : Nat) : Int) ≤ f.br
    omega
theorem triW_snoc (ts : List Tri) (t : Tri) : triW (ts ++ [t]) = triW ts + wW t.1 t.2.1 := by
  unfold triW
  rw [List.map_append, List.sum_append]
  simp
theorem triW_le : ∀ ts : List Tri, (∀ t ∈ ts, wW t.1 t.2.1 ≤ 40) → triW ts ≤ 40 * ts.length
  | [], _ => Nat.le_refl _
  | t :: r, h => by
    have ih := triW_le r fun x hx => h x (List.mem_cons_of_mem _ hx)
    have h1 := h t List.mem_cons_self
    show wW t.1 t.2.1 + triW r ≤ _
    rw [List.length_cons]
    omega
end Sh
/-! any data, dicts too: its lists and dicts lie where P allows -/
namespace Sh
open PySem PySem.Spec PyProof.Rows L2
theorem cutD_mem {α : Type} {xs : List α} {lo hi : Option Int} {x : α} (h : x ∈ cutD xs lo hi) : x ∈ xs := List.mem_of_mem_drop (List.mem_of_mem_take h)
theorem cutD_map {α β : Type} (g : α → β) (xs : List α) (lo hi : Option Int) : cutD (xs.map g) lo hi = (cutD xs lo hi).map g := by
  unfold cutD
  rw [List.length_map, List.map_take, List.map_drop]
theorem w_slM {K : PySem.W.Frag} {H : Hp} {v : V} {Q : VK} {α : Type} {g : α → PyData} {l : List α} {lo hi : Option Int} (h : Dq K H v (.tuple (l.map g))) (q : ∀ x H', Same H H' → Dq K H' x (.tuple ((cutD l lo hi).map g)) → Q x H') : rSlU K v lo hi H Q :=
  w_slQT h fun x H' e hx => q x H' e (by rw [← cutD_map]; exact hx)
section
variable {K : PySem.W.Frag} {H H' : Hp} {v : V} {Q : VK}
theorem dq_t2 {d e : PyData} (h : Dq K H v (.tuple [d, e])) : ∃ a x y, v = .ref a ∧ SqN K H a [x, y] ∧ Dq K H x d ∧ Dq K H y e := by
  obtain ⟨a, xs, rfl, hx, r⟩ := dq_tt h
  cases r with
  | cons h1 r =>
    cases r with
    | cons h2 r =>
      cases r
      exact ⟨_, _, _, rfl, hx, h1, h2⟩
theorem dq_t3 {d e f : PyData} (h : Dq K H v (.tuple [d, e, f])) : ∃ a x y z, v = .ref a ∧ SqN K H a [x, y, z] ∧ Dq K H x d ∧ Dq K H y e ∧ Dq K H z f := by
  obtain ⟨a, xs, rfl, hx, r⟩ := dq_tt h
  cases r with
  | cons h1 r =>
    cases r with
    | cons h2 r =>
      cases r with
      | cons h3 r =>
        cases r
        exact ⟨_, _, _, _, rfl, hx, h1, h2, h3⟩
end
mutual
inductive Dz (K : PySem.W.Frag) (P : Addr → Prop) (H : Hp) : V → PyData → Prop
  | non : Dz K P H .non .none
  | bl (b : Bool) : Dz K P H (.bl b) (.bool b)
  | int (i : Int) : Dz K P H (.int i) (.int i)
  | str (x : Str) : Dz K P H (.str x) (.str x)
  | lst {a : Addr} {xs : List V} {ds : List PyData} : P a → SqL K H a xs → DzAll K P H xs ds → Dz K P H (.ref a) (.list ds)
  | tup {a : Addr} {xs : List V} {ds : List PyData} : SqT K H a xs → DzAll K P H xs ds → Dz K P H (.ref a) (.tuple ds)
  | dic {a : Addr} {kvs : List (Key × V)} : P a → H a = some (.dK kvs) → Dz K P H (.ref a) (.dict [])
inductive DzAll (K : PySem.W.Frag) (P : Addr → Prop) (H : Hp) : List V → List PyData → Prop
  | nil : DzAll K P H [] []
  | cons {v : V} {vs : List V} {d : PyData} {ds : List PyData} : Dz K P H v d → DzAll K P H vs ds → DzAll K P H (v :: vs) (d :: ds)
end
def Ever : Addr → Prop := fun _ => True
section
variable {K : PySem.W.Frag} {H H' : Hp} {P P' : Addr → Prop}
mutual
theorem dz_dp : ∀ {v : V} {d : PyData}, Dp K H v d → Dz K Ever H v d
  | _, _, .non => .non
  | _, _, .bl b => .bl b
  | _, _, .int i => .int i
  | _, _, .str x => .str x
  | _, _, .lst h r => .lst trivial h (dzs_dp r)
  | _, _, .tup h r => .tup h (dzs_dp r)
theorem dzs_dp : ∀ {vs : List V} {ds : List PyData}, DpAll K H vs ds → DzAll K Ever H vs ds
  | _, _, .nil => .nil
  | _, _, .cons h r => .cons (dz_dp h) (dzs_dp r)
end
theorem dz_dq {v : V} {d : PyData} (h : Dq K H v d) : Dz K Ever H v d := dz_dp (dq_dp h)
theorem dzs_dq {vs : List V} {ds : List PyData} (h : DqAll K H vs ds) : DzAll K Ever H vs ds := dzs_dp (dqs_dp h)
mutual
theorem dz_to : ∀ {v : V} {d : PyData}, Dq K H v d → tupO d → Dz K P H v d
  | _, _, .non, _ => .non
  | _, _, .bl b, _ => .bl b
  | _, _, .int i, _ => .int i
  | _, _, .str x, _ => .str x
  | _, _, .lst _ _, z => (show False from z).elim
  | _, _, .tup h r, z => .tup h.t (dzs_to r z)
theorem dzs_to : ∀ {vs : List V} {ds : List PyData}, DqAll K H vs ds → tupOs ds → DzAll K P H vs ds
  | _, _, .nil, _ => .nil
  | _, _, .cons h r, z => .cons (dz_to h z.1) (dzs_to r z.2)
end
mutual
theorem dz_wk (w : ∀ a, P a → P' a) : ∀ {v : V} {d : PyData}, Dz K P H v d → Dz K P' H v d
  | _, _, .non => .non
  | _, _, .bl b => .bl b
  | _, _, .int i => .int i
  | _, _, .str x => .str x
  | _, _, .lst p h r => .lst (w _ p) h (dzs_wk w r)
  | _, _, .tup h r => .tup h (dzs_wk w r)
  | _, _, .dic p h => .dic (w _ p) h
theorem dzs_wk (w : ∀ a, P a → P' a) : ∀ {vs : List V} {ds : List PyData}, DzAll K P H vs ds → DzAll K P' H vs ds
  | _, _, .nil => .nil
  | _, _, .cons h r => .cons (dz_wk w h) (dzs_wk w r)
end
theorem dz_ev {v : V} {d : PyData} (h : Dz K P H v d) : Dz K Ever H v d := dz_wk (fun _ _ => trivial) h
theorem dzs_ev {vs : List V} {ds : List PyData} (h : DzAll K P H vs ds) : DzAll K Ever H vs ds := dzs_wk (fun _ _ => trivial) h
mutual
theorem dzx (e : Sx H H') : ∀ {v : V} {d : PyData}, Dz K P H v d → Dz K P H' v d
  | _, _, .non => .non
  | _, _, .bl b => .bl b
  | _, _, .int i => .int i
  | _, _, .str x => .str x
  | _, _, .lst p h r => .lst p (sx_l e h) (dzsx e r)
  | _, _, .tup h r => .tup (sx_t e h) (dzsx e r)
  | _, _, .dic p h => .dic p (e.keep _ _ h rfl)
theorem dzsx (e : Sx H H') : ∀ {vs : List V} {ds : List PyData}, DzAll K P H vs ds → DzAll K P H' vs ds
  | _, _, .nil => .nil
  | _, _, .cons h r => .cons (dzx e h) (dzsx e r)
end
theorem dz_mono (e : Same H H') {v : V} {d : PyData} (h : Dz K P H v d) : Dz K P H' v d := dzx (Same.sx e) h
theorem dzs_mono (e : Same H H') {vs : List V} {ds : List PyData} (h : DzAll K P H vs ds) : DzAll K P H' vs ds := dzsx (Same.sx e) h
theorem sqt_mut {D a : Addr} {ys xs : List V} {o : HO} (h : SqT K H a xs) (hD : H D = some (.lst ys)) : SqT K (upd H D o) a xs := by
  rcases h with (h | ⟨b, h⟩) | h
  · refine .inl (.inl ?_)
    rw [upd_ne fun z => by rw [z, hD] at h; cases h]
    exact h
  · refine .inl (.inr ⟨b, ?_⟩)
    rw [upd_ne fun z => by rw [z, hD] at h; cases h]
    exact h
  · exact .inr h
theorem sql_mut {D a : Addr} {xs : List V} {o : HO} (h : SqL K H a xs) (n : a ≠ D) : SqL K (upd H D o) a xs := by
  rcases h with (h | ⟨b, h⟩) | h
  · refine .inl (.inl ?_)
    rw [upd_ne n]
    exact h
  · refine .inl (.inr ⟨b, ?_⟩)
    rw [upd_ne n]
    exact h
  · exact .inr h
mutual
theorem dz_mut {D : Addr} {ys : List V} {o : HO} (hD : H D = some (.lst ys)) (n : ∀ a, P a → a ≠ D) : ∀ {v : V} {d : PyData}, Dz K P H v d → Dz K P (upd H D o) v d
  | _, _, .non => .non
  | _, _, .bl b => .bl b
  | _, _, .int i => .int i
  | _, _, .str x => .str x
  | _, _, .lst p h r => .lst p (sql_mut h (n _ p)) (dzs_mut hD n r)
  | _, _, .tup h r => .tup (sqt_mut h hD) (dzs_mut hD n r)
  | _, _, .dic p h => .dic p (by rw [upd_ne (n _ p)]; exact h)
theorem dzs_mut {D : Addr} {ys : List V} {o : HO} (hD : H D = some (.lst ys)) (n : ∀ a, P a → a ≠ D) : ∀ {vs : List V} {ds : List PyData}, DzAll K P H vs ds → DzAll K P (upd H D o) vs ds
  | _, _, .nil => .nil
  | _, _, .cons h r => .cons (dz_mut hD n h) (dzs_mut hD n r)
end
theorem dzs_len : ∀ {vs : List V} {ds : List PyData}, DzAll K P H vs ds → vs.length = ds.length
  | _, _, .nil => rfl
  | _, _, .cons _ r => by rw [List.length_cons, List.length_cons, dzs_len r]
theorem dzs_get : ∀ {vs : List V} {ds : List PyData} {i : Nat} {d : PyData}, DzAll K P H vs ds → ds[i]? = some d → ∃ v, vs[i]? = some v ∧ Dz K P H v d
  | _, _, _, _, .nil, e => by simp at e
  | _, _, 0, _, .cons (v := v) h _, e => by
    simp at e
    subst e
    exact ⟨v, rfl, h⟩
  | _, _, i + 1, d, .cons _ r, e => by
    obtain ⟨v, h1, h2⟩ := dzs_get (i := i) (d := d) r (by simpa using e)
    exact ⟨v, by simpa using h1, h2⟩
theorem dzs_get2 {vs : List V} {ds : List PyData} {i : Nat} {v : V} (r : DzAll K P H vs ds) (e : vs[i]? = some v) : ∃ d, ds[i]? = some d ∧ Dz K P H v d := by
  have hl := dzs_len r
  have hi := (List.getElem?_eq_some_iff.mp e).1
  have e2 : ds[i]? = some (ds[i]'(hl ▸ hi)) := List.getElem?_eq_getElem _
  obtain ⟨v2, h1, h2⟩ := dzs_get r e2
  rw [e] at h1
  cases h1
  exact ⟨_, e2, h2⟩
theorem dzs_app : ∀ {vs ws : List V} {ds es : List PyData}, DzAll K P H vs ds → DzAll K P H ws es → DzAll K P H (vs ++ ws) (ds ++ es)
  | _, _, _, _, .nil, s => s
  | _, _, _, _, .cons h r, s => .cons h (dzs_app r s)
theorem dzs_at {vs : List V} {ds : List PyData} {i : Int} {d : PyData} (r : DzAll K P H vs ds) (e : atI ds i = some d) : ∃ v, atI vs i = some v ∧ Dz K P H v d := by
  unfold atI at e ⊢
  rw [dzs_len r]
  cases q : ixN ds.length i with
  | none => rw [q] at e; cases e
  | some j =>
    rw [q] at e
    exact dzs_get r e
variable {v u : V} {d : PyData} {Q : VK}
theorem dzs_one (h : Dz K P H v d) : DzAll K P H [v] [d] := .cons h .nil
theorem dzs_two {d2 : PyData} (h : Dz K P H v d) (h2 : Dz K P H u d2) : DzAll K P H [v, u] [d, d2] := .cons h (.cons h2 .nil)
theorem dz_int {i : Int} (h : Dz K P H v (.int i)) : v = .int i := by cases h; rfl
theorem dz_str {x : Str} (h : Dz K P H v (.str x)) : v = .str x := by cases h; rfl
theorem dz_bl {b : Bool} (h : Dz K P H v (.bool b)) : v = .bl b := by cases h; rfl
theorem dz_non (h : Dz K P H v .none) : v = .non := by cases h; rfl
theorem dz_tt {ds : List PyData} (h : Dz K P H v (.tuple ds)) : ∃ a xs, v = .ref a ∧ SqT K H a xs ∧ DzAll K P H xs ds := by
  cases h with
  | tup h r => exact ⟨_, _, rfl, h, r⟩
theorem dz_ll {ds : List PyData} (h : Dz K P H v (.list ds)) : ∃ a xs, v = .ref a ∧ P a ∧ SqL K H a xs ∧ DzAll K P H xs ds := by
  cases h with
  | lst p h r => exact ⟨_, _, rfl, p, h, r⟩
theorem dz_new {a : Addr} {xs : List V} {ds : List PyData} (h : TupN H a xs) (r : DzAll K P H xs ds) : Dz K P H (.ref a) (.tuple ds) := .tup (SqN.t (.inl h)) r
theorem dz_newl {a : Addr} {xs : List V} {ds : List PyData} (p : P a) (h : H a = some (.lst xs)) (r : DzAll K P H xs ds) : Dz K P H (.ref a) (.list ds) := .lst p (SqL.of h) r
theorem dz_tupx {H1 : Hp} {a : Addr} {xs : List V} {ds : List PyData} (e : Sx H1 H) (h : TupN H1 a xs) (r : DzAll K P H xs ds) : Dz K P H (.ref a) (.tuple ds) := dz_new (sx_tup e h) r
theorem dz_lstx {H1 : Hp} {a : Addr} {xs : List V} {ds : List PyData} (p : P a) (e : Sx H1 H) (h : H1 a = some (.lst xs)) (r : DzAll K P H xs ds) : Dz K P H (.ref a) (.list ds) := dz_newl p (e.keep _ _ h rfl) r
theorem dz_dicx {H1 : Hp} {a : Addr} {kvs : List (Key × V)} (p : P a) (e : Sx H1 H) (h : H1 a = some (.dK kvs)) : Dz K P H (.ref a) (.dict []) := .dic p (e.keep _ _ h rfl)
theorem ty_z (h : Dz K P H v d) : TyX K H v (.type (tyD d)) := by
  cases h with
  | non => exact .base .non
  | bl b => exact .base (.bl b)
  | int i => exact .base (.int i)
  | str x => exact .base (.str x)
  | lst _ h r =>
    rcases h with (h | ⟨o, h⟩) | ⟨o, its, n, h, c, _⟩
    · exact .base (.lst h)
    · exact .base (.frz h)
    · exact .kList h c
  | tup h r =>
    rcases h with (h | ⟨o, h⟩) | ⟨o, its, n, h, c, _⟩
    · exact .base (.tup h)
    · exact .fTuple h
    · exact .kTuple h c
  | dic _ h => exact .base (.dK h)
theorem w_isiz {b : String} {r : Bool} (h : Dz K P H v d) (hk : kitB (tyD d) b = some r) (q : Q (.bl r) H) : rIsi K [v, .ty b] H Q := ⟨v, .ty b, _, _, r, rfl, .ty b, ty_z h, kit_ty hk, q⟩
theorem w_isintz (h : Dz K P H v d) (q : Q (.bl (isIntB d)) H) : rIsi K [v, .ty "int"] H Q := w_isiz h (by cases d <;> (simp only [tyD, isIntB]; decide +kernel)) q
theorem w_isboolz (h : Dz K P H v d) (q : Q (.bl (isBoolD d)) H) : rIsi K [v, .ty "bool"] H Q := w_isiz h (by cases d <;> (simp only [tyD, isBoolD]; decide +kernel)) q
theorem w_isstrz (h : Dz K P H v d) (q : Q (.bl (isStrD d)) H) : rIsi K [v, .ty "str"] H Q := w_isiz h (by cases d <;> (simp only [tyD, isStrD]; decide +kernel)) q
theorem w_istupz (h : Dz K P H v d) (q : Q (.bl (isTupD d)) H) : rIsi K [v, .ty "tuple"] H Q := w_isiz h (by cases d <;> (simp only [tyD, isTupD]; decide +kernel)) q
theorem w_islistz (h : Dz K P H v d) (q : Q (.bl (isListD d)) H) : rIsi K [v, .ty "list"] H Q := w_isiz h (by cases d <;> (simp only [tyD, isListD]; decide +kernel)) q
theorem w_lenZT {ds : List PyData} (h : Dz K P H v (.tuple ds)) (q : Q (.int ds.length) H) : rLenU K [v] H Q := by
  obtain ⟨a, xs, rfl, h, r⟩ := dz_tt h
  exact w_lenT h (by rw [dzs_len r]; exact q)
theorem w_ixZT {ds : List PyData} {i : Int} (h : Dz K P H v (.tuple ds)) (e : atI ds i = some d) (q : ∀ x, Dz K P H x d → Q x H) : rIxU K v (.int i) H Q := by
  obtain ⟨a, xs, rfl, h, r⟩ := dz_tt h
  obtain ⟨x, e1, e2⟩ := dzs_at r e
  exact w_ixt h e1 (q x e2)
theorem w_catZT {ds es : List PyData} (h : Dz K P H v (.tuple ds)) (h' : Dz K P H u (.tuple es)) (hl : ds.length + es.length ≤ sizeLine) (q : ∀ x H', Same H H' → Dz K P H' x (.tuple (ds ++ es)) → Q x H') : rAddN K v u H Q := by
  obtain ⟨a, xs, rfl, hs, r⟩ := dz_tt h
  obtain ⟨b, ys, rfl, hs', r'⟩ := dz_tt h'
  have l1 := dzs_len r
  have l2 := dzs_len r'
  refine .inr (.inr (.inr ⟨a, b, xs, ys, rfl, rfl, hs, hs', by omega, fun e => ?_, fun _ e => ?_, fun _ _ p o hp hd => q _ _ (same_new hp) (dz_new ⟨o, hd, upd_same⟩ (dzs_mono (same_new hp) (dzs_app r r')))⟩))
  · subst e
    cases r
    exact q _ _ (Same.refl _) h'
  · subst e
    cases r'
    rw [List.append_nil] at q
    exact q _ _ (Same.refl _) h
theorem w_ixZTs {ds : List PyData} {i : Int} {z : Str} (h : Dz K P H v (.tuple ds)) (e : atI ds i = some (.str z)) (q : Q (.str z) H) : rIxU K v (.int i) H Q := w_ixZT h e fun x hx => by
  rw [dz_str hx]
  exact q
theorem w_ixZTi {ds : List PyData} {i n : Int} (h : Dz K P H v (.tuple ds)) (e : atI ds i = some (.int n)) (q : Q (.int n) H) : rIxU K v (.int i) H Q := w_ixZT h e fun x hx => by
  rw [dz_int hx]
  exact q
end
/-! lists of any data -/
def Bag (K : PySem.W.Frag) (P : Addr → Prop) (B : PyData → Prop) (H : Hp) (a : Addr) (n : Nat) : Prop := ∃ xs ds, H a = some (.lst xs) ∧ DzAll K P H xs ds ∧ (∀ d ∈ ds, B d) ∧ xs.length ≤ n
section
variable {K : PySem.W.Frag} {P P' : Addr → Prop} {B : PyData → Prop} {H H' : Hp} {a b p : Addr} {n : Nat} {xs ys : List V} {es : List PyData} {Q : VK} {x : V} {d : PyData} {o : HO} {W : Wd} {bb : Bool} {H1 : Hp} {F : Addr → Prop}
theorem all_nil : ∀ d ∈ ([] : List PyData), B d := fun _ h => nomatch h
theorem all_cons {r : List PyData} (h : B d) (hr : ∀ d ∈ r, B d) : ∀ e ∈ d :: r, B e := fun e he => by
  rcases List.mem_cons.mp he with rfl | he
  · exact h
  · exact hr e he
theorem all_app {r s : List PyData} (h : ∀ d ∈ r, B d) (hr : ∀ d ∈ s, B d) : ∀ e ∈ r ++ s, B e := fun e he => by
  rcases List.mem_append.mp he with he | he
  · exact h e he
  · exact hr e he
theorem bag_sx (e : Sx H H') (h : Bag K P B H a n) : Bag K P B H' a n := by
  obtain ⟨xs, ds, h1, h2, h3⟩ := h
  exact ⟨xs, ds, e.keep _ _ h1 rfl, dzsx e h2, h3⟩
theorem bag_wk (w : ∀ a, P a → P' a) (h : Bag K P B H a n) : Bag K P' B H a n := by
  obtain ⟨xs, ds, h1, h2, h3⟩ := h
  exact ⟨xs, ds, h1, dzs_wk w h2, h3⟩
theorem bag_le {m : Nat} (l : n ≤ m) (h : Bag K P B H a n) : Bag K P B H a m := by
  obtain ⟨xs, ds, h1, h2, h3, h4⟩ := h
  exact ⟨xs, ds, h1, h2, h3, Nat.le_trans h4 l⟩
theorem bag_lit (h : H a = some (.lst xs)) (r : DzAll K P H xs es) (hb : ∀ d ∈ es, B d) (l : xs.length ≤ n) : Bag K P B H a n := ⟨xs, es, h, r, hb, l⟩
theorem bag_cat {m : Nat} (e1 : Sx H1 H) (h : Bag K P B H1 a n) (h2 : H b = some (.lst ys)) (r : DzAll K P H ys es) (hb : ∀ d ∈ es, B d) (l : n + ys.length ≤ m) (lm : m ≤ 1000000) (q : ∀ p H', H p = none → Same H H' → Bag K P B H' p m → Q (.ref p) H') : rAddN K (.ref a) (.ref b) H Q := by
  obtain ⟨xs, ds, h1, h3, h4, h5⟩ := bag_sx e1 h
  refine w_catL h1 h2 (by omega) fun p H' np e hp => q p H' np e ⟨xs ++ ys, ds ++ es, hp, dzs_app (dzs_mono e h3) (dzs_mono e r), all_app h4 hb, by rw [List.length_append]; omega⟩
theorem bag_app (h : Bag K P B H a n) (w : ∀ p, P p → p ≠ a) (hx : Dz K P H x d) (hb : B d) (l : n < 1000000) (q : ∀ ys zs, H a = some (.lst ys) → Bag K P B (upd H a (.lst zs)) a (n + 1) → Q .non (upd H a (.lst zs))) : rAppend (.ref a) [x] H Q := by
  obtain ⟨xs, ds, h1, h3, h4, h5⟩ := h
  refine w_append h1 (by omega) ?_
  refine q xs _ h1 ⟨xs ++ [x], ds ++ [d], upd_same, dzs_app (dzs_mut h1 w h3) (dzs_one (dz_mut h1 w hx)), all_app h4 (all_cons hb all_nil), by rw [List.length_append]; exact Nat.succ_le_succ h5⟩
theorem bag_ne (h : Bag K P B H1 a n) (e : Sx H1 H) (np : H p = none) : p ≠ a := by
  obtain ⟨xs, ds, h1, _⟩ := h
  intro z
  subst z
  obtain ⟨w, hw⟩ := e.there _ _ h1
  rw [hw] at np
  cases np
theorem pres_of {H1 : Hp} (e : Sx H1 H) (h : H1 p = some o) : H p ≠ none := fun z => by
  obtain ⟨w, hw⟩ := e.there _ _ h
  rw [hw] at z
  cases z
theorem ne_fresh {H1 : Hp} (np : H p = none) (e : Sx H1 H) (h : H1 a = some o) : p ≠ a := fun z => by
  subst z
  exact pres_of e h np
theorem bag_ty {R : Prop} (h : Bag K P B H a n) (q : R) : tyV K "list" (.ref a) H ∧ R := by
  obtain ⟨xs, ds, h1, _⟩ := h
  exact w_tyL h1 q
/-- lies in the heap, and F -/
def PF (F : Addr → Prop) (H : Hp) : Addr → Prop := fun p => F p ∧ H p ≠ none
theorem pf_sx (e : Sx H H') : ∀ p, PF F H p → PF F H' p := fun p ⟨h1, h2⟩ => ⟨h1, by
  cases c : H p with
  | none => exact (h2 c).elim
  | some u => exact pres_of e c⟩
theorem bag_litx (h : H1 a = some (.lst xs)) (e : Sx H1 H) (r : DzAll K P H xs es) (hb : ∀ d ∈ es, B d) (l : xs.length ≤ n) : Bag K P B H a n := ⟨xs, es, e.keep _ _ h rfl, r, hb, l⟩
theorem bag_catF {m : Nat} (e : Sx H1 H) (h : Bag K (PF F H1) B H1 a n) (h2 : H b = some (.lst ys)) (r : DzAll K (PF F H) H ys es) (hb : ∀ d ∈ es, B d) (l : n + ys.length ≤ m) (lm : m ≤ 1000000) (q : ∀ p H', H p = none → Same H H' → Bag K (PF F H') B H' p m → Bag K (fun x => F x ∧ x ≠ p) B H' p m → Q (.ref p) H') : rAddN K (.ref a) (.ref b) H Q :=
  bag_cat (Sx.refl _) (bag_wk (pf_sx e) (bag_sx e h)) h2 r hb l lm fun p H' np e2 hb2 => q p H' np e2 (bag_wk (pf_sx (Same.sx e2)) hb2) (bag_wk (fun x ⟨h1, h2⟩ => ⟨h1, fun z => by
    subst z
    exact h2 np⟩) hb2)
end
theorem log2_sm {n : Nat} (h : n < 18446744073709551616) : n.log2 < 1920 := by
  by_cases z : n = 0
  · subst z
    decide
  · rw [Nat.log2_lt z]
    exact Nat.lt_of_lt_of_le h (show 2 ^ 64 ≤ 2 ^ 1920 from Nat.pow_le_pow_right (by decide) (by decide))
theorem take_iff {α : Type} {xs ys : List α} {i : Nat} {x y : α} (hx : xs[i]? = some x) (hy : ys[i]? = some y) : xs.take (i + 1) = ys.take (i + 1) ↔ xs.take i = ys.take i ∧ x = y := by
  have l1 := (List.getElem?_eq_some_iff.mp hx).1
  have l2 := (List.getElem?_eq_some_iff.mp hy).1
  rw [List.take_add_one, List.take_add_one, hx, hy]
  constructor
  · intro e
    have z := List.append_inj e (by rw [List.length_take, List.length_take]; omega)
    exact ⟨z.1, by simpa using z.2⟩
  · rintro ⟨e, rfl⟩
    rw [e]
/-! shapes of data, for == -/
theorem canAll : ∀ ds : List PyData, (∀ d ∈ ds, PyData.canLay0 d = true) → PyData.canLayAll0 ds = true
  | [], _ => by simp [PyData.canLayAll0]
  | d :: r, h => by
    rw [PyData.canLayAll0, h d List.mem_cons_self, canAll r fun x hx => h x (List.mem_cons_of_mem _ hx)]
    rfl
theorem depAll {k : Nat} : ∀ ds : List PyData, (∀ d ∈ ds, PyData.depth d ≤ k) → PyData.depthAll ds ≤ k
  | [], _ => by simp [PyData.depthAll]
  | d :: r, h => by
    have a := h d List.mem_cons_self
    have b := depAll r fun x hx => h x (List.mem_cons_of_mem _ hx)
    rw [PyData.depthAll]
    omega
theorem shaped_list {ds : List PyData} {k : Nat} (hk : k ≤ 60) (h : ∀ d ∈ ds, PyData.canLay0 d = true ∧ PyData.depth d ≤ k) : SeqAt.shaped (.list ds) = true := by
  have a := canAll ds fun d hd => (h d hd).1
  have b := depAll ds fun d hd => (h d hd).2
  show (PyData.canLay0 (.list ds) && decide (PyData.depth (.list ds) ≤ 64)) = true
  rw [Bool.and_eq_true]
  exact ⟨by simp only [PyData.canLay0]; exact a, decide_eq_true (by simp only [PyData.depth]; omega)⟩
theorem eqv_lnil (ds : List PyData) : PyData.eqv (.list ds) (.list []) = decide (ds = []) := by
  cases ds with
  | nil => rfl
  | cons n r => rfl
end Sh
/-! what bits tell -/
namespace Sh
open PySem PySem.Spec PyProof.Rows L2
def arnF (w base below n wd : Int) : Int := (base - below + (n - (base - below)) % p2 wd) % p2 w
/-- what a place's bits tell -/
def VO (fo ah : List Int) (m v : Int) (fd : Fd) (n : Int) : Wy → Int → Prop
  | .whole, x => x = n
  | .keep, x => ∃ r, ExpK fo ah m v fd.kd r ∧ x = r % p2 fd.br
  | .low wd bl, x => ∃ r, ExpK fo ah m v fd.kd r ∧ x = arnF fd.br (r % p2 fd.br) bl n wd
theorem VO.one {fo ah : List Int} {m v : Int} {fd : Fd} {n : Int} {w : Wy} {x y : Int} (h : VO fo ah m v fd n w x) (h' : VO fo ah m v fd n w y) : x = y := by
  cases w with
  | whole => exact Eq.trans h (Eq.symm h')
  | keep =>
    obtain ⟨r, h1, rfl⟩ := h
    obtain ⟨r', h2, rfl⟩ := h'
    rw [ExpK.one h1 h2]
  | low wd bl =>
    obtain ⟨r, h1, rfl⟩ := h
    obtain ⟨r', h2, rfl⟩ := h'
    rw [ExpK.one h1 h2]
/-- where a place's piece begins -/
def atW (fs : List Fd) (ws : List Wy) (j : Nat) : Nat := (((fs.zip ws).take j).map fun fw => wW fw.1 fw.2).sum
theorem atW_succ {fs : List Fd} {ws : List Wy} {j : Nat} {f : Fd} {w : Wy} (h1 : fs[j]? = some f) (h2 : ws[j]? = some w) : atW fs ws (j + 1) = atW fs ws j + wW f w := by
  have e : (fs.zip ws)[j]? = some (f, w) := List.getElem?_zip_eq_some.mpr ⟨h1, h2⟩
  unfold atW
  rw [List.take_add_one, e, List.map_append, List.sum_append]
  simp
theorem atW_mono (fs : List Fd) (ws : List Wy) {i j : Nat} (h : i ≤ j) : atW fs ws i ≤ atW fs ws j := by
  unfold atW
  have e : (fs.zip ws).take j = (fs.zip ws).take i ++ ((fs.zip ws).take j).drop i := by
    have z := (List.take_append_drop i ((fs.zip ws).take j)).symm
    rw [List.take_take, Nat.min_eq_left h] at z
    exact z
  rw [e, List.map_append, List.sum_append]
  exact Nat.le_add_right _ _
def sliceN (z : Str) (a l : Nat) : List Nat := ((cz z).drop a).take l
def numS (z : Str) (a l : Nat) : Int := valL (sliceN z a l).reverse
theorem cutD_mid {α : Type} {xs : List α} {a b : Int} (h0 : 0 ≤ a) (h1 : a ≤ b) (h2 : b ≤ xs.length) : cutD xs (some a) (some b) = (xs.drop a.toNat).take (b.toNat - a.toNat) := by
  obtain ⟨n, rfl⟩ : ∃ n : Nat, a = n := ⟨a.toNat, by omega⟩
  obtain ⟨k, rfl⟩ : ∃ k : Nat, b = k := ⟨b.toNat, by omega⟩
  unfold cutD
  rw [six_of _ (by omega), six_of _ (by omega), Int.toNat_natCast, Int.toNat_natCast]
theorem num_slice {y z : Str} {a l : Nat} (h : cz y = sliceN z a l) : numT y = numS z a l := by
  unfold numT numS
  rw [h]
theorem slice_len {z : Str} {a l : Nat} (h : a + l ≤ z.length) : (sliceN z a l).length = l := by
  unfold sliceN
  rw [List.length_take, List.length_drop, cz_len]
  omega
theorem slice_01 {z : Str} {a l : Nat} (h : ∀ c ∈ cz z, c = 48 ∨ c = 49) : ∀ c ∈ sliceN z a l, c = 48 ∨ c = 49 := fun c hc => h c (List.mem_of_mem_drop (List.mem_of_mem_take hc))
theorem numS_bd {z : Str} {a l : Nat} (h : ∀ c ∈ cz z, c = 48 ∨ c = 49) (hl : a + l ≤ z.length) : 0 ≤ numS z a l ∧ numS z a l < 2 ^ l := by
  have e := valL_bound (sliceN z a l).reverse fun c hc => slice_01 h c (List.mem_reverse.mp hc)
  rw [List.length_reverse, slice_len hl] at e
  exact e
/-- the head that bits tell, as far as place i -/
def OpN (s : Shp) (f : Fm) (fo : List Int) (m : Int) (z : Str) (i : Nat) (hd : List Int) : Prop :=
  hd.length = i ∧ ∀ (j : Nat) fd w v, j < i → s.fs[j]? = some fd → f.ws[j]? = some w → fo[j]? = some v → ∃ x, hd[j]? = some x ∧ VO fo (hd.take j) m v fd (numS z (atW s.fs f.ws j) (wW fd w)) w x
section
variable {s : Shp} {f : Fm} {fo : List Int} {m : Int} {z : Str} {i : Nat} {hd hd' : List Int}
theorem OpN.nil : OpN s f fo m z 0 [] := ⟨rfl, fun j _ _ _ h => by omega⟩
theorem OpN.snoc {fd : Fd} {w : Wy} {v x : Int} (h : OpN s f fo m z i hd) (h1 : s.fs[i]? = some fd) (h2 : f.ws[i]? = some w) (h3 : fo[i]? = some v) (hx : VO fo hd m v fd (numS z (atW s.fs f.ws i) (wW fd w)) w x) : OpN s f fo m z (i + 1) (hd ++ [x]) := by
  obtain ⟨hl, h⟩ := h
  refine ⟨by rw [List.length_append, hl]; rfl, fun j fd' w' v' hj e1 e2 e3 => ?_⟩
  by_cases c : j < i
  · obtain ⟨y, hy, hv⟩ := h j fd' w' v' c e1 e2 e3
    refine ⟨y, by rw [List.getElem?_append_left (by omega)]; exact hy, ?_⟩
    rw [List.take_append_of_le_length (by omega)]
    exact hv
  · have e : j = i := by omega
    subst e
    obtain rfl := Option.some.inj (h1.symm.trans e1)
    obtain rfl := Option.some.inj (h2.symm.trans e2)
    obtain rfl := Option.some.inj (h3.symm.trans e3)
    refine ⟨x, ?_, ?_⟩
    · rw [List.getElem?_append_right (by omega), hl, Nat.sub_self]
      rfl
    · rw [List.take_append_of_le_length (by omega), List.take_of_length_le (by omega)]
      exact hx
theorem OpN.one (lw : f.ws.length = s.fs.length) (lf : fo.length = s.fs.length) (hi : i ≤ s.fs.length) (h : OpN s f fo m z i hd) (h' : OpN s f fo m z i hd') : hd = hd' := by
  have key : ∀ j, j ≤ i → hd.take j = hd'.take j := fun j => by
    induction j with
    | zero => exact fun _ => rfl
    | succ j ih =>
      intro hj
      have e := ih (by omega)
      obtain ⟨fd, h1⟩ : ∃ fd, s.fs[j]? = some fd := ⟨_, List.getElem?_eq_getElem (by omega)⟩
      obtain ⟨w, h2⟩ : ∃ w, f.ws[j]? = some w := ⟨_, List.getElem?_eq_getElem (by omega)⟩
      obtain ⟨v, h3⟩ : ∃ v, fo[j]? = some v := ⟨_, List.getElem?_eq_getElem (by omega)⟩
      obtain ⟨x, hx, hv⟩ := h.2 j fd w v (by omega) h1 h2 h3
      obtain ⟨x', hx', hv'⟩ := h'.2 j fd w v (by omega) h1 h2 h3
      rw [e] at hv
      obtain rfl := VO.one hv hv'
      rw [List.take_add_one, List.take_add_one, e, hx, hx']
  have z1 := key i (Nat.le_refl _)
  rw [List.take_of_length_le (by rw [h.1]; exact Nat.le_refl _), List.take_of_length_le (by rw [h'.1]; exact Nat.le_refl _)] at z1
  exact z1
end
theorem atW_all {fs : List Fd} {ws : List Wy} {vs : List Int} (h1 : ws.length = fs.length) (h2 : vs.length = fs.length) : atW fs ws fs.length = triW (triL fs ws vs) := by
  unfold atW triW triL
  rw [List.take_of_length_le (by rw [List.length_zip]; omega)]
  congr 1
  induction fs generalizing ws vs with
  | nil => rfl
  | cons f fs ih =>
    cases ws with
    | nil => simp at h1
    | cons w ws =>
      cases vs with
      | nil => simp at h2
      | cons v vs =>
        show wW f w :: _ = wW f w :: _
        congr 1
        exact ih (by simpa using h1) (by simpa using h2)
theorem atW_le {s : Shp} {f : Fm} (ok : OkShp s) (okf : OkFm s f) : atW s.fs f.ws s.fs.length ≤ 480 := by
  have lw := okf.len
  have l1 := ok.l1
  have e : atW s.fs f.ws s.fs.length = triW (triL s.fs f.ws (List.replicate s.fs.length 0)) := atW_all lw List.length_replicate
  have z := triW_le (triL s.fs f.ws (List.replicate s.fs.length 0)) fun t ht => by
    obtain ⟨i, hi⟩ := List.getElem?_of_mem ht
    obtain ⟨e1, e2⟩ := List.getElem?_zip_eq_some.mp hi
    obtain ⟨e3, _⟩ := List.getElem?_zip_eq_some.mp e2
    have o := ok.fd i _ e1
    have z := wW_le (okf.ok i _ _ e3 e1) (by have := o.b0; omega)
    have := o.b1
    omega
  rw [tri_len lw List.length_replicate] at z
  omega
theorem pieces_01 (ts : List Tri) : ∀ c ∈ cz (piecesT ts), c = 48 ∨ c = 49 := fun c hc => by
  rw [cz_pieces] at hc
  obtain ⟨l, hl, hcl⟩ := List.mem_flatten.mp hc
  obtain ⟨t, _, rfl⟩ := List.mem_map.mp hl
  exact bits_01 c hcl
section
variable {K : PySem.W.Frag} {σ : L2.St} {H : Hp} {Q : VK} {te : TE} {tt : TT} {g : TG} {vs : List Nat} {z : Str}
/-- [.. for c in z], z a text, with draws -/
theorem lcSX (I : Nat → List V → Hp → Prop) (hst : Stb I) (hn : z.length ≤ 1000000) (hI : ∀ i acc H', I i acc H' → acc.length ≤ i) (h0 : ∀ H', Same H H' → I 0 [] H')
    (hs : ∀ i c acc H', z.cps.toList[i]? = some c → Sx H H' → I i acc H' → ∀ (k : VK) (k' : Hp → Prop), (∀ y H4, Sx H' H4 → I (i + 1) (acc ++ [y]) H4 → k y H4) → (∀ H3, Sx H' H3 → I (i + 1) acc H3 → k' H3) →
      g (.str ⟨#[c]⟩) (wipe σ vs) H' fun σ2 H2 => wipe σ2 vs = wipe σ vs ∧ tt σ2 H2 fun b H3 => if b = true then te σ2 H3 k else k' H3)
    (hd : ∀ D acc H', H D = none → Sx H H' → H' D = some (.lst acc) → I z.length acc H' → Q (.ref D) H') : LcOk (Its z) g tt te vs σ Q H :=
  lc_genX (n := z.length) I hst hn hI h0 (fun i acc H' hi _ _ => hi) (fun _ _ _ _ => Nat.le_refl _) (fun i acc x H' H'' hi s1 w1 y => by
    obtain ⟨e1, c, e2, e3⟩ := y
    subst e1
    subst e3
    exact hs i c acc _ (by rw [Array.getElem?_toList]; exact e2) s1 w1) hd
end
/-! single signs -/
def is01 (z : Str) : Prop := ∀ c ∈ cz z, c = 48 ∨ c = 49
def isBS (x : V) : Prop := ∃ y : Str, x = .str y ∧ y.length = 1 ∧ is01 y
theorem strs_of : ∀ {xs : List V}, (∀ x ∈ xs, isBS x) → ∃ ys : List Str, xs = ys.map V.str ∧ ∀ y ∈ ys, y.length = 1 ∧ is01 y
  | [], _ => ⟨[], rfl, fun _ h => nomatch h⟩
  | x :: r, h => by
    obtain ⟨ys, e, hn⟩ := strs_of (xs := r) fun y hy => h y (List.mem_cons_of_mem _ hy)
    obtain ⟨y, rfl, h1⟩ := h x List.mem_cons_self
    refine ⟨y :: ys, by rw [e]; rfl, fun m hm => ?_⟩
    rcases List.mem_cons.mp hm with rfl | hm
    · exact h1
    · exact hn m hm
theorem sum_ones : ∀ {ys : List Str}, (∀ y ∈ ys, y.length = 1 ∧ is01 y) → (ys.map (·.length)).sum = ys.length
  | [], _ => rfl
  | y :: r, h => by
    rw [List.map_cons, List.sum_cons, List.length_cons, (h y List.mem_cons_self).1, sum_ones fun z hz => h z (List.mem_cons_of_mem _ hz)]
    omega
theorem len_joinB {ys : List Str} (h : ∀ y ∈ ys, y.length = 1 ∧ is01 y) : (Txt.join "" ys).length = ys.length := by
  rw [← cz_len, cz_join, List.length_flatten, List.map_map]
  have e : (List.length ∘ cz) = fun y : Str => y.length := by
    funext y
    exact cz_len y
  rw [e]
  exact sum_ones h
theorem is01_join {ys : List Str} (h : ∀ y ∈ ys, y.length = 1 ∧ is01 y) : is01 (Txt.join "" ys) := fun c hc => by
  rw [cz_join] at hc
  obtain ⟨x, hx, hcx⟩ := List.mem_flatten.mp hc
  obtain ⟨y, hy, rfl⟩ := List.mem_map.mp hx
  exact (h y hy).2 c hcx
theorem mul_one {c : Nat} {n : Int} : cz (Txt.mul ⟨#[c]⟩ n) = List.replicate n.toNat c := by
  rw [cz_mul]
  show (List.replicate n.toNat [c]).flatten = _
  induction n.toNat with
  | zero => rfl
  | succ n ih => rw [List.replicate_succ, List.flatten_cons, ih, List.replicate_succ]; rfl
theorem w_ix01 {K : PySem.W.Frag} {H : Hp} {Q : VK} {i : Int} (h0 : 0 ≤ i) (h1 : i < 2) (q : ∀ c, c = 48 ∨ c = 49 → Q (.str ⟨#[c]⟩) H) : rIxU K (.str (Str.ofString "01")) (.int i) H Q := by
  have e : i = 0 ∨ i = 1 := by omega
  rcases e with rfl | rfl
  · exact w_ixs (by decide) (c := 48) rfl (q 48 (.inl rfl))
  · exact w_ixs (by decide) (c := 49) rfl (q 49 (.inr rfl))
theorem mul1_len {c n : Nat} : (Txt.mul ⟨#[c]⟩ (n : Int)).length = n := by
  rw [← cz_len, mul_one, List.length_replicate, Int.toNat_natCast]
theorem mul1_01 {c : Nat} {n : Int} (h : c = 48 ∨ c = 49) : is01 (Txt.mul ⟨#[c]⟩ n) := fun d hd => by
  rw [mul_one] at hd
  rw [List.eq_of_mem_replicate hd]
  exact h
theorem isBS_one {c : Nat} (h : c = 48 ∨ c = 49) : isBS (.str ⟨#[c]⟩) := ⟨_, rfl, rfl, fun d hd => by
  rw [List.mem_singleton.mp hd]
  exact h⟩
end Sh
/-! former heads; which heads are sure -/
namespace Sh
open PySem PySem.Spec PyProof.Rows L2
theorem shaped_tints (ns : List Int) : SeqAt.shaped (.tuple (ns.map PyData.int)) = true := PySem.W.shaped_ints ns
theorem eqvAll_ints : ∀ a b : List Int, PyData.eqvAll (a.map .int) (b.map .int) = decide (a = b)
  | [], [] => by simp [PyData.eqvAll]
  | [], _ :: _ => by simp [PyData.eqvAll]
  | _ :: _, [] => by simp [PyData.eqvAll]
  | x :: xs, y :: ys => by
    show PyData.eqvAll (.int x :: xs.map .int) (.int y :: ys.map .int) = _
    rw [PyData.eqvAll, eqvAll_ints xs ys, show PyData.eqv (.int x) (.int y) = decide (x = y) by by_cases h : x = y <;> simp [PyData.eqv, h]]
    by_cases h : x = y <;> by_cases g : xs = ys <;> simp [h, g]
def headD (h : List Int) : PyData := .tuple (h.map .int)
/-- == of two heads -/
theorem w_eqH {K : PySem.W.Frag} {H : Hp} {Q : VK} {v u : V} {a b : List Int} (h : Dq K H v (headD a)) (h' : Dq K H u (headD b)) (q : Q (.bl (decide (a = b))) H) : rEqU K v u H Q :=
  w_eqD h h' (shaped_tints a) (shaped_tints b) (by
    have e : PyData.eqv (headD a) (headD b) = decide (a = b) := by
      show PyData.eqv (.tuple (a.map .int)) (.tuple (b.map .int)) = _
      rw [PyData.eqv]
      exact eqvAll_ints a b
    rw [e]
    exact q)
/-- a former head with how many letters ahead it is -/
abbrev Fo := Int × List Int
def foD (p : Fo) : PyData := .tuple [.int p.1, headD p.2]
def fosD (ps : List Fo) : PyData := .tuple (ps.map foD)
def OkFo (s : Shp) (p : Fo) : Prop := p.2.length = s.fs.length ∧ 1 ≤ p.1 ∧ p.1 ≤ 1000
/-- a head's own bits are opened to it by a former one -/
def SuP (s : Shp) (f : Fm) (hd : List Int) (p : Fo) : Prop := OpN s f p.2 p.1 (piecesT (triL s.fs f.ws hd)) s.fs.length hd
def SuA (s : Shp) (f : Fm) (hd : List Int) (ps : List Fo) : Prop := ∀ p ∈ ps, SuP s f hd p
theorem suA_nil {s : Shp} {f : Fm} {hd : List Int} : SuA s f hd [] := fun _ h => nomatch h
theorem suA_snoc {s : Shp} {f : Fm} {hd o : List Int} {ps : List Fo} {p : Fo} {i : Nat} {bs : List Bool} (ok : f.ws.length = s.fs.length) (lp : p.2.length = s.fs.length) (h : bs.all id = true ↔ SuA s f hd (ps.take i)) (hp : ps[i]? = some p) (op : OpN s f p.2 p.1 (piecesT (triL s.fs f.ws hd)) s.fs.length o) : (bs ++ [decide (o = hd)]).all id = true ↔ SuA s f hd (ps.take (i + 1)) := by
  have e : decide (o = hd) = true ↔ SuP s f hd p := ⟨fun e => by
    have z := of_decide_eq_true e
    subst z
    exact op, fun e => decide_eq_true (op.one ok lp (Nat.le_refl _) e)⟩
  rw [List.all_append, Bool.and_eq_true, h, List.take_add_one, hp]
  show _ ∧ (([decide (o = hd)].all id) = true) ↔ _
  rw [show [decide (o = hd)].all id = decide (o = hd) from by simp, e]
  constructor
  · rintro ⟨a, b⟩ q hq
    rcases List.mem_append.mp hq with hq | hq
    · exact a q hq
    · rw [List.mem_singleton.mp hq]
      exact b
  · intro a
    exact ⟨fun q hq => a q (List.mem_append.mpr (.inl hq)), a p (List.mem_append.mpr (.inr (List.mem_singleton.mpr rfl)))⟩
section
variable {K : PySem.W.Frag} {H H' : Hp} {v : V} {Q : VK} {a : Addr} {i : Int}
theorem w_ixLm {α : Type} {g : α → PyData} {l : List α} (h : Dq K H v (.list (l.map g))) (h0 : -(l.length : Int) ≤ i) (h1 : i < l.length) (q : ∀ f x, f ∈ l → Dq K H x (g f) → Q x H) : rIxU K v (.int i) H Q := by
  obtain ⟨f, e, hm⟩ := atI_mem h0 h1
  exact w_ixQL h (d := g f) (by rw [atI_map, e]; rfl) fun x hx => q f x hm hx
theorem w_ixLM {α : Type} {g : α → PyData} {l : List α} (h : Dq K H v (.list (l.map g))) (h0 : 0 ≤ i) (h1 : i < l.length) (q : ∀ f x, l[i.toNat]? = some f → Dq K H x (g f) → Q x H) : rIxU K v (.int i) H Q := by
  obtain ⟨f, e, e2⟩ := atI_get h0 h1
  exact w_ixQL h (d := g f) (by rw [atI_map, e2]; rfl) fun x hx => q f x e hx
theorem w_ixQTx {ds : List PyData} {i : Int} {d : PyData} (h : Dq K H v (.tuple ds)) (e : Sx H H') (ea : atI ds i = some d) (q : ∀ x, Dq K H x d → Q x H') : rIxU K v (.int i) H' Q := by
  cases h with
  | tup h r =>
    obtain ⟨x, e1, e2⟩ := dqs_at r ea
    exact w_ixt (sx_t e h.t) e1 (q x e2)
theorem w_max {ns : List Int} (h : SqL K H a (ns.map V.int)) (h0 : 0 < ns.length) (q : ∀ m, m ∈ ns → (∀ y, y ∈ ns → y ≤ m) → Q (.int m) H) : rMax K [.ref a] H Q := ⟨a, ns, rfl, h, h0, q⟩
end
theorem tupO_head (h : List Int) : tupO (headD h) := tupOs_ints h
theorem tupO_fo (p : Fo) : tupO (foD p) := ⟨trivial, tupO_head _, trivial⟩
theorem tupOs_heads (hs : List (List Int)) : tupOs (hs.map headD) := tupOs_of fun d hd => by
  obtain ⟨h, _, rfl⟩ := List.mem_map.mp hd
  exact tupOs_ints h
def HeadsOk (s : Shp) (hs : List (List Int)) : Prop := ∀ h ∈ hs, OkHead s.fs h
section
variable {K : PySem.W.Frag} {σ : L2.St} {H : Hp} {Q : VK} {te : TE} {tt : TT} {g : TG} {vs : List Nat} {c : Int} {n : Nat}
/-- [.. for k in range(c, c + n)] -/
theorem lcR2 (I : Nat → List V → Hp → Prop) (hst : Stb I) (hn : n ≤ 1000000) (hI : ∀ i acc H', I i acc H' → acc.length ≤ i) (h0 : ∀ H', Same H H' → I 0 [] H')
    (hs : ∀ (i : Nat) acc H', i < n → Same H H' → I i acc H' → ∀ (k : VK) (k' : Hp → Prop), (∀ y H4, Same H' H4 → I (i + 1) (acc ++ [y]) H4 → k y H4) → (∀ H3, Same H' H3 → I (i + 1) acc H3 → k' H3) →
      g (.int (c + (i : Int))) (wipe σ vs) H' fun σ2 H2 => wipe σ2 vs = wipe σ vs ∧ tt σ2 H2 fun b H3 => if b = true then te σ2 H3 k else k' H3)
    (hd : ∀ D acc H', H D = none → Same H H' → H' D = some (.lst acc) → I n acc H' → Q (.ref D) H') : LcOk (Itr c n) g tt te vs σ Q H :=
  lc_gen I hst hn hI h0 (fun _ _ _ h _ _ => h) (fun _ _ _ _ => Nat.le_refl _) (fun i acc x H' H'' hi s1 w1 y => by
    obtain ⟨e1, e2⟩ := y
    subst e1
    subst e2
    exact hs i acc _ hi s1 w1) hd
end
section
variable {X : Cx}
theorem w_bits {to : TE} {σ : L2.St} {H : Hp} {Q : VK} (h : to σ H fun x H1 => ∃ i, x = .int i ∧ Q (.int (Builtin.Int.intBits i : Nat)) H1) : tBits to σ H Q := h
theorem bits_two {n : Int} (h : 2 ≤ n) : 2 ≤ Builtin.Int.intBits n := by
  unfold Builtin.Int.intBits
  rw [if_neg (by simpa using (show n ≠ 0 by omega))]
  have e : 1 ≤ n.natAbs.log2 := by
    rw [Nat.le_log2 (by omega)]
    omega
  omega
end
/-! a cut within an expression -/
section
variable {σ : L2.St} {H : Hp}
theorem w_cutA {t : TA} {k : List V → Hp → Prop} (C : List V → Hp → Prop) (key : ∀ xs H', C xs H' → k xs H') (h : ∀ k' : List V → Hp → Prop, (∀ xs H', C xs H' → k' xs H') → t σ H k') : t σ H k := h k key
theorem w_cutE {t : TE} {k : VK} (C : V → Hp → Prop) (key : ∀ x H', C x H' → k x H') (h : ∀ k' : VK, (∀ x H', C x H' → k' x H') → t σ H k') : t σ H k := h k key
end
end Sh
/-! doubts: the first former by which another head is opened -/
namespace Sh
open PySem PySem.Spec PyProof.Rows L2
/-- the first place at which two heads are unlike -/
def FstU (a b : List Int) : Option Nat → Prop
  | none => a = b
  | some k => a.take k = b.take k ∧ ∃ x y, a[k]? = some x ∧ b[k]? = some y ∧ x ≠ y
theorem FstU.one {a b : List Int} {r r' : Option Nat} (h : FstU a b r) (h' : FstU a b r') : r = r' := by
  have lt : ∀ i j, i < j → FstU a b (some i) → FstU a b (some j) → False := fun i j hij ⟨_, x, y, hx, hy, n⟩ ⟨e, _⟩ => by
    have z : (a.take j)[i]? = (b.take j)[i]? := by rw [e]
    rw [List.getElem?_take_of_lt hij, List.getElem?_take_of_lt hij, hx, hy] at z
    exact n (Option.some.inj z)
  cases r with
  | none => cases r' with
    | none => rfl
    | some k =>
      obtain ⟨_, x, y, hx, hy, n⟩ := h'
      have e : a = b := h
      rw [e, hy] at hx
      exact (n (Option.some.inj hx).symm).elim
  | some k => cases r' with
    | none =>
      obtain ⟨_, x, y, hx, hy, n⟩ := h
      have e : a = b := h'
      rw [e, hy] at hx
      exact (n (Option.some.inj hx).symm).elim
    | some k' =>
      have : k = k' := by
        by_cases c : k < k'
        · exact (lt _ _ c h h').elim
        · by_cases c2 : k' < k
          · exact (lt _ _ c2 h' h).elim
          · omega
      rw [this]
theorem take_snocI {a : List Int} {i : Nat} {x : Int} (h : a[i]? = some x) : a.take (i + 1) = a.take i ++ [x] := by
  rw [List.take_add_one, h]
  rfl
def pairD (d : Option (Int × Int × Int)) : PyData := match d with
  | none => .none
  | some (k, p, v) => .tuple [.int k, .int p, .int v]
/-- what a doubt tells -/
def DouR (s : Shp) (f : Fm) (hd : List Int) (ps : List Fo) : Option (Int × Int × Int) → Prop
  | none => SuA s f hd ps
  | some (k, pl, v) => ∃ (i j : Nat) (p : Fo) (o : List Int), k = i ∧ pl = j ∧ ps[i]? = some p ∧ SuA s f hd (ps.take i) ∧ OpN s f p.2 p.1 (piecesT (triL s.fs f.ws hd)) s.fs.length o ∧ FstU o hd (some j) ∧ o[j]? = some v
theorem DouR.not {s : Shp} {f : Fm} {hd : List Int} {ps : List Fo} {p : Fo} {o : List Int} {j : Nat} (okf : f.ws.length = s.fs.length) (lp : p.2.length = s.fs.length) (op : OpN s f p.2 p.1 (piecesT (triL s.fs f.ws hd)) s.fs.length o) (u : FstU o hd (some j)) : ¬ SuP s f hd p := fun h => by
  obtain rfl := OpN.one okf lp (Nat.le_refl _) op h
  obtain ⟨_, x, y, hx, hy, n⟩ := u
  rw [hx] at hy
  exact n (Option.some.inj hy)
theorem suA_lt {s : Shp} {f : Fm} {hd : List Int} {ps : List Fo} {p : Fo} {i j : Nat} (h : SuA s f hd (ps.take j)) (hp : ps[i]? = some p) (hij : i < j) : SuP s f hd p := h p (by
  have e : (ps.take j)[i]? = some p := by rw [List.getElem?_take_of_lt hij, hp]
  exact List.mem_of_getElem? e)
theorem DouR.one {s : Shp} {f : Fm} {hd : List Int} {ps : List Fo} {r r' : Option (Int × Int × Int)} (okf : f.ws.length = s.fs.length) (lp : ∀ p ∈ ps, OkFo s p) (h : DouR s f hd ps r) (h' : DouR s f hd ps r') : r = r' := by
  have key : ∀ {k pl v}, SuA s f hd ps → DouR s f hd ps (some (k, pl, v)) → False := fun su ⟨i, j, p, o, _, _, hp, _, op, u, _⟩ =>
    DouR.not (ps := ps) okf (lp p (List.mem_of_getElem? hp)).1 op u (su p (List.mem_of_getElem? hp))
  cases r with
  | none => cases r' with
    | none => rfl
    | some x => exact (key h h').elim
  | some x => cases r' with
    | none => exact (key h' h).elim
    | some y =>
      obtain ⟨k, pl, v⟩ := x
      obtain ⟨k', pl', v'⟩ := y
      obtain ⟨i, j, p, o, rfl, rfl, hp, su, op, u, hv⟩ := h
      obtain ⟨i', j', p', o', rfl, rfl, hp', su', op', u', hv'⟩ := h'
      have ei : i = i' := by
        by_cases c : i < i'
        · exact (DouR.not (ps := ps) okf (lp p (List.mem_of_getElem? hp)).1 op u (suA_lt su' hp c)).elim
        · by_cases c2 : i' < i
          · exact (DouR.not (ps := ps) okf (lp p' (List.mem_of_getElem? hp')).1 op' u' (suA_lt su hp' c2)).elim
          · omega
      subst ei
      obtain rfl := Option.some.inj (hp.symm.trans hp')
      obtain rfl := OpN.one okf (lp p (List.mem_of_getElem? hp)).1 (Nat.le_refl _) op op'
      obtain rfl := Option.some.inj (FstU.one u u')
      obtain rfl := Option.some.inj (hv.symm.trans hv')
      rfl
theorem suA_step {s : Shp} {f : Fm} {hd o : List Int} {ps : List Fo} {p : Fo} {i : Nat} (h : SuA s f hd (ps.take i)) (hp : ps[i]? = some p) (op : OpN s f p.2 p.1 (piecesT (triL s.fs f.ws hd)) s.fs.length o) (e : o = hd) : SuA s f hd (ps.take (i + 1)) := by
  subst e
  rw [List.take_add_one, hp]
  intro q hq
  rcases List.mem_append.mp hq with hq | hq
  · exact h q hq
  · have z : q ∈ [p] := hq
    rw [List.mem_singleton.mp z]
    exact op
theorem plD_pair (d : Option (Int × Int × Int)) : PlD 6 (pairD d) := by
  cases d with
  | none => trivial
  | some x => exact ⟨by show 3 ≤ 1000; omega, fun d hd => by
      simp only [List.mem_cons, List.not_mem_nil, or_false] at hd
      rcases hd with rfl | rfl | rfl <;> trivial⟩
/-- the places at which heads are unlike, as far as place i -/
def PlI (o hd : List Int) (i : Nat) (ns : List Int) : Prop := (ns = [] ∧ o.take i = hd.take i) ∨ ∃ (k : Nat) (r : List Int), ns = (k : Int) :: r ∧ FstU o hd (some k)
theorem PlI.zero {o hd : List Int} : PlI o hd 0 [] := .inl ⟨rfl, by rw [List.take_zero, List.take_zero]⟩
theorem PlI.same {o hd ns : List Int} {i : Nat} {x : Int} (h : PlI o hd i ns) (h1 : o[i]? = some x) (h2 : hd[i]? = some x) : PlI o hd (i + 1) ns := by
  rcases h with ⟨e, t⟩ | h
  · exact .inl ⟨e, by rw [take_snocI h1, take_snocI h2, t]⟩
  · exact .inr h
theorem PlI.unlike {o hd ns : List Int} {i : Nat} {x y : Int} (h : PlI o hd i ns) (h1 : o[i]? = some x) (h2 : hd[i]? = some y) (n : x ≠ y) : PlI o hd (i + 1) (ns ++ [(i : Int)]) := by
  rcases h with ⟨rfl, t⟩ | ⟨k, r, rfl, u⟩
  · exact .inr ⟨i, [], rfl, t, x, y, h1, h2, n⟩
  · exact .inr ⟨k, r ++ [(i : Int)], rfl, u⟩
section
variable {K : PySem.W.Frag} {σ : L2.St} {H : Hp} {tb : TS} {nx : L2.St → Hp → Prop} {rt : VK} {a : Addr} {xs : List V} {i1 i2 : Nat} {g2 : TG} {te : TE} {tt : TT} {vs : List Nat} {Q : VK}
/-- for place, (..) in enumerate(a tuple) -/
theorem forETg (I : Nat → L2.St → Hp → Prop) (h0 : I 0 σ H) (hI : ∀ i σ' H', I i σ' H' → SqT K H' a xs)
    (hs : ∀ (i : Nat) x σ' H', xs[i]? = some x → I i σ' H' → ∀ H2, Same H' H2 → g2 x (σ'.set i1 (some (.int (i : Int)))) H2 fun σ2 H3 => gNil [] σ2 H3 fun σ3 H4 => tb ⟨I (i + 1), rt, nx, I (i + 1)⟩ σ3 H4) (hd : ∀ σ' H', I xs.length σ' H' → nx σ' H') :
    ForOk (IteT K a) (gTup K 2 (gCons (gName i1) (gCons g2 gNil))) tb nx rt σ H := by
  refine ⟨fun i m σ' H' => m = xs.length - i ∧ i ≤ xs.length ∧ I i σ' H', ⟨_, rfl, Nat.zero_le _, h0⟩, fun i m σ' H1 ⟨em, hi, w1⟩ => ?_⟩
  have s1 := hI _ _ _ w1
  by_cases hlt : i < xs.length
  · refine .inr ⟨⟨xs, xs[i], s1, List.getElem?_eq_getElem hlt⟩, I (i + 1), fun σ2 H2 w2 => ⟨_, by omega, rfl, hlt, w2⟩, fun v H2 y => ?_⟩
    obtain ⟨T, x, rfl, hT, rfl, hy⟩ := y
    have ex := hy xs s1
    exact ⟨T, _, rfl, SqT.of upd_same, rfl, _, _, rfl, _, _, rfl, hs i x σ' H1 ex w1 _ (same_new hT)⟩
  · have e : i = xs.length := by omega
    subst e
    exact .inl ⟨⟨xs, s1, Nat.le_refl _⟩, hd σ' H1 w1⟩
/-- [.. for place, item in enumerate(t) if ..] -/
theorem lcET (hx : SqT K H a xs) (I : Nat → List V → Hp → Prop) (hst : Stb I) (hn : xs.length ≤ 1000000) (hI : ∀ i acc H', I i acc H' → acc.length ≤ i) (h0 : ∀ H', Same H H' → I 0 [] H')
    (hs : ∀ (i : Nat) x acc H', xs[i]? = some x → Same H H' → I i acc H' → ∀ H2, Same H' H2 → ∀ (k : VK) (k' : Hp → Prop), (∀ z H4, Same H2 H4 → I (i + 1) (acc ++ [z]) H4 → k z H4) → (∀ H3, Same H2 H3 → I (i + 1) acc H3 → k' H3) →
      wipe (((wipe σ vs).set i1 (some (.int (i : Int)))).set i2 (some x)) vs = wipe σ vs ∧ tt (((wipe σ vs).set i1 (some (.int (i : Int)))).set i2 (some x)) H2 fun b H3 => if b = true then te (((wipe σ vs).set i1 (some (.int (i : Int)))).set i2 (some x)) H3 k else k' H3)
    (hd : ∀ D acc H', H D = none → Same H H' → H' D = some (.lst acc) → I xs.length acc H' → Q (.ref D) H') :
    LcOk (IteT K a) (gTup K 2 (gCons (gName i1) (gCons (gName i2) gNil))) tt te vs σ Q H :=
  lc_gen (n := xs.length) I hst hn hI h0
    (fun i acc H' hi s1 _ => ⟨xs, xs[i], same_t s1 hx, List.getElem?_eq_getElem hi⟩)
    (fun _ _ s1 _ => ⟨xs, same_t s1 hx, Nat.le_refl _⟩)
    (fun i acc v H' H'' hi s1 w1 z => by
      obtain ⟨T, x, rfl, hT, rfl, ex⟩ := z
      intro k k' hk hk'
      refine ⟨T, _, rfl, SqT.of upd_same, rfl, _, _, rfl, _, _, rfl, rfl, ?_⟩
      exact hs i x acc H' (ex xs (same_t s1 hx)) s1 w1 _ (same_new hT) k k' (fun z H4 e => hk z H4 ((same_new hT).trans e)) fun H3 e => hk' H3 ((same_new hT).trans e))
    hd
end
/-! what shows a doubt -/
def trD (t : Int × Int × Int) : PyData := .tuple [.int t.1, .int t.2.1, .int t.2.2]
theorem trD_inj {t u : Int × Int × Int} (h : trD t = trD u) : t = u := by
  obtain ⟨a, b, c⟩ := t
  obtain ⟨a', b', c'⟩ := u
  injection h with h
  injection h with h1 h
  injection h with h2 h
  injection h with h3 h
  injection h1 with h1
  injection h2 with h2
  injection h3 with h3
  have e1 : a = a' := h1
  have e2 : b = b' := h2
  have e3 : c = c' := h3
  rw [e1, e2, e3]
theorem tupO_tr (t : Int × Int × Int) : tupO (trD t) := ⟨trivial, trivial, trivial, trivial⟩
theorem plD_tr (t : Int × Int × Int) : PlD 6 (trD t) := plD_pair (some t)
def Shw (s : Shp) (f : Fm) (hd : List Int) (ps : List Fo) (t : Int × Int × Int) : Prop := ∃ (i j : Nat) (p : Fo) (o : List Int), t.1 = i ∧ t.2.1 = j ∧ ps[i]? = some p ∧ OpN s f p.2 p.1 (piecesT (triL s.fs f.ws hd)) s.fs.length o ∧ FstU o hd (some j) ∧ o[j]? = some t.2.2
theorem shw_iff {s : Shp} {f : Fm} {hd o : List Int} {ps : List Fo} {p : Fo} {i : Nat} {r : Option Nat} (okf : f.ws.length = s.fs.length) (lp : p.2.length = s.fs.length) (hp : ps[i]? = some p) (op : OpN s f p.2 p.1 (piecesT (triL s.fs f.ws hd)) s.fs.length o) (u : FstU o hd r) {pl v : Int} : Shw s f hd ps ((i : Int), pl, v) ↔ ∃ j, r = some j ∧ pl = (j : Nat) ∧ o[j]? = some v := by
  constructor
  · rintro ⟨i', j, p', o', e1, e2, hp', op', u', hv⟩
    have e1 : (i : Int) = i' := e1
    obtain rfl : i = i' := by omega
    obtain rfl := Option.some.inj (hp.symm.trans hp')
    obtain rfl := OpN.one okf lp (Nat.le_refl _) op op'
    exact ⟨j, FstU.one u u', e2, hv⟩
  · rintro ⟨j, rfl, e, hv⟩
    exact ⟨i, j, p, o, rfl, e, hp, op, u, hv⟩
theorem shw_lt {s : Shp} {f : Fm} {hd : List Int} {ps : List Fo} {t : Int × Int × Int} (h : Shw s f hd ps t) : 0 ≤ t.1 ∧ t.1 < ps.length := by
  obtain ⟨i, j, p, o, e, _, hp, _⟩ := h
  have := (List.getElem?_eq_some_iff.mp hp).1
  omega
theorem shw_not {s : Shp} {f : Fm} {hd : List Int} {ps : List Fo} (okf : f.ws.length = s.fs.length) (lp : ∀ p ∈ ps, OkFo s p) (h : DouR s f hd ps none) (t : Int × Int × Int) : ¬ Shw s f hd ps t := fun ⟨i, j, p, o, _, _, hp, op, u, _⟩ =>
  DouR.not (ps := ps) okf (lp p (List.mem_of_getElem? hp)).1 op u (h p (List.mem_of_getElem? hp))
theorem shw_dou {s : Shp} {f : Fm} {hd : List Int} {ps : List Fo} {t : Int × Int × Int} (h : DouR s f hd ps (some t)) : Shw s f hd ps t := by
  obtain ⟨i, j, p, o, e1, e2, hp, _, op, u, hv⟩ := h
  exact ⟨i, j, p, o, e1, e2, hp, op, u, hv⟩
/-- those that are shown by formers ahead of place i -/
def AllS (s : Shp) (f : Fm) (hd : List Int) (ps : List Fo) (i : Nat) (ts : List (Int × Int × Int)) : Prop := ∀ t, t ∈ ts ↔ Shw s f hd ps t ∧ t.1 < i
theorem allS_zero {s : Shp} {f : Fm} {hd : List Int} {ps : List Fo} : AllS s f hd ps 0 [] := fun t => ⟨(fun h => nomatch h), fun h => by
  have := shw_lt h.1
  have := h.2
  omega⟩
theorem allS_step {s : Shp} {f : Fm} {hd o : List Int} {ps : List Fo} {p : Fo} {i : Nat} {r : Option Nat} {ts ts' : List (Int × Int × Int)} (okf : f.ws.length = s.fs.length) (lp : p.2.length = s.fs.length) (hp : ps[i]? = some p) (op : OpN s f p.2 p.1 (piecesT (triL s.fs f.ws hd)) s.fs.length o) (u : FstU o hd r) (h : AllS s f hd ps i ts)
    (hr : match r with | none => ts' = ts | some j => ∃ v, o[j]? = some v ∧ ts' = ts ++ [((i : Int), (j : Int), v)]) : AllS s f hd ps (i + 1) ts' := by
  intro t
  have lt : (Shw s f hd ps t ∧ t.1 < ((i + 1 : Nat) : Int)) ↔ (Shw s f hd ps t ∧ t.1 < i) ∨ (Shw s f hd ps t ∧ t.1 = i) := by
    constructor
    · rintro ⟨a, b⟩
      rcases (show t.1 < i ∨ t.1 = i by omega) with c | c
      · exact .inl ⟨a, c⟩
      · exact .inr ⟨a, c⟩
    · rintro (⟨a, b⟩ | ⟨a, b⟩)
      · exact ⟨a, by omega⟩
      · exact ⟨a, by omega⟩
  rw [lt, ← h t]
  obtain ⟨k, pl, v⟩ := t
  cases r with
  | none =>
    have e : ts' = ts := hr
    rw [e]
    constructor
    · exact .inl
    · rintro (a | ⟨a, b⟩)
      · exact a
      · have b : k = i := b
        subst b
        obtain ⟨j, z, _⟩ := (shw_iff okf lp hp op u).mp a
        cases z
  | some j =>
    obtain ⟨w, hw, rfl⟩ := hr
    rw [List.mem_append, List.mem_singleton]
    constructor
    · rintro (a | a)
      · exact .inl a
      · injection a with a1 a2
        injection a2 with a2 a3
        subst a1 a2 a3
        exact .inr ⟨(shw_iff okf lp hp op u).mpr ⟨j, rfl, rfl, hw⟩, rfl⟩
    · rintro (a | ⟨a, b⟩)
      · exact .inl a
      · have b : k = i := b
        subst b
        obtain ⟨j', z, z2, z3⟩ := (shw_iff okf lp hp op u).mp a
        obtain rfl := Option.some.inj z
        obtain rfl := Option.some.inj (hw.symm.trans z3)
        exact .inr (by rw [z2])
theorem allS_all {s : Shp} {f : Fm} {hd : List Int} {ps : List Fo} {ts : List (Int × Int × Int)} (h : AllS s f hd ps ps.length ts) (t : Int × Int × Int) : t ∈ ts ↔ Shw s f hd ps t := by
  rw [h t]
  exact ⟨fun h => h.1, fun h => ⟨h, (shw_lt h).2⟩⟩
theorem isIntD_ex {d : PyData} (h : isIntD d = true) : ∃ i, d = .int i := by
  cases d <;> first | exact ⟨_, rfl⟩ | cases h
theorem FstU.of_PlI {o hd ns : List Int} (l1 : o.length ≤ n) (l2 : hd.length ≤ n) (h : PlI o hd n ns) : (ns = [] ∧ FstU o hd none) ∨ ∃ (k : Nat) (r : List Int), ns = (k : Int) :: r ∧ FstU o hd (some k) := by
  rcases h with ⟨e, t⟩ | h
  · refine .inl ⟨e, ?_⟩
    rw [List.take_of_length_le l1, List.take_of_length_le l2] at t
    exact t
  · exact .inr h
theorem opN_bd {s : Shp} {f : Fm} {fo : List Int} {m : Int} {z : Str} {o : List Int} {j : Nat} {v : Int} (ok : OkShp s) (okf : OkFm s f) (lf : fo.length = s.fs.length) (h01 : ∀ c ∈ cz z, c = 48 ∨ c = 49) (hz : z.length = atW s.fs f.ws s.fs.length) (op : OpN s f fo m z s.fs.length o) (hv : o[j]? = some v) : 0 ≤ v ∧ v < 1099511627776 := by
  have hj := (List.getElem?_eq_some_iff.mp hv).1
  rw [op.1] at hj
  have lw := okf.len
  obtain ⟨fd, h1⟩ : ∃ fd, s.fs[j]? = some fd := ⟨_, List.getElem?_eq_getElem hj⟩
  obtain ⟨w, h2⟩ : ∃ w, f.ws[j]? = some w := ⟨_, List.getElem?_eq_getElem (by omega)⟩
  obtain ⟨y, h3⟩ : ∃ y, fo[j]? = some y := ⟨_, List.getElem?_eq_getElem (by omega)⟩
  obtain ⟨x, hx, hvo⟩ := op.2 j fd w y hj h1 h2 h3
  obtain rfl := Option.some.inj (hx.symm.trans hv)
  have okd := ok.fd j fd h1
  have b0 := okd.b0
  have pb := p2_pos fd.br
  have pl : p2 fd.br ≤ p2 40 := p2_le okd.b1
  have e40 : p2 40 = 1099511627776 := rfl
  cases w with
  | whole =>
    have e : x = numS z (atW s.fs f.ws j) (wW fd .whole) := hvo
    have z1 := atW_succ h1 h2
    have z2 := atW_mono s.fs f.ws (show j + 1 ≤ s.fs.length from hj)
    have z3 := numS_bd (a := atW s.fs f.ws j) (l := wW fd .whole) h01 (by omega)
    have e2 : (2 : Int) ^ (wW fd .whole) = p2 fd.br := rfl
    rw [e2] at z3
    omega
  | keep =>
    obtain ⟨r, _, rfl⟩ := hvo
    have a := Int.emod_nonneg r (Int.ne_of_gt pb)
    have b := Int.emod_lt_of_pos r pb
    omega
  | low wd bl =>
    obtain ⟨r, _, rfl⟩ := hvo
    have a := Int.emod_nonneg ((r % p2 fd.br) - bl + (numS z (atW s.fs f.ws j) (wW fd (.low wd bl)) - ((r % p2 fd.br) - bl)) % p2 wd) (Int.ne_of_gt pb)
    have b := Int.emod_lt_of_pos ((r % p2 fd.br) - bl + (numS z (atW s.fs f.ws j) (wW fd (.low wd bl)) - ((r % p2 fd.br) - bl)) % p2 wd) pb
    unfold arnF
    omega
theorem shw_bd {s : Shp} {f : Fm} {hd : List Int} {ps : List Fo} {t : Int × Int × Int} (ok : OkShp s) (okf : OkFm s f) (lh : hd.length = s.fs.length) (okp : ∀ p ∈ ps, OkFo s p) (h : Shw s f hd ps t) : 0 ≤ t.1 ∧ t.1 < ps.length ∧ 0 ≤ t.2.2 ∧ t.2.2 < 1099511627776 := by
  have z := shw_lt h
  obtain ⟨i, j, p, o, _, _, hp, op, u, hv⟩ := h
  have b := opN_bd ok okf (okp p (List.mem_of_getElem? hp)).1 (pieces_01 _) (by rw [pieces_len, atW_all okf.len lh]) op hv
  exact ⟨z.1, z.2, b.1, b.2⟩
theorem shaped_trs (ts : List (Int × Int × Int)) : SeqAt.shaped (.list (ts.map trD)) = true := shaped_list (k := 10) (by decide) fun d hd => by
  obtain ⟨t, _, rfl⟩ := List.mem_map.mp hd
  exact ⟨by simp [trD, PyData.canLay0, PyData.canLayAll0], by simp [trD, PyData.depth, PyData.depthAll]⟩
end Sh
/-! heads within the windows of a form, and beside them -/
namespace Sh
open PySem PySem.Spec PyProof.Rows L2
/-! the number of a piece -/
theorem drop_fl {α : Type} (g : α → List Nat) : ∀ (ts : List α) (j : Nat), ((ts.map g).flatten).drop (((ts.take j).map fun t => (g t).length).sum) = ((ts.drop j).map g).flatten
  | ts, 0 => by simp
  | [], j + 1 => by simp
  | t :: r, j + 1 => by
    rw [List.take_succ_cons, List.map_cons, List.map_cons, List.sum_cons, List.flatten_cons, List.drop_succ_cons, ← drop_fl g r j, ← List.drop_drop, List.drop_append]
    simp
theorem tri_zip : ∀ {fs : List Fd} {ws : List Wy} {vs : List Int}, ws.length = fs.length → vs.length = fs.length → (triL fs ws vs).map (fun t => (t.1, t.2.1)) = fs.zip ws
  | [], _, _, _, _ => rfl
  | _ :: _, [], _, h, _ => by simp at h
  | _ :: _, _ :: _, [], _, h => by simp at h
  | f :: fs, w :: ws, v :: vs, h1, h2 => by
    have ih := tri_zip (fs := fs) (ws := ws) (vs := vs) (by simpa using h1) (by simpa using h2)
    unfold triL at ih ⊢
    rw [List.zip_cons_cons, List.zip_cons_cons, List.map_cons, ih, List.zip_cons_cons]
theorem atW_tri {fs : List Fd} {ws : List Wy} {vs : List Int} (h1 : ws.length = fs.length) (h2 : vs.length = fs.length) (j : Nat) : atW fs ws j = (((triL fs ws vs).take j).map fun t => (cz (pieceT t)).length).sum := by
  unfold atW
  rw [← tri_zip h1 h2, ← List.map_take, List.map_map]
  congr 1
  refine List.map_congr_left fun t _ => ?_
  show wW t.1 t.2.1 = _
  rw [cz_len]
  unfold pieceT
  rw [len_bitsT]
theorem numS_piece {fs : List Fd} {ws : List Wy} {vs : List Int} {j : Nat} {f : Fd} {w : Wy} {v : Int} (l1 : ws.length = fs.length) (l2 : vs.length = fs.length) (h1 : fs[j]? = some f) (h2 : ws[j]? = some w) (h3 : vs[j]? = some v) : numS (piecesT (triL fs ws vs)) (atW fs ws j) (wW f w) = v % p2 (wW f w : Nat) := by
  have ht := tri_get h1 h2 h3
  unfold numS sliceN
  rw [cz_pieces, atW_tri l1 l2 j, drop_fl]
  have ed : (triL fs ws vs).drop j = (f, w, v) :: (triL fs ws vs).drop (j + 1) := by
    have hj := (List.getElem?_eq_some_iff.mp ht).1
    rw [List.drop_eq_getElem_cons hj, (List.getElem?_eq_some_iff.mp ht).2]
  rw [ed, List.map_cons, List.flatten_cons]
  have lp : (cz (pieceT (f, w, v))).length = wW f w := by
    rw [cz_len]
    unfold pieceT
    rw [len_bitsT]
  rw [List.take_append_of_le_length (by omega), List.take_of_length_le (by omega)]
  have pp := p2_pos (wW f w : Nat)
  have e2 : p2 ((wW f w : Nat) : Int) = 2 ^ wW f w := by
    unfold p2
    rw [Int.toNat_natCast]
  have a := Int.emod_nonneg v (Int.ne_of_gt pp)
  have b := Int.emod_lt_of_pos v pp
  exact numT_bits a (by rw [← e2]; exact b)
/-! windows -/
def belW : Wy → Int
  | .low _ l => l
  | _ => 0
def WinV (fo ah : List Int) (m v : Int) (fd : Fd) : Wy → Int → Prop
  | .whole, x => 0 ≤ x ∧ x < p2 fd.br
  | .keep, x => ∃ r, ExpK fo ah m v fd.kd r ∧ x = r % p2 fd.br
  | .low wd bl, x => ∃ r c, ExpK fo ah m v fd.kd r ∧ 0 ≤ c ∧ c < p2 wd ∧ x = (r % p2 fd.br - bl + c) % p2 fd.br
theorem p2_dvdI {a b : Int} (h : a ≤ b) : p2 a ∣ p2 b := by
  unfold p2
  refine ⟨2 ^ (b.toNat - a.toNat), ?_⟩
  rw [← Int.pow_add]
  congr 1
  omega
theorem back_mod {B P y t : Int} (hd : P ∣ B) : ((y + t) % B % P - y) % P = t % P := by
  rw [Int.emod_emod_of_dvd _ hd, Int.sub_emod, Int.emod_emod_of_dvd _ (Int.dvd_refl P), ← Int.sub_emod]
  congr 1
  omega
theorem vo_win {fo ah : List Int} {m v x : Int} {fd : Fd} {w : Wy} (b0 : 0 ≤ fd.br) (ok : OkWy fd.br w) (h : WinV fo ah m v fd w x) : VO fo ah m v fd (x % p2 (wW fd w : Nat)) w x := by
  cases w with
  | whole =>
    show x = x % p2 ((fd.br.toNat : Nat) : Int)
    rw [show ((fd.br.toNat : Nat) : Int) = fd.br by omega]
    exact (Int.emod_eq_of_lt h.1 h.2).symm
  | keep => exact h
  | low wd bl =>
    obtain ⟨r, c, hr, c0, c1, hx⟩ := h
    refine ⟨r, hr, ?_⟩
    have w0 := ok.1
    show x = arnF fd.br (r % p2 fd.br) bl (x % p2 ((wd.toNat : Nat) : Int)) wd
    rw [show ((wd.toNat : Nat) : Int) = wd by omega]
    unfold arnF
    rw [hx, back_mod (p2_dvdI ok.2.1), Int.emod_eq_of_lt c0 c1]
/-- the values lie in the windows, as far as place i -/
def WinN (s : Shp) (f : Fm) (fo : List Int) (m : Int) (i : Nat) (hd : List Int) : Prop :=
  hd.length = i ∧ ∀ (j : Nat) fd w v, j < i → s.fs[j]? = some fd → f.ws[j]? = some w → fo[j]? = some v → ∃ x, hd[j]? = some x ∧ WinV fo (hd.take j) m v fd w x
theorem WinN.nil {s : Shp} {f : Fm} {fo : List Int} {m : Int} : WinN s f fo m 0 [] := ⟨rfl, fun j _ _ _ h => by omega⟩
theorem WinN.snoc {s : Shp} {f : Fm} {fo hd : List Int} {m : Int} {i : Nat} {fd : Fd} {w : Wy} {v x : Int} (h : WinN s f fo m i hd) (h1 : s.fs[i]? = some fd) (h2 : f.ws[i]? = some w) (h3 : fo[i]? = some v) (hx : WinV fo hd m v fd w x) : WinN s f fo m (i + 1) (hd ++ [x]) := by
  obtain ⟨hl, h⟩ := h
  refine ⟨by rw [List.length_append, hl]; rfl, fun j fd' w' v' hj e1 e2 e3 => ?_⟩
  by_cases c : j < i
  · obtain ⟨y, hy, hv⟩ := h j fd' w' v' c e1 e2 e3
    refine ⟨y, by rw [List.getElem?_append_left (by omega)]; exact hy, ?_⟩
    rw [List.take_append_of_le_length (by omega)]
    exact hv
  · have e : j = i := by omega
    subst e
    obtain rfl := Option.some.inj (h1.symm.trans e1)
    obtain rfl := Option.some.inj (h2.symm.trans e2)
    obtain rfl := Option.some.inj (h3.symm.trans e3)
    refine ⟨x, ?_, ?_⟩
    · rw [List.getElem?_append_right (by omega), hl, Nat.sub_self]
      rfl
    · rw [List.take_append_of_le_length (by omega), List.take_of_length_le (by omega)]
      exact hx
theorem WinN.cut {s : Shp} {f : Fm} {fo hd : List Int} {m : Int} {i p : Nat} (h : WinN s f fo m i hd) (hp : p ≤ i) : WinN s f fo m p (hd.take p) := by
  refine ⟨by rw [List.length_take, h.1]; omega, fun j fd w v hj e1 e2 e3 => ?_⟩
  obtain ⟨x, hx, hv⟩ := h.2 j fd w v (by omega) e1 e2 e3
  refine ⟨x, by rw [List.getElem?_take_of_lt hj]; exact hx, ?_⟩
  rw [List.take_take, Nat.min_eq_left (by omega)]
  exact hv
theorem OpN.cut {s : Shp} {f : Fm} {fo hd : List Int} {m : Int} {z : Str} {i p : Nat} (h : OpN s f fo m z i hd) (hp : p ≤ i) : OpN s f fo m z p (hd.take p) := by
  refine ⟨by rw [List.length_take, h.1]; omega, fun j fd w v hj e1 e2 e3 => ?_⟩
  obtain ⟨x, hx, hv⟩ := h.2 j fd w v (by omega) e1 e2 e3
  refine ⟨x, by rw [List.getElem?_take_of_lt hj]; exact hx, ?_⟩
  rw [List.take_take, Nat.min_eq_left (by omega)]
  exact hv
theorem op_win {s : Shp} {f : Fm} {fo hd vs : List Int} {m : Int} {i : Nat} (ok : OkShp s) (okf : OkFm s f) (h : WinN s f fo m i hd) (lv : vs.length = s.fs.length) (ht : vs.take i = hd) : OpN s f fo m (piecesT (triL s.fs f.ws vs)) i hd := by
  refine ⟨h.1, fun j fd w v hj e1 e2 e3 => ?_⟩
  obtain ⟨x, hx, hv⟩ := h.2 j fd w v hj e1 e2 e3
  have hvx : vs[j]? = some x := by
    rw [← ht, List.getElem?_take_of_lt hj] at hx
    exact hx
  refine ⟨x, hx, ?_⟩
  rw [numS_piece okf.len lv e1 e2 hvx]
  exact vo_win (by have := (ok.fd j fd e1).b0; omega) (okf.ok j w fd e2 e1) hv
/-! one value beside its window -/
def Bes (s : Shp) (f : Fm) (fo : List Int) (m : Int) (hd : List Int) (p : Nat) (val : Int) : Prop :=
  ∃ fd w v r far, s.fs[p]? = some fd ∧ f.ws[p]? = some w ∧ fo[p]? = some v ∧ ((wW fd w : Nat) : Int) < fd.br ∧ ExpK fo (hd.take p) m v fd.kd r ∧ p2 (wW fd w : Nat) ≤ far ∧ far < p2 fd.br ∧ val = (r % p2 fd.br - belW w + far) % p2 fd.br
/-- the values that are told -/
theorem vo_bes {fo ah : List Int} {m v r far x : Int} {fd : Fd} {w : Wy} (ok : OkWy fd.br w) (hw : ((wW fd w : Nat) : Int) < fd.br) (hr : ExpK fo ah m v fd.kd r) (h : VO fo ah m v fd ((r % p2 fd.br - belW w + far) % p2 fd.br % p2 (wW fd w : Nat)) w x) : x = (r % p2 fd.br - belW w + far % p2 (wW fd w : Nat)) % p2 fd.br := by
  cases w with
  | whole =>
    have : ((fd.br.toNat : Nat) : Int) < fd.br := hw
    omega
  | keep =>
    obtain ⟨r', hr', e⟩ := h
    obtain rfl := ExpK.one hr hr'
    have pb := p2_pos fd.br
    have e1 : p2 ((wW fd .keep : Nat) : Int) = 1 := rfl
    rw [e1, Int.emod_one]
    show x = (r % p2 fd.br - 0 + 0) % p2 fd.br
    rw [Int.sub_zero, Int.add_zero, Int.emod_emod_of_dvd _ (Int.dvd_refl _)]
    exact e
  | low wd bl =>
    obtain ⟨r', hr', e⟩ := h
    obtain rfl := ExpK.one hr hr'
    have w0 := ok.1
    have e1 : ((wW fd (.low wd bl) : Nat) : Int) = wd := by
      show ((wd.toNat : Nat) : Int) = wd
      omega
    rw [e1] at e ⊢
    unfold arnF at e
    have e2 := back_mod (B := p2 fd.br) (P := p2 wd) (y := r % p2 fd.br - bl) (t := far) (p2_dvdI ok.2.1)
    have e3 : belW (.low wd bl) = bl := rfl
    rw [e3] at e ⊢
    rw [e2] at e
    exact e
section
variable {B P y far : Int}
theorem bes_ne (hP : 0 < P) (h0 : P ≤ far) (h1 : far < B) : (y + far % P) % B ≠ (y + far) % B := fun e => by
  have a := Int.emod_nonneg far (Int.ne_of_gt hP)
  have b := Int.emod_lt_of_pos far hP
  have d : B ∣ (y + far) - (y + far % P) := Int.dvd_of_emod_eq_zero (Int.emod_eq_emod_iff_emod_sub_eq_zero.mp e.symm)
  have le := Int.le_of_dvd (by omega) d
  omega
theorem bes_in (hP : 0 < P) (h0 : P ≤ far) (h1 : far < B) : ((y + far % P) % B - y) % B < P := by
  have a := Int.emod_nonneg far (Int.ne_of_gt hP)
  have b := Int.emod_lt_of_pos far hP
  have e : ((y + far % P) % B - y) % B = far % P % B := by
    rw [Int.sub_emod, Int.emod_emod_of_dvd _ (Int.dvd_refl B), ← Int.sub_emod]
    congr 1
    omega
  rw [e, Int.emod_eq_of_lt a (by omega)]
  exact b
theorem bes_rest (hd : P ∣ B) : ((y + far % P) % B - (y + far) % B) % P = 0 := by
  rw [Int.sub_emod, Int.emod_emod_of_dvd _ hd, Int.emod_emod_of_dvd _ hd, ← Int.sub_emod]
  have e : y + far % P - (y + far) = 0 - P * (far / P) := by
    have := Int.mul_ediv_add_emod far P
    omega
  rw [e, Int.zero_sub, ← Int.mul_neg, Int.mul_emod_right]
end
theorem w_neH {K : PySem.W.Frag} {H : Hp} {Q : VK} {v u : V} {a b : List Int} (h : Dq K H v (headD a)) (h' : Dq K H u (headD b)) (q : Q (.bl (!decide (a = b))) H) : rNeU K v u H Q :=
  w_neD h h' (shaped_tints a) (shaped_tints b) (by
    have e : PyData.eqv (headD a) (headD b) = decide (a = b) := by
      show PyData.eqv (.tuple (a.map .int)) (.tuple (b.map .int)) = _
      rw [PyData.eqv]
      exact eqvAll_ints a b
    rw [e]
    exact q)
end Sh
/-! pacts and letters -/
namespace Sh
open PySem PySem.Spec PyProof.Rows L2
/-- the least width of so many unlike numbers -/
def IsW (m : Int) (n : Nat) : Prop := m ≤ 2 ^ n ∧ ∀ u : Nat, u < n → (2 : Int) ^ u < m
theorem isW_one {m : Int} {a b : Nat} (h : IsW m a) (h' : IsW m b) : a = b := by
  rcases Nat.lt_trichotomy a b with q | q | q
  · have := h'.2 a q
    have := h.1
    omega
  · exact q
  · have := h.2 b q
    have := h'.1
    omega
theorem pow_lt_of {a b : Nat} (h : (2 : Int) ^ a < 2 ^ b) : a < b := by
  have h2 : (2 : Nat) ^ a < 2 ^ b := by
    have e1 : ((2 ^ a : Nat) : Int) = (2 : Int) ^ a := by simp
    have e2 : ((2 ^ b : Nat) : Int) = (2 : Int) ^ b := by simp
    omega
  exact (Nat.pow_lt_pow_iff_right (by decide)).mp h2
/-- each value, two more than its place times -/
def ckF : Nat → List Int → Int
  | _, [] => 0
  | i, v :: r => ((i : Int) + 2) * v + ckF (i + 1) r
theorem ckF_snoc : ∀ (l : List Int) (j : Nat) (v : Int), ckF j (l ++ [v]) = ckF j l + ((j : Int) + l.length + 2) * v
  | [], j, v => by
    show ((j : Int) + 2) * v + 0 = 0 + ((j : Int) + ((0 : Nat) : Int) + 2) * v
    rw [Int.add_zero, Int.zero_add, Int.natCast_zero, Int.add_zero]
  | w :: r, j, v => by
    show ((j : Int) + 2) * w + ckF (j + 1) (r ++ [v]) = ((j : Int) + 2) * w + ckF (j + 1) r + ((j : Int) + ((r.length + 1 : Nat) : Int) + 2) * v
    have e : ((j + 1 : Nat) : Int) + (r.length : Int) + 2 = (j : Int) + ((r.length + 1 : Nat) : Int) + 2 := by omega
    rw [ckF_snoc r (j + 1) v, e, ← Int.add_assoc]
theorem ckF_set : ∀ (l : List Int) (j i : Nat) (v w : Int), l[i]? = some v → ckF j (l.set i w) = ckF j l + ((j : Int) + i + 2) * (w - v)
  | [], _, _, _, _, h => by simp at h
  | x :: r, j, 0, v, w, h => by
    simp at h
    subst h
    show ((j : Int) + 2) * w + ckF (j + 1) r = ((j : Int) + 2) * x + ckF (j + 1) r + ((j : Int) + ((0 : Nat) : Int) + 2) * (w - x)
    rw [Int.mul_sub]
    have e : (j : Int) + ((0 : Nat) : Int) + 2 = (j : Int) + 2 := by omega
    rw [e]
    omega
  | x :: r, j, i + 1, v, w, h => by
    show ((j : Int) + 2) * x + ckF (j + 1) (r.set i w) = ((j : Int) + 2) * x + ckF (j + 1) r + ((j : Int) + ((i + 1 : Nat) : Int) + 2) * (w - v)
    have e : ((j + 1 : Nat) : Int) + (i : Int) + 2 = (j : Int) + ((i + 1 : Nat) : Int) + 2 := by omega
    rw [ckF_set r (j + 1) i v w (by simpa using h), e, ← Int.add_assoc]
theorem take_snoc {α : Type} {l : List α} {i : Nat} {x : α} (h : l[i]? = some x) : l.take (i + 1) = l.take i ++ [x] := by
  rw [List.take_add_one, h]
  rfl
theorem isW_to {m : Int} : ∀ k : Nat, m ≤ 2 ^ k → ∃ n, n ≤ k ∧ IsW m n
  | 0, h => ⟨0, Nat.le_refl _, h, fun u hu => by omega⟩
  | k + 1, h => by
    by_cases c : m ≤ 2 ^ k
    · obtain ⟨n, hn, hw⟩ := isW_to k c
      exact ⟨n, by omega, hw⟩
    · refine ⟨k + 1, Nat.le_refl _, h, fun u hu => ?_⟩
      have e : (2 : Int) ^ u ≤ 2 ^ k := by
        have z := ipow_le (a := 2) (by decide) (show u ≤ k by omega)
        exact z
      omega
theorem isW_le {m : Int} {n k : Nat} (h : IsW m n) (hk : m ≤ 2 ^ k) : n ≤ k := by
  obtain ⟨n', hn, hw⟩ := isW_to k hk
  rw [isW_one h hw]
  exact hn
theorem sgn_mod {n : Int} {w i : Nat} (h : i < w) : sgn (n % 2 ^ w) i = sgn n i := by
  unfold sgn
  have e : n % 2 ^ w / 2 ^ i % 2 = n / 2 ^ i % 2 := by
    have p : (0 : Int) < 2 ^ i := Int.pow_pos (by decide)
    have ew : (2 : Int) ^ w = 2 ^ i * (2 * 2 ^ (w - i - 1)) := by
      rw [← Int.mul_assoc, show (2 : Int) ^ i * 2 = 2 ^ (i + 1) from (Int.pow_succ 2 i).symm, ← Int.pow_add]
      congr 1
      omega
    have d := Int.mul_ediv_add_emod n (2 ^ w)
    have en : n = n % 2 ^ w + 2 ^ i * (2 * 2 ^ (w - i - 1) * (n / 2 ^ w)) := by
      rw [← Int.mul_assoc, ← ew]
      omega
    have e2 : n / 2 ^ i = n % 2 ^ w / 2 ^ i + 2 * (2 ^ (w - i - 1) * (n / 2 ^ w)) := by
      conv => lhs; rw [en]
      rw [Int.add_mul_ediv_left _ _ (Int.ne_of_gt p), Int.mul_assoc]
    rw [e2]
    omega
  rw [e]
theorem bitsT_mod (n : Int) (w : Nat) : bitsT (n % 2 ^ w) w = bitsT n w := by
  refine cz_inj ?_
  rw [cz_bitsT, cz_bitsT]
  congr 1
  unfold lowB
  exact List.map_congr_left fun i hi => sgn_mod (List.mem_range.mp hi)
theorem bitsT_p2 (n w : Int) : bitsT (n % p2 w) w.toNat = bitsT n w.toNat := bitsT_mod n w.toNat
structure Pt where
  s : Shp
  n : Int
  fs : List Fm
  sk : Int
  gp : Int
  lt : Int
  an : Int
  sw : Nat
  cw : Nat
def ptD (p : Pt) : PyData := .tuple [shD p.s, .int p.n, .tuple (p.fs.map fmD), .tuple [.int p.sk, .int p.gp, .int p.lt, .int p.an]]
structure OkPt (p : Pt) : Prop where
  ok : OkShp p.s
  n0 : 1 ≤ p.n
  n1 : p.n ≤ 40
  fl : p.fs.length ≤ 12
  fk : ∀ f ∈ p.fs, OkFm p.s f
  sw : IsW (1 + (p.fs.length : Int)) p.sw
  cw : IsW p.s.m p.cw
  sk0 : 0 ≤ p.sk
  sk1 : p.sk ≤ 39
  gp0 : p.sk ≤ p.gp
  gp1 : p.gp ≤ 400
  lt0 : 0 ≤ p.lt
  lt1 : p.lt ≤ 20
  an0 : 0 ≤ p.an
  an1 : p.an ≤ 400
theorem OkPt.sw4 {p : Pt} (h : OkPt p) : p.sw ≤ 4 := isW_le h.sw (by have := h.fl; show _ ≤ (16 : Int); omega)
theorem OkPt.cw20 {p : Pt} (h : OkPt p) : p.cw ≤ 20 := isW_le h.cw (by have := h.ok.m1; show _ ≤ (1048576 : Int); omega)
/-- whole, or by the form at a place -/
def AtOk (p : Pt) : Option Nat → Prop
  | none => True
  | some i => i < p.fs.length
def atV : Option Nat → V
  | none => .non
  | some i => .int (i : Int)
def wsP (p : Pt) : Option Nat → List Wy
  | none => p.s.fs.map fun _ => .whole
  | some i => match p.fs[i]? with
    | some f => f.ws
    | none => []
def cntP (p : Pt) : Option Nat → Int
  | none => p.n
  | some i => match p.fs[i]? with
    | some f => f.c
    | none => 0
def sortP : Option Nat → Int
  | none => 0
  | some i => 1 + (i : Int)
theorem at_form {p : Pt} {i : Nat} (ok : OkPt p) (h : i < p.fs.length) : ∃ f, p.fs[i]? = some f ∧ OkFm p.s f ∧ wsP p (some i) = f.ws ∧ cntP p (some i) = f.c := by
  have e : p.fs[i]? = some (p.fs[i]) := List.getElem?_eq_getElem h
  refine ⟨p.fs[i], e, ok.fk _ (List.getElem_mem h), ?_, ?_⟩
  · show (match p.fs[i]? with | some f => f.ws | none => []) = _
    rw [e]
  · show (match p.fs[i]? with | some f => f.c | none => 0) = _
    rw [e]
theorem cntP_bd {p : Pt} {t : Option Nat} (ok : OkPt p) (h : AtOk p t) : 1 ≤ cntP p t ∧ cntP p t ≤ 40 := by
  cases t with
  | none => exact ⟨ok.n0, ok.n1⟩
  | some i =>
    obtain ⟨f, _, okf, _, e⟩ := at_form ok h
    rw [e]
    exact ⟨okf.c0, okf.c1⟩
theorem wsP_len {p : Pt} {t : Option Nat} (ok : OkPt p) (h : AtOk p t) : (wsP p t).length = p.s.fs.length := by
  cases t with
  | none => exact List.length_map _
  | some i =>
    obtain ⟨f, _, okf, e, _⟩ := at_form ok h
    rw [e]
    exact okf.len
theorem wsP_ok {p : Pt} {t : Option Nat} (ok : OkPt p) (h : AtOk p t) {j : Nat} {w : Wy} {fd : Fd} (h1 : (wsP p t)[j]? = some w) (h2 : p.s.fs[j]? = some fd) : OkWy fd.br w := by
  cases t with
  | none =>
    have z : (p.s.fs.map fun _ => Wy.whole)[j]? = some w := h1
    rw [List.getElem?_map, h2] at z
    rw [← Option.some.inj z]
    trivial
  | some i =>
    obtain ⟨f, _, okf, e, _⟩ := at_form ok h
    rw [e] at h1
    exact okf.ok j w fd h1 h2
def szP (p : Pt) (t : Option Nat) : Nat := atW p.s.fs (wsP p t) p.s.fs.length
def pcsP (p : Pt) (t : Option Nat) (hd : List Int) : Str := piecesT (triL p.s.fs (wsP p t) hd)
theorem szP_le {p : Pt} {t : Option Nat} (ok : OkPt p) (h : AtOk p t) : szP p t ≤ 480 :=
  atW_le (f := ⟨1, 1, wsP p t⟩) ok.ok ⟨Int.le_refl 1, (show (1 : Int) ≤ 40 by decide), Int.le_refl 1, (show (1 : Int) ≤ 40 by decide), wsP_len ok h, fun _ _ _ h1 h2 => wsP_ok ok h h1 h2⟩
theorem pcsP_len {p : Pt} {t : Option Nat} {hd : List Int} (ok : OkPt p) (h : AtOk p t) (lh : hd.length = p.s.fs.length) : (pcsP p t hd).length = szP p t := by
  unfold pcsP szP
  rw [pieces_len, atW_all (wsP_len ok h) lh]
def aheadT (p : Pt) (t : Option Nat) (num : Int) : Str := bitsT (sortP t) p.sw ++ bitsT num (cntP p t).toNat
def letT (p : Pt) (t : Option Nat) (num : Int) (hd : List Int) : Str := aheadT p t num ++ pcsP p t hd ++ bitsT ((num + ckF 0 hd) % p.s.m) p.cw
def sizeP (p : Pt) (t : Option Nat) : Int := (p.sw : Int) + cntP p t + (szP p t : Nat) + (p.cw : Int)
theorem len_app (a b : Str) : (a ++ b).length = a.length + b.length := by
  rw [← cz_len, cz_app, List.length_append, cz_len, cz_len]
theorem ahead_len {p : Pt} {t : Option Nat} {num : Int} : (aheadT p t num).length = p.sw + (cntP p t).toNat := by
  unfold aheadT
  rw [len_app, len_bitsT, len_bitsT]
theorem letT_len {p : Pt} {t : Option Nat} {num : Int} {hd : List Int} (ok : OkPt p) (h : AtOk p t) (lh : hd.length = p.s.fs.length) : ((letT p t num hd).length : Int) = sizeP p t := by
  have z := cntP_bd ok h
  unfold letT sizeP
  rw [len_app, len_app, ahead_len, pcsP_len ok h lh, len_bitsT]
  omega
theorem sum_zip {fs : List Fd} {ws : List Wy} : ((fs.zip ws).map fun fw => ((wW fw.1 fw.2 : Nat) : Int)).sum = ((((fs.zip ws).map fun fw => wW fw.1 fw.2).sum : Nat) : Int) := by
  induction fs.zip ws with
  | nil => rfl
  | cons x r ih => rw [List.map_cons, List.map_cons, List.sum_cons, List.sum_cons, ih]; omega
theorem sz_form {p : Pt} {t : Option Nat} (ok : OkPt p) (h : AtOk p t) : ((p.s.fs.zip (wsP p t)).map fun fw => ((wW fw.1 fw.2 : Nat) : Int)).sum = ((szP p t : Nat) : Int) := by
  rw [sum_zip]
  unfold szP atW
  rw [List.take_of_length_le (by rw [List.length_zip, wsP_len ok h]; omega)]
theorem sum_whole : ∀ fs : List Fd, (∀ f ∈ fs, 0 ≤ f.br) → (fs.map fun f => f.br).sum = ((fs.zip (fs.map fun _ => Wy.whole)).map fun fw => ((wW fw.1 fw.2 : Nat) : Int)).sum
  | [], _ => rfl
  | f :: r, h => by
    have ih := sum_whole r fun g hg => h g (List.mem_cons_of_mem _ hg)
    have h0 := h f List.mem_cons_self
    rw [List.map_cons, List.map_cons, List.zip_cons_cons, List.map_cons, List.sum_cons, List.sum_cons, ih]
    show f.br + _ = ((f.br.toNat : Nat) : Int) + _
    rw [show ((f.br.toNat : Nat) : Int) = f.br by omega]
theorem OkPt.heads {p : Pt} {t : Option Nat} (ok : OkPt p) (h : AtOk p t) : OkFm p.s ⟨1, 1, wsP p t⟩ := ⟨Int.le_refl 1, (show (1 : Int) ≤ 40 by decide), Int.le_refl 1, (show (1 : Int) ≤ 40 by decide), wsP_len ok h, fun _ _ _ h1 h2 => wsP_ok ok h h1 h2⟩
section
variable {K : PySem.W.Frag} {H : Hp} {Q : VK} {v : V} {p : Pt}
theorem w_ptS (h : Dq K H v (ptD p)) (q : ∀ x, Dq K H x (shD p.s) → Q x H) : rIxU K v (.int 0) H Q := w_ixQT h (d := shD p.s) rfl q
theorem w_ptN (h : Dq K H v (ptD p)) (q : Q (.int p.n) H) : rIxU K v (.int 1) H Q := w_ixQTi h (n := p.n) rfl q
theorem w_ptF (h : Dq K H v (ptD p)) (q : ∀ x, Dq K H x (.tuple (p.fs.map fmD)) → Q x H) : rIxU K v (.int 2) H Q := w_ixQT h (d := .tuple (p.fs.map fmD)) rfl q
theorem w_shF {s : Shp} (h : Dq K H v (shD s)) (q : ∀ x, Dq K H x (.tuple (s.fs.map fdD)) → Q x H) : rIxU K v (.int 0) H Q := w_ixQT h (d := .tuple (s.fs.map fdD)) rfl q
theorem w_shM {s : Shp} (h : Dq K H v (shD s)) (q : Q (.int s.m) H) : rIxU K v (.int 1) H Q := w_ixQTi h (n := s.m) rfl q
theorem w_adT {a b : Str} (h : a.length + b.length ≤ 100000) (q : Q (.str (a ++ b)) H) : rAddN K (.str a) (.str b) H Q := w_addsN (Nat.le_trans h (by decide)) q
end
theorem join_pieces (ts : List Tri) : Txt.join "" (ts.map pieceT) = piecesT ts := by
  refine cz_inj ?_
  rw [cz_join, cz_pieces, List.map_map]
  rfl
theorem sum_pieces (ts : List Tri) : ((ts.map pieceT).map (·.length)).sum = triW ts := by
  unfold triW
  rw [List.map_map]
  congr 1
  refine List.map_congr_left fun t _ => ?_
  show (pieceT t).length = _
  unfold pieceT
  rw [len_bitsT]
theorem w_par3 {i j l : Nat} {tA : TA} {σ : L2.St} {H : Hp} {nx bk ct : L2.St → Hp → Prop} {rt : VK} (h : tA σ H fun vs H1 => ∃ u v w, vs = [u, v, w] ∧ nx (((σ.set i (some u)).set j (some v)).set l (some w)) H1) : tPar3 i j l tA ⟨nx, rt, bk, ct⟩ σ H := h
theorem w_three {x y z : V} {k : V → V → V → Prop} (h : k x y z) : ∃ u v w, [x, y, z] = [u, v, w] ∧ k u v w := ⟨x, y, z, rfl, h⟩
theorem ahead_mod {p : Pt} {t : Option Nat} {x : Int} : aheadT p t (x % p2 (cntP p t)) = aheadT p t x := by
  unfold aheadT
  rw [bitsT_p2]
theorem letT_le {p : Pt} {t : Option Nat} {num : Int} {hd : List Int} (ok : OkPt p) (h : AtOk p t) (lh : hd.length = p.s.fs.length) : (letT p t num hd).length ≤ 1000 := by
  have ll := letT_len (num := num) ok h lh
  have z := szP_le ok h
  have z2 := ok.sw4
  have z3 := ok.cw20
  have z4 := cntP_bd ok h
  unfold sizeP at ll
  omega
/-- a statement that is never reached -/
def tNever : TS := fun _ _ _ => False
theorem ps_never {X : Cx} {st : Stmt} : PS X st tNever := ⟨fun _ _ _ _ _ _ h => h.elim⟩
/-! a letter's parts -/
def genT (p : Pt) (t : Option Nat) (num : Int) (hd : List Int) (ck : Int) : Str := aheadT p t num ++ pcsP p t hd ++ bitsT ck p.cw
def atD : Option Nat → PyData
  | none => .none
  | some i => .int (i : Int)
theorem atV_dq {K : PySem.W.Frag} {H : Hp} (t : Option Nat) : Dq K H (atV t) (atD t) := by
  cases t with
  | none => exact .non
  | some i => exact .int _
section
variable {p : Pt} {t : Option Nat} {num ck : Int} {hd : List Int}
theorem genT_len (ok : OkPt p) (h : AtOk p t) (lh : hd.length = p.s.fs.length) : ((genT p t num hd ck).length : Int) = sizeP p t := by
  have z := cntP_bd ok h
  unfold genT sizeP
  rw [len_app, len_app, ahead_len, pcsP_len ok h lh, len_bitsT]
  omega
theorem genT_le (ok : OkPt p) (h : AtOk p t) (lh : hd.length = p.s.fs.length) : (genT p t num hd ck).length ≤ 1000 := by
  have ll := genT_len (num := num) (ck := ck) ok h lh
  have z := szP_le ok h
  have z2 := ok.sw4
  have z3 := ok.cw20
  have z4 := cntP_bd ok h
  unfold sizeP at ll
  omega
theorem gen_cz : cz (genT p t num hd ck) = cz (bitsT (sortP t) p.sw) ++ (cz (bitsT num (cntP p t).toNat) ++ (cz (pcsP p t hd) ++ cz (bitsT ck p.cw))) := by
  unfold genT aheadT
  rw [cz_app, cz_app, cz_app, List.append_assoc, List.append_assoc]
theorem gen_01 : ∀ c ∈ cz (genT p t num hd ck), c = 48 ∨ c = 49 := fun c hc => by
  rw [gen_cz] at hc
  rcases List.mem_append.mp hc with h | h
  · exact bits_01 c h
  · rcases List.mem_append.mp h with h | h
    · exact bits_01 c h
    · rcases List.mem_append.mp h with h | h
      · exact pieces_01 _ c h
      · exact bits_01 c h
theorem cut_01 {z : Str} {lo hi : Option Int} (h : ∀ c ∈ cz z, c = 48 ∨ c = 49) : ∀ c ∈ cz (cutS z lo hi), c = 48 ∨ c = 49 := fun c hc => by
  rw [cz_cut] at hc
  exact h c (cutD_mem hc)
theorem cut_len {z : Str} {lo hi : Option Int} : (cutS z lo hi).length ≤ z.length := by
  rw [← cz_len, ← cz_len, cz_cut]
  exact cutD_len
theorem num_cz {y z : Str} (h : cz y = cz z) : numT y = numT z := by
  unfold numT
  rw [h]
theorem czb (n : Int) (w : Nat) : (cz (bitsT n w)).length = w := by rw [cz_len, len_bitsT]
theorem gen_sort (ok : OkPt p) (h : AtOk p t) : numT (cutS (genT p t num hd ck) none (some (p.sw : Int))) = sortP t := by
  have e : cz (cutS (genT p t num hd ck) none (some (p.sw : Int))) = cz (bitsT (sortP t) p.sw) := by
    rw [cz_cut, gen_cz, cutD_to (by omega) (by rw [List.length_append, czb]; omega), Int.toNat_natCast, List.take_append_of_le_length (by rw [czb]; exact Nat.le_refl _), List.take_of_length_le (by rw [czb]; exact Nat.le_refl _)]
  rw [num_cz e]
  have z := ok.sw.1
  refine numT_bits ?_ ?_
  · cases t with
    | none => exact Int.le_refl 0
    | some i => show (0 : Int) ≤ 1 + (i : Int); omega
  · cases t with
    | none => show (0 : Int) < _; omega
    | some i =>
      have hi : i < p.fs.length := h
      show (1 : Int) + (i : Int) < _
      omega
theorem gen_num (ok : OkPt p) (h : AtOk p t) : numT (cutS (genT p t num hd ck) (some (p.sw : Int)) (some ((p.sw : Int) + cntP p t))) = num % p2 (cntP p t) := by
  have z4 := cntP_bd ok h
  have e : cz (cutS (genT p t num hd ck) (some (p.sw : Int)) (some ((p.sw : Int) + cntP p t))) = cz (bitsT num (cntP p t).toNat) := by
    rw [cz_cut, gen_cz, cutD_mid (by omega) (by omega) (by rw [List.length_append, List.length_append, czb, czb]; omega), Int.toNat_natCast, List.drop_append_of_le_length (by rw [czb]; exact Nat.le_refl _), List.drop_of_length_le (by rw [czb]; exact Nat.le_refl _), List.nil_append, show ((p.sw : Int) + cntP p t).toNat - p.sw = (cntP p t).toNat by omega, List.take_append_of_le_length (by rw [czb]; exact Nat.le_refl _), List.take_of_length_le (by rw [czb]; exact Nat.le_refl _)]
  rw [num_cz e, ← bitsT_p2]
  have pp := p2_pos (cntP p t)
  exact numT_bits (Int.emod_nonneg _ (Int.ne_of_gt pp)) (Int.emod_lt_of_pos _ pp)
theorem gen_pcs (ok : OkPt p) (h : AtOk p t) (lh : hd.length = p.s.fs.length) : cutS (genT p t num hd ck) (some ((p.sw : Int) + cntP p t)) (some ((p.sw : Int) + cntP p t + (szP p t : Nat))) = pcsP p t hd := by
  have z4 := cntP_bd ok h
  have lp : (cz (pcsP p t hd)).length = szP p t := by rw [cz_len, pcsP_len ok h lh]
  refine cz_inj ?_
  rw [cz_cut, gen_cz, cutD_mid (by omega) (by omega) (by rw [List.length_append, List.length_append, List.length_append, czb, czb, lp]; omega), show ((p.sw : Int) + cntP p t + (szP p t : Nat)).toNat - ((p.sw : Int) + cntP p t).toNat = szP p t by omega, show ((p.sw : Int) + cntP p t).toNat = p.sw + (cntP p t).toNat by omega, ← List.append_assoc, List.drop_left' (by rw [List.length_append, czb, czb]), List.take_left' lp]
theorem gen_chk (ok : OkPt p) (h : AtOk p t) (lh : hd.length = p.s.fs.length) (c0 : 0 ≤ ck) (c1 : ck < p.s.m) : numT (cutS (genT p t num hd ck) (some ((p.sw : Int) + cntP p t + (szP p t : Nat))) none) = ck := by
  have z4 := cntP_bd ok h
  have lp : (cz (pcsP p t hd)).length = szP p t := by rw [cz_len, pcsP_len ok h lh]
  have e : cz (cutS (genT p t num hd ck) (some ((p.sw : Int) + cntP p t + (szP p t : Nat))) none) = cz (bitsT ck p.cw) := by
    rw [cz_cut, gen_cz, cutD_from (by omega) (by rw [List.length_append, List.length_append, List.length_append, czb, czb, lp]; omega), show ((p.sw : Int) + cntP p t + (szP p t : Nat)).toNat = p.sw + ((cntP p t).toNat + szP p t) by omega, ← List.append_assoc (cz (bitsT num (cntP p t).toNat)), ← List.append_assoc, List.drop_left' (by rw [List.length_append, List.length_append, czb, czb, lp])]
  rw [num_cz e]
  have z := ok.cw.1
  exact numT_bits c0 (by omega)
theorem gen_cut (ok : OkPt p) (h : AtOk p t) (lh : hd.length = p.s.fs.length) : cutS (genT p t num hd ck) none (some (((genT p t num hd ck).length : Int) - (p.cw : Int))) = aheadT p t num ++ pcsP p t hd := by
  have z4 := cntP_bd ok h
  have ll := genT_len (num := num) (ck := ck) ok h lh
  have la : (aheadT p t num ++ pcsP p t hd).length = p.sw + (cntP p t).toNat + szP p t := by rw [len_app, ahead_len, pcsP_len ok h lh]
  have lc : (cz (aheadT p t num ++ pcsP p t hd)).length = p.sw + (cntP p t).toNat + szP p t := by rw [cz_len, la]
  unfold sizeP at ll
  refine cz_inj ?_
  rw [cz_cut, ll, show cz (genT p t num hd ck) = cz (aheadT p t num ++ pcsP p t hd) ++ cz (bitsT ck p.cw) from cz_app _ _, cutD_to (by omega) (by rw [List.length_append, lc, czb]; omega), show ((p.sw : Int) + cntP p t + (szP p t : Nat) + (p.cw : Int) - (p.cw : Int)).toNat = p.sw + (cntP p t).toNat + szP p t by omega, List.take_append_of_le_length (by rw [lc]; exact Nat.le_refl _), List.take_of_length_le (by rw [lc]; exact Nat.le_refl _)]
end
end Sh
/-! what is a name, a row, a kind, a field, a shape, a road, a pact -/
namespace Sh
open PySem PySem.Spec PyProof.Rows L2
def nameD : PyData → Bool
  | .str z => decide (1 ≤ z.length) && (decide (z.length ≤ 8) && (cz z).all fun c => decide (c ∈ ("abcdefghijklmnopqrstuvwxyz" : Str).cps.toList))
  | _ => false
def intsD : List PyData → List Int
  | [] => []
  | .int i :: r => i :: intsD r
  | _ :: r => intsD r
def turnD (b : Int) : PyData → Bool
  | .tuple ds => decide (2 ≤ ds.length) && (decide (ds.length ≤ 12) && (ds.all (betwD 0 (p2 b - 1)) && decide ((intsD ds).Nodup)))
  | _ => false
theorem intsD_of {lo hi : Int} : ∀ {ds : List PyData}, ds.all (betwD lo hi) = true → ds = (intsD ds).map PyData.int
  | [], _ => rfl
  | d :: r, h => by
    rw [List.all_cons, Bool.and_eq_true] at h
    cases d with
    | int i =>
      show PyData.int i :: r = PyData.int i :: (intsD r).map PyData.int
      rw [← intsD_of h.2]
    | _ => cases h.1
theorem dzs_intsD {K : PySem.W.Frag} {P : Addr → Prop} {H : Hp} : ∀ {xs : List V} {ns : List Int}, DzAll K P H xs (ns.map PyData.int) → xs = ns.map V.int
  | _, [], h => by cases h; rfl
  | _, n :: r, h => by
    cases h with
    | cons h1 h2 => rw [dz_int h1, dzs_intsD h2]; rfl
def kindE (pl b : Int) (s : Str) : List PyData → Bool
  | [] => decide (s = "still") || decide (s = "drawn")
  | [d1] => (decide (s = "step") && betwD 0 (p2 b - 1) d1) || (decide (s = "turn") && turnD b d1)
  | [d1, d2] => decide (s = "with") && (betwD 0 (pl - 1) d1 && betwD (-99) 99 d2)
  | _ => false
def kindD (pl b : Int) : PyData → Bool
  | .tuple (.str s :: r) => kindE pl b s r
  | _ => false
def fieldE (pl : Int) (d2 : PyData) : PyData → Bool
  | .int b => kindD pl b d2
  | _ => false
def fieldD (pl : Int) : PyData → Bool
  | .tuple [d0, d1, d2] => nameD d0 && (betwD 1 40 d1 && fieldE pl d2 d1)
  | _ => false
def nmD : PyData → Str
  | .tuple (.str z :: _) => z
  | _ => ""
def fieldsB (ds : List PyData) : Bool := (ds.mapIdx fun i d => fieldD (i : Int) d).all id
def fieldsD : PyData → Bool
  | .tuple ds => decide (1 ≤ ds.length) && (decide (ds.length ≤ 12) && (fieldsB ds && decide ((ds.map nmD).Nodup)))
  | _ => false
def shapeD : PyData → Bool
  | .tuple [d0, d1] => betwD 1 1000000 d1 && fieldsD d0
  | _ => false
def SmNm (d : PyData) : Prop := ∀ z r, d = .tuple (.str z :: r) → z.length ≤ 1000000
def SmSh (d : PyData) : Prop := ∀ ds r, d = .tuple (.tuple ds :: r) → ∀ e ∈ ds, SmNm e
theorem field_nm {pl : Int} {d : PyData} (h : fieldD pl d = true) : ∃ z a b, d = .tuple [.str z, a, b] := by
  cases d with
  | tuple ds =>
    rcases ds with _ | ⟨d0, _ | ⟨d1, _ | ⟨d2, _ | ⟨d3, r⟩⟩⟩⟩
    · cases h
    · cases h
    · cases h
    · have e : (nameD d0 && (betwD 1 40 d1 && fieldE pl d2 d1)) = true := h
      rw [Bool.and_eq_true] at e
      cases d0 with
      | str z => exact ⟨z, _, _, rfl⟩
      | _ => cases e.1
    · cases h
  | _ => cases h
theorem fields_get {ds : List PyData} {i : Nat} {d : PyData} (h : fieldsB ds = true) (e : ds[i]? = some d) : fieldD (i : Int) d = true := by
  unfold fieldsB at h
  rw [List.all_eq_true] at h
  refine h _ (List.mem_of_getElem? (i := i) ?_)
  rw [List.getElem?_mapIdx, e]
  rfl
theorem nm_ok {z : Str} (h : OkNm z) : nameD (.str z) = true := by
  show (decide (1 ≤ z.length) && (decide (z.length ≤ 8) && (cz z).all fun c => decide (c ∈ ("abcdefghijklmnopqrstuvwxyz" : Str).cps.toList))) = true
  rw [decide_eq_true h.1, decide_eq_true h.2.1, Bool.true_and, Bool.true_and, List.all_eq_true]
  intro c hc
  have z := h.2.2 c hc
  obtain ⟨k, rfl⟩ : ∃ k, c = 97 + k := ⟨c - 97, by omega⟩
  have hk : k < 26 := by omega
  refine decide_eq_true ?_
  rw [show ("abcdefghijklmnopqrstuvwxyz" : Str).cps.toList = (List.range 26).map (97 + ·) by decide +kernel]
  exact List.mem_map.mpr ⟨k, List.mem_range.mpr hk, rfl⟩
theorem kd_ok {pl : Nat} {b : Int} {k : Kd} (h : OkKd pl b k) : kindD (pl : Int) b (kdD k) = true := by
  cases k with
  | still => rfl
  | drawn => rfl
  | step n =>
    have e : kindD (pl : Int) b (kdD (.step n)) = ((decide (("step" : Str) = "step") && betwD 0 (p2 b - 1) (.int n)) || (decide (("step" : Str) = "turn") && turnD b (.int n))) := rfl
    rw [e, betw_ok h.1 (by have := h.2; omega), decide_eq_true rfl]
    rfl
  | turn ns =>
    have e : kindD (pl : Int) b (kdD (.turn ns)) = ((decide (("turn" : Str) = "step") && betwD 0 (p2 b - 1) (.tuple (ns.map .int))) || (decide (("turn" : Str) = "turn") && turnD b (.tuple (ns.map .int)))) := rfl
    have ei : ∀ l : List Int, intsD (l.map PyData.int) = l := fun l => by
      induction l with
      | nil => rfl
      | cons x r ih =>
        show x :: intsD (r.map PyData.int) = x :: r
        rw [ih]
    have et : turnD b (.tuple (ns.map .int)) = true := by
      show (decide (2 ≤ (ns.map PyData.int).length) && (decide ((ns.map PyData.int).length ≤ 12) && ((ns.map PyData.int).all (betwD 0 (p2 b - 1)) && decide ((intsD (ns.map PyData.int)).Nodup)))) = true
      rw [ei, List.length_map, decide_eq_true h.1, decide_eq_true h.2.1, decide_eq_true h.2.2.2, Bool.true_and, Bool.true_and, Bool.and_true, List.all_map, List.all_eq_true]
      intro n hn
      have z := h.2.2.1 n hn
      exact betw_ok z.1 (by omega)
    rw [e, et, decide_eq_true (rfl : ("turn" : Str) = "turn"), Bool.true_and, Bool.or_true]
  | wth p z =>
    have e : kindD (pl : Int) b (kdD (.wth p z)) = (decide (("with" : Str) = "with") && (betwD 0 ((pl : Int) - 1) (.int p) && betwD (-99) 99 (.int z))) := rfl
    obtain ⟨h0, h1, h2, h3⟩ := h
    rw [e, betw_ok h0 (by omega), betw_ok h2 h3, decide_eq_true rfl]
    rfl
theorem fd_ok {i : Nat} {f : Fd} (h : OkFd i f) : fieldD (i : Int) (fdD f) = true := by
  have e : fieldD (i : Int) (fdD f) = (nameD (.str f.nm) && (betwD 1 40 (.int f.br) && kindD (i : Int) f.br (kdD f.kd))) := rfl
  rw [e, nm_ok h.nm, betw_ok h.b0 h.b1, kd_ok h.kd]
  rfl
theorem shape_ok {s : Shp} (h : OkShp s) : shapeD (shD s) = true := by
  have e : shapeD (shD s) = (betwD 1 1000000 (.int s.m) && (decide (1 ≤ (s.fs.map fdD).length) && (decide ((s.fs.map fdD).length ≤ 12) && (fieldsB (s.fs.map fdD) && decide (((s.fs.map fdD).map nmD).Nodup))))) := rfl
  have en : (s.fs.map fdD).map nmD = s.fs.map Fd.nm := by
    rw [List.map_map]
    rfl
  have ef : fieldsB (s.fs.map fdD) = true := by
    unfold fieldsB
    rw [List.all_eq_true]
    intro x hx
    obtain ⟨i, hi⟩ := List.getElem?_of_mem hx
    rw [List.getElem?_mapIdx, List.getElem?_map] at hi
    cases c : s.fs[i]? with
    | none => rw [c] at hi; cases hi
    | some f =>
      rw [c] at hi
      rw [← Option.some.inj hi]
      exact fd_ok (h.fd i f c)
  rw [e, en, ef, betw_ok h.m0 h.m1, List.length_map, decide_eq_true h.l0, decide_eq_true h.l1, decide_eq_true h.nd]
  rfl
theorem smnm_ok {s : Shp} (h : OkShp s) : ∀ e ∈ s.fs.map fdD, SmNm e := fun e he z r ez => by
  obtain ⟨f, hf, rfl⟩ := List.mem_map.mp he
  obtain ⟨i, hi⟩ := List.getElem?_of_mem hf
  have hn := (h.fd i f hi).nm.2.1
  injection ez with ez
  injection ez with e1 _
  injection e1 with e1
  rw [← e1]
  omega
theorem smsh_ok {s : Shp} (h : OkShp s) : SmSh (shD s) := fun ds r e => by
  injection e with e
  injection e with e1 _
  injection e1 with e1
  rw [← e1]
  exact smnm_ok h
def roadE (d1 d2 d3 : PyData) : PyData → Bool
  | .int a => betwD a 400 d1 && (betwD 0 20 d2 && betwD 0 400 d3)
  | _ => false
def roadD : PyData → Bool
  | .tuple [d0, d1, d2, d3] => betwD 0 39 d0 && roadE d1 d2 d3 d0
  | _ => false
def formsD (s : Shp) : PyData → Bool
  | .tuple fs => decide (fs.length ≤ 12) && fs.all (formD s)
  | _ => false
def PaC (d : PyData) (r : Bool) : Prop :=
  (r = false ∧ ∀ d0 d1 d2 d3, d ≠ .tuple [d0, d1, d2, d3]) ∨ (∃ d0 d1 d2 d3, d = .tuple [d0, d1, d2, d3] ∧ r = false ∧ shapeD d0 = false ∧ SmSh d0) ∨
  ∃ (s : Shp) (d1 d2 d3 : PyData), OkShp s ∧ d = .tuple [shD s, d1, d2, d3] ∧ r = (betwD 1 40 d1 && (formsD s d2 && roadD d3))
theorem OkShp.brs {s : Shp} (h : OkShp s) : ∀ f ∈ s.fs, f.br ≤ 1000 := fun f hf => by
  obtain ⟨i, hi⟩ := List.getElem?_of_mem hf
  have := (h.fd i f hi).b1
  omega
theorem dz_4 {K : PySem.W.Frag} {P : Addr → Prop} {H : Hp} {v : V} {d0 d1 d2 d3 : PyData} (hd : Dz K P H v (.tuple [d0, d1, d2, d3])) : ∃ a x0 x1 x2 x3, v = .ref a ∧ SqT K H a [x0, x1, x2, x3] ∧ Dz K P H x0 d0 ∧ Dz K P H x1 d1 ∧ Dz K P H x2 d2 ∧ Dz K P H x3 d3 := by
  obtain ⟨a, xs, rfl, hxs, hds⟩ := dz_tt hd
  cases hds with
  | cons a0 r => cases r with
    | cons a1 r => cases r with
      | cons a2 r => cases r with
        | cons a3 r =>
          cases r
          exact ⟨_, _, _, _, _, rfl, hxs, a0, a1, a2, a3⟩
theorem rd0 {d0 d1 d2 d3 : PyData} (h : betwD 0 39 d0 = false) : roadD (.tuple [d0, d1, d2, d3]) = false := by
  show (betwD 0 39 d0 && roadE d1 d2 d3 d0) = false
  rw [h, Bool.false_and]
theorem rd1 {a : Int} {d1 d2 d3 : PyData} (h : betwD a 400 d1 = false) : roadD (.tuple [.int a, d1, d2, d3]) = false := by
  show (betwD 0 39 (.int a) && (betwD a 400 d1 && (betwD 0 20 d2 && betwD 0 400 d3))) = false
  rw [h, Bool.false_and, Bool.and_false]
theorem rd2 {a : Int} {d1 d2 d3 : PyData} (h : betwD 0 20 d2 = false) : roadD (.tuple [.int a, d1, d2, d3]) = false := by
  show (betwD 0 39 (.int a) && (betwD a 400 d1 && (betwD 0 20 d2 && betwD 0 400 d3))) = false
  rw [h, Bool.false_and, Bool.and_false, Bool.and_false]
theorem rd3 {a : Int} {d1 d2 d3 : PyData} (h : betwD 0 400 d3 = false) : roadD (.tuple [.int a, d1, d2, d3]) = false := by
  show (betwD 0 39 (.int a) && (betwD a 400 d1 && (betwD 0 20 d2 && betwD 0 400 d3))) = false
  rw [h, Bool.and_false, Bool.and_false, Bool.and_false]
theorem dq_i4 {K : PySem.W.Frag} {H : Hp} {v : V} {a b c d : Int} (h : Dq K H v (.tuple [.int a, .int b, .int c, .int d])) : ∃ p, v = .ref p ∧ SqN K H p [.int a, .int b, .int c, .int d] := by
  obtain ⟨p, xs, rfl, hx, r⟩ := dq_tt h
  cases r with
  | cons h1 r => cases r with
    | cons h2 r => cases r with
      | cons h3 r => cases r with
        | cons h4 r =>
          cases r
          cases dq_int h1
          cases dq_int h2
          cases dq_int h3
          cases dq_int h4
          exact ⟨p, rfl, hx⟩
theorem pac_w {s : Shp} {d1 d2 d3 : PyData} (ok : OkShp s) (h : betwD 1 40 d1 = false) : PaC (.tuple [shD s, d1, d2, d3]) false := .inr (.inr ⟨s, d1, d2, d3, ok, rfl, by rw [h, Bool.false_and]⟩)
theorem pac_f {s : Shp} {d1 d2 d3 : PyData} (ok : OkShp s) (h : formsD s d2 = false) : PaC (.tuple [shD s, d1, d2, d3]) false := .inr (.inr ⟨s, d1, d2, d3, ok, rfl, by rw [h, Bool.false_and, Bool.and_false]⟩)
theorem pac_r {s : Shp} {d1 d2 d3 : PyData} (ok : OkShp s) (h : roadD d3 = false) : PaC (.tuple [shD s, d1, d2, d3]) false := .inr (.inr ⟨s, d1, d2, d3, ok, rfl, by rw [h, Bool.and_false, Bool.and_false]⟩)
theorem pac_s {d0 d1 d2 d3 : PyData} (h : shapeD d0 = false) (hz : SmSh d0) : PaC (.tuple [d0, d1, d2, d3]) false := .inr (.inl ⟨d0, d1, d2, d3, rfl, rfl, h, hz⟩)
theorem pac_n {d : PyData} (h : ∀ d0 d1 d2 d3, d ≠ .tuple [d0, d1, d2, d3]) : PaC d false := .inl ⟨rfl, h⟩
theorem forms_bad {s : Shp} {l : List PyData} {d : PyData} (h : formD s d = false) (hd : d ∈ l) : formsD s (.tuple l) = false := by
  show (decide (l.length ≤ 12) && l.all (formD s)) = false
  have e : l.all (formD s) = false := by
    rw [List.all_eq_false]
    exact ⟨d, hd, by rw [h]; decide⟩
  rw [e, Bool.and_false]
theorem form_lenO {s : Shp} {a b : PyData} {ws : List PyData} (h : ws.length ≠ s.fs.length) : formD s (.tuple [a, b, .tuple ws]) = false := by
  show (betwD 1 40 a && (betwD 1 40 b && (decide (ws.length = s.fs.length) && _))) = false
  rw [decide_eq_false h, Bool.false_and, Bool.and_false, Bool.and_false]
theorem lc_genF {K : PySem.W.Frag} {σ : L2.St} {H : Hp} {Q : VK} {te : TE} {tt : TT} {g : TG} {vs : List Nat} {a : Addr} {xs : List V} (hx : SqL K H a xs) (I : Nat → List V → Hp → Prop) (hst : ∀ D, H D = none → ∀ i acc H' xs ys, H' D = some (.lst xs) → I i acc H' → I i acc (upd H' D (.lst ys))) (hn : xs.length ≤ 1000000) (hI : ∀ i acc H', I i acc H' → acc.length ≤ i) (h0 : ∀ H', Same H H' → I 0 [] H')
    (hs : ∀ i x acc H', xs[i]? = some x → Same H H' → I i acc H' → ∀ (k : VK) (k' : Hp → Prop), (∀ y H4, Same H' H4 → I (i + 1) (acc ++ [y]) H4 → k y H4) → (∀ H3, Same H' H3 → I (i + 1) acc H3 → k' H3) →
      g x (wipe σ vs) H' fun σ2 H2 => wipe σ2 vs = wipe σ vs ∧ tt σ2 H2 fun b H3 => if b = true then te σ2 H3 k else k' H3)
    (hd : ∀ D acc H', H D = none → Same H H' → H' D = some (.lst acc) → I xs.length acc H' → Q (.ref D) H') : LcOk (Itl K a) g tt te vs σ Q H := fun D hD => by
  refine ⟨fun i m H' => m = xs.length - i ∧ i ≤ xs.length ∧ ∃ acc, Same H H' ∧ H' D = some (.lst acc) ∧ I i acc H', ⟨xs.length, by omega, by omega, [], same_new hD, upd_same, h0 _ (same_new hD)⟩, fun i m H1 ⟨em, hi, acc, s1, hD1, w1⟩ => ?_⟩
  by_cases hlt : i < xs.length
  · refine .inr ⟨⟨xs, xs[i], s1.seq hx, List.getElem?_eq_getElem hlt⟩, fun H' => i + 1 ≤ xs.length ∧ ∃ acc, Same H H' ∧ H' D = some (.lst acc) ∧ I (i + 1) acc H', fun H' ⟨a, b⟩ => ⟨xs.length - (i + 1), by omega, rfl, a, b⟩, fun x H' y => ?_⟩
    obtain ⟨e1, e2⟩ := y
    subst e1
    refine hs i x acc _ (e2 xs (s1.seq hx)) s1 w1 _ _ (fun y H4 s4 w4 => ⟨acc, s4 _ _ hD1, ?_, hlt, _, same_mut (s1.trans s4) hD, upd_same, hst D hD _ _ _ _ _ (s4 _ _ hD1) w4⟩) fun H3 s3 w3 => ⟨hlt, acc, s1.trans s3, s3 _ _ hD1, w3⟩
    have l1 := hI i acc _ w1
    exact Nat.lt_of_le_of_lt (m := 1000000) (by omega) (by decide)
  · have e : i = xs.length := by omega
    subst e
    exact .inl ⟨⟨xs, s1.seq hx, Nat.le_refl _⟩, hd D acc H1 hD s1 hD1 w1⟩
theorem tupOs_mem : ∀ {ds : List PyData} {d : PyData}, tupOs ds → d ∈ ds → tupO d
  | e :: r, d, h, hd => by
    rcases List.mem_cons.mp hd with rfl | hd
    · exact h.1
    · exact tupOs_mem h.2 hd
  | [], _, _, hd => nomatch hd
end Sh
/-! own classes: their methods, fields, new instances -/
namespace Sh
open PySem PySem.Spec PyProof.Rows L2
/-- where a class of the text stands -/
@[irreducible] def clsOf (K : PySem.W.Frag) (x : Str) : Addr := match PySem.W.nsIn K mainGlobals x with
  | some (some (.ref C)) => C
  | _ => 0
theorem clsOf_eq {K : PySem.W.Frag} {x : Str} {C : Addr} (h : PySem.W.nsIn K mainGlobals x = some (some (.ref C))) : clsOf K x = C := by
  unfold clsOf
  rw [h]
def KTup (K : PySem.W.Frag) (a : Addr) (xs : List V) : Prop := ∃ (o : Obj) (its : Array Value) (n : Nat), K.lookup a = some o ∧ o.dict = none ∧ o.cls = .type "tuple" ∧ o.data = .seq its n ∧ its.size ≤ sizeLine ∧ Vals xs its.toList
theorem ktup_mk {K : PySem.W.Frag} {a : Addr} {xs : List V} {c : Value} {d : Option Addr} {its : Array Value} {n : Nat} {sl : Array (Option Value)} (l : K.lookup a = some ⟨c, d, .seq its n, sl⟩) (hc : c = .type "tuple") (hd : d = none) (hs : its.size ≤ sizeLine) (hv : Vals xs its.toList) : KTup K a xs :=
  ⟨_, its, n, l, hd, hc, rfl, hs, hv⟩
theorem KTup.n {K : PySem.W.Frag} {a : Addr} {xs : List V} {H : Hp} (h : KTup K a xs) : SqN K H a xs := .inr h
structure KlsOk (K : PySem.W.Frag) (mg : Str → Option Value) (x : Str) : Prop where
  cl : Cls K (clsOf K x)
  mg : mg x = some (.ref (clsOf K x))
def SrcM (K : PySem.W.Frag) (C : Addr) (m qual : Str) (st : Stmt) : Prop := ∃ f fd, Meth K C m f ∧ Fun K m qual st f fd
def SrcI (K : PySem.W.Frag) (C : Addr) (qual : Str) (st : Stmt) : Prop := ∃ f fd, Mk K C f ∧ Fun K "__init__" qual st f fd
def CalM (W : Wd) (mg : Str → Option Value) (base : Heap) (C : Addr) (m : Str) (k : Nat) (ps : List Str) (sp : Sp) : Prop :=
  ∃ f fd, Meth W.K C m f ∧ FnOk W.P W.w W.K mg base CX0 k f fd ps sp ∧ Binds W.K fd ps []
def CalI (W : Wd) (mg : Str → Option Value) (base : Heap) (C : Addr) (k : Nat) (ps : List Str) (sp : Sp) : Prop :=
  ∃ f fd, Mk W.K C f ∧ FnOk W.P W.w W.K mg base CX0 k f fd ps sp ∧ Binds W.K fd ps []
section
variable {K : PySem.W.Frag} {mg : Str → Option Value} {h : Heap} {x m qual : Str} {C f : Addr} {st : Stmt} {oc : Value} {od an : Option Addr} {osl : Array (Option Value)} {kV doc pm cdv ct : Value}
theorem kls_mk (X : K.In h) (G : h.Ns mainGlobals mg) (a : PySem.W.nsIn K mainGlobals x = some (some (.ref C))) (pg : PySem.W.plainGet K C Str.empty = true) (hd : PySem.W.hasDictIn K C = true) (po : PySem.W.plainOver K C = true)
    (sa : PySem.W.findIn K (.ref C) "__setattr__" = some (some (.builtin "object.__setattr__"))) : KlsOk K mg x := by
  have e := clsOf_eq a
  exact ⟨by rw [e]; exact ⟨pg, hd, po, sa⟩, by rw [e]; exact PySem.W.mg_of X G a⟩
theorem no_mk {g : Str} (a : PySem.W.nsIn K mainGlobals x = some (some (.ref C))) (n : PySem.W.findIn K (.ref C) g = some none) : NoAttr K (clsOf K x) g := by
  rw [clsOf_eq a]
  exact n
theorem src_mkM (e : PySem.W.nsIn K mainGlobals x = some (some (.ref C))) (a : PySem.W.findIn K (.ref C) m = some (some (.ref f))) (i : PySem.W.isFn K (.ref f) = true)
    (l : K.lookup f = some ⟨oc, od, .func (PySem.W.fnOf m qual (defArgs st) (defBody st) (defScope st) .none kV doc pm an cdv ct), osl⟩) (c : PySem.W.codeIn K cdv qual = true) (k : PySem.W.keepIn K (.ref f) = true) : SrcM K (clsOf K x) m qual st := by
  rw [clsOf_eq e]
  exact ⟨f, _, ⟨a, i, k⟩, fun_mk l c k⟩
theorem src_mkI (e : PySem.W.nsIn K mainGlobals x = some (some (.ref C))) (a : PySem.W.findIn K (.ref C) "__init__" = some (some (.ref f))) (i : PySem.W.isFn K (.ref f) = true) (mk : PySem.W.makesIn K C = true) (kc : PySem.W.keepIn K (.ref C) = true)
    (l : K.lookup f = some ⟨oc, od, .func (PySem.W.fnOf "__init__" qual (defArgs st) (defBody st) (defScope st) .none kV doc pm an cdv ct), osl⟩) (c : PySem.W.codeIn K cdv qual = true) (k : PySem.W.keepIn K (.ref f) = true) : SrcI K (clsOf K x) qual st := by
  rw [clsOf_eq e]
  exact ⟨f, _, ⟨mk, a, i, kc⟩, fun_mk l c k⟩
end
/-! ### fields -/
def FdOk (C : Addr) (f : Str) (Q : VK) (x : V) (H : Hp) : Prop := ∃ a dx fs v, x = .ref a ∧ H a = some (.ins C dx fs) ∧ fs.lookup f = some v ∧ Q v H
def tFd (C : Addr) (ta : TE) (f : Str) : TE := fun σ H Q => ta σ H fun x H1 => FdOk C f Q x H1
def SfOk (C : Addr) (f : Str) (y : V) (k : Hp → Prop) (x : V) (H : Hp) : Prop := ∃ a dx fs, x = .ref a ∧ H a = some (.ins C dx fs) ∧ fs.length < 1000 ∧ k (upd H a (.ins C dx (putF f y fs)))
def sFd (C : Addr) (ta tv : TE) (f : Str) : TS := fun D σ H => tv σ H fun y H1 => ta σ H1 fun x H2 => SfOk C f y (D.nx σ) x H2
section
variable {X : Cx} {o e value : Expr} {f : Str} {pos pos' tpos : Pos} {ta tv : TE} {C : Addr}
theorem pe_fd (c : Cls X.K C) (n : NoAttr X.K C f) (he : PE X e ta) (hb : attributeBase e f X.env (eval e X.env) = eval e X.env) : PE X (.Attribute e f pos) (tFd C ta f) := by
  refine ⟨fun pins s σ H Q I h => ?_⟩
  refine attr_of hb (thn (he.run pins s σ H _ I h) fun u s1 ⟨x, H1, I1, rx, a, dx, fs, v, ex, ea, l, q⟩ => ?_)
  subst ex
  obtain rfl : u = Value.ref a := rx
  exact getattr_ok I1 ea c n l fun u' s2 I2 ru => ⟨v, H1, I2, ru, q⟩
theorem ps_fd (c : Cls X.K C) (n : NoAttr X.K C f) (ha : PE X o ta) (hv : PE X value tv) (hs : swapsWith value (some (.Attribute o f pos')) pos.line X.env = pure false) : PS X (.Assign [.Attribute o f pos'] value pos) (sFd C ta tv f) := by
  refine ⟨fun pins s σ H D I h => ?_⟩
  refine plainObj_wpAny_Assign_Attribute (thn (hv.run pins s σ H _ I h) fun u s1 ⟨y, H1, I1, ry, q⟩ => thn (ha.run pins s1 σ H1 _ I1 q) fun ov s2 ⟨x, H2, I2, rx, a, dx, fs, ex, ea, l, q2⟩ => ?_) hs
  subst ex
  obtain rfl : ov = Value.ref a := rx
  exact setattr_ok I2 ea c n l ry fun s3 I3 => ⟨σ, _, I3, q2⟩
end
/-! ### calls of methods, new instances -/
def MtOk (C : Addr) (m : Str) (t : TA) (sp : Sp) (E : XK) (σ : L2.St) (Q : VK) (x : V) (H1 : Hp) : Prop := ∃ a dx fs, x = .ref a ∧ H1 a = some (.ins C dx fs) ∧ fs.lookup m = none ∧ t σ H1 fun vs H2 => sp (x :: vs) H2 Q E
def MkOk (C : Addr) (sp : Sp) (E : XK) (Q : VK) (vs : List V) (H1 : Hp) : Prop := ∀ x dx, H1 x = none → H1 dx = none → dx ≠ x → sp (.ref x :: vs) (upd (upd H1 dx (.own x)) x (.ins C dx [])) (fun v H2 => v = .non ∧ Q (.ref x) H2) E
section
variable {C a dx : Addr} {m f : Str} {sp : Sp} {E : XK} {ta tv : TE} {t : TA} {σ : L2.St} {H : Hp} {Q : VK} {fs : List (Str × V)} {v y : V} {nx bk ct : L2.St → Hp → Prop} {rt : VK} {k : Hp → Prop}
theorem w_fd (h : ta σ H fun x H1 => FdOk C f Q x H1) : tFd C ta f σ H Q := h
theorem w_fdok (h : H a = some (.ins C dx fs)) (l : fs.lookup f = some v) (q : Q v H) : FdOk C f Q (.ref a) H := ⟨a, dx, fs, v, rfl, h, l, q⟩
theorem w_sfd (h : tv σ H fun y H1 => ta σ H1 fun x H2 => SfOk C f y (nx σ) x H2) : sFd C ta tv f ⟨nx, rt, bk, ct⟩ σ H := h
theorem w_sfok (h : H a = some (.ins C dx fs)) (l : fs.length < 1000) (q : k (upd H a (.ins C dx (putF f y fs)))) : SfOk C f y k (.ref a) H := ⟨a, dx, fs, rfl, h, l, q⟩
theorem w_meth (h : ta σ H fun x H1 => MtOk C m t sp E σ Q x H1) : tMeth C m sp [] E ta t σ H Q := by
  have e : tMeth C m sp [] E ta t σ H Q = (ta σ H fun x H1 => MtOk C m t sp E σ Q x H1) := by
    unfold tMeth MtOk
    simp only [List.append_nil]
  rw [e]
  exact h
theorem w_mtok (h : H a = some (.ins C dx fs)) (l : fs.lookup m = none) (q : t σ H fun vs H2 => sp (.ref a :: vs) H2 Q E) : MtOk C m t sp E σ Q (.ref a) H := ⟨a, dx, fs, rfl, h, l, q⟩
theorem w_make (h : t σ H fun vs H1 => MkOk C sp E Q vs H1) : tMake C sp [] E t σ H Q := by
  have e : tMake C sp [] E t σ H Q = (t σ H fun vs H1 => MkOk C sp E Q vs H1) := by
    unfold tMake MkOk
    simp only [List.append_nil]
  rw [e]
  exact h
theorem lk_hit {r : List (Str × V)} : List.lookup f ((f, v) :: r) = some v := by
  rw [List.lookup_cons, beq_self_eq_true]
theorem lk_miss {g : Str} {r : List (Str × V)} (h : (f == g) = false) : List.lookup f ((g, v) :: r) = List.lookup f r := by
  rw [List.lookup_cons, h]
theorem pf_hit {r : List (Str × V)} : putF f y ((f, v) :: r) = (f, y) :: r := if_pos rfl
theorem pf_miss {g : Str} {r : List (Str × V)} (h : ¬ g = f) : putF f y ((g, v) :: r) = (g, v) :: putF f y r := if_neg h
end
/-! ### heaps in which an object's own parts change -/
def isTup : HO → Prop
  | .tup _ => True
  | .frz _ (.tup _) => True
  | _ => False
/-- tuples stay -/
def St (H H' : Hp) : Prop := ∀ a u, H a = some u → isTup u → H' a = some u
theorem St.refl (H : Hp) : St H H := fun _ _ h _ => h
theorem St.trans {H H1 H2 : Hp} (a : St H H1) (b : St H1 H2) : St H H2 := fun c o h t => b c o (a c o h t) t
theorem Same.st {H H' : Hp} (e : Same H H') : St H H' := fun a u h _ => e a u h
theorem tup_noE {u : HO} (h : isTup u) : noE u = true := by
  cases u <;> first | rfl | exact h.elim
theorem Sx.st {H H' : Hp} (e : Sx H H') : St H H' := fun a u h t => e.keep a u h (tup_noE t)
section
variable {K : PySem.W.Frag} {H H' : Hp} {a : Addr} {xs : List V}
theorem st_t (e : St H H') (h : SqT K H a xs) : SqT K H' a xs := by
  rcases h with (h | ⟨o, h⟩) | h
  · exact .inl (.inl (e _ _ h trivial))
  · exact .inl (.inr ⟨o, e _ _ h trivial⟩)
  · exact .inr h
theorem st_tup (e : St H H') (h : TupN H a xs) : TupN H' a xs := by
  obtain ⟨o, d, h⟩ := h
  exact ⟨o, d, e _ _ h trivial⟩
theorem st_n (e : St H H') (h : SqN K H a xs) : SqN K H' a xs := by
  rcases h with h | h
  · exact .inl (st_tup e h)
  · exact .inr h
mutual
theorem dqt (e : St H H') : ∀ {v : V} {d : PyData}, Dq K H v d → tupO d → Dq K H' v d
  | _, _, .non, _ => .non
  | _, _, .bl b, _ => .bl b
  | _, _, .int i, _ => .int i
  | _, _, .str x, _ => .str x
  | _, _, .lst _ _, z => (show False from z).elim
  | _, _, .tup h r, z => .tup (st_n e h) (dqst e r z)
theorem dqst (e : St H H') : ∀ {vs : List V} {ds : List PyData}, DqAll K H vs ds → tupOs ds → DqAll K H' vs ds
  | _, _, .nil, _ => .nil
  | _, _, .cons h r, z => .cons (dqt e h z.1) (dqst e r z.2)
end
end
/-- all but the objects at p and l stays -/
def Mv (p l : Addr) (H H' : Hp) : Prop := ∀ a u, H a = some u → a ≠ p → a ≠ l → H' a = some u
section
variable {W : Wd} {K : PySem.W.Frag} {H0 H H' H2 : Hp} {p l : Addr} {C dx : Addr} {fs : List (Str × V)} {hs : List V} {v : V} {b : Bool} {n : Int}
theorem Mv.same (e : Same H H') : Mv p l H H' := fun a u h _ _ => e a u h
theorem Mv.trans (e : Mv p l H H') (e' : Mv p l H' H2) : Mv p l H H2 := fun a u h n1 n2 => e' a u (e a u h n1 n2) n1 n2
theorem mv_st (h1 : H p = some (.ins C dx fs)) (h2 : H l = some (.lst hs)) (e : Mv p l H H') : St H H' := fun a u h t => e a u h (fun z => by
  rw [z, h1] at h
  cases h
  exact t) fun z => by
  rw [z, h2] at h
  cases h
  exact t
theorem mv_box (h1 : H p = some (.ins C dx fs)) (h2 : H l = some (.lst hs)) (e : Mv p l H H') (h : BoxAt W b n H v) : BoxAt W b n H' v := by
  obtain ⟨q, o, k, rfl, hpo, hk, hp, ho⟩ := h
  refine ⟨q, o, k, rfl, hpo, hk, e _ _ hp (fun z => ?_) fun z => ?_, e _ _ ho (fun z => ?_) fun z => ?_⟩
  · rw [z, h1] at hp
    cases hp
  · rw [z, h2] at hp
    cases hp
  · rw [z, h1] at ho
    cases ho
  · rw [z, h2] at ho
    cases ho
theorem mv_sx (e0 : Sx H0 H) (n1 : H0 p = none) (n2 : H0 l = none) (e : Mv p l H H') : Sx H0 H' := by
  have ne : ∀ a u, H0 a = some u → a ≠ p ∧ a ≠ l := fun a u h => ⟨fun z => (by rw [z, n1] at h; cases h), fun z => (by rw [z, n2] at h; cases h)⟩
  refine ⟨fun a u h hn => e a u (e0.keep a u h hn) (ne a u h).1 (ne a u h).2, fun a u h => ?_⟩
  obtain ⟨w, hw⟩ := e0.there a u h
  exact ⟨w, e a w hw (ne a u h).1 (ne a u h).2⟩
end
/-! max of three -/
abbrev rMax3 : List V → Hp → VK → Prop := fun xs H Q => ∃ i j k, xs = [V.int i, V.int j, V.int k] ∧ Q (.int (if j > i then (if k > j then k else j) else (if k > i then k else i))) H
theorem call_max3 {X : Cx} (hc : X.calm = true) : CallR X (.builtin "max") rMax3 := by
  intro pins s σ H xs us Q I r h
  obtain ⟨i, j, k, rfl, q⟩ := h
  obtain ⟨t1, t2, t3, rfl⟩ : ∃ t1 t2 t3, us = [Value.int i t1, Value.int j t2, Value.int k t3] := by
    cases r with
    | cons r1 r => cases r with
      | cons r2 r => cases r with
        | cons r3 r =>
          cases r
          obtain ⟨t1, e1⟩ := r1
          obtain ⟨t2, e2⟩ := r2
          obtain ⟨t3, e3⟩ := r3
          exact ⟨t1, t2, t3, by rw [e1, e2, e3]⟩
  refine max_three_ints (I.ok.hd hc) fun h' tk kp => ⟨_, H, I.kept kp, ?_, q⟩
  split
  · split <;> exact ⟨_, rfl⟩
  · split <;> exact ⟨_, rfl⟩
theorem w_max3 {i j k : Int} {H : Hp} {Q : VK} (h : Q (.int (if j > i then (if k > j then k else j) else (if k > i then k else i))) H) : rMax3 [.int i, .int j, .int k] H Q := ⟨i, j, k, rfl, h⟩
end Sh
/-! pressers: what they remember, what hinders a form -/
namespace Sh
open PySem PySem.Spec PyProof.Rows L2
def oV : Option Int → V
  | none => .non
  | some i => .int i
def oD : Option Int → PyData
  | none => .none
  | some i => .int i
theorem oV_dq {K : PySem.W.Frag} {H : Hp} (t : Option Int) : Dq K H (oV t) (oD t) := by
  cases t with
  | none => exact .non
  | some i => exact .int i
/-- the greater one, none being less than all -/
def grt : Option Int → Option Int → Option Int
  | none, b => b
  | some x, none => some x
  | some x, some y => if x < y then some y else some x
structure PrS where
  P : Pt
  past : List (List Int)
  had : Option Int
  base : Option Int
  fresh : Int
def inO (n : Int) : Option Int → Prop
  | none => True
  | some x => 0 ≤ x ∧ x < n
structure OkPr (s : PrS) : Prop where
  ok : OkPt s.P
  hds : ∀ h ∈ s.past, OkHead s.P.s.fs h
  len : s.past.length ≤ 1000
  f0 : 0 ≤ s.fresh
  f1 : s.fresh ≤ s.past.length
  had : inO s.past.length s.had
  base : inO s.past.length s.base
def prF (vp : V) (l : Addr) (h b : Option Int) (f : Int) : List (Str × V) := [("pact", vp), ("past", .ref l), ("had_most", oV h), ("base_most", oV b), ("fresh_from", .int f)]
/-- a presser stands at p, its past at l -/
def PrAt (W : Wd) (H : Hp) (p l : Addr) (s : PrS) : Prop := ∃ (dx : Addr) (vp : V) (hs : List V), H p = some (.ins (clsOf W.K "Presser") dx (prF vp l s.had s.base s.fresh)) ∧ Dq W.K H vp (ptD s.P) ∧ H l = some (.lst hs) ∧ DqAll W.K H hs (s.past.map headD)
def headB (fs : List Fd) : PyData → Bool
  | .tuple ds => decide (ds.length = fs.length) && (fs.zip ds).all fun fd => betwD 0 (p2 fd.1.br - 1) fd.2
  | _ => false
theorem headB_ok : ∀ {fs : List Fd} {hd : List Int}, OkHead fs hd → headB fs (headD hd) = true := fun {fs hd} h => by
  have l := okHead_len h
  show (decide ((hd.map PyData.int).length = fs.length) && (fs.zip (hd.map PyData.int)).all fun fd => betwD 0 (p2 fd.1.br - 1) fd.2) = true
  rw [List.length_map, decide_eq_true l, Bool.true_and, List.all_eq_true]
  intro x hx
  obtain ⟨i, hi⟩ := List.getElem?_of_mem hx
  obtain ⟨e1, e2⟩ := List.getElem?_zip_eq_some.mp hi
  rw [List.getElem?_map] at e2
  cases c : hd[i]? with
  | none => rw [c] at e2; cases e2
  | some n =>
    rw [c] at e2
    rw [← Option.some.inj e2]
    have z := okHead_get h e1 c
    exact betw_ok z.1 (by omega)
theorem tupO_pt (P : Pt) : tupO (ptD P) := ⟨⟨tupO_fds _, trivial, trivial⟩, trivial, tupOs_of (fun d hd => by
  obtain ⟨g, _, rfl⟩ := List.mem_map.mp hd
  exact tupO_fm g), ⟨trivial, trivial, trivial, trivial, trivial⟩, trivial⟩
def prNo (m : Str) : Bool := !(m == "pact") && (!(m == "past") && (!(m == "had_most") && (!(m == "base_most") && !(m == "fresh_from"))))
section
variable {W : Wd} {H H' H0 : Hp} {p l : Addr} {s : PrS} {Q : VK} {k : Hp → Prop} {v : V} {hd : List Int} {b : Option Int}
theorem pr_sx (e : Sx H H') (h : PrAt W H p l s) : PrAt W H' p l s := by
  obtain ⟨dx, vp, hs, h1, h2, h3, h4⟩ := h
  exact ⟨dx, vp, hs, e.keep _ _ h1 rfl, dqx e h2, e.keep _ _ h3 rfl, dqsx e h4⟩
theorem pr_same (e : Same H H') (h : PrAt W H p l s) : PrAt W H' p l s := pr_sx (Same.sx e) h
theorem pr_ne (h : PrAt W H p l s) : p ≠ l := fun z => by
  obtain ⟨dx, vp, hs, h1, h2, h3, h4⟩ := h
  rw [← z, h1] at h3
  cases h3
theorem prm_st (h : PrAt W H p l s) (e : Mv p l H H') : St H H' := by
  obtain ⟨dx, vp, hs, h1, h2, h3, h4⟩ := h
  exact mv_st h1 h3 e
theorem prm_box {c : Bool} {n : Int} (h : PrAt W H p l s) (e : Mv p l H H') (hb : BoxAt W c n H v) : BoxAt W c n H' v := by
  obtain ⟨dx, vp, hs, h1, h2, h3, h4⟩ := h
  exact mv_box h1 h3 e hb
theorem w_prPact (h : PrAt W H p l s) (q : ∀ v, Dq W.K H v (ptD s.P) → Q v H) : FdOk (clsOf W.K "Presser") "pact" Q (.ref p) H := by
  obtain ⟨dx, vp, hs, h1, h2, h3, h4⟩ := h
  exact w_fdok h1 lk_hit (q vp h2)
theorem w_prPast (h : PrAt W H p l s) (q : Q (.ref l) H) : FdOk (clsOf W.K "Presser") "past" Q (.ref p) H := by
  obtain ⟨dx, vp, hs, h1, h2, h3, h4⟩ := h
  exact w_fdok h1 ((lk_miss (by decide +kernel)).trans lk_hit) q
theorem w_prHad (h : PrAt W H p l s) (q : Q (oV s.had) H) : FdOk (clsOf W.K "Presser") "had_most" Q (.ref p) H := by
  obtain ⟨dx, vp, hs, h1, h2, h3, h4⟩ := h
  exact w_fdok h1 ((lk_miss (by decide +kernel)).trans ((lk_miss (by decide +kernel)).trans lk_hit)) q
theorem w_prBase (h : PrAt W H p l s) (q : Q (oV s.base) H) : FdOk (clsOf W.K "Presser") "base_most" Q (.ref p) H := by
  obtain ⟨dx, vp, hs, h1, h2, h3, h4⟩ := h
  exact w_fdok h1 ((lk_miss (by decide +kernel)).trans ((lk_miss (by decide +kernel)).trans ((lk_miss (by decide +kernel)).trans lk_hit))) q
theorem w_prFresh (h : PrAt W H p l s) (q : Q (.int s.fresh) H) : FdOk (clsOf W.K "Presser") "fresh_from" Q (.ref p) H := by
  obtain ⟨dx, vp, hs, h1, h2, h3, h4⟩ := h
  exact w_fdok h1 ((lk_miss (by decide +kernel)).trans ((lk_miss (by decide +kernel)).trans ((lk_miss (by decide +kernel)).trans ((lk_miss (by decide +kernel)).trans lk_hit)))) q
theorem w_mtPr {m : Str} {t : TA} {sp : Sp} {E : XK} {σ : L2.St} (h : PrAt W H p l s) (n : prNo m = true) (q : t σ H fun vs H2 => sp (.ref p :: vs) H2 Q E) : MtOk (clsOf W.K "Presser") m t sp E σ Q (.ref p) H := by
  obtain ⟨dx, vp, hs, h1, h2, h3, h4⟩ := h
  unfold prNo at n
  simp only [Bool.and_eq_true, Bool.not_eq_true'] at n
  obtain ⟨n1, n2, n3, n4, n5⟩ := n
  exact w_mtok h1 ((lk_miss n1).trans ((lk_miss n2).trans ((lk_miss n3).trans ((lk_miss n4).trans ((lk_miss n5).trans rfl))))) q
theorem w_lenPast (h : PrAt W H p l s) (q : Q (.int s.past.length) H) : rLenU W.K [.ref l] H Q := by
  obtain ⟨dx, vp, hs, h1, h2, h3, h4⟩ := h
  refine w_lenL (SqL.of h3) ?_
  rw [dqs_len h4, List.length_map]
  exact q
theorem w_tyPast {R : Prop} (h : PrAt W H p l s) (q : R) : tyV W.K "list" (.ref l) H ∧ R := by
  obtain ⟨dx, vp, hs, h1, h2, h3, h4⟩ := h
  exact w_tyL h3 q
theorem w_ixPast {m : Nat} (h : PrAt W H p l s) (m0 : 1 ≤ m) (m1 : m ≤ s.past.length) (q : ∀ v, Dq W.K H v (headD (s.past.getD (s.past.length - m) [])) → Q v H) : rIxU W.K (.ref l) (.int (-(m : Int))) H Q := by
  obtain ⟨dx, vp, hs, h1, h2, h3, h4⟩ := h
  have hl : hs.length = s.past.length := by rw [dqs_len h4, List.length_map]
  have e : (s.past.map headD)[s.past.length - m]? = some (headD (s.past.getD (s.past.length - m) [])) := by
    rw [List.getElem?_map, List.getD_eq_getElem?_getD, List.getElem?_eq_getElem (by omega)]
    rfl
  obtain ⟨v, e1, e2⟩ := dqs_get h4 e
  refine w_ixl (SqL.of h3) (x := v) ?_ (q v e2)
  unfold atI ixN
  rw [if_neg (by omega), if_pos (by omega), show (-(m : Int) + (hs.length : Int)).toNat = s.past.length - m by omega]
  exact e1
theorem mv_upd1 {u : HO} : Mv p l H (upd H p u) := fun a o h n1 _ => by
  rw [upd_ne n1]
  exact h
theorem mv_upd2 {u : HO} : Mv p l H (upd H l u) := fun a o h _ n2 => by
  rw [upd_ne n2]
  exact h
theorem pr_put (h : PrAt W H p l s) {f : Str} {y : V} {s' : PrS} (eP : s'.P = s.P) (ep : s'.past = s.past) (hf : ∀ vp, putF f y (prF vp l s.had s.base s.fresh) = prF vp l s'.had s'.base s'.fresh) (q : ∀ H', Mv p l H H' → PrAt W H' p l s' → k H') : SfOk (clsOf W.K "Presser") f y k (.ref p) H := by
  have np := pr_ne h
  have h0 := h
  obtain ⟨dx, vp, hs, h1, h2, h3, h4⟩ := h
  refine w_sfok h1 (by show 5 < 1000; decide) (q _ mv_upd1 ?_)
  have e := prm_st h0 (mv_upd1 (p := p) (l := l) (H := H) (u := .ins (clsOf W.K "Presser") dx (putF f y (prF vp l s.had s.base s.fresh))))
  exact ⟨dx, vp, hs, by rw [upd_same, hf], by rw [eP]; exact dqt e h2 (tupO_pt _), by rw [upd_ne np.symm]; exact h3, by rw [ep]; exact dqst e h4 (tupOs_heads _)⟩
theorem w_prSetHad (h : PrAt W H p l s) (q : ∀ H', Mv p l H H' → PrAt W H' p l ⟨s.P, s.past, b, s.base, s.fresh⟩ → k H') : SfOk (clsOf W.K "Presser") "had_most" (oV b) k (.ref p) H :=
  pr_put h (s' := ⟨s.P, s.past, b, s.base, s.fresh⟩) rfl rfl (fun vp => by
    unfold prF
    rw [pf_miss (by decide +kernel), pf_miss (by decide +kernel), pf_hit]) q
theorem w_prSetBase (h : PrAt W H p l s) (q : ∀ H', Mv p l H H' → PrAt W H' p l ⟨s.P, s.past, s.had, b, s.fresh⟩ → k H') : SfOk (clsOf W.K "Presser") "base_most" (oV b) k (.ref p) H :=
  pr_put h (s' := ⟨s.P, s.past, s.had, b, s.fresh⟩) rfl rfl (fun vp => by
    unfold prF
    rw [pf_miss (by decide +kernel), pf_miss (by decide +kernel), pf_miss (by decide +kernel), pf_hit]) q
theorem w_prSetFresh {f : Int} (h : PrAt W H p l s) (q : ∀ H', Mv p l H H' → PrAt W H' p l ⟨s.P, s.past, s.had, s.base, f⟩ → k H') : SfOk (clsOf W.K "Presser") "fresh_from" (.int f) k (.ref p) H :=
  pr_put h (s' := ⟨s.P, s.past, s.had, s.base, f⟩) rfl rfl (fun vp => by
    unfold prF
    rw [pf_miss (by decide +kernel), pf_miss (by decide +kernel), pf_miss (by decide +kernel), pf_miss (by decide +kernel), pf_hit]) q
theorem w_prAppend (h : PrAt W H p l s) (hh : Dq W.K H v (headD hd)) (hl : s.past.length < 100000) (q : ∀ H', Mv p l H H' → PrAt W H' p l ⟨s.P, s.past ++ [hd], s.had, s.base, s.fresh⟩ → Q .non H') : rAppend (.ref l) [v] H Q := by
  have np := pr_ne h
  have h0 := h
  obtain ⟨dx, vp, hs, h1, h2, h3, h4⟩ := h
  have hln : hs.length = s.past.length := by rw [dqs_len h4, List.length_map]
  refine w_append h3 (by omega) (q _ mv_upd2 ?_)
  have e := prm_st h0 (mv_upd2 (p := p) (l := l) (H := H) (u := .lst (hs ++ [v])))
  refine ⟨dx, vp, hs ++ [v], by rw [upd_ne np]; exact h1, dqt e h2 (tupO_pt _), upd_same, ?_⟩
  rw [List.map_append]
  exact dqst e (dqs_app h4 (dqs_one hh)) (tupOs_of fun d hd' => by
    rcases List.mem_append.mp hd' with z | z
    · obtain ⟨g, _, rfl⟩ := List.mem_map.mp z
      exact tupO_head g
    · rw [List.mem_singleton.mp z]
      exact tupO_head hd)
theorem pf_m {g f : Str} {x y : V} {r r2 : List (Str × V)} (h : ¬ g = f) (e : putF f y r = r2) : putF f y ((g, x) :: r) = (g, x) :: r2 := (pf_miss h).trans (by rw [e])
theorem prF_mk {vp : V} : putF "fresh_from" (.int 0) (putF "base_most" .non (putF "had_most" .non (putF "past" (.ref l) (putF "pact" vp [])))) = prF vp l none none 0 := by
  rw [show putF "pact" vp [] = ([("pact", vp)] : List (Str × V)) from rfl,
    show putF "past" (V.ref l) [("pact", vp)] = ([("pact", vp), ("past", V.ref l)] : List (Str × V)) from pf_m (by decide +kernel) rfl,
    show putF "had_most" V.non [("pact", vp), ("past", V.ref l)] = ([("pact", vp), ("past", V.ref l), ("had_most", V.non)] : List (Str × V)) from pf_m (by decide +kernel) (pf_m (by decide +kernel) rfl),
    show putF "base_most" V.non [("pact", vp), ("past", V.ref l), ("had_most", V.non)] = ([("pact", vp), ("past", V.ref l), ("had_most", V.non), ("base_most", V.non)] : List (Str × V)) from pf_m (by decide +kernel) (pf_m (by decide +kernel) (pf_m (by decide +kernel) rfl)),
    show putF "fresh_from" (V.int 0) [("pact", vp), ("past", V.ref l), ("had_most", V.non), ("base_most", V.non)] = ([("pact", vp), ("past", V.ref l), ("had_most", V.non), ("base_most", V.non), ("fresh_from", V.int 0)] : List (Str × V)) from pf_m (by decide +kernel) (pf_m (by decide +kernel) (pf_m (by decide +kernel) (pf_m (by decide +kernel) rfl)))]
  rfl
end
section
variable {K : PySem.W.Frag} {H : Hp} {Q : VK} {v : V} {P : Pt} {a b c d : Int}
theorem w_ptR (h : Dq K H v (ptD P)) (q : ∀ x, Dq K H x (.tuple [.int P.sk, .int P.gp, .int P.lt, .int P.an]) → Q x H) : rIxU K v (.int 3) H Q := w_ixQT h (d := .tuple [.int P.sk, .int P.gp, .int P.lt, .int P.an]) rfl q
theorem w_rd0 (h : Dq K H v (.tuple [.int a, .int b, .int c, .int d])) (q : Q (.int a) H) : rIxU K v (.int 0) H Q := w_ixQTi h (n := a) rfl q
theorem w_rd1 (h : Dq K H v (.tuple [.int a, .int b, .int c, .int d])) (q : Q (.int b) H) : rIxU K v (.int 1) H Q := w_ixQTi h (n := b) rfl q
theorem w_rd2 (h : Dq K H v (.tuple [.int a, .int b, .int c, .int d])) (q : Q (.int c) H) : rIxU K v (.int 2) H Q := w_ixQTi h (n := c) rfl q
theorem w_rd3 (h : Dq K H v (.tuple [.int a, .int b, .int c, .int d])) (q : Q (.int d) H) : rIxU K v (.int 3) H Q := w_ixQTi h (n := d) rfl q
theorem w_fmAt {l : List Fm} {i : Nat} {f : Fm} (h : Dq K H v (.tuple (l.map fmD))) (e : l[i]? = some f) (q : ∀ x, Dq K H x (fmD f) → Q x H) : rIxU K v (.int (i : Int)) H Q := by
  have hi := (List.getElem?_eq_some_iff.mp e).1
  exact w_ixM h (by omega) (by omega) fun g x hg hx => by
    rw [Int.toNat_natCast, e] at hg
    rw [← Option.some.inj hg] at hx
    exact q x hx
end
/-! ### the plain rules -/
/-- the former heads with how many letters ahead -/
def foP (past : List (List Int)) (n : Nat) : List Fo := (List.range (min n past.length)).map fun (k : Nat) => ((k : Int) + 1, past.getD (past.length - (k + 1)) [])
def shM (s : PrS) : Option Int := grt s.base (if (s.past.length : Int) - 1 - s.P.sk < s.fresh then none else some ((s.past.length : Int) - 1 - s.P.sk))
def shB (s : PrS) (r : Int) : Bool := match shM s with
  | none => false
  | some m => decide ((s.past.length : Int) - r ≤ m)
def maxI (i j : Int) : Int := if j > i then j else i
def ltI (s : PrS) : Int := match s.had with
  | none => maxI 0 ((s.past.length : Int) - 1 - s.P.gp)
  | some h => maxI (maxI 0 ((s.past.length : Int) - 1 - s.P.gp)) (h - s.P.lt)
def cntB (s : PrS) (c : Int) : Bool := decide ((s.past.length : Int) + s.P.lt - ltI s < p2 c)
def tnB (s : PrS) : Bool := decide (0 < s.P.an) && decide ((s.past.length : Int) % s.P.an = 0)
inductive Hin where
  | anew
  | shared
  | count
  | dou (d : Option (Int × Int × Int))
def hinD : Hin → PyData
  | .anew => .str "anew"
  | .shared => .str "shared"
  | .count => .str "count"
  | .dou d => pairD d
def HinR (s : PrS) (hd : List Int) (f : Fm) (r : Hin) : Prop :=
  if tnB s = true then r = .anew else if shB s f.r = false then r = .shared else if cntB s f.c = false then r = .count else ∃ d, r = .dou d ∧ DouR s.P.s f hd (foP s.past f.r.toNat) d
theorem foP_ok {s : PrS} {n : Nat} (ok : OkPr s) (hn : n ≤ 1000) : ∀ p ∈ foP s.past n, OkFo s.P.s p := fun p hp => by
  unfold foP at hp
  obtain ⟨k, hk, rfl⟩ := List.mem_map.mp hp
  have hk := List.mem_range.mp hk
  refine ⟨?_, by show 1 ≤ (k : Int) + 1; omega, by show (k : Int) + 1 ≤ 1000; omega⟩
  show (s.past.getD (s.past.length - (k + 1)) []).length = _
  have hi : s.past.length - (k + 1) < s.past.length := by omega
  rw [List.getD_eq_getElem?_getD, List.getElem?_eq_getElem hi]
  exact okHead_len (ok.hds _ (List.getElem_mem hi))
theorem foP_len {past : List (List Int)} {n : Nat} : (foP past n).length ≤ n := by
  unfold foP
  rw [List.length_map, List.length_range]
  omega
theorem HinR.one {s : PrS} {hd : List Int} {f : Fm} {r r' : Hin} (ok : OkPr s) (okf : OkFm s.P.s f) (h : HinR s hd f r) (h' : HinR s hd f r') : r = r' := by
  unfold HinR at h h'
  split at h
  · rw [if_pos (by assumption)] at h'
    rw [h, h']
  · rw [if_neg (by assumption)] at h'
    split at h
    · rw [if_pos (by assumption)] at h'
      rw [h, h']
    · rw [if_neg (by assumption)] at h'
      split at h
      · rw [if_pos (by assumption)] at h'
        rw [h, h']
      · rw [if_neg (by assumption)] at h'
        obtain ⟨d, rfl, h⟩ := h
        obtain ⟨d', rfl, h'⟩ := h'
        have z1 := okf.r1
        rw [DouR.one okf.len (foP_ok ok (by omega)) h h']
/-- the places of the forms that may tell a head -/
def UseR (s : PrS) (hd : List Int) (us : List Nat) : Prop := ∃ g : Nat → Bool, us = (List.range s.P.fs.length).filter g ∧ ∀ i f, s.P.fs[i]? = some f → ∃ r, HinR s hd f r ∧ (g i = true ↔ r = .dou none)
/-- the form that is taken -/
def choF (P : Pt) (t : Option Nat) (i : Nat) : Option Nat := if sizeP P (some i) < sizeP P t then some i else t
def cho (P : Pt) (us : List Nat) : Option Nat := us.foldl (choF P) none
theorem UseR.mem {s : PrS} {hd : List Int} {us : List Nat} (h : UseR s hd us) {i : Nat} (hi : i ∈ us) : i < s.P.fs.length := by
  obtain ⟨g, rfl, _⟩ := h
  exact List.mem_range.mp (List.mem_filter.mp hi).1
theorem cho_in {P : Pt} : ∀ (us : List Nat) (t : Option Nat) (i : Nat), us.foldl (choF P) t = some i → i ∈ us ∨ t = some i
  | [], t, i, h => .inr h
  | u :: r, t, i, h => by
    rw [List.foldl_cons] at h
    rcases cho_in r _ i h with z | z
    · exact .inl (List.mem_cons_of_mem _ z)
    · unfold choF at z
      split at z
      · exact .inl (by rw [Option.some.inj z]; exact List.mem_cons_self)
      · exact .inr z
theorem cho_ok {s : PrS} {hd : List Int} {us : List Nat} (h : UseR s hd us) : AtOk s.P (cho s.P us) := by
  cases c : cho s.P us with
  | none => trivial
  | some i =>
    rcases cho_in us none i c with z | z
    · exact h.mem z
    · cases z
/-! ### words -/
def wdD : Option Int → PyData
  | none => .tuple [.str "anew"]
  | some n => .tuple [.str "have", .int n]
def heaP (s : PrS) : Option Int → PrS
  | none => ⟨s.P, s.past, s.had, none, s.past.length⟩
  | some n => ⟨s.P, s.past, grt s.had (some n), if s.fresh ≤ n then grt s.base (some n) else s.base, s.fresh⟩
theorem sok_anew : PyData.strOk ("anew" : Str) = true := by decide +kernel
theorem sok_have : PyData.strOk ("have" : Str) = true := by decide +kernel
theorem shp_anew : SeqAt.shaped (.tuple [.str "anew"]) = true := by simp [sok_anew, SeqAt.shaped, PyData.canLay0, PyData.canLayAll0, PyData.depth, PyData.depthAll]
theorem shp_have (n : Int) : SeqAt.shaped (.tuple [.str "have", .int n]) = true := by simp [sok_have, SeqAt.shaped, PyData.canLay0, PyData.canLayAll0, PyData.depth, PyData.depthAll]
theorem w_ifn {x : Int} {A B : Prop} (q : B) : if decide (V.int x = V.non) = true then A else B := w_if (fun z => by cases z) q
/-! ### fields that stay, forms that keep all -/
theorem still_su {s : Shp} {f : Fm} {hd : List Int} {m : Int} (hs : ∀ g ∈ s.fs, g.kd = .still) (hw : ∀ w ∈ f.ws, w = .keep) (oh : OkHead s.fs hd) : SuP s f hd (m, hd) := by
  refine ⟨okHead_len oh, fun j fd w v hj hfd hww hv => ⟨v, hv, ?_⟩⟩
  rw [hw w (List.mem_of_getElem? hww)]
  refine ⟨v, by rw [hs fd (List.mem_of_getElem? hfd)]; rfl, ?_⟩
  have z := okHead_get oh hfd hv
  exact (Int.emod_eq_of_lt z.1 z.2).symm
theorem grt_ge {a : Option Int} {y : Int} : ∃ z, grt a (some y) = some z ∧ y ≤ z := by
  cases a with
  | none => exact ⟨y, rfl, Int.le_refl _⟩
  | some x =>
    by_cases c : x < y
    · exact ⟨y, if_pos c, Int.le_refl _⟩
    · exact ⟨x, if_neg c, by omega⟩
theorem foP_rep {n k : Nat} {hd : List Int} : ∀ p ∈ foP (List.replicate n hd) k, p.2 = hd := fun p hp => by
  unfold foP at hp
  obtain ⟨j, hj, rfl⟩ := List.mem_map.mp hp
  have hj := List.mem_range.mp hj
  rw [List.length_replicate] at hj
  show (List.replicate n hd).getD _ [] = hd
  rw [List.getD_eq_getElem?_getD, List.getElem?_replicate, if_pos (by rw [List.length_replicate]; omega)]
  rfl
theorem still_hin {s : PrS} {hd : List Int} {f : Fm} {r : Hin} {n : Nat} (ok : OkPr s) (okf : OkFm s.P.s f) (ep : s.past = List.replicate n hd) (hs : ∀ g ∈ s.P.s.fs, g.kd = .still) (hw : ∀ w ∈ f.ws, w = .keep) (oh : OkHead s.P.s.fs hd) (h : HinR s hd f r) :
    r = if tnB s = true then .anew else if shB s f.r = false then .shared else if cntB s f.c = false then .count else .dou none := by
  refine HinR.one ok okf h ?_
  unfold HinR
  split
  · rfl
  · split
    · rfl
    · split
      · rfl
      · refine ⟨none, rfl, fun p hp => ?_⟩
        have e := foP_rep (n := n) (hd := hd) p (by rw [← ep]; exact hp)
        obtain ⟨m, h2⟩ := p
        have e : h2 = hd := e
        rw [e]
        exact still_su hs hw oh
section
variable {K : PySem.W.Frag} {H : Hp} {Q : VK} {A B : Prop}
theorem w_neNN (q : Q (.bl false) H) : rNeU K .non .non H Q := .inl ⟨rfl, q⟩
theorem w_neSN {z : Str} (q : Q (.bl true) H) : rNeU K (.str z) .non H Q := .inl ⟨rfl, by
  have e : decide (V.str z = V.non) = false := decide_eq_false (fun h => by cases h)
  rw [e]
  exact q⟩
end
/-! ### a model of what is known -/
def enc : Option Int → Int
  | none => -1
  | some x => x
def mdlK (s : PrS) : List (Key × V) := [(.inr "had", .int (enc s.had)), (.inr "base", .int (enc s.base)), (.inr "fresh", .int s.fresh)]
theorem enc_grt {n x : Int} {a : Option Int} (ha : inO n a) (hx : 0 ≤ x) : enc (grt a (some x)) = if x > enc a then x else enc a := by
  cases a with
  | none =>
    show x = if x > -1 then x else -1
    rw [if_pos (by omega)]
  | some y =>
    show enc (if y < x then some x else some y) = if x > y then x else y
    split
    · rfl
    · rfl
section
variable {W : Wd} {H H' H0 : Hp} {p l d : Addr} {s : PrS} {v : V} {kvs : List (Key × V)}
theorem mvd_st (h : H d = some (.dK kvs)) (e : Mv d d H H') : St H H' := fun a u ha t => e a u ha (fun z => by
  rw [z, h] at ha
  cases ha
  exact t) fun z => by
  rw [z, h] at ha
  cases ha
  exact t
theorem mvd_box {b : Bool} {n : Int} (h : H d = some (.dK kvs)) (e : Mv d d H H') (hb : BoxAt W b n H v) : BoxAt W b n H' v := by
  obtain ⟨q, o, k, rfl, hpo, hk, hp, ho⟩ := hb
  have n1 : q ≠ d := fun z => by
    rw [z, h] at hp
    cases hp
  have n2 : o ≠ d := fun z => by
    rw [z, h] at ho
    cases ho
  exact ⟨q, o, k, rfl, hpo, hk, e _ _ hp n1 n1, e _ _ ho n2 n2⟩
theorem mvd_pr (h : H d = some (.dK kvs)) (e : Mv d d H H') (hp : PrAt W H p l s) : PrAt W H' p l s := by
  obtain ⟨dx, vp, hs, h1, h2, h3, h4⟩ := hp
  have n1 : p ≠ d := fun z => by
    rw [z, h] at h1
    cases h1
  have n2 : l ≠ d := fun z => by
    rw [z, h] at h3
    cases h3
  have t := mvd_st h e
  exact ⟨dx, vp, hs, e _ _ h1 n1 n1, dqt t h2 (tupO_pt _), e _ _ h3 n2 n2, dqst t h4 (tupOs_heads _)⟩
theorem prm_md (hp : PrAt W H p l s) (e : Mv p l H H') (h : H d = some (.dK kvs)) : H' d = some (.dK kvs) := by
  obtain ⟨dx, vp, hs, h1, h2, h3, h4⟩ := hp
  exact e _ _ h (fun z => by
    rw [z, h1] at h
    cases h) fun z => by
    rw [z, h3] at h
    cases h
end
end Sh
/-! own exceptions: raised, let out, caught; calls where one is handled -/
namespace Sh
open PySem PySem.Spec PyProof.Rows L2
/-- what the text says of an exception class of its own -/
structure ExOk (K : PySem.W.Frag) (mg : Str → Option Value) (x : Str) : Prop where
  mg : mg x = some (.ref (clsOf K x))
  ex : ∃ bmB newId initId B, ExcBaseFacts B newId initId bmB ∧ PySem.W.excIn K (clsOf K x) bmB newId = true
  kp : PySem.W.keepIn K (.ref (clsOf K x)) = true
  su : PySem.W.subIn K (.ref (clsOf K x)) (.type "BaseException") = some true
  ty : PySem.W.typeIn K (.ref (clsOf K x)) = some (.type "type")
  te : PySem.W.exmOne K (.ref (clsOf K x)) (.ref (clsOf K x)) = some true
theorem ex_mk {K : PySem.W.Frag} {mg : Str → Option Value} {h : Heap} {x : Str} {C : Addr} {bmB : List Value} {B newId initId : String} (X : K.In h) (G : h.Ns mainGlobals mg) (a : PySem.W.nsIn K mainGlobals x = some (some (.ref C))) (F : ExcBaseFacts B newId initId bmB)
    (e : PySem.W.excIn K C bmB newId = true) (k : PySem.W.keepIn K (.ref C) = true) (s : PySem.W.subIn K (.ref C) (.type "BaseException") = some true) (t : PySem.W.typeIn K (.ref C) = some (.type "type")) (te : PySem.W.exmOne K (.ref C) (.ref C) = some true) : ExOk K mg x := by
  have z := clsOf_eq a
  exact ⟨by rw [z]; exact PySem.W.mg_of X G a, by rw [z]; exact ⟨_, _, _, _, F, e⟩, by rw [z]; exact k, by rw [z]; exact s, by rw [z]; exact t, by rw [z]; exact te⟩
/-- a clause that names c takes an own exception x -/
def TkOk (K : PySem.W.Frag) (x c : Str) : Prop := PySem.W.exmOne K (.ref (clsOf K x)) (.ref (clsOf K c)) = some true
/-- an instance of x is one of c (or isn't) -/
def IsOk (K : PySem.W.Frag) (x c : Str) (b : Bool) : Prop := PySem.W.kitOne K (.ref (clsOf K x)) (.ref (clsOf K c)) = some b
def CalMX (W : Wd) (mg : Str → Option Value) (base : Heap) (C : Addr) (m : Str) (k : Nat) (ps : List Str) (sp : Sp) : Prop :=
  ∃ f fd, Meth W.K C m f ∧ FnOk W.P W.w W.K mg base (L2N.CX W.P W.w) k f fd ps sp ∧ Binds W.K fd ps []
def CalX (W : Wd) (mg : Str → Option Value) (base : Heap) (x : Str) (k : Nat) (ps : List Str) (sp : Sp) : Prop :=
  ∃ f fd, mg x = some (.ref f) ∧ FnOk W.P W.w W.K mg base (L2N.CX W.P W.w) k f fd ps sp ∧ PySem.W.keepIn W.K (.ref f) = true ∧ Binds W.K fd ps []
/-- the same where an exception is handled -/
def CalMH (W : Wd) (mg : Str → Option Value) (base : Heap) (C : Addr) (m : Str) (k : Nat) (ps : List Str) (sp : Sp) : Prop :=
  ∃ f fd, Meth W.K C m f ∧ L2H.FnH W.P W.w W.K mg base CX0 k f fd ps sp ∧ Binds W.K fd ps []
def CalH (W : Wd) (mg : Str → Option Value) (base : Heap) (x : Str) (k : Nat) (ps : List Str) (sp : Sp) : Prop :=
  ∃ f fd, mg x = some (.ref f) ∧ L2H.FnH W.P W.w W.K mg base CX0 k f fd ps sp ∧ PySem.W.keepIn W.K (.ref f) = true ∧ Binds W.K fd ps []
theorem passN {X : Cx} : Passes (L2N.CX X.prog X.w) X E0 := fun _ _ _ _ _ _ _ ⟨_, _, _, _, _, _, _, _, _, _, _, _, z⟩ => z.elim
theorem takesN {X : Cx} : L2N.Takes X (fun _ _ _ _ => False) := fun _ _ ⟨_, _, _, _, _, _, _, _, _, _, _, _, _, _, _, _, z⟩ => z.elim
section
variable {P : Program} {w : World} {K : PySem.W.Frag} {mg : Str → Option Value} {base : Heap}
/-- a def that may raise, by its body -/
theorem okN {x qual : Str} {st : Stmt} {f : Addr} {fd : FuncData} {N ps : List Str} {k : Nat} {sp : Sp} (F : Fun K x qual st f fd) (S : FnScope N ps (defScope st)) (len : ∀ vs H Q E, sp vs H Q E → vs.length = ps.length)
    (bod : ∀ (cdv : Value) (A : Around) (outer : List Env) (s : Shared) (H : Hp) (vs : List V) (Q : VK) (E : XK), Room k (A.deeper (envOfC qual (defScope st) s.heap.objs.size f cdv)) → sp vs H Q E →
      ∃ t, PSs (cxOf (L2N.CX P w) P w K mg base N qual (defScope st) f cdv A outer s H E) (defBody st) t ∧ t { nx := fun _ H' => Q .non H', rt := Q } (start N vs) H) : FnOk P w K mg base (L2N.CX P w) (k + 1) f fd ps sp := by
  obtain ⟨_, _, _, _, _, _, cdv, _, _, rfl, lk, hcd⟩ := F.ex
  exact fn_of lk hcd S len fun A outer s H vs Q E r h => bod cdv A outer s H vs Q E r h
/-- a def where an exception is handled, by its body -/
theorem okH {x qual : Str} {st : Stmt} {f : Addr} {fd : FuncData} {N ps : List Str} {k : Nat} {sp : Sp} (F : Fun K x qual st f fd) (S : FnScope N ps (defScope st)) (len : ∀ vs H Q E, sp vs H Q E → vs.length = ps.length)
    (bod : ∀ (cdv : Value) (A : Around) (outer : List Env) (s : Shared) (H : Hp) (vs : List V) (Q : VK) (E : XK) (p : Addr × Obj), L2H.HotC (L2H.cxH CX0 P w K mg base N qual (defScope st) f cdv A outer s H E p).nox → L2H.RoomH k (A.deeper (envOfC qual (defScope st) s.heap.objs.size f cdv)) → sp vs H Q E →
      ∃ t, PSs (L2H.cxH CX0 P w K mg base N qual (defScope st) f cdv A outer s H E p).nox (defBody st) t ∧ t { nx := fun _ H' => Q .non H', rt := Q } (start N vs) H) : L2H.FnH P w K mg base CX0 (k + 1) f fd ps sp := by
  obtain ⟨_, _, _, _, _, _, cdv, _, _, rfl, lk, hcd⟩ := F.ex
  refine L2H.fn_ofH lk hcd S len fun A outer s H vs Q E p hot r h => ?_
  obtain ⟨t, ht, q⟩ := bod cdv A outer s H vs Q E p ⟨p, hot, List.mem_cons_self⟩ r h
  exact ⟨t, ht.nox, q⟩
end
theorem hot_su {X : Cx} {a : Addr} {oe : Obj} {cls : Value} {d : Option Addr} {pn : List (Addr × Obj)} (z : L2N.Zn cls d oe) (f : ∃ vs, oe.data = .fields vs) : L2H.HotC (X.suite a ((a, oe) :: pn)) := by
  obtain ⟨vs, f⟩ := f
  exact ⟨(a, oe), ⟨rfl, vs, f, z.2.2 vs f⟩, List.mem_cons_self⟩
theorem roomM {k : Nat} {A : Around} {h : Option Value} (r : Room k A) : L2H.RoomH k (A.mark h) := ⟨r.dp, r.un⟩
theorem un_of {k : Nat} {A : Around} (r : L2H.RoomH k A) : A.units + 64 < cLine := by have := r.un; omega
theorem passH {X : Cx} {σ : L2.St} : PassesAt CX0 X σ E0 := fun _ _ _ _ _ _ h => h.elim
def sRaise (C : Addr) (E : XK) : TS := fun _ _ H => E (.ref C) none H
theorem w_raise {C : Addr} {E : XK} {D : Ends} {σ : L2.St} {H : Hp} (h : E (.ref C) none H) : sRaise C E D σ H := h
section
variable {X : Cx} {E : XK} {x m : Str} {j : Nat} {p p2 pos pos2 : Pos}
theorem ps_rais (hs : X.calm = true) (tk : L2N.Takes X (fun cls d _ H => E cls d H)) (T : ExOk X.K X.mg x) (hg : Gl X x) (hdb : (x == ("__debug__" : Str)) = false := by decide) :
    PS X (.Raise (some (.Call (.Name x p) [.Constant (.str m) j p2] [] pos)) none pos2) (sRaise (clsOf X.K x) E) := by
  obtain ⟨_, _, _, _, F, e⟩ := T.ex
  exact L2N.ps_raise hs tk (L2N.pmk_own F e T.mg T.kp (raises_own T.su T.ty) hg hdb)
end
def sTry (K : PySem.W.Frag) (c : Value) (Wout : WX) (tb : WX → TS) (ts : TS) : TS := fun D σ H => tb (wMany K Wout D [(c, fun _ _ _ => ts)]) D σ H
def wNone : WX := fun _ _ _ _ => False
def wUp (E : XK) : WX := fun cls d _ H => E cls d H
theorem w_try {K : PySem.W.Frag} {c : Value} {Wout : WX} {tb : WX → TS} {ts : TS} {D : Ends} {σ : L2.St} {H : Hp} (h : tb (wMany K Wout D [(c, fun _ _ _ => ts)]) D σ H) : sTry K c Wout tb ts D σ H := h
/-- the own class's clause takes it -/
theorem w_took {K : PySem.W.Frag} {mg : Str → Option Value} {x : Str} {Wout : WX} {ts : TS} {D : Ends} {σ : L2.St} {H : Hp} {d : Option Addr} (T : ExOk K mg x) (h : ∀ a, H a = none → ts D σ H) :
    WE (wMany K Wout D [(.ref (clsOf K x), fun _ _ _ => ts)]) σ (.ref (clsOf K x)) d H := ⟨true, T.te, fun _ a ha => h a ha, fun z => nomatch z⟩
/-- a class above takes it -/
theorem w_took2 {K : PySem.W.Frag} {x c : Str} {Wout : WX} {ts : TS} {D : Ends} {σ : L2.St} {H : Hp} {d : Option Addr} (T : TkOk K x c) (h : ∀ a, H a = none → ts D σ H) :
    WE (wMany K Wout D [(.ref (clsOf K c), fun _ _ _ => ts)]) σ (.ref (clsOf K x)) d H := ⟨true, T, fun _ a ha => h a ha, fun z => nomatch z⟩
theorem ps_try1 {X : Cx} {x : Str} {c : Value} {body suite : List Stmt} {b₀ : Stmt} {np pos pos' : Pos} {tb : WX → TS} {ts : TS} {Wout : WX} (hs : X.stack = X.env :: X.outer) (hf : X.env.frame = some X.env.locals) (hc : Names X x c) (tk : L2N.Takes X Wout)
    (hb : ∀ (W : WX) (pn : List (Addr × Obj)) (xe : Value → Shared → Prop), L2N.Takes (X.tr pn xe) W → PassesOwn (model X.prog X.w) X.A X.env xe → PSs (X.tr pn xe) body (tb W))
    (hsu : ∀ (a : Addr) (oe : Obj) (cls : Value) (d : Option Addr) (pn : List (Addr × Obj)), L2N.Zn cls d oe → (∃ vs, oe.data = .fields vs) → PSs (X.suite a ((a, oe) :: pn)) (b₀ :: suite) ts) :
    PS X (.Try body [.ExceptHandler (some (.Name x np)) none (b₀ :: suite) pos'] [] [] pos) (sTry X.K c Wout tb ts) :=
  L2N.ps_try_many hs hf tk hb (.cons hc (fun a oe cls d pn z f => hsu a oe cls d pn z f) .nil)
/-- except x as n: the exception's object is free, its class is told -/
def sTryA (K : PySem.W.Frag) (c : Value) (i : Nat) (Wout : WX) (tb : WX → TS) (ts : Addr → Value → Option Addr → TS) : TS := fun D σ H => tb (wAs K c i ts Wout D) D σ H
theorem w_tryA {K : PySem.W.Frag} {c : Value} {i : Nat} {Wout : WX} {tb : WX → TS} {ts : Addr → Value → Option Addr → TS} {D : Ends} {σ : L2.St} {H : Hp} (h : tb (wAs K c i ts Wout D) D σ H) : sTryA K c i Wout tb ts D σ H := h
def tMethA (C : Addr) (m : Str) (sp : Sp) (E : L2.St → XK) (ta : TE) (t : TA) : TE := fun σ H Q => ta σ H fun x H1 => MtOk C m t sp (E σ) σ Q x H1
theorem w_methA {C : Addr} {m : Str} {sp : Sp} {E : L2.St → XK} {ta : TE} {t : TA} {σ : L2.St} {H : Hp} {Q : VK} (h : ta σ H fun x H1 => MtOk C m t sp (E σ) σ Q x H1) : tMethA C m sp E ta t σ H Q := h
theorem w_callS {sp : Sp} {E : L2.St → XK} {t : TA} {σ : L2.St} {H : Hp} {Q : VK} (h : t σ H fun vs H1 => sp vs H1 Q (E σ)) : tCallS sp E t σ H Q := h
section
variable {X : Cx} {CX : CXT} {k : Nat} {C f : Addr} {fd : FuncData} {ps : List Str} {sp : Sp} {E : L2.St → XK} {o e : Expr} {es : List Expr} {ta : TE} {t : TA} {m : Str} {apos pos : Pos}
/-- o.m(e, ..), what it lets out wished for at the caller's slots -/
theorem pe_methA {pl : Sem Bool} (he : PE X o ta) (c : Cls X.K C) (hm : Meth X.K C m f) (F : FnOk X.prog X.w X.K X.mg X.base CX k f fd ps sp) (hr : Room k X.A) (hb : Binds X.K fd ps []) (hx : ∀ σ, PassesAt CX X σ (E σ)) (ha : PA X (e :: es) t)
    (hst : starEach (e :: es) X.env = (false, eval e X.env) :: starEach es X.env := by rfl) (hpl : (backTo pos (starEach es X.env)).any (·.1) = false := by rfl)
    (ht : eval (.Call (.Attribute o m apos) (e :: es) [] pos) X.env = (do
      let ov ← eval o X.env
      standAt apos.atName
      let (f, first) ← holding [ov] (getMethod ov m pl)
      callWith pos f first (backTo pos (starEach (e :: es) X.env)) (backToKw pos (keywordEach [] X.env))) := by rfl) :
    PE X (.Call (.Attribute o m apos) (e :: es) [] pos) (tMethA C m sp E ta t) := by
  refine ⟨fun pins s σ H Q I h => ?_⟩
  refine PySem.W.methodCall_KW (pl := pl) (thn (he.run pins s σ H _ I h) fun u s1 ⟨x, H1, I1, rx, a, dx, fs, ex, ea, l, q⟩ => ?_) ht
  subst ex
  obtain rfl : u = Value.ref a := rx
  refine getmeth_ok I1 ea c hm l ?_
  refine PySem.W.callWith_K (first := [.ref a]) (h₀ := X.base) I.ok.mod.kin hm.kp (thn (ha.run pos pins s1 σ H1 _ I1 q) fun us s2 ⟨vs, H2, I2, r, q2⟩ => ⟨I2.kIn, ?_⟩) hst hpl
  exact run_fnS (us := .ref a :: us) (vs := .ref a :: vs) F hr hb (hx σ) I2 (.cons rfl r) q2
/-- o.m(), the same -/
theorem pe_methA0 {pl : Sem Bool} (he : PE X o ta) (c : Cls X.K C) (hm : Meth X.K C m f) (F : FnOk X.prog X.w X.K X.mg X.base CX k f fd ps sp) (hr : Room k X.A) (hb : Binds X.K fd ps []) (hx : ∀ σ, PassesAt CX X σ (E σ))
    (ht : eval (.Call (.Attribute o m apos) [] [] pos) X.env = (do
      let ov ← eval o X.env
      standAt apos.atName
      let (f, first) ← holding [ov] (getMethod ov m pl)
      callWith pos f first (backTo pos (starEach [] X.env)) (backToKw pos (keywordEach [] X.env))) := by rfl) :
    PE X (.Call (.Attribute o m apos) [] [] pos) (tMethA C m sp E ta tNil) := by
  refine ⟨fun pins s σ H Q I h => ?_⟩
  refine PySem.W.methodCall_KW (pl := pl) (thn (he.run pins s σ H _ I h) fun u s1 ⟨x, H1, I1, rx, a, dx, fs, ex, ea, l, q⟩ => ?_) ht
  subst ex
  obtain rfl : u = Value.ref a := rx
  refine getmeth_ok I1 ea c hm l ?_
  exact PySem.W.callWith_K0 (first := [.ref a]) I1.kIn hm.kp (run_fnS (us := [.ref a]) (vs := [.ref a]) F hr hb (hx σ) I1 (.cons rfl .nil) q)
/-- o.m(..) where an exception is handled -/
theorem pe_methHN {pl : Sem Bool} (he : PE X o ta) (c : Cls X.K C) (hm : Meth X.K C m f) (F : L2H.FnH X.prog X.w X.K X.mg X.base CX k f fd ps sp) (hr : L2H.RoomH k X.A) (hc : L2H.HotC X) (hb : Binds X.K fd ps []) (hx : ∀ σ, PassesAt CX X σ (E σ)) (ha : PA X (e :: es) t)
    (hst : starEach (e :: es) X.env = (false, eval e X.env) :: starEach es X.env := by rfl) (hpl : (backTo pos (starEach es X.env)).any (·.1) = false := by rfl)
    (ht : eval (.Call (.Attribute o m apos) (e :: es) [] pos) X.env = (do
      let ov ← eval o X.env
      standAt apos.atName
      let (f, first) ← holding [ov] (getMethod ov m pl)
      callWith pos f first (backTo pos (starEach (e :: es) X.env)) (backToKw pos (keywordEach [] X.env))) := by rfl) :
    PE X (.Call (.Attribute o m apos) (e :: es) [] pos) (tMethA C m sp E ta t) := L2H.pe_methH he c hm F hr hc hb hx ha hst hpl ht
theorem pe_methH0 {pl : Sem Bool} (he : PE X o ta) (c : Cls X.K C) (hm : Meth X.K C m f) (F : L2H.FnH X.prog X.w X.K X.mg X.base CX k f fd ps sp) (hr : L2H.RoomH k X.A) (hc : L2H.HotC X) (hb : Binds X.K fd ps []) (hx : ∀ σ, PassesAt CX X σ (E σ))
    (ht : eval (.Call (.Attribute o m apos) [] [] pos) X.env = (do
      let ov ← eval o X.env
      standAt apos.atName
      let (f, first) ← holding [ov] (getMethod ov m pl)
      callWith pos f first (backTo pos (starEach [] X.env)) (backToKw pos (keywordEach [] X.env))) := by rfl) :
    PE X (.Call (.Attribute o m apos) [] [] pos) (tMethA C m sp E ta tNil) := by
  refine ⟨fun pins s σ H Q I h => ?_⟩
  refine PySem.W.methodCall_KW (pl := pl) (thn (he.run pins s σ H _ I h) fun u s1 ⟨x, H1, I1, rx, a, dx, fs, ex, ea, l, q⟩ => ?_) ht
  subst ex
  obtain rfl : u = Value.ref a := rx
  refine getmeth_ok I1 ea c hm l ?_
  exact PySem.W.callWith_K0 (first := [.ref a]) I1.kIn hm.kp (L2H.run_fnH (us := [.ref a]) (vs := [.ref a]) F hr hc hb (hx σ) I1 (.cons rfl .nil) q)
end
end Sh
/-! caught exceptions as values: bound by `except c as n`, asked by isinstance, kept behind the suite; quiet defs, called where an exception is handled -/
namespace L2N
open PySem PySem.Spec PyProof.Rows L2
/-- an exception that lies in the heap -/
def exV (cls : Value) (dd : Option Addr) (a : Addr) : HO := .ext fun h => ∃ (oe : Obj) (vs : Array Value), h.get? a = some oe ∧ oe.cls = cls ∧ oe.dict = dd ∧ oe.data = .fields vs
theorem exV_ok {P : Program} {w : World} {H : Hp} {h : Heap} {a : Addr} {cls : Value} {dd : Option Addr} {oe : Obj} {vs : Array Value} (e : h.get? a = some oe) (z : oe.cls = cls) (z2 : oe.dict = dd) (d : oe.data = .fields vs) : ObjOk P w H h a (exV cls dd a) :=
  ⟨⟨oe, vs, e, z, z2, d⟩, ⟨oe, e⟩, fun _ _ ⟨o, v, q, r⟩ k => ⟨o, v, k o q, r⟩⟩
def wV (K : PySem.W.Frag) (c : Value) (i : Nat) (ts : TS) (Wout : WX) (D : Ends) : WX := fun cls d σ H =>
  ∃ b, PySem.W.exmOne K cls c = some b ∧ (b = true → ∀ a, H a = none → ts { nx := fun σ' H' => D.nx (σ'.set i none) H', rt := D.rt, bk := fun σ' H' => D.bk (σ'.set i none) H', ct := fun σ' H' => D.ct (σ'.set i none) H' } (σ.set i (some (.ref a))) (upd H a (exV cls d a))) ∧
    (b = false → Wout cls d σ H)
section
variable {X : Cx} {pins : List (Addr × Obj)} {σ : L2.St} {H : Hp} {s : Shared}
/-- the exception, tracked, while its suite runs -/
theorem Inv.suiteV {a : Addr} {oe : Obj} {vs : Array Value} {cls : Value} {dd : Option Addr} (I : Inv X pins σ H s) (ha : s.heap.get? a = some oe) (hc : oe.cls = cls) (hdd : oe.dict = dd) (hd : oe.data = .fields vs) (na : H a = none) (nL : a ≠ X.env.locals) (n0 : X.s_0.heap.get? a = none) (np : ∀ p ∈ X.pn ++ pins, p.1 ≠ a) :
    Inv (X.suite a (X.pn ++ pins)) [] σ (upd H a (exV cls dd a)) s := by
  have n1 : ∀ b o, X.s_0.heap.get? b = some o → b ≠ a := fun b o e z => by
    rw [z, n0] at e
    cases e
  have nH : ∀ b o, H b = some o → b ≠ a := fun b o e => ne_of_none e na
  have nC : ∀ x c, X.env.cells.lookup x = some c → c ≠ a := fun x c e z => by
    obtain ⟨v, o, ho, hv⟩ := I.cell x c e
    rw [z, ha] at ho
    cases ho
    rw [hd] at hv
    cases hv
  refine ⟨I.ok.suite _ _, I.os, I.bare, ⟨I.base.keep, I.base.slot, fun b o e n hq => ?_, I.base.there, fun b xs e => ?_, fun b o u e => ?_, fun b ps e => ?_⟩, I.loc, I.cell, ?_, fun x c e => ?_, fun p hp => ?_, ?_, I.len⟩
  · rw [upd_ne (n1 b o e)]
    exact I.base.free b o e n hq
  · have q := I.base.tups b xs e
    rw [upd_ne (nH _ _ q)]
    exact q
  · have q := I.base.frzs b o u e
    rw [upd_ne (nH _ _ q)]
    exact q
  · obtain ⟨m, q⟩ := I.base.tbls b ps e
    exact ⟨m, by rw [upd_ne (nH _ _ q)]; exact q⟩
  · show upd H a _ X.env.locals = none
    rw [upd_ne (Ne.symm nL)]
    exact I.free
  · rw [upd_ne (nC x c e)]
    exact I.freeC x c e
  · have hp : p ∈ X.pn ++ pins := by rw [List.append_nil] at hp; exact hp
    obtain ⟨e, n, r⟩ := I.pin p hp
    refine ⟨e, ?_, r⟩
    rw [upd_ne (np p hp)]
    exact n
  · exact I.hok.laidN (fun _ _ e => e) na (exV_ok ha hc hdd hd)
theorem Inv.unsuiteV {a : Addr} (I : Inv (X.suite a (X.pn ++ pins)) [] σ H s) (ok : X.Ok) : Inv X pins σ H s :=
  ⟨ok, I.os, I.bare, I.base, I.loc, I.cell, I.free, I.freeC, fun p hp => I.pin p (by rw [List.append_nil]; exact hp), I.hok, I.len⟩
end
section
variable {X : Cx} {x n : Str} {c : Value} {i : Nat} {body suite : List Stmt} {b₀ : Stmt} {np pos pos' : Pos} {tb : WX → TS} {ts : TS} {Wout : WX}
theorem ps_tryV (hs : X.stack = X.env :: X.outer) (hf : X.env.frame = some X.env.locals) (hex : X.ex = []) (hN : X.N.Nodup) (hi : X.N[i]? = some n) (hln : X.env.kindOf n = some .local) (hc : Names X x c) (tk : Takes X Wout)
    (hb : ∀ (W : WX) (pn : List (Addr × Obj)) (xe : Value → Shared → Prop), Takes (X.tr pn xe) W → PassesOwn (model X.prog X.w) X.A X.env xe → PSs (X.tr pn xe) body (tb W))
    (hsu : ∀ (a : Addr) (pn : List (Addr × Obj)), PSs (X.suite a pn) (b₀ :: suite) ts) :
    PS X (.Try body [.ExceptHandler (some (.Name x np)) (some n) (b₀ :: suite) pos'] [] [] pos) (fun D σ H => tb (wV X.K c i ts Wout D) D σ H) := by
  refine ⟨fun pins s σ H D I h => ?_⟩
  have ok := I.ok
  have hfr : X.A.frames = some (X.env :: X.outer) := by rw [ok.frames, hs]
  have hloc : Loc X.env.scope n := .inl hln
  refine wpAny_Try_except ?_
  refine wpAny_mono ((hb (wV X.K c i ts Wout D) (X.pn ++ pins) (fun e s₁ => wpAny (model X.prog X.w) X.A (noteFrame e X.env) (fun _ s₂ => wpAny (model X.prog X.w) X.A (setFlight e none) (fun _ s₃ =>
    wpAny (model X.prog X.w) X.A (handleBy e X.env [.ExceptHandler (some (.Name x np)) (some n) (b₀ :: suite) pos']) (SP X pins D) X.xe s₃) X.xe s₂) X.xe s₁) (fun u s' xx => ?_) PassesOwn.looking).run [] s σ H D (I.toTry _) h) (fun f s1 hsp => ?_) (fun e s1 he => he)
  · -- the catch
    obtain ⟨a, B, sI, pins', σ', H', cls, d, rfl, J', nb, up, sky, na, os, ag, b, hb1, hyes, hno⟩ := xx
    have J : Inv X pins σ' H' sI := J'.ofTry ok
    have sky' : Sky B (X.env :: X.outer) a (Zn cls d) X.env.locals s'.heap := by rw [← hs]; exact sky
    show wpAny (model X.prog X.w) X.A (noteFrame (.ref a) X.env) _ _ _
    refine Sky.land Zn.steady hfr hf sky' fun h3 fl3 up3 => ?_
    have J3 : Inv X pins σ' H' { s' with heap := h3 } := J.landed nb fl3.1 (up.trans up3) os ag
    obtain ⟨oe3, vs3, he3, hz3, hd3⟩ := fl3.there
    have notFr : ∀ {h : Heap} {o : Obj} {vs : Array Value}, h.FunFrames B (X.env :: X.outer) → h.get? a = some o → o.data = .fields vs → a ∉ frs (X.env :: X.outer) := fun {h o vs} ff e dd hm => by
      obtain ⟨_, o', e', hnf⟩ := ff.mem hm
      rw [e] at e'; cases e'
      exact hnf _ dd
    have nfr := notFr fl3.2.2.1 he3 hd3
    have nL : a ≠ X.env.locals := fun z => nfr (List.mem_filterMap.mpr ⟨X.env, List.mem_cons_self, by rw [hf, z]⟩)
    have nF : a ∉ X.fs := fun hm => by
      obtain ⟨e, he, q⟩ := List.mem_filterMap.mp hm
      exact nfr (List.mem_filterMap.mpr ⟨e, List.mem_cons_of_mem _ he, q⟩)
    have nI : sI.heap.get? a = none := by
      cases q : sI.heap.get? a with
      | none => rfl
      | some o =>
        have z := nb a o q (by rw [hs]; exact nfr)
        rw [fl3.2.1] at z
        cases z
    have n0 : X.s_0.heap.get? a = none := by
      cases q : X.s_0.heap.get? a with
      | none => rfl
      | some o =>
        obtain ⟨o', z⟩ := J.base.there a o q (by rw [hex]; exact fun z => nomatch z)
        rw [nI] at z
        cases z
    have nP : ∀ p ∈ X.pn ++ pins, p.1 ≠ a := fun p hp z => by
      have e := (J.pin p hp).1
      rw [z, nI] at e
      cases e
    have S3 := J3.suite he3 hd3 na nL nF
    refine wpAny_handleBy_cons (codeAny_handlers_test ?_) (by intro q; cases q)
    have LT : PySem.W.Looks (model X.prog X.w) h3 (typeOf (.ref a)) cls := fun A Q E s k q => wpAny_typeOf_ref (k _ _ he3) (by rw [hz3.1]; exact q)
    have LM := PySem.W.exm_one (M := model X.prog X.w) (J3.kIn) LT hb1
    have test : ∀ {Q : Value → Shared → Prop} {E : Value → Shared → Prop}, Q c { s' with heap := h3 } → wpAny (model X.prog X.w) (X.A.mark (some (.ref a))) (eval (.Name x np) X.env) Q E { s' with heap := h3 } := fun {Q E} q => by
      obtain ⟨hg, hdbg, hm | ⟨hm, hv, hnn⟩⟩ := hc
      · exact ld_glob (X := X.suite a ((a, oe3) :: (X.pn ++ pins))) S3 hg hm q hdbg
      · exact ld_blt (X := X.suite a ((a, oe3) :: (X.pn ++ pins))) S3 hg hm hv q hnn hdbg
    refine test (LM.here ?_)
    cases b with
    | true =>
      refine codeAny_handlers_suite_as ?_
      refine HandSPX.lands_againZ fl3 fun h4 fl4 up4 => ?_
      have J4 : Inv X pins σ' H' { s' with heap := h4 } := J.landed nb fl4.1 ((up.trans up3).trans up4) os ag
      obtain ⟨oe4, vs4, he4, hz4, hd4⟩ := fl4.there
      have S4 : Inv (X.suite a (X.pn ++ pins)) [] σ' (upd H' a (exV cls d a)) { s' with heap := h4 } := Inv.suiteV J4 he4 hz4.1 hz4.2.1 hd4 na nL n0 nP
      refine store_ok (X := X.suite a (X.pn ++ pins)) (v := .ref a) S4 hN hi hloc rfl (fun s5 S5 => ?_) (.inr hln)
      refine wpAny_mono ((hsu a (X.pn ++ pins)).run [] s5 _ _ _ S5 (hyes rfl a na)) (fun f s6 hsp => ?_) (fun _ _ z => False.elim z)
      have end_ : ∀ {σ6 : L2.St} {H6 : Hp} {Q : Shared → Prop}, Inv (X.suite a (X.pn ++ pins)) [] σ6 H6 s6 → (∀ s7, Inv X pins (σ6.set i none) H6 s7 → Q s7) →
          wpAny (model X.prog X.w) X.A (do bindName X.env n .none; unbindBehindTheSuite X.env n pos') (fun _ s7 => Q s7) X.xe s6 := fun {σ6 H6 Q} S6 hq => gone_ok (Inv.unsuiteV S6 ok) hN hi hln hq
      cases f with
      | next =>
        obtain ⟨σ6, H6, S6, q6⟩ := hsp
        exact end_ S6 fun s7 J7 => ⟨_, _, J7, q6⟩
      | brk =>
        obtain ⟨σ6, H6, S6, q6⟩ := hsp
        exact end_ S6 fun s7 J7 => ⟨_, _, J7, q6⟩
      | cont =>
        obtain ⟨σ6, H6, S6, q6⟩ := hsp
        exact end_ S6 fun s7 J7 => ⟨_, _, J7, q6⟩
      | ret u =>
        obtain ⟨v6, σ6, H6, S6, r6, q6⟩ := hsp
        exact end_ S6 fun s7 J7 => ⟨_, _, _, J7, r6, q6⟩
    | false =>
      show wpAny _ X.A (handleBy (.ref a) X.env []) _ _ _
      refine wpAny_handleBy_nil ?_
      obtain ⟨k1, k2, k3, oe, vs, T, oT, ts', he, hz, hd, h1, hr⟩ := id fl3
      unfold PySem.passOn
      refine wpAny_bind (wpAny_field he hd h1 ?_)
      rw [if_neg (show ¬ ((Value.ref T == Value.none) = true) from by simp)]
      have fin : wpAny (model X.prog X.w) X.A (setFlight (.ref a) X.env.frame) (fun _ s4 => wpAny (model X.prog X.w) X.A (throw (.ref a) : Sem Flow) (SP X pins D) X.xe s4) X.xe { s' with heap := h3 } := by
        rw [hf]
        refine HandSPX.setFlight_upZ fl3 fun h4 hh4 up4 => wpAny_throw (tk _ _ ?_)
        exact ⟨a, B, sI, pins, σ', H', cls, d, rfl, J, nb, (up.trans up3).trans up4, .inr (.inr (by rw [hs]; exact hh4)), na, os, ag, hno rfl⟩
      first
        | exact wpAny_bind (wpAny_pure (wpAny_bind fin))
        | exact wpAny_bind fin
  · cases f with
    | next =>
      obtain ⟨σ', H', J', q⟩ := hsp
      exact wpAny_execs_nil ⟨σ', H', J'.ofTry ok, q⟩
    | brk =>
      obtain ⟨σ', H', J', q⟩ := hsp
      exact ⟨σ', H', J'.ofTry ok, q⟩
    | cont =>
      obtain ⟨σ', H', J', q⟩ := hsp
      exact ⟨σ', H', J'.ofTry ok, q⟩
    | ret u =>
      obtain ⟨v, σ', H', J', r, q⟩ := hsp
      exact ⟨v, σ', H', J'.ofTry ok, r, q⟩
end
end L2N
namespace Sh
open PySem PySem.Spec PyProof.Rows L2
/-- what the text says of an exception class D whose instances are asked: the built-in looks, and of which of the own classes cs they are -/
structure ExvOk (K : PySem.W.Frag) (D : Str) (cs : List Str) : Prop where
  cl : (PySem.W.clsIn K (clsOf K D)).isSome = true
  hg : PySem.W.findIn K (.ref (clsOf K D)) "__getattribute__" = some (some (.builtin "BaseException.__getattribute__"))
  hk : ∃ gt, PySem.W.findIn K (.ref (clsOf K D)) "__getattr__" = some gt
  hs : PySem.W.subIn K (.ref (clsOf K D)) (.type "BaseException") = some true
  ha : PySem.W.findIn K (.ref (clsOf K D)) "__class__" = some (some (.builtin "object.__class__"))
  hn : PySem.W.specialIn K (.builtin "object.__class__") "__get__" = some (some (.builtin "getset_descriptor.__get__"))
  ht : PySem.W.takesIn K (.builtin "object.__class__") = some true
  hm : PySem.W.mroIn K (clsOf K D) (.type "object") = some true
  ve : PySem.W.kitOne K (.ref (clsOf K D)) (.type "ValueError") = some true
  is : ∀ c ∈ cs, PySem.W.kitOne K (.ref (clsOf K D)) (.ref (clsOf K c)) = some (decide (c = D) || decide (c = "HeadError"))
  tk : PySem.W.exmOne K (.ref (clsOf K D)) (.ref (clsOf K "HeadError")) = some true
/-- a caught exception of the class D -/
def ExAt (K : PySem.W.Frag) (H : Hp) (v : V) (D : Str) : Prop := ∃ a, v = .ref a ∧ H a = some (L2N.exV (.ref (clsOf K D)) none a)
theorem exAt_mono {K : PySem.W.Frag} {H H' : Hp} {v : V} {D : Str} (e : Same H H') (h : ExAt K H v D) : ExAt K H' v D := by
  obtain ⟨a, h1, h2⟩ := h
  exact ⟨a, h1, e _ _ h2⟩
theorem exAt_new {K : PySem.W.Frag} {H : Hp} {a : Addr} {D : Str} : ExAt K (upd H a (L2N.exV (.ref (clsOf K D)) none a)) (.ref a) D := ⟨a, rfl, upd_same⟩
/-- isinstance of a caught exception: a class, or a written tuple of classes -/
def rIsV (K : PySem.W.Frag) : List V → Hp → VK → Prop := fun xs H Q => ∃ (x c : V) (D : Str) (cs : List Str) (b : Bool), xs = [x, c] ∧ ExAt K H x D ∧ ExvOk K D cs ∧
  ((∃ u, ClsV c u ∧ PySem.W.kitOne K (.ref (clsOf K D)) u = some b) ∨ ∃ (tp : Addr) (vs : List V) (us : List Value), c = .ref tp ∧ TupN H tp vs ∧ Paired ClsV vs us ∧ PySem.W.kitAny K (.ref (clsOf K D)) us = some b) ∧ Q (.bl b) H
theorem call_isV {X : Cx} : CallR X (.builtin "isinstance") (rIsV X.K) := by
  intro pins s σ H xs us Q I r h
  obtain ⟨x, c, D, cs, b, rfl, ⟨a, rfl, ha⟩, T, hc, q⟩ := h
  obtain ⟨u1, u2, rfl, r1, r2⟩ := vals2 r
  cases (show u1 = Value.ref a from r1)
  obtain ⟨⟨oe, vs, e1, e2, e4, e3⟩, _, _⟩ := (show ObjOk X.prog X.w H s.heap a (L2N.exV (.ref (clsOf X.K D)) none a) from I.hok a _ ha)
  have J : PySem.W.InstAt s.heap a oe (clsOf X.K D) none := ⟨e1, e2, by unfold PySem.W.notCls; rw [e3], by rw [e4]; exact trivial⟩
  obtain ⟨gt, hk⟩ := T.hk
  have Z := PySem.W.kitx_exc (x := a) (ox := oe) (od := none) T.cl T.hg hk T.hs T.ha T.hn T.ht T.hm
  rcases hc with ⟨w, k, e⟩ | ⟨tp, ws, us, rfl, hT, k, e⟩
  · have e4 := k.eq r2
    subst e4
    exact PySem.W.kia_one Z I.kIn J e (fun z => nomatch z) fun tk => ⟨.bl b, H, I.tok tk, rfl, q⟩
  · cases (show u2 = Value.ref tp from r2)
    obtain ⟨ob, _, hT⟩ := hT
    obtain ⟨_, _, its, rv, o', h1, h2, n, h3⟩ := (show ObjOk X.prog X.w H s.heap tp (.frz ob (.tup ws)) from I.hok tp _ hT)
    have e5 := ClsV.all k rv
    subst e5
    obtain ⟨oc, od, dt, sl⟩ := o'
    simp only at h2 h3
    subst h2 h3
    exact PySem.W.kia_tup Z I.kIn J h1 e (fun z => nomatch z) fun tk => ⟨.bl b, H, I.tok tk, rfl, q⟩
section
variable {K : PySem.W.Frag} {H : Hp} {Q : VK} {x : V} {D c : Str} {cs : List Str} {p : Addr}
theorem w_isV (h : ExAt K H x D) (T : ExvOk K D cs) (hc : c ∈ cs) (q : Q (.bl (decide (c = D) || decide (c = "HeadError"))) H) : rIsV K [x, .ref (clsOf K c)] H Q :=
  ⟨x, _, D, cs, _, rfl, h, T, .inl ⟨_, .own _, T.is c hc⟩, q⟩
theorem w_isVe (h : ExAt K H x D) (T : ExvOk K D cs) (q : Q (.bl true) H) : rIsV K [x, .ty "ValueError"] H Q :=
  ⟨x, _, D, cs, _, rfl, h, T, .inl ⟨_, .ty _, T.ve⟩, q⟩
theorem kitV (T : ExvOk K D cs) : ∀ zs : List Str, (∀ c ∈ zs, c ∈ cs) → PySem.W.kitAny K (.ref (clsOf K D)) (zs.map fun c => Value.ref (clsOf K c)) = some (zs.any fun c => decide (c = D) || decide (c = "HeadError"))
  | [], _ => rfl
  | c :: r, h => kitAny_cons (T.is c (h c List.mem_cons_self)) (fun z => by
    rw [List.any_cons, z, Bool.false_or]
    exact kitV T r fun d hd => h d (List.mem_cons_of_mem _ hd)) fun z => by rw [List.any_cons, z, Bool.true_or]
theorem clsVs (K : PySem.W.Frag) : ∀ zs : List Str, Paired ClsV (zs.map fun c => V.ref (clsOf K c)) (zs.map fun c => Value.ref (clsOf K c))
  | [] => .nil
  | c :: r => .cons (.own _) (clsVs K r)
theorem w_isVT (zs : List Str) (h : ExAt K H x D) (T : ExvOk K D cs) (hp : TupN H p (zs.map fun c => V.ref (clsOf K c))) (hc : ∀ c ∈ zs, c ∈ cs) (q : Q (.bl (zs.any fun c => decide (c = D) || decide (c = "HeadError"))) H) : rIsV K [x, .ref p] H Q :=
  ⟨x, _, D, cs, _, rfl, h, T, .inr ⟨p, _, _, rfl, hp, clsVs K zs, kitV T zs hc⟩, q⟩
end
/-! ### try .. except c as n -/
def sTryV (K : PySem.W.Frag) (c : Value) (i : Nat) (Wout : WX) (tb : WX → TS) (ts : TS) : TS := fun D σ H => tb (L2N.wV K c i ts Wout D) D σ H
theorem w_tryV {K : PySem.W.Frag} {c : Value} {i : Nat} {Wout : WX} {tb : WX → TS} {ts : TS} {D : Ends} {σ : L2.St} {H : Hp} (h : tb (L2N.wV K c i ts Wout D) D σ H) : sTryV K c i Wout tb ts D σ H := h
theorem w_tookV {K : PySem.W.Frag} {x : Str} {cs : List Str} {i : Nat} {ts : TS} {Wout : WX} {nx bk ct : L2.St → Hp → Prop} {rt : VK} {σ : L2.St} {H : Hp} {d : Option Addr} (T : ExvOk K x cs)
    (h : ∀ a, H a = none → ts ⟨fun σ' H' => nx (σ'.set i none) H', rt, fun σ' H' => bk (σ'.set i none) H', fun σ' H' => ct (σ'.set i none) H'⟩ (σ.set i (some (.ref a))) (upd H a (L2N.exV (.ref (clsOf K x)) d a))) :
    WE (L2N.wV K (.ref (clsOf K "HeadError")) i ts Wout ⟨nx, rt, bk, ct⟩) σ (.ref (clsOf K x)) d H := ⟨true, T.tk, fun _ a ha => h a ha, fun z => nomatch z⟩
theorem ps_tryv {X : Cx} {x n : Str} {c : Value} {i : Nat} {body suite : List Stmt} {b₀ : Stmt} {np pos pos' : Pos} {tb : WX → TS} {ts : TS} {Wout : WX} (hs : X.stack = X.env :: X.outer) (hf : X.env.frame = some X.env.locals) (hex : X.ex = []) (hN : X.N.Nodup) (hi : X.N[i]? = some n) (hln : X.env.kindOf n = some .local) (hc : Names X x c) (tk : L2N.Takes X Wout)
    (hb : ∀ (W : WX) (pn : List (Addr × Obj)) (xe : Value → Shared → Prop), L2N.Takes (X.tr pn xe) W → PassesOwn (model X.prog X.w) X.A X.env xe → PSs (X.tr pn xe) body (tb W))
    (hsu : ∀ (a : Addr) (pn : List (Addr × Obj)), PSs (X.suite a pn) (b₀ :: suite) ts) :
    PS X (.Try body [.ExceptHandler (some (.Name x np)) (some n) (b₀ :: suite) pos'] [] [] pos) (sTryV X.K c i Wout tb ts) := L2N.ps_tryV hs hf hex hN hi hln hc tk hb hsu
/-! ### strip -/
def rStripC : V → List V → Hp → VK → Prop := fun x xs H Q => ∃ a b, x = .str a ∧ xs = [.str b] ∧ a.length ≤ sizeLine ∧ Q (.str (Txt.stripChars a b)) H
theorem mt_stripC {X : Cx} : MtR X "str.strip" rStripC := mt_stripChars
theorem w_stripC {a b : Str} {H : Hp} {Q : VK} (hl : a.length ≤ sizeLine) (q : Q (.str (Txt.stripChars a b)) H) : rStripC (.str a) [.str b] H Q := ⟨a, b, rfl, rfl, hl, q⟩
theorem tw_all (p : Nat → Bool) : ∀ l : List Nat, l.all p = true → l.takeWhile p = l
  | [], _ => rfl
  | a :: r, h => by
    rw [List.all_cons, Bool.and_eq_true] at h
    rw [List.takeWhile_cons, if_pos h.1, tw_all p r h.2]
theorem strip_nil (p : Nat → Bool) : ∀ l : List Nat, ((l.drop (l.takeWhile p).length).take (l.length - ((l.drop (l.takeWhile p).length).reverse.takeWhile p).length - (l.takeWhile p).length)).length = 0 ↔ l.all p = true := fun l => by
  rw [List.length_take, List.length_drop]
  constructor
  · intro h
    have a1 := PyProof.Rows.takeWhile_len_le p l
    by_cases hl : (l.takeWhile p).length = l.length
    · have e : l.takeWhile p = l := by
        have z := List.takeWhile_append_dropWhile (p := p) (l := l)
        have zl := congrArg List.length z
        rw [List.length_append] at zl
        have z2 : l.dropWhile p = [] := List.length_eq_zero_iff.mp (by omega)
        rw [z2, List.append_nil] at z
        exact z
      rw [← e]
      exact List.all_takeWhile
    · have lt : (l.takeWhile p).length < l.length := by omega
      rcases PyProof.Rows.takeWhile_stop p 0 l with z | z
      · exact absurd z hl
      · exfalso
        have ed : l.drop (l.takeWhile p).length = l.getD (l.takeWhile p).length 0 :: l.drop ((l.takeWhile p).length + 1) := by
          rw [List.drop_eq_getElem_cons lt]
          congr 1
          rw [List.getD_eq_getElem?_getD, List.getElem?_eq_getElem lt]
          rfl
        have b1 : ((l.drop (l.takeWhile p).length).reverse.takeWhile p).length ≤ (l.drop ((l.takeWhile p).length + 1)).length := by
          rw [ed, List.reverse_cons]
          rw [List.takeWhile_append]
          split
          · rename_i e1
            rw [List.takeWhile_cons, if_neg (by rw [z]; exact Bool.false_ne_true), List.append_nil, List.length_reverse]
            exact Nat.le_refl _
          · have := PyProof.Rows.takeWhile_len_le p (l.drop ((l.takeWhile p).length + 1)).reverse
            rw [List.length_reverse] at this
            exact this
        rw [List.length_drop] at b1
        omega
  · intro h
    rw [tw_all p l h]
    omega
theorem strip_all (z y : Str) : (Txt.stripChars z y = "") ↔ ((cz z).all fun c => y.cps.contains c) = true := by
  unfold Txt.stripChars
  rw [PyProof.Rows.stripBy_eq, ← strip_nil, PyProof.Rows.strSub_mk]
  unfold stripLo stripHi
  rw [if_pos rfl, if_pos rfl, show z.length = (cz z).length from (cz_len z).symm]
  constructor
  · intro h
    have h2 := congrArg Str.length h
    have h3 : (((cz z).drop ((cz z).takeWhile y.cps.contains).length).take ((cz z).length - (((cz z).drop ((cz z).takeWhile y.cps.contains).length).reverse.takeWhile y.cps.contains).length - ((cz z).takeWhile y.cps.contains).length)).toArray.size = 0 := h2
    rw [List.size_toArray] at h3
    exact h3
  · intro h
    refine cz_inj ?_
    rw [show cz ("" : Str) = [] from rfl]
    refine List.length_eq_zero_iff.mp ?_
    show (List.toArray _).toList.length = 0
    rw [List.toList_toArray]
    exact h
/-! ### quiet defs: called where an exception is handled, they let none out and walk nothing -/
structure FnQ (P : Program) (w : World) (K : PySem.W.Frag) (mg : Str → Option Value) (base : Heap) (k : Nat) (f : Addr) (fd : FuncData) (ps : List Str) (sp : Sp) : Prop where
  len : ∀ vs H Q E, sp vs H Q E → vs.length = ps.length
  run : ∀ (A : Around) (outer : List Env) (s : Shared) (H : Hp) (args : Args) (us : List Value) (vs : List V) (Q : VK) (E : XK), L2H.RoomH k A → Env0 P w K mg base A outer s H → BindsTo s fd args (ps.zip us) → Vals vs us → sp vs H Q E →
    codeAny (model P w) A (.call (.ref f) args) (CR CX0 outer P w H s Q E) s
def cxQ (P : Program) (w : World) (K : PySem.W.Frag) (mg : Str → Option Value) (base : Heap) (N : List Str) (qual : Str) (scope : Scope) (f : Addr) (cd : Value) (A : Around) (outer : List Env) (s : Shared) (H : Hp) (E : XK) : Cx :=
  { cxOf CX0 P w K mg base N qual scope f cd A outer s H E with calm := false }
theorem inv_startQ {P : Program} {w : World} {K : PySem.W.Frag} {mg : Str → Option Value} {base : Heap} {N ps : List Str} {qual : Str} {scope : Scope} {f : Addr} {cd : Value} {A : Around} {outer : List Env} {s s1 : Shared} {H : Hp} {E : XK} {us : List Value} {vs : List V}
    (S : FnScope N ps scope) (e0 : Env0 P w K mg base A outer s H) (hl : vs.length = ps.length) (r : Vals vs us)
    (x : InCallC s s.heap.objs.size (bindL (envOfC qual scope s.heap.objs.size f cd).kindOf (ps.zip us) fun _ => none) (cellsFrom (s.heap.objs.size + 1) scope.names []) (bindC (envOfC qual scope s.heap.objs.size f cd).kindOf (ps.zip us) fun _ => none) s1) :
    Inv (cxQ P w K mg base N qual scope f cd A outer s H E) [] (L2.start N vs) H s1 := by
  have hpl : ps.length ≤ N.length := by have := congrArg List.length S.pre; rw [List.length_take] at this; omega
  obtain ⟨h1, tk, rfl, hk⟩ := x.done
  have noA : ∀ b : Addr, b ∉ (cxQ P w K mg base N qual scope f cd A outer s H E).ex := fun b z => absurd (show b ∈ ([] : List Addr) from z) (by simp)
  refine ⟨⟨e0.mod, S.kind, rfl, rfl, Nat.le_refl _, fun y z c h1 h2 => ?_, fun y hy => ?_, fun y c _ h => ?_, (fun z => Bool.noConfusion (show false = true from z)), Around.frames_deeper e0.frames, .inr ⟨rfl, rfl⟩, fun b z => absurd z (noA b), e0.bs, e0.bsz, fun b _ _ => noA b, fun b z => absurd z (noA b), e0.funs, e0.frf⟩,
    rfl, e0.bare, Un.kept hk, ⟨_, x.toInCall.ns, fun i y v h1 h2 h3 => ?_⟩, fun y c h => ⟨_, x.cell y c h⟩, e0.hok.fresh (Nat.le_refl _), fun y c h => ?_, fun q hq => ?_, e0.hok.kept hk, ?_⟩
  · exact name_of_addr x.apart (PySem.mem_of_lookup h1) (PySem.mem_of_lookup h2)
  · have hy : scope.names.lookup y = some .cell ∨ scope.names.lookup y = some .free := hy
    rcases hy with hy | hy
    · exact cell_has hy
    · exact absurd rfl (S.nofree _ (PySem.mem_of_lookup hy))
  · exact Nat.le_of_lt (x.above y c (PySem.mem_of_lookup h))
  · have hi : i < vs.length := by
      unfold L2.start at h2
      by_cases hi : i < vs.length
      · exact hi
      · rw [List.getElem?_append_right (by simpa using hi)] at h2
        rw [List.getElem?_replicate] at h2
        split at h2 <;> cases h2
    have ha : vs[i]? = some v := by
      unfold L2.start at h2
      rw [List.getElem?_append_left (by simpa using hi), List.getElem?_map] at h2
      cases e : vs[i]? with
      | none => rw [e] at h2; cases h2
      | some a => rw [e] at h2; cases h2; rfl
    obtain ⟨u, hu, rv⟩ := r.get ha
    have hp : ps[i]? = some y := by
      rw [← S.pre, List.getElem?_take_of_lt (by omega)]; exact h1
    have ndP : ps.Nodup := by rw [← S.pre]; exact S.nd.sublist (List.take_sublist _ _)
    refine ⟨u, rv, ?_⟩
    rcases S.par y (List.mem_of_getElem? hp) with k | k
    · exact .inl ⟨k, bindL_get ndP hp hu k⟩
    · obtain ⟨c, e⟩ := cell_has (n := s.heap.objs.size + 1) k
      refine .inr ⟨.inl k, c, e, ?_⟩
      have q := x.cell y c e
      rw [bindC_get ndP hp hu (by show scope.names.lookup y ≠ _; rw [k]; decide)] at q
      exact q
  · exact e0.hok.fresh (Nat.le_of_lt (x.above y c (PySem.mem_of_lookup h)))
  · exact absurd (show q ∈ ([] : List (Addr × Obj)) from hq) (by simp)
  · unfold L2.start
    show _ = N.length
    rw [List.length_append, List.length_map, List.length_replicate]
    omega
section
variable {P : Program} {w : World} {K : PySem.W.Frag} {mg : Str → Option Value} {base : Heap}
theorem okQ {x qual : Str} {st : Stmt} {f : Addr} {fd : FuncData} {N ps : List Str} {k : Nat} {sp : Sp} (F : Fun K x qual st f fd) (S : FnScope N ps (defScope st)) (len : ∀ vs H Q E, sp vs H Q E → vs.length = ps.length)
    (bod : ∀ (cdv : Value) (A : Around) (outer : List Env) (s : Shared) (H : Hp) (vs : List V) (Q : VK) (E : XK), L2H.RoomH k (A.deeper (envOfC qual (defScope st) s.heap.objs.size f cdv)) → sp vs H Q E →
      ∃ t, PSs (cxQ P w K mg base N qual (defScope st) f cdv A outer s H E).nox (defBody st) t ∧ t { nx := fun _ H' => Q .non H', rt := Q } (start N vs) H) : FnQ P w K mg base (k + 1) f fd ps sp := by
  obtain ⟨oc, od, kV, doc, pm, an, cdv, ct, osl, rfl, lk, hcd⟩ := F.ex
  refine ⟨len, fun A outer s H args us vs Q E hr e0 hb r hsp => ?_⟩
  have hl := len _ _ _ _ hsp
  have KX : K.In s.heap := e0.mod.kin.keeps fun b o e => (e0.bs b o e).1
  have lim : s.heap.NoLimit := e0.mod.nolimit.keeps fun b o e => (e0.bs b o e).1
  have hkind : ∀ y ∈ ps.zip us, (defScope st).names.lookup y.1 = some .local ∨ ((defScope st).names.lookup y.1 = some .cell ∧ ((cellsFrom (s.heap.objs.size + 1) (defScope st).names []).lookup y.1).isSome = true) := fun ⟨n, v⟩ hy => by
    rcases S.par n (List.of_mem_zip hy).1 with q | q
    · exact .inl q
    · exact .inr ⟨q, PySem.W.cellsFrom_some _ _ _ (.inl q)⟩
  refine codeAny_call_function hr.depth (KX _ _ lk) rfl S.co S.gen rfl (PySem.W.codeRec_of KX hcd) (hb _ _ _ _ ?_)
  refine wpAny_newFunctionEnv_cells S.kind hkind fun env he s1 x => ?_
  subst he
  refine ⟨lim.keeps x.toInCall.keep, codeAny_func ?_⟩
  obtain ⟨t, ht, hq⟩ := bod cdv A outer s H vs Q E (hr.deeper _) hsp
  have I := inv_startQ (P := P) (w := w) (K := K) (mg := mg) (base := base) (N := N) (qual := qual) (f := f) (cd := cdv) (A := A) (outer := outer) (E := E) S e0 hl r x
  refine wpAny_mono (ht.nox.run [] s1 (start N vs) H _ I hq) (fun fl s' hs => ?_) fun e s' hs => hs
  cases fl with
  | ret u => exact let ⟨v, _, H', J, rv, q⟩ := hs; ⟨v, H', J.os, J.bare, J.base, J.hok, rv, q⟩
  | next => exact let ⟨_, H', J, q⟩ := hs; ⟨V.non, H', J.os, J.bare, J.base, J.hok, rfl, q⟩
  | brk => exact let ⟨_, _, _, q⟩ := hs; False.elim q
  | cont => exact let ⟨_, _, _, q⟩ := hs; False.elim q
end
def CalQ (W : Wd) (mg : Str → Option Value) (base : Heap) (x : Str) (k : Nat) (ps : List Str) (sp : Sp) : Prop :=
  ∃ f fd, mg x = some (.ref f) ∧ FnQ W.P W.w W.K mg base k f fd ps sp ∧ PySem.W.keepIn W.K (.ref f) = true ∧ Binds W.K fd ps []
section
variable {X : Cx} {k : Nat} {f : Addr} {fd : FuncData} {ps : List Str} {sp : Sp} {E : L2.St → XK} {x : Str} {q pos : Pos} {e : Expr} {es : List Expr} {t : TA}
theorem pe_callQ (F : FnQ X.prog X.w X.K X.mg X.base k f fd ps sp) (hr : L2H.RoomH k X.A) (hg : Gl X x) (hm : X.mg x = some (.ref f)) (hk : PySem.W.keepIn X.K (.ref f) = true) (hb : Binds X.K fd ps []) (hx : ∀ σ, PassesAt CX0 X σ (E σ))
    (ha : PA X (e :: es) t) (hdb : (x == ("__debug__" : Str)) = false := by decide) (he : starEach (e :: es) X.env = (false, eval e X.env) :: starEach es X.env := by rfl) (hpl : (backTo pos (starEach es X.env)).any (·.1) = false := by rfl) :
    PE X (.Call (.Name x q) (e :: es) [] pos) (tCallS sp E t) := by
  refine ⟨fun pins s σ H Q I h => ?_⟩
  refine wpAny_Call_Name_kw (ld_glob I hg hm ?_ hdb)
  refine PySem.W.callWith_K (h₀ := X.base) I.ok.mod.kin hk (thn (ha.run pos pins s σ H _ I h) fun us s1 ⟨vs, H1, I1, r, q⟩ => ⟨I1.kIn, ?_⟩) he hpl
  have hl : us.length = ps.length := by rw [← r.length]; exact F.len _ _ _ _ q
  have b := hb s1 us I1.kIn (by rw [List.append_nil]; exact hl)
  rw [List.append_nil] at b
  refine wpAny_call (codeAny_mono (F.run X.A X.stack s1 H1 ⟨us, []⟩ us vs Q (E σ) hr I1.env0 b r q) fun r s' hq => ?_)
  cases r with
  | error e => exact hx σ pins H1 s1 e s' I1 hq
  | ok fl =>
    cases fl with
    | ret u => exact I1.after hq
    | next => exact False.elim hq
    | brk => exact False.elim hq
    | cont => exact False.elim hq
end
/-! ### xs.count(x), xs.index(x) of flat things -/
def rCntF (K : PySem.W.Frag) : V → List V → Hp → VK → Prop := fun x xs H Q => ∃ (a : Addr) (ys : List V) (y : V), x = .ref a ∧ xs = [y] ∧ SqL K H a ys ∧ flatV y = true ∧ ys.all flatV = true ∧ Q (.int ((ys.countP fun z => eqV z y : Nat) : Int)) H
theorem countU {y : V} : ∀ {ys : List V} {us : List Value}, Vals ys us → ys.all flatV = true → us.countP (eqU y) = ys.countP fun z => eqV z y
  | _, _, .nil, _ => rfl
  | z :: ys, u :: us, .cons r t, f => by
    rw [List.all_cons, Bool.and_eq_true] at f
    rw [List.countP_cons, List.countP_cons, countU t f.2, eqU_of r f.1]
theorem mt_cntF {X : Cx} : MtR X "list.count" (rCntF X.K) := by
  intro pins s σ H x xs v us Q I rx rxs h
  obtain ⟨a, ys, y, rfl, rfl, hs, fy, fys, q⟩ := h
  cases rx
  obtain ⟨uy, rfl, ry⟩ := rxs.one
  obtain ⟨its, rv, ⟨⟨cls, dd, data, sl⟩, n, ho, hc, hdn, hd⟩, hlen⟩ := I.list hs
  simp only at hc hd
  subst hc hd
  refine call_meets PySem.F.slot_list_count ⟨_, ho, rfl⟩ PySem.F.entry_list_count (PySem.F.args_list_count_2 _ _)
    (SeqAt.list_countAt a its.toArray n dd sl uy (eqU y)) ⟨ho, fun u' hu' => mem_eqAt ry fy rv fys u' (by simpa using hu'), ?_⟩
  refine ⟨.int ((ys.countP fun z => eqV z y : Nat) : Int), H, I.tok _, ⟨s.toks, ?_⟩, q⟩
  show Value.int ((its.toArray.toList.countP (eqU y) : Nat) : Int) s.toks = _
  rw [List.toList_toArray, countU rv fys]
theorem w_cntF {K : PySem.W.Frag} {H : Hp} {Q : VK} {a : Addr} {ys : List V} {y : V} (h : SqL K H a ys) (fy : flatV y = true) (fys : ys.all flatV = true) (q : Q (.int ((ys.countP fun z => eqV z y : Nat) : Int)) H) : rCntF K (.ref a) [y] H Q := ⟨a, ys, y, rfl, rfl, h, fy, fys, q⟩
theorem w_idxF {K : PySem.W.Frag} {H : Hp} {Q : VK} {a : Addr} {ys : List V} {y z : V} (j : Nat) (h : SqL K H a ys) (fy : flatV y = true) (fys : ys.all flatV = true) (e : ys[j]? = some z) (ez : eqV z y = true) (no : ∀ (m : Nat) (z' : V), m < j → ys[m]? = some z' → eqV z' y = false) (q : Q (.int (j : Int)) H) : rIndex K (.ref a) [y] H Q := ⟨a, ys, y, j, z, rfl, rfl, h, fy, fys, e, ez, no, q⟩
end Sh
/-! what a presser refuses -/
namespace Sh
open PySem PySem.Spec PyProof.Rows L2
/-- data that begins as no word -/
def noWd : PyData → Bool
  | .tuple (.str _ :: _) => false
  | _ => true
/-- a word that tells a number that was read -/
def hadD (n : Int) : PyData → Bool
  | .tuple [.str z, e] => decide (z = "have") && betwD 0 (n - 1) e
  | _ => false
end Sh
/-! the end: facts by names, the top by one run -/
namespace Sh
open PySem PySem.Spec PyProof.Rows L2
section
variable {K : PySem.W.Frag} {h : Heap} {mg : Str → Option Value} {fa : List He.Fa} {fn : List He.FnD}
theorem z_glo (X : K.In h) (G : h.Ns mainGlobals mg) (c : He.SaysE fa fn K) (x : Str) (i : Nat) (e : fa[i]? = some (.glo x)) : mg x = some (.ref (He.ga K x)) := He.glo_ok X G (c.fact i e)
theorem z_src (X : K.In h) (G : h.Ns mainGlobals mg) (c : He.SaysE fa fn K) {x : Str} {st : Stmt} (i j : Nat) (d : fn[i]? = some ⟨(x, none), x, x, defArgs st, defBody st, defScope st⟩) (e1 : fa[j]? = some (.glo x)) (e2 : fa[j + 1]? = some (.keep x)) : Src K mg x st := by
  obtain ⟨oc, od, osl, kV, doc, pm, an, cdv, ct, l, cc⟩ := c.def_ i d
  exact ⟨_, _, He.glo_ok X G (c.fact j e1), fun_mk l cc (He.keep_ok (c.fact (j + 1) e2))⟩
end
section
variable {K : PySem.W.Frag} {h : Heap} {mg : Str → Option Value} {fa : List He.Fa} {fn : List He.FnD}
def ktB (K : PySem.W.Frag) (x : Str) (zs : List Str) : Bool := He.eqO (PySem.W.nsIn K mainGlobals x) (some (some (.ref (He.ga K x)))) && match K.lookup (He.ga K x) with
  | some ⟨.type t, none, .seq its _, _⟩ => decide (t = "tuple") && (Nat.ble its.size 1000 && decide (its.toList.map (fun v => match v with | .str z _ => some z | _ => none) = zs.map some))
  | _ => false
theorem vals_strs : ∀ {us : List Value} {zs : List Str}, us.map (fun v => match v with | .str z _ => some z | _ => none) = zs.map some → Vals (zs.map V.str) us
  | [], [], _ => .nil
  | [], _ :: _, h => by cases h
  | _ :: _, [], h => by cases h
  | u :: us, z :: zs, h => by
    rw [List.map_cons, List.map_cons] at h
    injection h with h1 h2
    refine .cons ?_ (vals_strs h2)
    cases u <;> first | (cases h1; done) | (injection h1 with h1; subst h1; exact ⟨_, rfl⟩)
theorem ktB_ok {x : Str} {zs : List Str} (X : K.In h) (G : h.Ns mainGlobals mg) (c : ktB K x zs = true) : ∃ a, mg x = some (.ref a) ∧ KTup K a (zs.map V.str) := by
  obtain ⟨c1, c2⟩ := Bool.and_eq_true_iff.mp c
  refine ⟨He.ga K x, PySem.W.mg_of X G (He.eqO_ok c1), ?_⟩
  clear c c1
  cases l : K.lookup (He.ga K x) with
  | none => rw [l] at c2; cases c2
  | some o =>
    rw [l] at c2
    obtain ⟨cl, d, dt, sl⟩ := o
    cases cl <;> first | (cases c2; done) | skip
    cases d <;> first | (cases c2; done) | skip
    cases dt <;> first | (cases c2; done) | skip
    obtain ⟨b1, c2⟩ := Bool.and_eq_true_iff.mp c2
    obtain ⟨b2, b3⟩ := Bool.and_eq_true_iff.mp c2
    refine ktup_mk l (by rw [of_decide_eq_true b1]) rfl ?_ (vals_strs (of_decide_eq_true b3))
    have := Nat.le_of_ble_eq_true b2
    rw [sizeLine_eq]
    omega
end
/-- what the end asks of an exception class whose instances are asked -/
def exvB (K : PySem.W.Frag) (D : Str) (cs : List Str) : Bool :=
  (PySem.W.clsIn K (He.ga K D)).isSome && (He.eqO (PySem.W.findIn K (.ref (He.ga K D)) "__getattribute__") (some (some (.builtin "BaseException.__getattribute__"))) && ((PySem.W.findIn K (.ref (He.ga K D)) "__getattr__").isSome &&
  (decide (PySem.W.subIn K (.ref (He.ga K D)) (.type "BaseException") = some true) && (He.eqO (PySem.W.findIn K (.ref (He.ga K D)) "__class__") (some (some (.builtin "object.__class__"))) && (He.eqO (PySem.W.specialIn K (.builtin "object.__class__") "__get__") (some (some (.builtin "getset_descriptor.__get__"))) &&
  (decide (PySem.W.takesIn K (.builtin "object.__class__") = some true) && (decide (PySem.W.mroIn K (He.ga K D) (.type "object") = some true) && (decide (PySem.W.kitOne K (.ref (He.ga K D)) (.type "ValueError") = some true) &&
  ((cs.all fun c => decide (PySem.W.kitOne K (.ref (He.ga K D)) (.ref (He.ga K c)) = some (decide (c = D) || decide (c = "HeadError")))) && decide (PySem.W.exmOne K (.ref (He.ga K D)) (.ref (He.ga K "HeadError")) = some true))))))))))
/-- a tuple of texts (by its name), or (without a name) an exception class and the classes that are asked for -/
def tzB (K : PySem.W.Frag) (x : Str) (zs : List Str) : Bool := if x.length = 0 then exvB K (zs.headD "") zs.tail else ktB K x zs
theorem tz_kt {K : PySem.W.Frag} {x : Str} {zs : List Str} (h : x.length ≠ 0) (c : tzB K x zs = true) : ktB K x zs = true := by
  unfold tzB at c
  rw [if_neg h] at c
  exact c
theorem tz_ex {K : PySem.W.Frag} {D : Str} {cs : List Str} (c : tzB K "" (D :: cs) = true) : exvB K D cs = true := by
  unfold tzB at c
  rw [if_pos (show ("" : Str).length = 0 from rfl)] at c
  exact c
/-- what the end looks at: the module's names, what they stand for, the classes' names, the code of each def (some twice: a look finds the first) -/
def zCode (g : Addr → Option Obj) (a : Addr) : List Addr := match g a with
  | some o => (match o.data with
    | .func fd => He.refV fd.code
    | _ => [])
  | none => []
def zNs (g : Addr → Option Obj) (a : Addr) : List Addr := match g a with
  | some o => (match o.data with
    | .dict es _ => es.toList.flatMap fun e => He.refV e.val
    | _ => [])
  | none => []
def zOne (g : Addr → Option Obj) (a : Addr) : List Addr := match g a with
  | some o => (match o.data with
    | .func fd => a :: He.refV fd.code
    | .cls cd => a :: cd.ns :: (zNs g cd.ns).flatMap fun m => m :: zCode g m
    | _ => [a])
  | none => []
def zAs (g : Addr → Option Obj) : List Addr := mainGlobals :: (zNs g mainGlobals).flatMap (zOne g)
abbrev AlZ : Type := He.Al × Bool
def obsZ (fa : List He.Fa) (fn : List He.FnD) (ts : List (Str × List Str)) (K : PySem.W.Frag) : AlZ := (He.obsE fa fn K, ts.all fun p => tzB K p.1 p.2)
def obsZG (fa : List He.Fa) (fn : List He.FnD) (ts : List (Str × List Str)) (g : Addr → Option Obj) : AlZ := obsZ fa fn ts (He.frG g (zAs g))
def valZ (fn : List He.FnD) : AlZ := (He.valE fn, true)
def SaysZ (fa : List He.Fa) (fn : List He.FnD) (ts : List (Str × List Str)) (K : PySem.W.Frag) : Prop := He.SaysE fa fn K ∧ ∀ p ∈ ts, tzB K p.1 p.2 = true
def hookZ (fa : List He.Fa) (fn : List He.FnD) (ts : List (Str × List Str)) : PySem.W.Hook where
  α := AlZ
  obs := fun s => obsZG fa fn ts s.heap.get?
  val := fun _ => valZ fn
  says := fun _ h => ∃ K : PySem.W.Frag, K.In h ∧ SaysZ fa fn ts K
  of := fun _ _ e => ⟨_, He.frG_in, congrArg (fun z : AlZ => z.1) e, List.all_eq_true.mp (congrArg (fun z : AlZ => z.2) e)⟩
  keeps := fun _ _ _ ⟨K, hK, c⟩ k => ⟨K, PySem.W.Frag.In.keeps hK k, c⟩
theorem obsZG_eq {fa : List He.Fa} {fn : List He.FnD} {ts : List (Str × List Str)} {g : Addr → Option Obj} {s : Shared} (h : ∀ a, g a = s.heap.get? a) : obsZG fa fn ts g = (hookZ fa fn ts).obs s := by
  have e : g = s.heap.get? := funext h
  rw [e] <;> rfl
theorem obsZ_app {fa fa' : List He.Fa} {fn fn' : List He.FnD} {ts ts' : List (Str × List Str)} {K : PySem.W.Frag} (h : obsZ fa fn ts K = valZ fn) (h' : obsZ fa' fn' ts' K = valZ fn') : obsZ (fa ++ fa') (fn ++ fn') (ts ++ ts') K = valZ (fn ++ fn') := by
  have a1 := congrArg (fun z : AlZ => z.1.1) h
  have a2 := congrArg (fun z : AlZ => z.1.2) h
  have a3 := congrArg (fun z : AlZ => z.2) h
  have b1 := congrArg (fun z : AlZ => z.1.1) h'
  have b2 := congrArg (fun z : AlZ => z.1.2) h'
  have b3 := congrArg (fun z : AlZ => z.2) h'
  have a1 : ((fa.all fun f => f.ok K) && fn.all fun d => (He.Fa.code d.at_ d.qual).ok K) = true := a1
  have b1 : ((fa'.all fun f => f.ok K) && fn'.all fun d => (He.Fa.code d.at_ d.qual).ok K) = true := b1
  have a2 : fn.map (fun d => He.fnObs K d.at_) = fn.map He.FnD.val := a2
  have b2 : fn'.map (fun d => He.fnObs K d.at_) = fn'.map He.FnD.val := b2
  have a3 : (ts.all fun p => tzB K p.1 p.2) = true := a3
  have b3 : (ts'.all fun p => tzB K p.1 p.2) = true := b3
  obtain ⟨a4, a5⟩ := Bool.and_eq_true_iff.mp a1
  obtain ⟨b4, b5⟩ := Bool.and_eq_true_iff.mp b1
  show ((((fa ++ fa').all fun f => f.ok K) && (fn ++ fn').all fun d => (He.Fa.code d.at_ d.qual).ok K, (fn ++ fn').map fun d => He.fnObs K d.at_), (ts ++ ts').all fun p => tzB K p.1 p.2) = ((true, (fn ++ fn').map He.FnD.val), true)
  rw [List.all_append, List.all_append, List.all_append, List.map_append, List.map_append, a4, a5, b4, b5, a2, b2, a3, b3]
  rfl
theorem zrun_app {r : PySem.W.OpenRow} {q : Program} {fa fa' : List He.Fa} {fn fn' : List He.FnD} {ts ts' : List (Str × List Str)} {M : Nat} {loose : List Str} {w : World}
    (h : HandSHeadRun.RunEq r q (hookZ fa fn ts) (fun s => obsZG fa fn ts (HandSHeadRun.getT s)) M loose w) (h' : HandSHeadRun.RunEq r q (hookZ fa' fn' ts') (fun s => obsZG fa' fn' ts' (HandSHeadRun.getT s)) M loose w) :
    HandSHeadRun.RunEq r q (hookZ (fa ++ fa') (fn ++ fn') (ts ++ ts')) (fun s => obsZG (fa ++ fa') (fn ++ fn') (ts ++ ts') (HandSHeadRun.getT s)) M loose w := by
  intro os
  have a := h os
  have b := h' os
  unfold HandSHeadRun.RunEq at *
  revert a b
  generalize HandSHeadRun.endF _ _ _ _ _ = e
  intro a b
  cases e with
  | none => cases a
  | some s =>
    have a := Option.some.inj a
    have b := Option.some.inj b
    have a1 := congrArg (fun z => z.1) a
    have a2 := congrArg (fun z => z.2.1) a
    have a3 := congrArg (fun z => z.2.2) a
    have b3 := congrArg (fun z => z.2.2) b
    exact congrArg some (Prod.ext a1 (Prod.ext a2 (obsZ_app a3 b3)))
theorem walk_ofZ {l : PySem.W.OpenLaw} {n k : Nat} {q : Program} {loose : List Str} {XP : (Str → Option Value) → Heap → Prop} {YP : World → Heap → Prop} {d : DefRec} {CX : CXT} {x : Str}
    (hn : l.most = some n) (hn2 : n ≤ sizeLine) (hdf : d.params.defaults = []) (hr : Room k callerA)
    (F : ∀ (w : World) (mg : Str → Option Value) (fa : Addr) (h : Heap), YP w h → h.Ns mainGlobals mg → mg d.name = some (.ref fa) →
      ∃ (K : PySem.W.Frag) (fd : FuncData) (sp : Sp), K.In h ∧ (∀ (s : Shared) (u : Value), BindsTo s fd ⟨[u], []⟩ [(x, u)]) ∧
        (∀ (H : Hp) (a : Addr) (ns : List Int), ns.length ≤ n → (∀ z ∈ ns, Builtin.Int.intBits z ≤ 1048576) → Only H → SqL K H a (ns.map V.int) → sp [.ref a] H (fun v _ => v = .bl true) fun _ _ _ => False) ∧
        ∀ base : Heap, K.In base → base.Ns mainGlobals mg → FnOk l.prog w K mg base CX k fa fd [x] sp)
    (hCX : ∀ (H : Hp) (s : Shared) (e : Value) (s' : Shared), CX [] H s (fun _ _ _ => False) e s' → False) :
    PySem.W.WalkO q loose XP YP l.row.toRowW d [] (fun f vs => PySem.call f vs) := by
  refine Att.attach_callB hn hdf fun w s₀ s₁ mg mb fa o pm cd doc a vs ns G Y ho hd hcd hmg hobj hints hlen hbits hg => ?_
  obtain ⟨K, fd, sp, KX, hb, hsp, hF⟩ := F w mg fa _ Y G.T.g hmg
  exact law_call KX G.T.g G.T.b G.T.builtins G.T.nolimit hg hobj hints (Nat.le_trans hlen hn2) hr hF hb (fun H hO hS => hsp H a ns hlen hbits hO hS) fun H e s' => hCX H s₁ e s'
end Sh
/-! .. of classes, exceptions -/
namespace Sh
open PySem PySem.Spec PyProof.Rows L2
section
variable {K : PySem.W.Frag} {h : Heap} {mg : Str → Option Value} {fa : List He.Fa} {fn : List He.FnD}
theorem ga_cls {x : Str} : clsOf K x = He.ga K x := by
  unfold clsOf He.ga
  rfl
theorem z_kls (X : K.In h) (G : h.Ns mainGlobals mg) (c : He.SaysE fa fn K) {x : Str} (i : Nat) (e1 : fa[i]? = some (.glo x)) (e2 : fa[i + 1]? = some (.cls x)) : KlsOk K mg x :=
  ⟨by rw [ga_cls]; exact He.cls_ok (c.fact (i + 1) e2), by rw [ga_cls]; exact He.glo_ok X G (c.fact i e1)⟩
theorem z_no (c : He.SaysE fa fn K) {x f : Str} (i : Nat) (e : fa[i]? = some (.noat x f)) : NoAttr K (clsOf K x) f := by
  rw [ga_cls]
  exact He.noat_ok (c.fact i e)
theorem z_srcM (c : He.SaysE fa fn K) {x m q : Str} {st : Stmt} (i j : Nat) (d : fn[i]? = some ⟨(x, some m), m, q, defArgs st, defBody st, defScope st⟩) (e : fa[j]? = some (.meth x m)) : SrcM K (clsOf K x) m q st := by
  obtain ⟨oc, od, osl, kV, doc, pm, an, cdv, ct, l, cc⟩ := c.def_ i d
  have M := He.meth_ok (c.fact j e)
  rw [ga_cls]
  exact ⟨_, _, M, fun_mk l cc M.kp⟩
theorem z_srcI (c : He.SaysE fa fn K) {x q : Str} {st : Stmt} (i j : Nat) (d : fn[i]? = some ⟨(x, some "__init__"), "__init__", q, defArgs st, defBody st, defScope st⟩) (e : fa[j]? = some (.meth x "__init__")) (e2 : fa[j + 1]? = some (.mkr x)) : SrcI K (clsOf K x) q st := by
  obtain ⟨oc, od, osl, kV, doc, pm, an, cdv, ct, l, cc⟩ := c.def_ i d
  have M := He.meth_ok (c.fact j e)
  rw [ga_cls]
  exact ⟨_, _, He.mkr_ok (c.fact (j + 1) e2), fun_mk l cc M.kp⟩
end
end Sh
/-! .. of exceptions -/
namespace Sh
open PySem PySem.Spec PyProof.Rows L2
theorem z_ex {K : PySem.W.Frag} {h : Heap} {mg : Str → Option Value} {fa : List He.Fa} {fn : List He.FnD} (X : K.In h) (G : h.Ns mainGlobals mg) (c : He.SaysE fa fn K) {x : Str} (i : Nat) (e1 : fa[i]? = some (.glo x)) (e2 : fa[i + 1]? = some (.exc x)) (e3 : fa[i + 2]? = some (.exm x x true)) : ExOk K mg x := by
  obtain ⟨a, b, d, e⟩ := He.exc_ok (c.fact (i + 1) e2)
  exact ⟨by rw [ga_cls]; exact He.glo_ok X G (c.fact i e1), by rw [ga_cls]; exact ⟨_, _, _, _, PySem.F.excBase_ValueError, a⟩, by rw [ga_cls]; exact b, by rw [ga_cls]; exact d, by rw [ga_cls]; exact e, by rw [ga_cls]; exact He.exm_ok (c.fact (i + 2) e3)⟩
end Sh
/-! .. of caught exceptions, classes as values -/
namespace Sh
open PySem PySem.Spec PyProof.Rows L2
theorem exvB_ok {K : PySem.W.Frag} {D : Str} {cs : List Str} (h : exvB K D cs = true) : ExvOk K D cs := by
  have g : ∀ x : Str, clsOf K x = He.ga K x := fun _ => ga_cls
  obtain ⟨h1, h⟩ := He.ba h
  obtain ⟨h2, h⟩ := He.ba h
  obtain ⟨h3, h⟩ := He.ba h
  obtain ⟨h4, h⟩ := He.ba h
  obtain ⟨h5, h⟩ := He.ba h
  obtain ⟨h6, h⟩ := He.ba h
  obtain ⟨h7, h⟩ := He.ba h
  obtain ⟨h8, h⟩ := He.ba h
  obtain ⟨h9, h⟩ := He.ba h
  obtain ⟨hA, hB⟩ := He.ba h
  refine ⟨?_, ?_, ?_, ?_, ?_, He.eqO_ok h6, of_decide_eq_true h7, ?_, ?_, fun c hc => ?_, ?_⟩
  · rw [g]; exact h1
  · rw [g]; exact He.eqO_ok h2
  · rw [g]; exact Option.isSome_iff_exists.mp h3
  · rw [g]; exact of_decide_eq_true h4
  · rw [g]; exact He.eqO_ok h5
  · rw [g]; exact of_decide_eq_true h8
  · rw [g]; exact of_decide_eq_true h9
  · rw [g, g]; exact of_decide_eq_true (List.all_eq_true.mp hA c hc)
  · rw [g, g]; exact of_decide_eq_true hB
theorem z_cls {K : PySem.W.Frag} {h : Heap} {mg : Str → Option Value} {fa : List He.Fa} {fn : List He.FnD} (X : K.In h) (G : h.Ns mainGlobals mg) (c : He.SaysE fa fn K) {x : Str} (i : Nat) (e : fa[i]? = some (.glo x)) : mg x = some (.ref (clsOf K x)) := by
  rw [ga_cls]
  exact He.glo_ok X G (c.fact i e)
end Sh
namespace Sh
open PySem PySem.Spec PyProof.Rows L2
open RZ
local macro_rules | `(tactic| walk_at "Zkt") => `(tactic| first | assumption | exact Same.refl _ | ((refine' Same.trans ?a ?b); (case b => assumption); walk_at "Zkt"))
local macro_rules | `(tactic| walk_at "Znum") => `(tactic| first | omega | decide +kernel | assumption | exact p2_pos _)
local macro_rules | `(tactic| walk_at "Zcmul") => `(tactic| first | exact .inr ⟨by decide, by decide⟩ | exact .inl ⟨by decide, by decide⟩ | exact .inl ⟨by omega, by omega⟩ | exact .inr ⟨by omega, by omega⟩)
local macro_rules | `(tactic| walk_at "Zs0") => `(tactic| first
  | with_reducible refine' w_seq ?_
  | with_reducible refine' w_asg ?_
  | ((with_reducible refine' w_var ?vv ?_); (case vv => exact rfl))
  | with_reducible refine' w_c ?_
  | with_reducible refine' w_gname ?_
  | with_reducible refine' w_op ?_
  | with_reducible refine' w_cons ?_
  | with_reducible refine' w_nil ?_
  | with_reducible refine' w_call ?_
  | with_reducible refine' w_cb ?_
  | with_reducible refine' w_test ?_
  | with_reducible refine' w_tB ?_
  | with_reducible refine' w_bl ?_
  | with_reducible refine' w_ret ?_
  | with_reducible refine' w_not ?_
  | with_reducible refine' w_and ?_
  | with_reducible refine' w_or ?_
  | with_reducible refine' w_andv ?_
  | with_reducible refine' w_orv ?_
  | with_reducible refine' w_notv ?_
  | with_reducible refine' w_chain ?_
  | with_reducible refine' w_tup ?_
  | with_reducible refine' w_lst ?_
  | with_reducible refine' w_un ?_
  | with_reducible refine' w_rU ?_
  | with_reducible refine' w_drop ?_
  | with_reducible refine' w_par ?_
  | with_reducible refine' w_two ?_
  | with_reducible refine' w_par3 ?_
  | with_reducible refine' w_three ?_
  | with_reducible refine' w_lenSetU ?_
  | with_reducible refine' w_next ?_
  | with_reducible refine' w_retn ?_
  | ((with_reducible refine' w_aug ?vv ?_); (case vv => exact rfl))
  | with_reducible refine' w_meth ?_
  | with_reducible refine' w_make ?_
  | with_reducible refine' w_fd ?_
  | with_reducible refine' w_sfd ?_
  | with_reducible refine' w_nn ?_)
local macro_rules | `(tactic| walk_at "Zs1") => `(tactic| first | walk_at "Zs0" | with_reducible refine' w_ifs ?_ | with_reducible refine' w_ife ?_)
local macro_rules | `(tactic| walk_at "Zs2") => `(tactic| first
  | with_reducible refine' w_add ?_
  | with_reducible refine' w_addN ?_
  | with_reducible refine' w_sub ?_
  | with_reducible refine' w_con ?_
  | with_reducible refine' w_lt ?_
  | with_reducible refine' w_le ?_
  | with_reducible refine' w_gt ?_
  | with_reducible refine' w_ge ?_
  | with_reducible refine' w_eqi ?_
  | with_reducible refine' w_nei ?_
  | with_reducible refine' w_eqs ?_
  | with_reducible refine' w_nes ?_
  | with_reducible refine' w_neb ?_
  | with_reducible refine' w_eqb ?_
  | ((with_reducible refine' w_lenQTm ?h ?_); (case h => walk_at "Zdq"))
  | ((with_reducible refine' w_lenQT ?h ?_); (case h => walk_at "Zdq"))
  | ((with_reducible refine' w_lenZT ?h ?_); (case h => walk_at "Zdz"))
  | with_reducible refine' w_min2 ?_
  | with_reducible refine' w_max2 ?_
  | with_reducible refine' w_max3 ?_
  | with_reducible refine' w_abs ?_
  | with_reducible refine' w_ipadd ?_
  | with_reducible refine' w_ipaddN ?_
  | ((with_reducible refine' w_mod ?a ?_); (case a => walk_at "Znum"))
  | ((with_reducible refine' w_mul ?a ?_); (case a => walk_at "Zcmul"))
  | ((with_reducible refine' w_mulN ?a ?_); (case a => walk_at "Zcmul"))
  | ((with_reducible refine' w_div1 ?a ?b ?_); (case a => walk_at "Znum"); (case b => walk_at "Znum"))
  | ((with_reducible refine' w_shl1 ?a ?b ?_); (case a => walk_at "Znum"); (case b => walk_at "Znum"))
  | with_reducible refine' w_intb ?_
  | with_reducible refine' w_inti ?_)
local macro_rules | `(tactic| walk_at "Zs3") => `(tactic| first
  | with_reducible refine' w_for ?_
  | with_reducible refine' w_irng1 ?_
  | with_reducible refine' w_irng2 ?_
  | ((with_reducible refine' w_rg1 ?a ?b ?_); (case a => walk_at "Znum"); (case b => walk_at "Znum"))
  | with_reducible refine' w_iany ?_
  | with_reducible refine' w_ienum ?_
  | with_reducible refine' w_izip ?_
  | with_reducible refine' w_izip3 ?_
  | with_reducible refine' w_N ?_
  | with_reducible refine' w_lc ?_
  | ((with_reducible refine' w_wp ?e ?_); (case e => exact rfl))
  | with_reducible refine' w_yes ?_
  | with_reducible refine' w_gsub ?_
  | ((with_reducible refine' w_new ?l ?_); (case l => (simp only [List.length_cons, List.length_nil]; decide)); intro p H' np e hp)
  | with_reducible refine' w_tupN ?_
  | with_reducible refine' w_tm ?_
  | with_reducible refine' w_lstRg ?_
  | with_reducible refine' w_dget ?_
  | with_reducible refine' w_isN ?_
  | with_reducible refine' w_isB ?_
  | with_reducible refine' w_notN ?_
  | with_reducible refine' w_notB ?_
  | with_reducible refine' w_pairs ?_
  | with_reducible refine' w_pnil ?_
  | ((with_reducible refine' w_dnewK ?_); intro p H' np e hp)
  | with_reducible refine' w_m1 ?_
  | with_reducible refine' w_isS ?_
  | with_reducible refine' w_joinRev ?_
  | ((with_reducible refine' w_newN ?l ?_); (case l => (simp only [List.length_cons, List.length_nil]; decide)); intro p H' np e hp)
  | with_reducible refine' w_gnil ?_
  | ((with_reducible refine' w_gtup ?h ?l ?_); (case h => first | assumption | exact SqT.of (by assumption) | exact SqN.t (SqN.of (by assumption)) | exact SqN.t (by assumption)); (case l => exact rfl))
  | with_reducible refine' w_sl ?_
  | with_reducible refine' w_nopart ?_
  | with_reducible refine' w_part ?_
  | with_reducible refine' w_ii ?_
  | with_reducible refine' w_bm ?_
  | with_reducible refine' w_gcons ?_
  | ((with_reducible refine' w_prPast ?h ?_); (case h => walk_at "Zpr"))
  | ((with_reducible refine' w_prHad ?h ?_); (case h => walk_at "Zpr"))
  | ((with_reducible refine' w_prBase ?h ?_); (case h => walk_at "Zpr"))
  | ((with_reducible refine' w_prFresh ?h ?_); (case h => walk_at "Zpr"))
  | ((with_reducible refine' w_prPact ?h ?_); (case h => walk_at "Zpr"); intro vP hvP)
  | ((with_reducible refine' w_mtPr ?h ?n ?_); (case h => walk_at "Zpr"); (case n => decide +kernel))
  | ((with_reducible refine' w_lenPast ?h ?_); (case h => walk_at "Zpr"))
  | ((with_reducible refine' w_tyPast ?h ?_); (case h => walk_at "Zpr"))
  | ((with_reducible refine' w_ptR ?h ?_); (case h => walk_at "Zdq"); intro xR hxR)
  | with_reducible refine' w_ikeys ?_
  | with_reducible refine' w_ckw ?_
  | with_reducible refine' w_din ?_
  | with_reducible refine' w_dpop1 ?_
  | ((with_reducible refine' w_rdHeld ?h ?_); (case h => walk_at "Zrd"))
  | ((with_reducible refine' w_rdTop ?h ?_); (case h => walk_at "Zrd"))
  | ((with_reducible refine' w_rdPact ?h ?_); (case h => walk_at "Zrd"); intro vP hvP)
  | ((with_reducible refine' w_mtRd ?h ?n ?_); (case h => walk_at "Zrd"); (case n => decide +kernel))
  | ((with_reducible refine' w_roPact ?h ?_); (case h => walk_at "Zro"); intro vP hvP)
  | ((with_reducible refine' w_roOne ?h ?_); (case h => walk_at "Zro"))
  | ((with_reducible refine' w_roOther ?h ?_); (case h => walk_at "Zro"))
  | ((with_reducible refine' w_roLine ?h ?_); (case h => walk_at "Zro"))
  | ((with_reducible refine' w_roBack ?h ?_); (case h => walk_at "Zro"))
  | ((with_reducible refine' w_roRow ?h ?_); (case h => walk_at "Zro"))
  | ((with_reducible refine' w_roCame ?h ?_); (case h => walk_at "Zro"))
  | ((with_reducible refine' w_mtRo ?h ?n ?_); (case h => walk_at "Zro"); (case n => decide +kernel))
  | ((with_reducible refine' w_rd0 ?h ?_); (case h => assumption))
  | ((with_reducible refine' w_rd1 ?h ?_); (case h => assumption))
  | ((with_reducible refine' w_rd2 ?h ?_); (case h => assumption))
  | ((with_reducible refine' w_rd3 ?h ?_); (case h => assumption)))
local macro_rules | `(tactic| walk_at "Zix") => `(tactic| first
  | ((with_reducible refine' w_ixl ?h ?e ?_); (case h => first | assumption | exact SqL.of (by assumption)); (case e => exact rfl))
  | ((with_reducible refine' w_ixt ?h ?e ?_); (case h => first | assumption | exact SqT.of (by assumption) | exact SqN.t (SqN.of (by assumption)) | exact SqN.t (by assumption)); (case e => exact rfl)))
local macro_rules | `(tactic| walk_at "Zite") => `(tactic| first
  | ((with_reducible refine' w_itet ?h ?_); (case h => first | exact rfl | exact decide_eq_true (by omega)))
  | ((with_reducible refine' w_itef ?h ?_); (case h => first | exact rfl | exact decide_eq_false (by omega))))
local macro_rules | `(tactic| walk_at "Zpot") => `(tactic| first | assumption | ((refine' pot_mono ?e ?h); (case h => assumption); (case e => walk_at "Zkt")))
local macro_rules | `(tactic| walk_at "Zdp") => `(tactic| first | assumption | exact Dp.int _ | exact Dp.str _ | exact Dp.bl _ | exact Dp.non | ((refine' dp_mono ?e ?h); (case h => assumption); (case e => walk_at "Zkt")) | ((refine' dq_dp ?q); (case q => walk_at "Zdq")))
local macro_rules | `(tactic| walk_at "Zdq") => `(tactic| first | assumption | exact Dq.int _ | exact Dq.str _ | exact Dq.bl _ | exact Dq.non | ((refine' dq_mono ?e ?h); (case h => assumption); (case e => walk_at "Zkt")) | ((refine' dq_mono ?e (dq_ofN ?h)); (case h => assumption); (case e => walk_at "Zkt")))
local macro_rules | `(tactic| walk_at "Zsql") => `(tactic| first | assumption | exact SqL.of (by assumption) | ((refine' Same.seq ?e (SqL.of ?h)); (case h => assumption); (case e => walk_at "Zkt")) | ((refine' Same.seq ?e ?h); (case h => assumption); (case e => walk_at "Zkt")) | ((refine' sx_l ?e (SqL.of ?h)); (case h => assumption); (case e => walk_at "Zkx")) | ((refine' sx_l ?e ?h); (case h => assumption); (case e => walk_at "Zkx")))
local macro_rules | `(tactic| walk_at "Zisi") => `(tactic| first | exact isI_nil | ((refine' isI_cons ?a ?b); (case a => first | exact trivial | omega | (dsimp only; omega)); (case b => walk_at "Zisi")))
local macro_rules | `(tactic| walk_at "Zlen") => `(tactic| (simp only [List.length_cons, List.length_nil]; omega))
local macro_rules | `(tactic| tbr_iter $P) => `(tactic| ((refine' w_ixI $P ?h ?h0 ?h1 ?hx ?_); (case h => walk_at "Zsql"); (case h0 => omega); (case h1 => walk_at "Zlen"); (case hx => walk_at "Zisi")))
local macro_rules | `(tactic| walk_at "Zc") => `(tactic| fail "no call")
local macro_rules | `(tactic| walk_at "Zs") => `(tactic| repeat (first | walk_at "Zs1" | walk_at "Zs2" | walk_at "Zs3" | walk_at "Zix" | walk_at "Zite" | walk_at "Zc"))
local macro_rules | `(tactic| walk_at "Zp") => `(tactic| repeat (first | walk_at "Zs0" | with_reducible refine' w_ife ?_ | walk_at "Zs2" | walk_at "Zs3" | walk_at "Zix" | walk_at "Zite" | walk_at "Zc"))
local macro_rules | `(tactic| walk_at "Zn") => `(tactic| repeat (first | walk_at "Zs1" | walk_at "Zs2" | walk_at "Zs3" | walk_at "Zite" | walk_at "Zc"))
local macro_rules | `(tactic| walk_at "Zkx") => `(tactic| first | assumption | exact Sx.refl _ | exact Same.sx (by assumption) | ((refine' Sx.trans ?a ?b); (case b => first | assumption | exact Same.sx (by assumption)); walk_at "Zkx"))
local macro_rules | `(tactic| walk_at "Zbox") => `(tactic| first | assumption | ((refine' box_mono ?e ?h); (case h => assumption); (case e => walk_at "Zkt")))
local macro_rules | `(tactic| walk_at "Zdx") => `(tactic| first | assumption | exact Dq.int _ | exact Dq.str _ | exact Dq.bl _ | exact Dq.non | ((refine' dqx ?e ?h); (case h => assumption); (case e => walk_at "Zkx")))
local macro_rules | `(tactic| walk_at "Zdz") => `(tactic| first | assumption | exact Dz.int _ | exact Dz.str _ | exact Dz.bl _ | exact Dz.non | ((refine' dz_mono ?e ?h); (case h => assumption); (case e => walk_at "Zkt")) | ((refine' dz_dq ?q); (case q => walk_at "Zdq")) | ((refine' dz_dp ?q); (case q => walk_at "Zdp")))
local macro_rules | `(tactic| walk_at "Zfr") => `(tactic| first | assumption | exact trivial | ((refine' none_sx ?e ?h); (case h => assumption); (case e => walk_at "Zkx")) | ((refine' pres_of ?e ?h); (case h => assumption); (case e => walk_at "Zkx")) | ((refine' And.intro ?l ?r); (case l => walk_at "Zfr"); (case r => walk_at "Zfr")))
local macro_rules | `(tactic| walk_at "Zdt") => `(tactic| first | exact Dz.int _ | exact Dz.str _ | exact Dz.bl _ | exact Dz.non | assumption | ((refine' dzx ?e ?h); (case h => assumption); (case e => walk_at "Zkx")) | ((refine' dzx ?e (dz_to ?h ?t)); (case h => assumption); (case t => first | assumption | exact trivial); (case e => walk_at "Zkx")) | ((refine' dz_tupx ?e ?h ?r); (case h => assumption); (case e => walk_at "Zkx"); (case r => walk_at "Zda")) | ((refine' dz_lstx ?p ?e ?h ?r); (case h => assumption); (case p => walk_at "Zfr"); (case e => walk_at "Zkx"); (case r => walk_at "Zda")) | ((refine' dz_dicx ?p ?e ?h); (case h => assumption); (case p => walk_at "Zfr"); (case e => walk_at "Zkx")))
local macro_rules | `(tactic| walk_at "Zda") => `(tactic| first | exact DzAll.nil | ((refine' DzAll.cons ?a ?b); (case a => walk_at "Zdt"); (case b => walk_at "Zda")) | ((refine' dzsx ?e ?h); (case h => assumption); (case e => walk_at "Zkx")) | ((refine' dzsx ?e (dzs_to ?h ?t)); (case h => assumption); (case t => assumption); (case e => walk_at "Zkx")))
local macro_rules | `(tactic| walk_at "Zq") => `(tactic| repeat (first | walk_at "Zs1" | walk_at "Zs2" | walk_at "Zs3" | walk_at "Zix" | walk_at "Zite"))
local macro_rules | `(tactic| walk_at "Zlen2") => `(tactic| exact Nat.le_of_ble_eq_true rfl)
local macro_rules | `(tactic| tbr_iter ($m, $hB)) => `(tactic| ((refine' bag_cat (m := $m) ?e $hB ?h ?r ?b ?l ?m ?q); (case e => walk_at "Zkx"); (case h => assumption); (case r => walk_at "Zda"); (case b => walk_at "Zbw"); (case l => first | walk_at "Zlen2" | (simp only [List.length_cons, List.length_nil]; omega)); (case m => first | walk_at "Zlen2" | omega)))
local macro_rules | `(tactic| tbr_iter ($m, $hB, $z)) => `(tactic| ((refine' bag_catF (m := $m) ?e $hB ?h ?r ?b ?l ?m ?q); (case e => walk_at "Zkx"); (case h => assumption); (case r => walk_at "Zda"); (case b => walk_at "Zbw"); (case l => first | walk_at "Zlen2" | (simp only [List.length_cons, List.length_nil]; omega)); (case m => first | walk_at "Zlen2" | omega)))
local macro_rules | `(tactic| walk_at "Zpr") => `(tactic| first | assumption | ((refine' pr_same ?e ?h); (case h => assumption); (case e => walk_at "Zkt")) | ((refine' pr_sx ?e ?h); (case h => assumption); (case e => walk_at "Zkx")))
local macro_rules | `(tactic| walk_at "Zv") => `(tactic| repeat (first | walk_at "Zs0" | with_reducible refine' w_ifs ?_ | walk_at "Zs2" | walk_at "Zs3" | walk_at "Zix" | walk_at "Zite" | walk_at "Zc"))
local macro_rules | `(tactic| walk_at "Zrd") => `(tactic| first | assumption | ((refine' rd_same ?e ?h); (case h => assumption); (case e => walk_at "Zkt")) | ((refine' rd_sx ?e ?h); (case h => assumption); (case e => walk_at "Zkx")))
local macro_rules | `(tactic| walk_at "Zro") => `(tactic| first | assumption | ((refine' ro_same ?e ?h); (case h => assumption); (case e => walk_at "Zkt")) | ((refine' ro_sx ?e ?h); (case h => assumption); (case e => walk_at "Zkx")))
def topS (i : Nat) : Stmt := PySem.Challenge.pw_shorthead_k32_presser_refuses.main.body.getD i (.Pass ⟨0, 0, 0, 0⟩)
abbrev s_bits_of : Stmt := topS 2
abbrev s_number_of : Stmt := topS 3
abbrev s_width_for : Stmt := topS 4
abbrev s_rest_of : Stmt := topS 6
abbrev s_windowed : Stmt := topS 7
abbrev s_around : Stmt := topS 8
abbrev s_is_whole : Stmt := topS 10
abbrev s_is_between : Stmt := topS 11
abbrev s_is_value : Stmt := topS 12
abbrev s_is_head : Stmt := topS 13
abbrev s_gone_round : Stmt := topS 14
abbrev s_expected : Stmt := topS 15
abbrev s_check_of : Stmt := topS 16
abbrev s_width_of : Stmt := topS 18
abbrev s_pieces : Stmt := topS 19
abbrev s_size_of : Stmt := topS 20
abbrev s_value_opened : Stmt := topS 21
abbrev s_opened : Stmt := topS 22
abbrev s_first_unlike : Stmt := topS 24
abbrev s_doubt : Stmt := topS 25
abbrev s_sort_width : Stmt := topS 33
abbrev s_check_width : Stmt := topS 34
abbrev s_number_width : Stmt := topS 35
abbrev s_pieces_size : Stmt := topS 36
abbrev s_letter_size : Stmt := topS 37
abbrev s_bits_ahead : Stmt := topS 38
abbrev s_check_bits : Stmt := topS 39
abbrev s_whole_pieces : Stmt := topS 40
abbrev s_whole_letter : Stmt := topS 41
abbrev s_pressed_letter : Stmt := topS 42
abbrev s_greater : Stmt := topS 44
abbrev s_Presser___init__ : Stmt := inClass (topS 45) 0
abbrev s_Presser_sent : Stmt := inClass (topS 45) 1
abbrev s_Presser_known : Stmt := inClass (topS 45) 2
abbrev s_Presser_formers : Stmt := inClass (topS 45) 3
abbrev s_Presser_shared_most : Stmt := inClass (topS 45) 4
abbrev s_Presser_is_shared : Stmt := inClass (topS 45) 5
abbrev s_Presser_least_top : Stmt := inClass (topS 45) 6
abbrev s_Presser_does_count : Stmt := inClass (topS 45) 7
abbrev s_Presser_hindered : Stmt := inClass (topS 45) 8
abbrev s_Presser_why_not : Stmt := inClass (topS 45) 9
abbrev s_Presser_look_at : Stmt := inClass (topS 45) 10
abbrev s_Presser_usable : Stmt := inClass (topS 45) 11
abbrev s_Presser_is_turn_of_whole : Stmt := inClass (topS 45) 12
abbrev s_Presser_chosen : Stmt := inClass (topS 45) 13
abbrev s_Presser_press : Stmt := inClass (topS 45) 14
abbrev s_Presser_is_had : Stmt := inClass (topS 45) 15
abbrev s_Presser_heard : Stmt := inClass (topS 45) 16
abbrev s__law_box : Stmt := topS 47
abbrev s__law_next : Stmt := topS 48
abbrev s__law_of : Stmt := topS 49
abbrev s__law_value : Stmt := topS 50
abbrev s__law_kind : Stmt := topS 51
abbrev s__law_shape : Stmt := topS 52
abbrev s__law_way : Stmt := topS 53
abbrev s__law_form : Stmt := topS 54
abbrev s__law_road : Stmt := topS 55
abbrev s__law_pact : Stmt := topS 56
abbrev s__law_any_head : Stmt := topS 57
abbrev s__law_expected : Stmt := topS 58
abbrev s__law_next_head : Stmt := topS 59
abbrev s__law_word : Stmt := topS 60
abbrev s__law_class : Stmt := topS 61
abbrev s__law_told : Stmt := topS 62
abbrev s__law_no_heads : Stmt := topS 63
abbrev s__law_no_words : Stmt := topS 64
abbrev s__law_refuses : Stmt := topS 65
abbrev s_law : Stmt := topS 66
structure Bi (mg : Str → Option Value) : Prop where
  b_ValueError : mg "ValueError" = none
  b_abs : mg "abs" = none
  b_all : mg "all" = none
  b_bool : mg "bool" = none
  b_divmod : mg "divmod" = none
  b_enumerate : mg "enumerate" = none
  b_int : mg "int" = none
  b_isinstance : mg "isinstance" = none
  b_len : mg "len" = none
  b_list : mg "list" = none
  b_max : mg "max" = none
  b_min : mg "min" = none
  b_range : mg "range" = none
  b_reversed : mg "reversed" = none
  b_str : mg "str" = none
  b_sum : mg "sum" = none
  b_tuple : mg "tuple" = none
  b_zip : mg "zip" = none
  c_SIGNS : ∃ u, mg "SIGNS" = some u ∧ RelV (.str "01") u
structure Kl (K : PySem.W.Frag) (mg : Str → Option Value) : Prop where
  Presser : KlsOk K mg "Presser"
  Presser_fresh_from : NoAttr K (clsOf K "Presser") "fresh_from"
  Presser_base_most : NoAttr K (clsOf K "Presser") "base_most"
  Presser_had_most : NoAttr K (clsOf K "Presser") "had_most"
  Presser_past : NoAttr K (clsOf K "Presser") "past"
  Presser_pact : NoAttr K (clsOf K "Presser") "pact"
  x_NoHead : ExOk K mg "NoHead"
  x_NoMore : ExOk K mg "NoMore"
  x_NoWord : ExOk K mg "NoWord"
  g_HeadError : mg "HeadError" = some (.ref (clsOf K "HeadError"))
  g_NoHead : mg "NoHead" = some (.ref (clsOf K "NoHead"))
  g_NoLetter : mg "NoLetter" = some (.ref (clsOf K "NoLetter"))
  g_NoMore : mg "NoMore" = some (.ref (clsOf K "NoMore"))
  g_NoWord : mg "NoWord" = some (.ref (clsOf K "NoWord"))
  v_NoHead : ExvOk K "NoHead" ["HeadError", "NoHead", "NoLetter", "NoMore", "NoWord"]
  v_NoMore : ExvOk K "NoMore" ["HeadError", "NoHead", "NoLetter", "NoMore", "NoWord"]
  v_NoWord : ExvOk K "NoWord" ["HeadError", "NoHead", "NoLetter", "NoMore", "NoWord"]
def sp_bits_of (W : Wd) : Sp := fun vs H Q _ => match vs with
  | [v_number, v_width] =>
  ∃ (n : Int) (w : Nat), v_number = .int n ∧ v_width = .int (w : Int) ∧ w ≤ 1000 ∧ ∀ H', Same H H' → Q (.str (bitsT n w)) H'
  | _ => False
abbrev N_bits_of : List Str := ["number", "width", "signs", "place", "last"]
theorem sc_bits_of : FnScope N_bits_of ["number", "width"] (defScope s_bits_of) := ⟨rfl, rfl, rfl, by decide +kernel, rfl, by decide +kernel, by decide +kernel⟩
theorem f_bits_of {W : Wd} {mg : Str → Option Value} {base : Heap} (B : Bi mg) {f : Addr} {fd : FuncData} (F : Fun W.K "bits_of" "bits_of" s_bits_of f fd) (T : Kl W.K mg)  : FnOk W.P W.w W.K mg base CX0 1 f fd ["number", "width"] (sp_bits_of W) := by
  obtain ⟨t_SIGNS, hc_SIGNS, rc_SIGNS⟩ := B.c_SIGNS
  have nd := sc_bits_of.nd
  have F0 : FnOk W.P W.w W.K mg base CX0 1 f fd ["number", "width"] (sp_bits_of W) := by
    refine F.ok sc_bits_of (fun vs H Q E h => ?_) (fun cdv A outer s H vs Q E hr h => ?_)
    · match vs, h with | [_, _], _ => rfl
    · match vs, h with
      | [v_number, v_width], h =>
        change sp_bits_of W [v_number, v_width] H Q E at h
        refine ⟨tSeq (tAsg (tLst (tNil)) (gName 2)) (tSeq (tFor (iRng1 (tCons (tVar 1) (tNil))) (gName 3) (tSeq (tAsg (tCB (rDivmod) (tCons (tVar 0) (tCons (tC (.int 2)) (tNil)))) (gTup W.K 2 (gCons (gName 0) (gCons (gName 4) (gNil))))) (tDrop (tBM W.K "list" rAppend (tVar 2) (tCons (tOp (rIxU W.K) (tC (.str "01")) (tVar 4)) (tNil)))))) (tRet (tJoinRev W.K (tC (.str "")) (tVar 2)))), pss_cons (ps_set (i := 2) nd rfl (.inl rfl) (pe_lst (pa_nil))) (pss_cons (ps_for PassesOwn.never rfl (pi_range1 (by rfl) B.b_range (pa_cons (pv 1) (pa_nil))) (pg_name (i := 3) nd rfl (by first | exact Or.inl rfl | exact Or.inr rfl)) (pss_cons (ps_asg (pe_callB call_divmodW (by rfl) B.b_divmod (by decide +kernel) (pa_cons (pv 0) (pa_cons (pe_int) (pa_nil)))) (pg_tup rfl (pgs_cons (pg_name (i := 0) nd rfl (by first | exact Or.inl rfl | exact Or.inr rfl)) (pgs_cons (pg_name (i := 4) nd rfl (by first | exact Or.inl rfl | exact Or.inr rfl)) (pgs_nil))))) (pss_one (ps_expr (pe_bm PySem.F.plainAttrs_list PySem.F.slot_list_append PySem.F.type_list_append mt_append (pv 2) (pa_cons (pe_ix u_ix (pe_glob (by rfl) hc_SIGNS rc_SIGNS) (pv 4) (fun _ _ => rfl)) (pa_nil))))))) (pss_one (ps_ret (pe_joinRev (by rfl) (by rfl) B.b_reversed (pe_str) (pv 2))))), ?_⟩
        clear hr
        rw [show L2.start N_bits_of [v_number, v_width] = [some v_number, some v_width, none, none, none] from rfl]
        obtain ⟨n, w, rfl, rfl, hw, q⟩ := h
        walk_at "Zs"
        rename_i p H1 np e1 h1
        refine forR0 (fun i σ' H' => (∃ y4 y5, σ' = [some (.int (n / 2 ^ i)), some (.int (w : Int)), some (.ref p), y4, y5]) ∧ Same H H' ∧ H' p = some (.lst ((lowB n i).map fun c => V.str ⟨#[c]⟩))) ⟨⟨_, _, by rw [Int.pow_zero, Int.ediv_one]; rfl⟩, e1, h1⟩ (fun i σ' H2 hi h => ?_) (fun σ' H2 h => ?_)
        · obtain ⟨⟨y4, y5, rfl⟩, e2, h2⟩ := h
          walk_at "Zs"
          refine w_divmod2 fun p3 H3 np3 e3 h3 => ?_
          walk_at "Zs"
          refine w_tyL (e3 _ _ h2) ?_
          walk_at "Zs"
          have h01 := sgn_01 n i
          refine w_ixs (by decide) (c := sgn n i) ?_ ?_
          · have hd : n / 2 ^ i % 2 = 0 ∨ n / 2 ^ i % 2 = 1 := by omega
            unfold sgn
            rcases hd with e | e <;> rw [e] <;> rfl
          walk_at "Zs"
          refine w_append (e3 _ _ h2) (by rw [List.length_map, lowB_len]; omega) ?_
          walk_at "Zs"
          have e : n / 2 ^ (i + 1) = n / 2 ^ i / 2 := by
            rw [Int.ediv_ediv_of_nonneg (Int.le_of_lt (Int.pow_pos (by decide))), Int.pow_succ]
          rw [e]
          refine ⟨⟨_, _, rfl⟩, same_mut (e2.trans e3) np, ?_⟩
          · rw [upd_same, lowB_snoc, List.map_append]
            rfl
        · obtain ⟨⟨y4, y5, rfl⟩, e2, h2⟩ := h
          walk_at "Zs"
          refine w_joinR (ys := (lowB n w).map fun c => (⟨#[c]⟩ : Str)) (SqL.of (by rw [h2, List.map_map]; rfl)) ?_ ?_
          · rw [List.map_map]
            have e : ((lowB n w).map ((fun y : Str => y.length) ∘ fun c => (⟨#[c]⟩ : Str))) = (lowB n w).map fun _ => 1 := rfl
            rw [e, List.length_map, lowB_len]
            have e2 : ∀ l : List Nat, (l.map fun _ => 1).sum = l.length := fun l => by
              induction l with
              | nil => rfl
              | cons c r ih => rw [List.map_cons, List.sum_cons, ih, List.length_cons, Nat.add_comm]
            rw [e2, lowB_len]
            show w + w * 0 ≤ _
            omega
          rw [join_ones]
          exact q _ e2
  exact F0
theorem c_bits_of {W : Wd} {mg : Str → Option Value} {base : Heap} (B : Bi mg) (S : Src W.K mg "bits_of" s_bits_of) (T : Kl W.K mg)  : Cal W mg base "bits_of" 1 ["number", "width"] (sp_bits_of W) := by
  obtain ⟨f, fd, g, F⟩ := S
  exact ⟨f, fd, g, f_bits_of B F T , F.kp, (F.binds (ps := ["number", "width"]) fun _ _ _ _ _ _ us hl => match us, hl with | [_, _], _ => rfl)⟩
theorem go_bits_of {W : Wd} {H : Hp} {Q : VK} {E : XK} {n : Int} {w : Nat} (hw : w ≤ 1000) (q : ∀ H', Same H H' → Q (.str (bitsT n w)) H') : sp_bits_of W [.int n, .int (w : Int)] H Q E := ⟨n, w, rfl, rfl, hw, q⟩
def sp_number_of (W : Wd) : Sp := fun vs H Q _ => match vs with
  | [v_bits] =>
  ∃ z, v_bits = .str z ∧ (∀ c ∈ cz z, c = 48 ∨ c = 49) ∧ z.length ≤ 100000 ∧ Q (.int (numT z)) H
  | _ => False
abbrev N_number_of : List Str := ["bits", "number", "sign"]
theorem sc_number_of : FnScope N_number_of ["bits"] (defScope s_number_of) := ⟨rfl, rfl, rfl, by decide +kernel, rfl, by decide +kernel, by decide +kernel⟩
theorem f_number_of {W : Wd} {mg : Str → Option Value} {base : Heap} (B : Bi mg) {f : Addr} {fd : FuncData} (F : Fun W.K "number_of" "number_of" s_number_of f fd) (T : Kl W.K mg)  : FnOk W.P W.w W.K mg base CX0 1 f fd ["bits"] (sp_number_of W) := by
  obtain ⟨t_SIGNS, hc_SIGNS, rc_SIGNS⟩ := B.c_SIGNS
  have nd := sc_number_of.nd
  have F0 : FnOk W.P W.w W.K mg base CX0 1 f fd ["bits"] (sp_number_of W) := by
    refine F.ok sc_number_of (fun vs H Q E h => ?_) (fun cdv A outer s H vs Q E hr h => ?_)
    · match vs, h with | [_], _ => rfl
    · match vs, h with
      | [v_bits], h =>
        change sp_number_of W [v_bits] H Q E at h
        refine ⟨tSeq (tAsg (tC (.int 0)) (gName 1)) (tSeq (tFor (iAny W.K (tVar 0)) (gName 2) (tAsg (tOp (rAddN W.K) (tOp (rMulN W.K) (tC (.int 2)) (tVar 1)) (tM1 rIndexS (tC (.str "01")) (tVar 2))) (gName 1))) (tRet (tVar 1))), pss_cons (ps_set (i := 1) nd rfl (.inl rfl) (pe_int)) (pss_cons (ps_for PassesOwn.never rfl (pi_any (pv 0)) (pg_name (i := 2) nd rfl (by first | exact Or.inl rfl | exact Or.inr rfl)) (pss_one (ps_set (i := 1) nd rfl (.inl rfl) (pe_op u_addN (pe_op u_mulN (pe_int) (pv 1)) (pe_m1 PySem.F.slot_str_index PySem.F.type_str_index mt_indexS (pe_glob (by rfl) hc_SIGNS rc_SIGNS) (pv 2)))))) (pss_one (ps_ret (pv 1)))), ?_⟩
        clear hr
        rw [show L2.start N_number_of [v_bits] = [some v_bits, none, none] from rfl]
        obtain ⟨z, rfl, h01, hz, q⟩ := h
        walk_at "Zs"
        refine w_goS ?_
        refine forS (fun i σ' H' => (∃ y2, σ' = [some (.str z), some (.int (valL ((cz z).take i).reverse)), y2]) ∧ H' = H) ⟨⟨_, rfl⟩, rfl⟩ (fun i c σ' H1 hc h => ?_) (fun σ' H1 h => ?_)
        · obtain ⟨⟨y2, rfl⟩, rfl⟩ := h
          have hc01 := h01 c (List.mem_of_getElem? hc)
          walk_at "Zs"
          refine w_indexS (k := c - 48) ?_ ?_
          · rcases hc01 with rfl | rfl <;> exact ⟨[], by decide +kernel⟩
          walk_at "Zs"
          have e : valL ((cz z).take (i + 1)).reverse = 2 * valL ((cz z).take i).reverse + ((c - 48 : Nat) : Int) := by
            rw [List.take_add_one, hc]
            show valL (((cz z).take i) ++ [c]).reverse = _
            rw [List.reverse_append]
            show ((c : Int) - 48) + 2 * valL ((cz z).take i).reverse = _
            omega
          rw [e]
          exact ⟨⟨_, rfl⟩, rfl⟩
        · obtain ⟨⟨y2, rfl⟩, rfl⟩ := h
          walk_at "Zs"
          have e : valL ((cz z).take z.length).reverse = numT z := by
            rw [List.take_of_length_le (by rw [cz_len]; exact Nat.le_refl _)]
            rfl
          rw [e]
          exact q
  exact F0
theorem c_number_of {W : Wd} {mg : Str → Option Value} {base : Heap} (B : Bi mg) (S : Src W.K mg "number_of" s_number_of) (T : Kl W.K mg)  : Cal W mg base "number_of" 1 ["bits"] (sp_number_of W) := by
  obtain ⟨f, fd, g, F⟩ := S
  exact ⟨f, fd, g, f_number_of B F T , F.kp, (F.binds (ps := ["bits"]) fun _ _ _ _ _ _ us hl => match us, hl with | [_], _ => rfl)⟩
theorem go_number_of {W : Wd} {H : Hp} {Q : VK} {E : XK} {z : Str} (h : ∀ c ∈ cz z, c = 48 ∨ c = 49) (hz : z.length ≤ 100000) (q : Q (.int (numT z)) H) : sp_number_of W [.str z] H Q E := ⟨z, rfl, h, hz, q⟩
def sp_width_for (W : Wd) : Sp := fun vs H Q _ => match vs with
  | [v_many] =>
  ∃ m : Int, v_many = .int m ∧ m ≤ 2 ^ 1000 ∧ ∀ n : Nat, IsW m n → Q (.int (n : Int)) H
  | _ => False
abbrev N_width_for : List Str := ["many", "width"]
theorem sc_width_for : FnScope N_width_for ["many"] (defScope s_width_for) := ⟨rfl, rfl, rfl, by decide +kernel, rfl, by decide +kernel, by decide +kernel⟩
theorem f_width_for {W : Wd} {mg : Str → Option Value} {base : Heap} (B : Bi mg) {f : Addr} {fd : FuncData} (F : Fun W.K "width_for" "width_for" s_width_for f fd) (T : Kl W.K mg)  : FnOk W.P W.w W.K mg base CX0 1 f fd ["many"] (sp_width_for W) := by
  have nd := sc_width_for.nd
  have F0 : FnOk W.P W.w W.K mg base CX0 1 f fd ["many"] (sp_width_for W) := by
    refine F.ok sc_width_for (fun vs H Q E h => ?_) (fun cdv A outer s H vs Q E hr h => ?_)
    · match vs, h with | [_], _ => rfl
    · match vs, h with
      | [v_many], h =>
        change sp_width_for W [v_many] H Q E at h
        refine ⟨tSeq (tAsg (tC (.int 0)) (gName 1)) (tSeq (tWhile (tTest (tOp (rLtU W.K) (tOp (rShlU) (tC (.int 1)) (tVar 1)) (tVar 0))) (tAug 1 (tC (.int 1)) (ipAddN W.K))) (tRet (tVar 1))), pss_cons (ps_set (i := 1) nd rfl (.inl rfl) (pe_int)) (pss_cons (ps_while PassesOwn.never (pt_cmpR u_lt (pe_op u_shl (pe_int) (pv 1)) (pv 0) (nomark _)) (pss_one (ps_aug (i := 1) nd rfl (.inl rfl) (pe_int) ip_addN))) (pss_one (ps_ret (pv 1)))), ?_⟩
        clear hr
        rw [show L2.start N_width_for [v_many] = [some v_many, none] from rfl]
        obtain ⟨m, rfl, hm, q⟩ := h
        walk_at "Zs"
        refine w_while (fun k σ' H' => ∃ n : Nat, σ' = [some (.int m), some (.int n)] ∧ H' = H ∧ (∀ u : Nat, u < n → (2 : Int) ^ u < m) ∧ k + n = 1001 ∧ n ≤ 1001) 1001 ⟨0, rfl, rfl, fun u hu => by omega, rfl, by omega⟩ ?_
        rintro k σ' H' ⟨n, rfl, rfl, hu, hk, hn⟩
        walk_at "Zs"
        refine w_dec (fun hlt => ?_) (fun hge => ?_)
        · have hlt2 : (2 : Int) ^ n < m := hlt
          have hn1 : n < 1000 := pow_lt_of (Int.lt_of_lt_of_le hlt2 hm)
          walk_at "Zs"
          refine ⟨k - 1, by omega, n + 1, rfl, rfl, fun u h1 => ?_, by omega, by omega⟩
          by_cases e : u = n
          · subst e
            exact hlt2
          · exact hu u (by omega)
        · walk_at "Zs"
          exact q n ⟨Int.not_lt.mp hge, hu⟩
  exact F0
theorem c_width_for {W : Wd} {mg : Str → Option Value} {base : Heap} (B : Bi mg) (S : Src W.K mg "width_for" s_width_for) (T : Kl W.K mg)  : Cal W mg base "width_for" 1 ["many"] (sp_width_for W) := by
  obtain ⟨f, fd, g, F⟩ := S
  exact ⟨f, fd, g, f_width_for B F T , F.kp, (F.binds (ps := ["many"]) fun _ _ _ _ _ _ us hl => match us, hl with | [_], _ => rfl)⟩
theorem go_width_for {W : Wd} {H : Hp} {Q : VK} {E : XK} {m : Int} (hm : m ≤ 2 ^ 1000) (k : ∀ n : Nat, IsW m n → Q (.int (n : Int)) H) : sp_width_for W [.int m] H Q E := ⟨m, rfl, hm, k⟩
local macro_rules | `(tactic| walk_at "Zc") => `(tactic| ((with_reducible refine' go_width_for ?hm ?_); (case hm => first | exact Int.le_trans (b := 2 ^ 200) (by omega) (by decide))))
theorem mod_rest (n P : Int) : (n - n % P) % P = 0 := by
  have e : n - n % P = P * (n / P) := by
    have := Int.mul_ediv_add_emod n P
    omega
  rw [e]
  exact Int.mul_emod_right P _
def sp_rest_of (W : Wd) : Sp := fun vs H Q _ => match vs with
  | [v_number, v_width] =>
  ∃ n w : Int, v_number = .int n ∧ v_width = .int w ∧ 0 ≤ w ∧ w ≤ 1000000 ∧ Q (.int (n % p2 w)) H
  | _ => False
abbrev N_rest_of : List Str := ["number", "width"]
theorem sc_rest_of : FnScope N_rest_of ["number", "width"] (defScope s_rest_of) := ⟨rfl, rfl, rfl, by decide +kernel, rfl, by decide +kernel, by decide +kernel⟩
theorem f_rest_of {W : Wd} {mg : Str → Option Value} {base : Heap} (B : Bi mg) {f : Addr} {fd : FuncData} (F : Fun W.K "rest_of" "rest_of" s_rest_of f fd) (T : Kl W.K mg)  : FnOk W.P W.w W.K mg base CX0 1 f fd ["number", "width"] (sp_rest_of W) := by
  have nd := sc_rest_of.nd
  have F0 : FnOk W.P W.w W.K mg base CX0 1 f fd ["number", "width"] (sp_rest_of W) := by
    refine F.ok sc_rest_of (fun vs H Q E h => ?_) (fun cdv A outer s H vs Q E hr h => ?_)
    · match vs, h with | [_, _], _ => rfl
    · match vs, h with
      | [v_number, v_width], h =>
        change sp_rest_of W [v_number, v_width] H Q E at h
        refine ⟨tRet (tOp (rModU) (tVar 0) (tOp (rShlU) (tC (.int 1)) (tVar 1))), pss_one (ps_ret (pe_op u_mod (pv 0) (pe_op u_shl (pe_int) (pv 1)))), ?_⟩
        clear hr
        rw [show L2.start N_rest_of [v_number, v_width] = [some v_number, some v_width] from rfl]
        obtain ⟨n, w, rfl, rfl, h0, h1, q⟩ := h
        walk_at "Zs"
        exact q
  exact F0
theorem c_rest_of {W : Wd} {mg : Str → Option Value} {base : Heap} (B : Bi mg) (S : Src W.K mg "rest_of" s_rest_of) (T : Kl W.K mg)  : Cal W mg base "rest_of" 1 ["number", "width"] (sp_rest_of W) := by
  obtain ⟨f, fd, g, F⟩ := S
  exact ⟨f, fd, g, f_rest_of B F T , F.kp, (F.binds (ps := ["number", "width"]) fun _ _ _ _ _ _ us hl => match us, hl with | [_, _], _ => rfl)⟩
theorem go_rest_of {W : Wd} {H : Hp} {Q : VK} {E : XK} {n w : Int} (h0 : 0 ≤ w) (h1 : w ≤ 1000000) (q : ∀ r, r = n % p2 w → 0 ≤ r → r < p2 w → (n - r) % p2 w = 0 → Q (.int r) H) : sp_rest_of W [.int n, .int w] H Q E :=
  ⟨n, w, rfl, rfl, h0, h1, q _ rfl (Int.emod_nonneg _ (Int.ne_of_gt (p2_pos w))) (Int.emod_lt_of_pos _ (p2_pos w)) (mod_rest _ _)⟩
local macro_rules | `(tactic| walk_at "Zc") => `(tactic| ((with_reducible refine' go_rest_of ?h0 ?h1 ?_); (case h0 => walk_at "Znum"); (case h1 => walk_at "Znum"); intro r e h0 h1 h2))
theorem win_rest (l r P : Int) : (l + (r - l) % P - r) % P = 0 := by
  have e : l + (r - l) % P - r = P * (-((r - l) / P)) := by
    have := Int.mul_ediv_add_emod (r - l) P
    rw [Int.mul_neg]
    omega
  rw [e]
  exact Int.mul_emod_right P _
def sp_windowed (W : Wd) : Sp := fun vs H Q _ => match vs with
  | [v_least, v_rest, v_width] =>
  ∃ l r w : Int, v_least = .int l ∧ v_rest = .int r ∧ v_width = .int w ∧ 0 ≤ w ∧ w ≤ 1000000 ∧ Q (.int (l + (r - l) % p2 w)) H
  | _ => False
abbrev N_windowed : List Str := ["least", "rest", "width"]
theorem sc_windowed : FnScope N_windowed ["least", "rest", "width"] (defScope s_windowed) := ⟨rfl, rfl, rfl, by decide +kernel, rfl, by decide +kernel, by decide +kernel⟩
theorem f_windowed {W : Wd} {mg : Str → Option Value} {base : Heap} (B : Bi mg) {f : Addr} {fd : FuncData} (F : Fun W.K "windowed" "windowed" s_windowed f fd) (T : Kl W.K mg) (C_rest_of : Cal W mg base "rest_of" 1 ["number", "width"] (sp_rest_of W)) : FnOk W.P W.w W.K mg base CX0 2 f fd ["least", "rest", "width"] (sp_windowed W) := by
  obtain ⟨a_rest_of, d_rest_of, g_rest_of, F_rest_of, k_rest_of, b_rest_of⟩ := C_rest_of
  have nd := sc_windowed.nd
  have F0 : FnOk W.P W.w W.K mg base CX0 2 f fd ["least", "rest", "width"] (sp_windowed W) := by
    refine F.ok sc_windowed (fun vs H Q E h => ?_) (fun cdv A outer s H vs Q E hr h => ?_)
    · match vs, h with | [_, _, _], _ => rfl
    · match vs, h with
      | [v_least, v_rest, v_width], h =>
        change sp_windowed W [v_least, v_rest, v_width] H Q E at h
        refine ⟨tRet (tOp (rAddN W.K) (tVar 0) (tCall (sp_rest_of W) [] E0 (tCons (tOp (rSubU) (tVar 1) (tVar 0)) (tCons (tVar 2) (tNil))))), pss_one (ps_ret (pe_op u_addN (pv 0) (pe_call F_rest_of (hr.mono (by decide)) (by rfl) g_rest_of k_rest_of b_rest_of .nil pass0 (pa_cons (pe_op u_sub (pv 1) (pv 0)) (pa_cons (pv 2) (pa_nil)))))), ?_⟩
        clear hr
        clear F_rest_of g_rest_of k_rest_of b_rest_of d_rest_of a_rest_of
        rw [show L2.start N_windowed [v_least, v_rest, v_width] = [some v_least, some v_rest, some v_width] from rfl]
        obtain ⟨l, r, w, rfl, rfl, rfl, h0, h1, q⟩ := h
        walk_at "Zs"
        rename_i m e m0 m1 m2
        subst e
        exact q
  exact F0
theorem c_windowed {W : Wd} {mg : Str → Option Value} {base : Heap} (B : Bi mg) (S : Src W.K mg "windowed" s_windowed) (T : Kl W.K mg) (C_rest_of : Cal W mg base "rest_of" 1 ["number", "width"] (sp_rest_of W)) : Cal W mg base "windowed" 2 ["least", "rest", "width"] (sp_windowed W) := by
  obtain ⟨f, fd, g, F⟩ := S
  exact ⟨f, fd, g, f_windowed B F T C_rest_of, F.kp, (F.binds (ps := ["least", "rest", "width"]) fun _ _ _ _ _ _ us hl => match us, hl with | [_, _, _], _ => rfl)⟩
theorem go_windowed {W : Wd} {H : Hp} {Q : VK} {E : XK} {l r w : Int} (h0 : 0 ≤ w) (h1 : w ≤ 1000000) (q : ∀ f, f = l + (r - l) % p2 w → l ≤ f → f < l + p2 w → (f - r) % p2 w = 0 → Q (.int f) H) : sp_windowed W [.int l, .int r, .int w] H Q E := by
  have a := Int.emod_nonneg (r - l) (Int.ne_of_gt (p2_pos w))
  have b := Int.emod_lt_of_pos (r - l) (p2_pos w)
  exact ⟨l, r, w, rfl, rfl, rfl, h0, h1, q _ rfl (by omega) (by omega) (win_rest _ _ _)⟩
local macro_rules | `(tactic| walk_at "Zc") => `(tactic| ((with_reducible refine' go_windowed ?h0 ?h1 ?_); (case h0 => walk_at "Znum"); (case h1 => walk_at "Znum"); intro f e h0 h1 h2))
theorem p2_add {a b : Int} (ha : 0 ≤ a) (hb : 0 ≤ b) : p2 (a + b) = p2 a * p2 b := by
  have e : (a + b).toNat = a.toNat + b.toNat := by omega
  show (2 : Int) ^ (a + b).toNat = 2 ^ a.toNat * 2 ^ b.toNat
  rw [e, Int.pow_add]
theorem p2_dvd {a b : Int} (ha : 0 ≤ a) (hb : a ≤ b) : p2 a ∣ p2 b := by
  have e : p2 b = p2 a * p2 (b - a) := by
    rw [← p2_add ha (by omega)]
    congr 1
    omega
  exact ⟨_, e⟩
/-- what a base tells by a window that begins below ahead of it -/
def arnd (w base below rest wd : Int) : Int := (base - below + (rest - (base - below)) % p2 wd) % p2 w
theorem arnd_bd (w base below rest wd : Int) : 0 ≤ arnd w base below rest wd ∧ arnd w base below rest wd < p2 w :=
  ⟨Int.emod_nonneg _ (Int.ne_of_gt (p2_pos w)), Int.emod_lt_of_pos _ (p2_pos w)⟩
theorem arnd_rest {w base below rest wd : Int} (h0 : 0 ≤ wd) (h1 : wd ≤ w) : (arnd w base below rest wd - rest) % p2 wd = 0 := by
  obtain ⟨c, hc⟩ := p2_dvd h0 h1
  have a := Int.mul_ediv_add_emod (base - below + (rest - (base - below)) % p2 wd) (p2 w)
  have b := Int.mul_ediv_add_emod (rest - (base - below)) (p2 wd)
  have e : arnd w base below rest wd - rest = p2 wd * (-((rest - (base - below)) / p2 wd) - c * ((base - below + (rest - (base - below)) % p2 wd) / p2 w)) := by
    have z : p2 w * ((base - below + (rest - (base - below)) % p2 wd) / p2 w) = p2 wd * (c * ((base - below + (rest - (base - below)) % p2 wd) / p2 w)) := by rw [hc, Int.mul_assoc]
    show (base - below + (rest - (base - below)) % p2 wd) % p2 w - rest = _
    rw [Int.mul_sub, Int.mul_neg]
    omega
  rw [e]
  exact Int.mul_emod_right _ _
theorem p2_mono {a b : Int} (h1 : a ≤ b) : p2 a ≤ p2 b := p2_le h1
theorem arnd_win {w base below rest wd : Int} (h1 : wd ≤ w) : (arnd w base below rest wd - base + below) % p2 w = (rest - (base - below)) % p2 wd := by
  have a := Int.mul_ediv_add_emod (base - below + (rest - (base - below)) % p2 wd) (p2 w)
  have b0 := Int.emod_nonneg (rest - (base - below)) (Int.ne_of_gt (p2_pos wd))
  have b1 := Int.emod_lt_of_pos (rest - (base - below)) (p2_pos wd)
  have b2 := p2_mono h1
  have e : arnd w base below rest wd - base + below = (rest - (base - below)) % p2 wd + p2 w * (-((base - below + (rest - (base - below)) % p2 wd) / p2 w)) := by
    show (base - below + (rest - (base - below)) % p2 wd) % p2 w - base + below = _
    rw [Int.mul_neg]
    omega
  rw [e, Int.add_mul_emod_self_left]
  exact Int.emod_eq_of_lt b0 (by omega)
theorem arnd_self {w base below rest wd : Int} (hr : rest = base % p2 wd) (h0 : 0 ≤ below) (h1 : below < p2 wd) (h2 : 0 ≤ base) (h3 : base < p2 w) : arnd w base below rest wd = base := by
  have b := Int.mul_ediv_add_emod base (p2 wd)
  have e : rest - (base - below) = below + p2 wd * (-(base / p2 wd)) := by
    rw [Int.mul_neg]
    omega
  have e2 : (rest - (base - below)) % p2 wd = below := by
    rw [e, Int.add_mul_emod_self_left]
    exact Int.emod_eq_of_lt h0 h1
  unfold arnd
  rw [e2]
  have e3 : base - below + below = base := by omega
  rw [e3]
  exact Int.emod_eq_of_lt h2 h3
def sp_around (W : Wd) : Sp := fun vs H Q _ => match vs with
  | [v_w, v_base, v_below, v_rest, v_width] =>
  ∃ w base below rest wd : Int, v_w = .int w ∧ v_base = .int base ∧ v_below = .int below ∧ v_rest = .int rest ∧ v_width = .int wd ∧ 0 ≤ wd ∧ 0 ≤ w ∧ wd ≤ 1000000 ∧ w ≤ 1000000 ∧ Q (.int (arnd w base below rest wd)) H
  | _ => False
abbrev N_around : List Str := ["w", "base", "below", "rest", "width"]
theorem sc_around : FnScope N_around ["w", "base", "below", "rest", "width"] (defScope s_around) := ⟨rfl, rfl, rfl, by decide +kernel, rfl, by decide +kernel, by decide +kernel⟩
theorem f_around {W : Wd} {mg : Str → Option Value} {base : Heap} (B : Bi mg) {f : Addr} {fd : FuncData} (F : Fun W.K "around" "around" s_around f fd) (T : Kl W.K mg) (C_windowed : Cal W mg base "windowed" 2 ["least", "rest", "width"] (sp_windowed W)) (C_rest_of : Cal W mg base "rest_of" 1 ["number", "width"] (sp_rest_of W)) : FnOk W.P W.w W.K mg base CX0 3 f fd ["w", "base", "below", "rest", "width"] (sp_around W) := by
  obtain ⟨a_windowed, d_windowed, g_windowed, F_windowed, k_windowed, b_windowed⟩ := C_windowed
  obtain ⟨a_rest_of, d_rest_of, g_rest_of, F_rest_of, k_rest_of, b_rest_of⟩ := C_rest_of
  have nd := sc_around.nd
  have F0 : FnOk W.P W.w W.K mg base CX0 3 f fd ["w", "base", "below", "rest", "width"] (sp_around W) := by
    refine F.ok sc_around (fun vs H Q E h => ?_) (fun cdv A outer s H vs Q E hr h => ?_)
    · match vs, h with | [_, _, _, _, _], _ => rfl
    · match vs, h with
      | [v_w, v_base, v_below, v_rest, v_width], h =>
        change sp_around W [v_w, v_base, v_below, v_rest, v_width] H Q E at h
        refine ⟨tRet (tCall (sp_rest_of W) [] E0 (tCons (tCall (sp_windowed W) [] E0 (tCons (tOp (rSubU) (tVar 1) (tVar 2)) (tCons (tVar 3) (tCons (tVar 4) (tNil))))) (tCons (tVar 0) (tNil)))), pss_one (ps_ret (pe_call F_rest_of (hr.mono (by decide)) (by rfl) g_rest_of k_rest_of b_rest_of .nil pass0 (pa_cons (pe_call F_windowed (hr.mono (by decide)) (by rfl) g_windowed k_windowed b_windowed .nil pass0 (pa_cons (pe_op u_sub (pv 1) (pv 2)) (pa_cons (pv 3) (pa_cons (pv 4) (pa_nil))))) (pa_cons (pv 0) (pa_nil))))), ?_⟩
        clear hr
        clear F_windowed g_windowed k_windowed b_windowed d_windowed a_windowed
        clear F_rest_of g_rest_of k_rest_of b_rest_of d_rest_of a_rest_of
        rw [show L2.start N_around [v_w, v_base, v_below, v_rest, v_width] = [some v_w, some v_base, some v_below, some v_rest, some v_width] from rfl]
        obtain ⟨w, base, below, rest, wd, rfl, rfl, rfl, rfl, rfl, h0, h1, h2, h3, q⟩ := h
        walk_at "Zs"
        rename_i f e _ _ _ r e2 _ _ _
        subst e
        subst e2
        exact q
  exact F0
theorem c_around {W : Wd} {mg : Str → Option Value} {base : Heap} (B : Bi mg) (S : Src W.K mg "around" s_around) (T : Kl W.K mg) (C_windowed : Cal W mg base "windowed" 2 ["least", "rest", "width"] (sp_windowed W)) (C_rest_of : Cal W mg base "rest_of" 1 ["number", "width"] (sp_rest_of W)) : Cal W mg base "around" 3 ["w", "base", "below", "rest", "width"] (sp_around W) := by
  obtain ⟨f, fd, g, F⟩ := S
  exact ⟨f, fd, g, f_around B F T C_windowed C_rest_of, F.kp, (F.binds (ps := ["w", "base", "below", "rest", "width"]) fun _ _ _ _ _ _ us hl => match us, hl with | [_, _, _, _, _], _ => rfl)⟩
theorem go_around {W : Wd} {H : Hp} {Q : VK} {E : XK} {w base below rest wd : Int} (h0 : 0 ≤ wd) (h1 : 0 ≤ w) (h2 : wd ≤ 1000000) (h3 : w ≤ 1000000) (q : ∀ f, f = arnd w base below rest wd → 0 ≤ f → f < p2 w → Q (.int f) H) : sp_around W [.int w, .int base, .int below, .int rest, .int wd] H Q E :=
  ⟨w, base, below, rest, wd, rfl, rfl, rfl, rfl, rfl, h0, h1, h2, h3, q _ rfl (arnd_bd _ _ _ _ _).1 (arnd_bd _ _ _ _ _).2⟩
local macro_rules | `(tactic| walk_at "Zc") => `(tactic| ((with_reducible refine' go_around ?h0 ?h1 ?h2 ?h3 ?_); (case h0 => walk_at "Znum"); (case h1 => walk_at "Znum"); (case h2 => walk_at "Znum"); (case h3 => walk_at "Znum"); intro f e h0 h1))
def sp_is_whole (W : Wd) : Sp := fun vs H Q _ => match vs with
  | [v_thing] =>
  ∃ d, Dz W.K Ever H v_thing d ∧ Q (.bl (isIntD d)) H
  | _ => False
abbrev N_is_whole : List Str := ["thing"]
theorem sc_is_whole : FnScope N_is_whole ["thing"] (defScope s_is_whole) := ⟨rfl, rfl, rfl, by decide +kernel, rfl, by decide +kernel, by decide +kernel⟩
theorem f_is_whole {W : Wd} {mg : Str → Option Value} {base : Heap} (B : Bi mg) {f : Addr} {fd : FuncData} (F : Fun W.K "is_whole" "is_whole" s_is_whole f fd) (T : Kl W.K mg)  : FnOk W.P W.w W.K mg base CX0 1 f fd ["thing"] (sp_is_whole W) := by
  have nd := sc_is_whole.nd
  have F0 : FnOk W.P W.w W.K mg base CX0 1 f fd ["thing"] (sp_is_whole W) := by
    refine F.ok sc_is_whole (fun vs H Q E h => ?_) (fun cdv A outer s H vs Q E hr h => ?_)
    · match vs, h with | [_], _ => rfl
    · match vs, h with
      | [v_thing], h =>
        change sp_is_whole W [v_thing] H Q E at h
        refine ⟨tRet (tAndV (tCB (rIsi W.K) (tCons (tVar 0) (tCons (tC (.ty "int")) tNil))) (tNotV (tCB (rIsi W.K) (tCons (tVar 0) (tCons (tC (.ty "bool")) tNil))))), pss_one (ps_ret (pe_and (pe_callB call_isi (by rfl) B.b_isinstance (by decide +kernel) (pa_cons (pv 0) (pa_cons (pe_bltn (v := .ty "int") (u := .type "int") (by rfl) B.b_int (by decide +kernel) rfl) pa_nil))) (pe_one (pe_not (pe_callB call_isi (by rfl) B.b_isinstance (by decide +kernel) (pa_cons (pv 0) (pa_cons (pe_bltn (v := .ty "bool") (u := .type "bool") (by rfl) B.b_bool (by decide +kernel) rfl) pa_nil))))))), ?_⟩
        clear hr
        rw [show L2.start N_is_whole [v_thing] = [some v_thing] from rfl]
        obtain ⟨d, hd, q⟩ := h
        walk_at "Zs"
        refine w_isintz hd ?_
        cases d with
        | int i =>
          walk_at "Zs"
          refine w_isboolz hd ?_
          walk_at "Zs"
          exact q
        | bool b =>
          walk_at "Zs"
          refine w_isboolz hd ?_
          walk_at "Zs"
          exact q
        | _ =>
          walk_at "Zs"
          exact q
  exact F0
theorem c_is_whole {W : Wd} {mg : Str → Option Value} {base : Heap} (B : Bi mg) (S : Src W.K mg "is_whole" s_is_whole) (T : Kl W.K mg)  : Cal W mg base "is_whole" 1 ["thing"] (sp_is_whole W) := by
  obtain ⟨f, fd, g, F⟩ := S
  exact ⟨f, fd, g, f_is_whole B F T , F.kp, (F.binds (ps := ["thing"]) fun _ _ _ _ _ _ us hl => match us, hl with | [_], _ => rfl)⟩
theorem go_is_whole {W : Wd} {H : Hp} {Q : VK} {E : XK} {v : V} {d : PyData} (hd : Dz W.K Ever H v d) (k : Q (.bl (isIntD d)) H) : sp_is_whole W [v] H Q E := ⟨d, hd, k⟩
local macro_rules | `(tactic| walk_at "Zc") => `(tactic| ((with_reducible refine' go_is_whole ?hd ?_); (case hd => walk_at "Zdz")))
def sp_is_between (W : Wd) : Sp := fun vs H Q _ => match vs with
  | [v_thing, v_least, v_most] =>
  ∃ (d : PyData) (lo hi : Int), Dz W.K Ever H v_thing d ∧ v_least = .int lo ∧ v_most = .int hi ∧ Q (.bl (betwD lo hi d)) H
  | _ => False
abbrev N_is_between : List Str := ["thing", "least", "most"]
theorem sc_is_between : FnScope N_is_between ["thing", "least", "most"] (defScope s_is_between) := ⟨rfl, rfl, rfl, by decide +kernel, rfl, by decide +kernel, by decide +kernel⟩
theorem f_is_between {W : Wd} {mg : Str → Option Value} {base : Heap} (B : Bi mg) {f : Addr} {fd : FuncData} (F : Fun W.K "is_between" "is_between" s_is_between f fd) (T : Kl W.K mg) (C_is_whole : Cal W mg base "is_whole" 1 ["thing"] (sp_is_whole W)) : FnOk W.P W.w W.K mg base CX0 2 f fd ["thing", "least", "most"] (sp_is_between W) := by
  obtain ⟨a_is_whole, d_is_whole, g_is_whole, F_is_whole, k_is_whole, b_is_whole⟩ := C_is_whole
  have nd := sc_is_between.nd
  have F0 : FnOk W.P W.w W.K mg base CX0 2 f fd ["thing", "least", "most"] (sp_is_between W) := by
    refine F.ok sc_is_between (fun vs H Q E h => ?_) (fun cdv A outer s H vs Q E hr h => ?_)
    · match vs, h with | [_, _, _], _ => rfl
    · match vs, h with
      | [v_thing, v_least, v_most], h =>
        change sp_is_between W [v_thing, v_least, v_most] H Q E at h
        refine ⟨tRet (tAndV (tCall (sp_is_whole W) [] E0 (tCons (tVar 0) (tNil))) (tChain (rLeU) (rLeU) (tVar 1) (tVar 0) (tVar 2))), pss_one (ps_ret (pe_and (pe_call F_is_whole (hr.mono (by decide)) (by rfl) g_is_whole k_is_whole b_is_whole .nil pass0 (pa_cons (pv 0) (pa_nil))) (pe_one (pe_chain u_le u_le (pv 1) (pv 0) (pv 2))))), ?_⟩
        clear hr
        clear F_is_whole g_is_whole k_is_whole b_is_whole d_is_whole a_is_whole
        rw [show L2.start N_is_between [v_thing, v_least, v_most] = [some v_thing, some v_least, some v_most] from rfl]
        obtain ⟨d, lo, hi, hd, rfl, rfl, q⟩ := h
        walk_at "Zs"
        cases d with
        | int i =>
          obtain rfl := dz_int hd
          walk_at "Zs"
          have e : betwD lo hi (.int i) = (decide (lo ≤ i) && decide (i ≤ hi)) := rfl
          rw [e] at q
          cases c : decide (lo ≤ i) with
          | true =>
            rw [c, Bool.true_and] at q
            walk_at "Zs"
            exact q
          | false =>
            rw [c, Bool.false_and] at q
            walk_at "Zs"
            exact q
        | _ =>
          walk_at "Zs"
          exact q
  exact F0
theorem c_is_between {W : Wd} {mg : Str → Option Value} {base : Heap} (B : Bi mg) (S : Src W.K mg "is_between" s_is_between) (T : Kl W.K mg) (C_is_whole : Cal W mg base "is_whole" 1 ["thing"] (sp_is_whole W)) : Cal W mg base "is_between" 2 ["thing", "least", "most"] (sp_is_between W) := by
  obtain ⟨f, fd, g, F⟩ := S
  exact ⟨f, fd, g, f_is_between B F T C_is_whole, F.kp, (F.binds (ps := ["thing", "least", "most"]) fun _ _ _ _ _ _ us hl => match us, hl with | [_, _, _], _ => rfl)⟩
theorem go_is_between {W : Wd} {H : Hp} {Q : VK} {E : XK} {v : V} {d : PyData} {lo hi : Int} (hd : Dz W.K Ever H v d) (q : Q (.bl (betwD lo hi d)) H) : sp_is_between W [v, .int lo, .int hi] H Q E := ⟨d, lo, hi, hd, rfl, rfl, q⟩
local macro_rules | `(tactic| walk_at "Zc") => `(tactic| ((with_reducible refine' go_is_between ?hd ?_); (case hd => walk_at "Zdz")))
def sp_is_value (W : Wd) : Sp := fun vs H Q _ => match vs with
  | [v_thing, v_breadth] =>
  ∃ (d : PyData) (b : Int), Dz W.K Ever H v_thing d ∧ v_breadth = .int b ∧ 0 ≤ b ∧ b ≤ 60 ∧ Q (.bl (betwD 0 (p2 b - 1) d)) H
  | _ => False
abbrev N_is_value : List Str := ["thing", "breadth"]
theorem sc_is_value : FnScope N_is_value ["thing", "breadth"] (defScope s_is_value) := ⟨rfl, rfl, rfl, by decide +kernel, rfl, by decide +kernel, by decide +kernel⟩
theorem f_is_value {W : Wd} {mg : Str → Option Value} {base : Heap} (B : Bi mg) {f : Addr} {fd : FuncData} (F : Fun W.K "is_value" "is_value" s_is_value f fd) (T : Kl W.K mg) (C_is_between : Cal W mg base "is_between" 2 ["thing", "least", "most"] (sp_is_between W)) : FnOk W.P W.w W.K mg base CX0 3 f fd ["thing", "breadth"] (sp_is_value W) := by
  obtain ⟨a_is_between, d_is_between, g_is_between, F_is_between, k_is_between, b_is_between⟩ := C_is_between
  have nd := sc_is_value.nd
  have F0 : FnOk W.P W.w W.K mg base CX0 3 f fd ["thing", "breadth"] (sp_is_value W) := by
    refine F.ok sc_is_value (fun vs H Q E h => ?_) (fun cdv A outer s H vs Q E hr h => ?_)
    · match vs, h with | [_, _], _ => rfl
    · match vs, h with
      | [v_thing, v_breadth], h =>
        change sp_is_value W [v_thing, v_breadth] H Q E at h
        refine ⟨tRet (tCall (sp_is_between W) [] E0 (tCons (tVar 0) (tCons (tC (.int 0)) (tCons (tOp (rSubU) (tOp (rShlU) (tC (.int 1)) (tVar 1)) (tC (.int 1))) (tNil))))), pss_one (ps_ret (pe_call F_is_between (hr.mono (by decide)) (by rfl) g_is_between k_is_between b_is_between .nil pass0 (pa_cons (pv 0) (pa_cons (pe_int) (pa_cons (pe_op u_sub (pe_op u_shl (pe_int) (pv 1)) (pe_int)) (pa_nil)))))), ?_⟩
        clear hr
        clear F_is_between g_is_between k_is_between b_is_between d_is_between a_is_between
        rw [show L2.start N_is_value [v_thing, v_breadth] = [some v_thing, some v_breadth] from rfl]
        obtain ⟨d, b, hd, rfl, b0, b1, q⟩ := h
        walk_at "Zs"
        exact q
  exact F0
theorem c_is_value {W : Wd} {mg : Str → Option Value} {base : Heap} (B : Bi mg) (S : Src W.K mg "is_value" s_is_value) (T : Kl W.K mg) (C_is_between : Cal W mg base "is_between" 2 ["thing", "least", "most"] (sp_is_between W)) : Cal W mg base "is_value" 3 ["thing", "breadth"] (sp_is_value W) := by
  obtain ⟨f, fd, g, F⟩ := S
  exact ⟨f, fd, g, f_is_value B F T C_is_between, F.kp, (F.binds (ps := ["thing", "breadth"]) fun _ _ _ _ _ _ us hl => match us, hl with | [_, _], _ => rfl)⟩
theorem go_is_value {W : Wd} {H : Hp} {Q : VK} {E : XK} {v : V} {d : PyData} {b : Int} (hd : Dz W.K Ever H v d) (b0 : 0 ≤ b) (b1 : b ≤ 60) (q : Q (.bl (betwD 0 (p2 b - 1) d)) H) : sp_is_value W [v, .int b] H Q E := ⟨d, b, hd, rfl, b0, b1, q⟩
def sp_is_head (W : Wd) : Sp := fun vs H Q _ => match vs with
  | [v_shape, v_thing] =>
  ∃ (s : Shp) (d : PyData), Dq W.K H v_shape (shD s) ∧ s.fs.length ≤ 1000 ∧ (∀ f ∈ s.fs, 0 ≤ f.br ∧ f.br ≤ 60) ∧ Dz W.K Ever H v_thing d ∧ ∀ H', Same H H' → Q (.bl (headB s.fs d)) H'
  | _ => False
abbrev N_is_head : List Str := ["shape", "thing", "field", "value"]
theorem sc_is_head : FnScope N_is_head ["shape", "thing"] (defScope s_is_head) := ⟨rfl, rfl, rfl, by decide +kernel, rfl, by decide +kernel, by decide +kernel⟩
theorem f_is_head {W : Wd} {mg : Str → Option Value} {base : Heap} (B : Bi mg) {f : Addr} {fd : FuncData} (F : Fun W.K "is_head" "is_head" s_is_head f fd) (T : Kl W.K mg) (C_is_value : Cal W mg base "is_value" 3 ["thing", "breadth"] (sp_is_value W)) : FnOk W.P W.w W.K mg base CX0 4 f fd ["shape", "thing"] (sp_is_head W) := by
  obtain ⟨a_is_value, d_is_value, g_is_value, F_is_value, k_is_value, b_is_value⟩ := C_is_value
  have nd := sc_is_head.nd
  have F0 : FnOk W.P W.w W.K mg base CX0 4 f fd ["shape", "thing"] (sp_is_head W) := by
    refine F.ok sc_is_head (fun vs H Q E h => ?_) (fun cdv A outer s H vs Q E hr h => ?_)
    · match vs, h with | [_, _], _ => rfl
    · match vs, h with
      | [v_shape, v_thing], h =>
        change sp_is_head W [v_shape, v_thing] H Q E at h
        refine ⟨tSeq (tIfS (tOr (tNot (tB (tCB (rIsi W.K) (tCons (tVar 1) (tCons (tC (.ty "tuple")) tNil))))) (tTest (tOp (rNeU W.K) (tCB (rLenU W.K) (tCons (tVar 1) (tNil))) (tCB (rLenU W.K) (tCons (tOp (rIxU W.K) (tVar 0) (tC (.int 0))) (tNil)))))) (tRet (tC (.bl false))) (tNext)) (tRet (tCB (rAll W.K) (tCons (tLc (iZipA W.K (tCons (tOp (rIxU W.K) (tVar 0) (tC (.int 0))) (tCons (tVar 1) (tNil)))) (gTup W.K 2 (gCons (gName 2) (gCons (gName 3) (gNil)))) (tYes) (tCall (sp_is_value W) [] E0 (tCons (tVar 3) (tCons (tOp (rIxU W.K) (tVar 2) (tC (.int 1))) (tNil)))) [2, 3]) (tNil)))), pss_cons (ps_if (PW.pt (pw_or (pt_not (pt_val (pe_callB call_isi (by rfl) B.b_isinstance (by decide +kernel) (pa_cons (pv 1) (pa_cons (pe_bltn (v := .ty "tuple") (u := .type "tuple") (by rfl) B.b_tuple (by decide +kernel) rfl) pa_nil))))) (pw_or1 (pt_cmpR (u_ne hr.units) (pe_callB u_len (by rfl) B.b_len (by decide +kernel) (pa_cons (pv 1) (pa_nil))) (pe_callB u_len (by rfl) B.b_len (by decide +kernel) (pa_cons (pe_ix u_ix (pv 0) (pe_int) (fun _ _ => rfl)) (pa_nil))) (nomark _))))) (pss_one (ps_ret (pe_bl))) (pss_nil)) (pss_one (ps_ret (pe_callB (cr_all rfl) (by rfl) B.b_all (by decide +kernel) (pa_cons (pe_lc (own := [("field", 2), ("value", 3)]) rfl nd (pi_zipA (by rfl) B.b_zip (pa_cons (pe_ix u_ix (pv 0) (pe_int) (fun _ _ => rfl)) (pa_cons (pv 1) (pa_nil)))) (blkOk_by (own := [("field", 2), ("value", 3)]) (N := N_is_head) (sc := defScope s_is_head) (by decide +kernel)) (fun _ _ _ _ _ => pg_tup rfl (pgs_cons (pg_name (i := 2) nd rfl (by first | exact Or.inl rfl | exact Or.inr rfl)) (pgs_cons (pg_name (i := 3) nd rfl (by first | exact Or.inl rfl | exact Or.inr rfl)) (pgs_nil)))) (fun _ _ _ _ _ => pts_nil) (fun _ _ _ _ _ => pe_call F_is_value (hr.mono (by decide)) (by rfl) g_is_value k_is_value b_is_value .nil pass0 (pa_cons (pv 3) (pa_cons (pe_ix u_ix (pv 2) (pe_int) (fun _ _ => rfl)) (pa_nil))))) (pa_nil))))), ?_⟩
        clear hr
        clear F_is_value g_is_value k_is_value b_is_value d_is_value a_is_value
        rw [show L2.start N_is_head [v_shape, v_thing] = [some v_shape, some v_thing, none, none] from rfl]
        obtain ⟨s, d, hs, hl, hb, ht, q⟩ := h
        walk_at "Zs"
        refine w_istupz ht ?_
        cases d with
        | tuple ws =>
          have q2 : ∀ H', Same H H' → Q (.bl (decide (ws.length = s.fs.length) && (s.fs.zip ws).all fun fw => betwD 0 (p2 fw.1.br - 1) fw.2)) H' := q
          walk_at "Zs"
          refine w_ixQT hs (d := .tuple (s.fs.map fdD)) rfl fun y1 g1 => ?_
          walk_at "Zs"
          refine w_dec (fun hlen => ?_) (fun hlen => ?_)
          · rw [decide_eq_true (by omega), Bool.true_and] at q2
            walk_at "Zs"
            refine w_ixQT hs (d := .tuple (s.fs.map fdD)) rfl fun y2 g2 => ?_
            walk_at "Zs"
            obtain ⟨af, fv, rfl, hfs, hfd⟩ := dq_tt g2
            obtain ⟨aw, wv, rfl, hws, hwd⟩ := dz_tt ht
            have lf := dqs_len hfd
            have lw := dzs_len hwd
            rw [List.length_map] at lf
            refine w_goZT hfs.t hws ?_
            refine lcZT hfs.t hws (fun i acc _ => acc = ((s.fs.zip ws).take i).map fun fw => V.bl (betwD 0 (p2 fw.1.br - 1) fw.2)) stb_pure (by omega) (fun i acc H' e => by rw [e, List.length_map, List.length_take]; omega) (fun H' _ => rfl) (fun i x y acc H' hx hy e1 ea H3 e3 k k' hk hk' => ?_) fun D acc H' hD e1 hD' ea => ?_
            · obtain ⟨df, hdf, hxd⟩ := dqs_get2 hfd hx
              obtain ⟨f, hf, rfl⟩ := map_at hdf
              obtain ⟨dw, hdw, hyd⟩ := dzs_get2 hwd hy
              have hbf := hb f (List.mem_of_getElem? hf)
              walk_at "Zs"
              refine w_ixQTi (dq_mono (e1.trans e3) hxd) (n := f.br) rfl ?_
              walk_at "Zs"
              refine go_is_value (dz_mono (e1.trans e3) hyd) hbf.1 hbf.2 ?_
              refine hk _ _ (Same.refl _) ?_
              have ez : (s.fs.zip ws)[i]? = some (f, dw) := List.getElem?_zip_eq_some.mpr ⟨hf, hdw⟩
              rw [List.take_add_one, ez, List.map_append, ea]
              rfl
            · rw [List.take_of_length_le (by rw [List.length_zip]; omega)] at ea
              walk_at "Zs"
              refine w_all (bs := (s.fs.zip ws).map fun fw => betwD 0 (p2 fw.1.br - 1) fw.2) (SqL.of (by rw [hD', ea, List.map_map]; rfl)) ?_
              rw [List.all_map]
              exact q2 _ e1
          · rw [decide_eq_false (by omega), Bool.false_and] at q2
            walk_at "Zs"
            exact q2 _ (Same.refl _)
        | _ =>
          walk_at "Zs"
          exact q _ (Same.refl _)
  exact F0
theorem c_is_head {W : Wd} {mg : Str → Option Value} {base : Heap} (B : Bi mg) (S : Src W.K mg "is_head" s_is_head) (T : Kl W.K mg) (C_is_value : Cal W mg base "is_value" 3 ["thing", "breadth"] (sp_is_value W)) : Cal W mg base "is_head" 4 ["shape", "thing"] (sp_is_head W) := by
  obtain ⟨f, fd, g, F⟩ := S
  exact ⟨f, fd, g, f_is_head B F T C_is_value, F.kp, (F.binds (ps := ["shape", "thing"]) fun _ _ _ _ _ _ us hl => match us, hl with | [_, _], _ => rfl)⟩
theorem go_is_head {W : Wd} {H : Hp} {Q : VK} {E : XK} {x y : V} {s : Shp} {d : PyData} (hs : Dq W.K H x (shD s)) (hl : s.fs.length ≤ 1000) (hb : ∀ f ∈ s.fs, 0 ≤ f.br ∧ f.br ≤ 60) (ht : Dz W.K Ever H y d) (q : ∀ H', Same H H' → Q (.bl (headB s.fs d)) H') : sp_is_head W [x, y] H Q E := ⟨s, d, hs, hl, hb, ht, q⟩
theorem okShp_br {s : Shp} (ok : OkShp s) : ∀ f ∈ s.fs, 0 ≤ f.br ∧ f.br ≤ 60 := fun f hf => by
  obtain ⟨i, hi⟩ := List.getElem?_of_mem hf
  have z := ok.fd i f hi
  have z0 := z.b0
  have z1 := z.b1
  exact ⟨by omega, by omega⟩
theorem go_is_headT {W : Wd} {H : Hp} {Q : VK} {E : XK} {x y : V} {s : Shp} {hd : List Int} (hs : Dq W.K H x (shD s)) (ok : OkShp s) (hh : Dq W.K H y (headD hd)) (oh : OkHead s.fs hd) (q : ∀ H', Same H H' → Q (.bl true) H') : sp_is_head W [x, y] H Q E :=
  go_is_head hs (by have := ok.l1; omega) (okShp_br ok) (dz_dq hh) (by rw [headB_ok oh]; exact q)
def sp_gone_round (W : Wd) : Sp := fun vs H Q _ => match vs with
  | [v_row, v_value, v_more] =>
  ∃ (ns : List Int) (v m : Int), Dq W.K H v_row (.tuple (ns.map .int)) ∧ v_value = .int v ∧ v_more = .int m ∧ ∀ r : Int, GoneR ns v m r → Q (.int r) H
  | _ => False
abbrev N_gone_round : List Str := ["row", "value", "more"]
theorem sc_gone_round : FnScope N_gone_round ["row", "value", "more"] (defScope s_gone_round) := ⟨rfl, rfl, rfl, by decide +kernel, rfl, by decide +kernel, by decide +kernel⟩
theorem f_gone_round {W : Wd} {mg : Str → Option Value} {base : Heap} (B : Bi mg) {f : Addr} {fd : FuncData} (F : Fun W.K "gone_round" "gone_round" s_gone_round f fd) (T : Kl W.K mg)  : FnOk W.P W.w W.K mg base CX0 1 f fd ["row", "value", "more"] (sp_gone_round W) := by
  have nd := sc_gone_round.nd
  have F0 : FnOk W.P W.w W.K mg base CX0 1 f fd ["row", "value", "more"] (sp_gone_round W) := by
    refine F.ok sc_gone_round (fun vs H Q E h => ?_) (fun cdv A outer s H vs Q E hr h => ?_)
    · match vs, h with | [_, _, _], _ => rfl
    · match vs, h with
      | [v_row, v_value, v_more], h =>
        change sp_gone_round W [v_row, v_value, v_more] H Q E at h
        refine ⟨tSeq (tIfS (tTest (tOp (rNotInU W.K) (tVar 1) (tVar 0))) (tRet (tVar 1)) (tNext)) (tRet (tOp (rIxU W.K) (tVar 0) (tOp (rModU) (tOp (rAddN W.K) (tTM W.K (rIndexT W.K) (tVar 0) (tCons (tVar 1) (tNil))) (tVar 2)) (tCB (rLenU W.K) (tCons (tVar 0) (tNil)))))), pss_cons (ps_if (pt_cmpR (u_notin hr.units) (pv 1) (pv 0) (by rfl)) (pss_one (ps_ret (pv 1))) (pss_nil)) (pss_one (ps_ret (pe_ix u_ix (pv 0) (pe_op u_mod (pe_op u_addN (pe_tm PySem.F.slot_tuple_index PySem.F.type_tuple_index mt_indexT (pv 0) (pa_cons (pv 1) (pa_nil))) (pv 2)) (pe_callB u_len (by rfl) B.b_len (by decide +kernel) (pa_cons (pv 0) (pa_nil)))) (fun _ _ => rfl)))), ?_⟩
        clear hr
        rw [show L2.start N_gone_round [v_row, v_value, v_more] = [some v_row, some v_value, some v_more] from rfl]
        obtain ⟨ns, v, m, hr, rfl, rfl, q⟩ := h
        obtain ⟨a, rfl, ha⟩ := dq_ti hr
        walk_at "Zs"
        refine w_ninT ha.t ?_
        walk_at "Zs"
        refine w_dec (fun hin => ?_) (fun hno => ?_)
        · walk_at "Zs"
          refine w_tyQT hr ?_
          walk_at "Zs"
          have hl : 0 < ns.length := List.length_pos_of_mem hin
          refine w_indexT ha.t hin ?_
          walk_at "Zs"
          have h0 := Int.emod_nonneg (((ns.idxOf v : Nat) : Int) + m) (show ((ns.length : Nat) : Int) ≠ 0 by omega)
          have h1 := Int.emod_lt_of_pos (((ns.idxOf v : Nat) : Int) + m) (show 0 < ((ns.length : Nat) : Int) by omega)
          refine w_ixMi hr h0 h1 fun r er => ?_
          exact q r ⟨fun z => absurd hin z, fun _ => er⟩
        · walk_at "Zs"
          exact q v ⟨fun _ => rfl, fun z => absurd z hno⟩
  exact F0
theorem c_gone_round {W : Wd} {mg : Str → Option Value} {base : Heap} (B : Bi mg) (S : Src W.K mg "gone_round" s_gone_round) (T : Kl W.K mg)  : Cal W mg base "gone_round" 1 ["row", "value", "more"] (sp_gone_round W) := by
  obtain ⟨f, fd, g, F⟩ := S
  exact ⟨f, fd, g, f_gone_round B F T , F.kp, (F.binds (ps := ["row", "value", "more"]) fun _ _ _ _ _ _ us hl => match us, hl with | [_, _, _], _ => rfl)⟩
theorem go_gone_round {W : Wd} {H : Hp} {Q : VK} {E : XK} {x : V} {ns : List Int} {v m : Int} (hr : Dq W.K H x (.tuple (ns.map .int))) (q : ∀ r : Int, GoneR ns v m r → Q (.int r) H) : sp_gone_round W [x, .int v, .int m] H Q E := ⟨ns, v, m, hr, rfl, rfl, q⟩
def sp_expected (W : Wd) : Sp := fun vs H Q _ => match vs with
  | [v_shape, v_place, v_former, v_ahead, v_more] =>
  ∃ (d : PyData) (fs : List Fd) (p : Nat) (f : Fd) (fo ah : List Int) (v more : Int), Dq W.K H v_shape (.tuple [.tuple (fs.map fdD), d]) ∧ v_place = .int p ∧ fs[p]? = some f ∧ OkFd p f ∧ Dq W.K H v_former (.tuple (fo.map .int)) ∧ fo[p]? = some v ∧ p < fo.length ∧ Dq W.K H v_ahead (.tuple (ah.map .int)) ∧ p ≤ ah.length ∧ v_more = .int more ∧ -1000000 ≤ more ∧ more ≤ 1000000 ∧
    ∀ (r : Int) H', Same H H' → ExpK fo ah more v f.kd r → Q (.int (r % p2 f.br)) H'
  | _ => False
abbrev N_expected : List Str := ["shape", "place", "former", "ahead", "more", "name", "breadth", "kind", "value"]
theorem sc_expected : FnScope N_expected ["shape", "place", "former", "ahead", "more"] (defScope s_expected) := ⟨rfl, rfl, rfl, by decide +kernel, rfl, by decide +kernel, by decide +kernel⟩
theorem f_expected {W : Wd} {mg : Str → Option Value} {base : Heap} (B : Bi mg) {f : Addr} {fd : FuncData} (F : Fun W.K "expected" "expected" s_expected f fd) (T : Kl W.K mg) (C_rest_of : Cal W mg base "rest_of" 1 ["number", "width"] (sp_rest_of W)) (C_gone_round : Cal W mg base "gone_round" 1 ["row", "value", "more"] (sp_gone_round W)) : FnOk W.P W.w W.K mg base CX0 2 f fd ["shape", "place", "former", "ahead", "more"] (sp_expected W) := by
  obtain ⟨a_rest_of, d_rest_of, g_rest_of, F_rest_of, k_rest_of, b_rest_of⟩ := C_rest_of
  obtain ⟨a_gone_round, d_gone_round, g_gone_round, F_gone_round, k_gone_round, b_gone_round⟩ := C_gone_round
  have nd := sc_expected.nd
  have F0 : FnOk W.P W.w W.K mg base CX0 2 f fd ["shape", "place", "former", "ahead", "more"] (sp_expected W) := by
    refine F.ok sc_expected (fun vs H Q E h => ?_) (fun cdv A outer s H vs Q E hr h => ?_)
    · match vs, h with | [_, _, _, _, _], _ => rfl
    · match vs, h with
      | [v_shape, v_place, v_former, v_ahead, v_more], h =>
        change sp_expected W [v_shape, v_place, v_former, v_ahead, v_more] H Q E at h
        refine ⟨tSeq (tAsg (tOp (rIxU W.K) (tOp (rIxU W.K) (tVar 0) (tC (.int 0))) (tVar 1)) (gTup W.K 3 (gCons (gName 5) (gCons (gName 6) (gCons (gName 7) (gNil)))))) (tSeq (tAsg (tOp (rIxU W.K) (tVar 2) (tVar 1)) (gName 8)) (tSeq (tIfS (tTest (tOp (rEqU W.K) (tOp (rIxU W.K) (tVar 7) (tC (.int 0))) (tC (.str "step")))) (tAug 8 (tOp (rMulN W.K) (tVar 4) (tOp (rIxU W.K) (tVar 7) (tC (.int 1)))) (ipAddN W.K)) (tIfS (tTest (tOp (rEqU W.K) (tOp (rIxU W.K) (tVar 7) (tC (.int 0))) (tC (.str "turn")))) (tAsg (tCall (sp_gone_round W) [] E0 (tCons (tOp (rIxU W.K) (tVar 7) (tC (.int 1))) (tCons (tVar 8) (tCons (tVar 4) (tNil))))) (gName 8)) (tIfS (tTest (tOp (rEqU W.K) (tOp (rIxU W.K) (tVar 7) (tC (.int 0))) (tC (.str "with")))) (tAug 8 (tOp (rMulN W.K) (tOp (rIxU W.K) (tVar 7) (tC (.int 2))) (tOp (rSubU) (tOp (rIxU W.K) (tVar 3) (tOp (rIxU W.K) (tVar 7) (tC (.int 1)))) (tOp (rIxU W.K) (tVar 2) (tOp (rIxU W.K) (tVar 7) (tC (.int 1)))))) (ipAddN W.K)) (tNext)))) (tRet (tCall (sp_rest_of W) [] E0 (tCons (tVar 8) (tCons (tVar 6) (tNil))))))), pss_cons (ps_asg (pe_ix u_ix (pe_ix u_ix (pv 0) (pe_int) (fun _ _ => rfl)) (pv 1) (fun _ _ => rfl)) (pg_tup rfl (pgs_cons (pg_name (i := 5) nd rfl (by first | exact Or.inl rfl | exact Or.inr rfl)) (pgs_cons (pg_name (i := 6) nd rfl (by first | exact Or.inl rfl | exact Or.inr rfl)) (pgs_cons (pg_name (i := 7) nd rfl (by first | exact Or.inl rfl | exact Or.inr rfl)) (pgs_nil)))))) (pss_cons (ps_set (i := 8) nd rfl (.inl rfl) (pe_ix u_ix (pv 2) (pv 1) (fun _ _ => rfl))) (pss_cons (ps_if (pt_cmpR (u_eq hr.units) (pe_ix u_ix (pv 7) (pe_int) (fun _ _ => rfl)) (pe_str) (nomark _)) (pss_one (ps_aug (i := 8) nd rfl (.inl rfl) (pe_op u_mulN (pv 4) (pe_ix u_ix (pv 7) (pe_int) (fun _ _ => rfl))) ip_addN)) (pss_one (ps_if (pt_cmpR (u_eq hr.units) (pe_ix u_ix (pv 7) (pe_int) (fun _ _ => rfl)) (pe_str) (nomark _)) (pss_one (ps_set (i := 8) nd rfl (.inl rfl) (pe_call F_gone_round (hr.mono (by decide)) (by rfl) g_gone_round k_gone_round b_gone_round .nil pass0 (pa_cons (pe_ix u_ix (pv 7) (pe_int) (fun _ _ => rfl)) (pa_cons (pv 8) (pa_cons (pv 4) (pa_nil))))))) (pss_one (ps_if (pt_cmpR (u_eq hr.units) (pe_ix u_ix (pv 7) (pe_int) (fun _ _ => rfl)) (pe_str) (nomark _)) (pss_one (ps_aug (i := 8) nd rfl (.inl rfl) (pe_op u_mulN (pe_ix u_ix (pv 7) (pe_int) (fun _ _ => rfl)) (pe_op u_sub (pe_ix u_ix (pv 3) (pe_ix u_ix (pv 7) (pe_int) (fun _ _ => rfl)) (fun _ _ => rfl)) (pe_ix u_ix (pv 2) (pe_ix u_ix (pv 7) (pe_int) (fun _ _ => rfl)) (fun _ _ => rfl)))) ip_addN)) (pss_nil)))))) (pss_one (ps_ret (pe_call F_rest_of (hr.mono (by decide)) (by rfl) g_rest_of k_rest_of b_rest_of .nil pass0 (pa_cons (pv 8) (pa_cons (pv 6) (pa_nil)))))))), ?_⟩
        clear hr
        clear F_rest_of g_rest_of k_rest_of b_rest_of d_rest_of a_rest_of
        clear F_gone_round g_gone_round k_gone_round b_gone_round d_gone_round a_gone_round
        rw [show L2.start N_expected [v_shape, v_place, v_former, v_ahead, v_more] = [some v_shape, some v_place, some v_former, some v_ahead, some v_more, none, none, none, none] from rfl]
        obtain ⟨d, fs, p, f, fo, ah, v, more, hs, rfl, hf, ok, hfo, hv, hpl, hah, hal, rfl, hm0, hm1, q⟩ := h
        have b0 := ok.b0
        have b1 := ok.b1
        have hk := ok.kd
        have hp := (List.getElem?_eq_some_iff.mp hf).1
        walk_at "Zs"
        refine w_ixQT hs rfl fun x1 hx1 => ?_
        walk_at "Zs"
        refine w_ixM hx1 (by omega) (by omega) fun f2 x2 hf2 hx2 => ?_
        rw [Int.toNat_natCast] at hf2
        obtain rfl := Option.some.inj (hf.symm.trans hf2)
        obtain ⟨a, xs, rfl, ha, hxs⟩ := dq_tt hx2
        cases hxs with
        | cons g1 hxs => cases hxs with
        | cons g2 hxs => cases hxs with
        | cons g3 hxs =>
          cases hxs
          obtain rfl := dq_str g1
          obtain rfl := dq_int g2
          walk_at "Zs"
          refine w_ixMi hfo (by omega) (by omega) fun v2 hv2 => ?_
          rw [Int.toNat_natCast] at hv2
          obtain rfl := Option.some.inj (hv.symm.trans hv2)
          walk_at "Zs"
          cases hkd : f.kd with
          | still =>
            rw [hkd] at g3 q
            refine w_ixQTs g3 rfl ?_
            walk_at "Zs"
            refine w_ixQTs g3 rfl ?_
            walk_at "Zs"
            refine w_ixQTs g3 rfl ?_
            walk_at "Zs"
            rename_i r e _ _ _
            rw [e]
            exact q v H (Same.refl _) rfl
          | drawn =>
            rw [hkd] at g3 q
            refine w_ixQTs g3 rfl ?_
            walk_at "Zs"
            refine w_ixQTs g3 rfl ?_
            walk_at "Zs"
            refine w_ixQTs g3 rfl ?_
            walk_at "Zs"
            rename_i r e _ _ _
            rw [e]
            exact q v H (Same.refl _) rfl
          | step n =>
            rw [hkd] at g3 q
            refine w_ixQTs g3 rfl ?_
            walk_at "Zs"
            refine w_ixQTi g3 rfl ?_
            walk_at "Zs"
            rename_i r e _ _ _
            rw [e]
            exact q _ H (Same.refl _) rfl
          | turn ns =>
            rw [hkd] at g3 q
            refine w_ixQTs g3 rfl ?_
            walk_at "Zs"
            refine w_ixQTs g3 rfl ?_
            walk_at "Zs"
            refine w_ixQT g3 rfl fun x4 hx4 => ?_
            walk_at "Zs"
            refine go_gone_round hx4 fun r0 hr0 => ?_
            walk_at "Zs"
            rename_i r e _ _ _
            rw [e]
            exact q _ H (Same.refl _) hr0
          | wth pp bb =>
            rw [hkd] at g3 q hk
            obtain ⟨k0, k1, k2, k3⟩ := hk
            refine w_ixQTs g3 rfl ?_
            walk_at "Zs"
            refine w_ixQTs g3 rfl ?_
            walk_at "Zs"
            refine w_ixQTs g3 rfl ?_
            walk_at "Zs"
            refine w_ixQTi g3 rfl ?_
            walk_at "Zs"
            refine w_ixQTi g3 rfl ?_
            walk_at "Zs"
            refine w_ixMi hah k0 (by omega) fun x hx => ?_
            walk_at "Zs"
            refine w_ixQTi g3 rfl ?_
            walk_at "Zs"
            refine w_ixMi hfo k0 (by omega) fun y hy => ?_
            walk_at "Zs"
            rename_i r e _ _ _
            rw [e]
            exact q _ H (Same.refl _) ⟨x, y, hx, hy, rfl⟩
  exact F0
theorem c_expected {W : Wd} {mg : Str → Option Value} {base : Heap} (B : Bi mg) (S : Src W.K mg "expected" s_expected) (T : Kl W.K mg) (C_rest_of : Cal W mg base "rest_of" 1 ["number", "width"] (sp_rest_of W)) (C_gone_round : Cal W mg base "gone_round" 1 ["row", "value", "more"] (sp_gone_round W)) : Cal W mg base "expected" 2 ["shape", "place", "former", "ahead", "more"] (sp_expected W) := by
  obtain ⟨f, fd, g, F⟩ := S
  exact ⟨f, fd, g, f_expected B F T C_rest_of C_gone_round, F.kp, (F.binds (ps := ["shape", "place", "former", "ahead", "more"]) fun _ _ _ _ _ _ us hl => match us, hl with | [_, _, _, _, _], _ => rfl)⟩
theorem go_expected {W : Wd} {H : Hp} {Q : VK} {E : XK} {vs vf va : V} {s : Shp} {p : Nat} {f : Fd} {fo ah : List Int} {v more : Int} (hs : Dq W.K H vs (shD s)) (ok : OkShp s) (hf : s.fs[p]? = some f) (hfo : Dq W.K H vf (.tuple (fo.map .int))) (hv : fo[p]? = some v) (hah : Dq W.K H va (.tuple (ah.map .int))) (hal : p ≤ ah.length) (h0 : -1000000 ≤ more) (h1 : more ≤ 1000000)
    (q : ∀ (r : Int) H', Same H H' → ExpK fo ah more v f.kd r → Q (.int (r % p2 f.br)) H') : sp_expected W [vs, .int (p : Int), vf, va, .int more] H Q E :=
  ⟨_, s.fs, p, f, fo, ah, v, more, hs, rfl, hf, ok.fd p f hf, hfo, hv, (List.getElem?_eq_some_iff.mp hv).1, hah, hal, rfl, h0, h1, q⟩
def sp_check_of (W : Wd) : Sp := fun vs H Q _ => match vs with
  | [v_shape, v_number, v_head] =>
  ∃ (d : PyData) (m n : Int) (ns : List Int), Dq W.K H v_shape (.tuple [d, .int m]) ∧ v_number = .int n ∧ Dq W.K H v_head (.tuple (ns.map .int)) ∧ ns.length ≤ 1000 ∧ 0 < m ∧ ∀ H', Same H H' → Q (.int ((n + ckF 0 ns) % m)) H'
  | _ => False
abbrev N_check_of : List Str := ["shape", "number", "head", "total", "place", "value"]
theorem sc_check_of : FnScope N_check_of ["shape", "number", "head"] (defScope s_check_of) := ⟨rfl, rfl, rfl, by decide +kernel, rfl, by decide +kernel, by decide +kernel⟩
theorem f_check_of {W : Wd} {mg : Str → Option Value} {base : Heap} (B : Bi mg) {f : Addr} {fd : FuncData} (F : Fun W.K "check_of" "check_of" s_check_of f fd) (T : Kl W.K mg)  : FnOk W.P W.w W.K mg base CX0 1 f fd ["shape", "number", "head"] (sp_check_of W) := by
  have nd := sc_check_of.nd
  have F0 : FnOk W.P W.w W.K mg base CX0 1 f fd ["shape", "number", "head"] (sp_check_of W) := by
    refine F.ok sc_check_of (fun vs H Q E h => ?_) (fun cdv A outer s H vs Q E hr h => ?_)
    · match vs, h with | [_, _, _], _ => rfl
    · match vs, h with
      | [v_shape, v_number, v_head], h =>
        change sp_check_of W [v_shape, v_number, v_head] H Q E at h
        refine ⟨tSeq (tAsg (tVar 1) (gName 3)) (tSeq (tFor (iEnumU W.K (tCons (tVar 2) (tNil))) (gTup W.K 2 (gCons (gName 4) (gCons (gName 5) (gNil)))) (tAug 3 (tOp (rMulN W.K) (tOp (rAddN W.K) (tVar 4) (tC (.int 2))) (tVar 5)) (ipAddN W.K))) (tRet (tOp (rModU) (tVar 3) (tOp (rIxU W.K) (tVar 0) (tC (.int 1)))))), pss_cons (ps_set (i := 3) nd rfl (.inl rfl) (pv 1)) (pss_cons (ps_for PassesOwn.never rfl (pi_enumU (by rfl) B.b_enumerate (pa_cons (pv 2) (pa_nil))) (pg_tup rfl (pgs_cons (pg_name (i := 4) nd rfl (by first | exact Or.inl rfl | exact Or.inr rfl)) (pgs_cons (pg_name (i := 5) nd rfl (by first | exact Or.inl rfl | exact Or.inr rfl)) (pgs_nil)))) (pss_one (ps_aug (i := 3) nd rfl (.inl rfl) (pe_op u_mulN (pe_op u_addN (pv 4) (pe_int)) (pv 5)) ip_addN))) (pss_one (ps_ret (pe_op u_mod (pv 3) (pe_ix u_ix (pv 0) (pe_int) (fun _ _ => rfl)))))), ?_⟩
        clear hr
        rw [show L2.start N_check_of [v_shape, v_number, v_head] = [some v_shape, some v_number, some v_head, none, none, none] from rfl]
        obtain ⟨d, m, n, ns, hs, rfl, hh, hl, hm, q⟩ := h
        obtain ⟨a, rfl, ha⟩ := dq_ti hh
        have z0 : n + ckF 0 (ns.take 0) = n := by simp [ckF]
        walk_at "Zs"
        refine w_goET ha.t ?_
        refine forET ha.t (fun i σ' H' => Same H H' ∧ ∃ y1 y2, σ' = [some v_shape, some (.int n), some (.ref a), some (.int (n + ckF 0 (ns.take i))), y1, y2]) ⟨Same.refl _, _, _, by rw [z0]; rfl⟩ (fun i σ' H' h => h.1) (fun i x σ' H1 hx h H2 e2 => ?_) (fun σ' H1 h => ?_)
        · obtain ⟨e1, y1, y2, rfl⟩ := h
          rw [List.getElem?_map] at hx
          cases hv : ns[i]? with
          | none => rw [hv] at hx; cases hx
          | some v =>
            rw [hv] at hx
            obtain rfl := Option.some.inj hx
            have hi := (List.getElem?_eq_some_iff.mp hv).1
            walk_at "Zs"
            refine ⟨e1.trans e2, some (.int i), some (.int v), ?_⟩
            have e : n + ckF 0 (ns.take i) + ((i : Int) + 2) * v = n + ckF 0 (ns.take (i + 1)) := by
              rw [take_snoc hv, ckF_snoc, List.length_take, Nat.min_eq_left (by omega), Int.natCast_zero, Int.zero_add, Int.add_assoc]
            rw [e]
            rfl
        · obtain ⟨e1, y1, y2, rfl⟩ := h
          walk_at "Zs"
          refine w_ixQTi (dq_mono e1 hs) rfl ?_
          walk_at "Zs"
          rw [List.length_map, List.take_length]
          exact q _ e1
  exact F0
theorem c_check_of {W : Wd} {mg : Str → Option Value} {base : Heap} (B : Bi mg) (S : Src W.K mg "check_of" s_check_of) (T : Kl W.K mg)  : Cal W mg base "check_of" 1 ["shape", "number", "head"] (sp_check_of W) := by
  obtain ⟨f, fd, g, F⟩ := S
  exact ⟨f, fd, g, f_check_of B F T , F.kp, (F.binds (ps := ["shape", "number", "head"]) fun _ _ _ _ _ _ us hl => match us, hl with | [_, _, _], _ => rfl)⟩
theorem go_check_of {W : Wd} {H : Hp} {Q : VK} {E : XK} {v u : V} {d : PyData} {m n : Int} {ns : List Int} (hs : Dq W.K H v (.tuple [d, .int m])) (hh : Dq W.K H u (.tuple (ns.map .int))) (hl : ns.length ≤ 1000) (hm : 0 < m)
    (q : ∀ H', Same H H' → Q (.int ((n + ckF 0 ns) % m)) H') : sp_check_of W [v, .int n, u] H Q E := ⟨d, m, n, ns, hs, rfl, hh, hl, hm, q⟩
theorem go_check_ofS {W : Wd} {H : Hp} {Q : VK} {E : XK} {v u : V} {s : Shp} {n : Int} {ns : List Int} (hs : Dq W.K H v (shD s)) (hh : Dq W.K H u (.tuple (ns.map .int))) (hl : ns.length ≤ 1000) (hm : 0 < s.m)
    (q : ∀ H', Same H H' → Q (.int ((n + ckF 0 ns) % s.m)) H') : sp_check_of W [v, .int n, u] H Q E := go_check_of hs hh hl hm q
def sp_width_of (W : Wd) : Sp := fun vs H Q _ => match vs with
  | [v_field, v_way] =>
  ∃ (f : Fd) (w : Wy), Dq W.K H v_field (fdD f) ∧ 0 ≤ f.br ∧ Dq W.K H v_way (wyD w) ∧ OkWy f.br w ∧ Q (.int ((wW f w : Nat) : Int)) H
  | _ => False
abbrev N_width_of : List Str := ["field", "way"]
theorem sc_width_of : FnScope N_width_of ["field", "way"] (defScope s_width_of) := ⟨rfl, rfl, rfl, by decide +kernel, rfl, by decide +kernel, by decide +kernel⟩
theorem f_width_of {W : Wd} {mg : Str → Option Value} {base : Heap} (B : Bi mg) {f : Addr} {fd : FuncData} (F : Fun W.K "width_of" "width_of" s_width_of f fd) (T : Kl W.K mg)  : FnOk W.P W.w W.K mg base CX0 1 f fd ["field", "way"] (sp_width_of W) := by
  have nd := sc_width_of.nd
  have F0 : FnOk W.P W.w W.K mg base CX0 1 f fd ["field", "way"] (sp_width_of W) := by
    refine F.ok sc_width_of (fun vs H Q E h => ?_) (fun cdv A outer s H vs Q E hr h => ?_)
    · match vs, h with | [_, _], _ => rfl
    · match vs, h with
      | [v_field, v_way], h =>
        change sp_width_of W [v_field, v_way] H Q E at h
        refine ⟨tSeq (tIfS (tTest (tOp (rEqU W.K) (tOp (rIxU W.K) (tVar 1) (tC (.int 0))) (tC (.str "keep")))) (tRet (tC (.int 0))) (tNext)) (tSeq (tIfS (tTest (tOp (rEqU W.K) (tOp (rIxU W.K) (tVar 1) (tC (.int 0))) (tC (.str "low")))) (tRet (tOp (rIxU W.K) (tVar 1) (tC (.int 1)))) (tNext)) (tRet (tOp (rIxU W.K) (tVar 0) (tC (.int 1))))), pss_cons (ps_if (pt_cmpR (u_eq hr.units) (pe_ix u_ix (pv 1) (pe_int) (fun _ _ => rfl)) (pe_str) (nomark _)) (pss_one (ps_ret (pe_int))) (pss_nil)) (pss_cons (ps_if (pt_cmpR (u_eq hr.units) (pe_ix u_ix (pv 1) (pe_int) (fun _ _ => rfl)) (pe_str) (nomark _)) (pss_one (ps_ret (pe_ix u_ix (pv 1) (pe_int) (fun _ _ => rfl)))) (pss_nil)) (pss_one (ps_ret (pe_ix u_ix (pv 0) (pe_int) (fun _ _ => rfl))))), ?_⟩
        clear hr
        rw [show L2.start N_width_of [v_field, v_way] = [some v_field, some v_way] from rfl]
        obtain ⟨f, w, hf, hb, hw, ok, q⟩ := h
        cases w with
        | keep =>
          walk_at "Zs"
          refine w_ixQTs hw rfl ?_
          walk_at "Zs"
          exact q
        | whole =>
          walk_at "Zs"
          refine w_ixQTs hw rfl ?_
          walk_at "Zs"
          refine w_ixQTs hw rfl ?_
          walk_at "Zs"
          refine w_ixQTi hf (n := f.br) rfl ?_
          have e : ((wW f .whole : Nat) : Int) = f.br := by
            show ((f.br.toNat : Nat) : Int) = f.br
            omega
          rw [e] at q
          exact q
        | low w l =>
          walk_at "Zs"
          refine w_ixQTs hw rfl ?_
          walk_at "Zs"
          refine w_ixQTs hw rfl ?_
          walk_at "Zs"
          refine w_ixQTi hw (n := w) rfl ?_
          have w0 := ok.1
          have e : ((wW f (.low w l) : Nat) : Int) = w := by
            show ((w.toNat : Nat) : Int) = w
            omega
          rw [e] at q
          exact q
  exact F0
theorem c_width_of {W : Wd} {mg : Str → Option Value} {base : Heap} (B : Bi mg) (S : Src W.K mg "width_of" s_width_of) (T : Kl W.K mg)  : Cal W mg base "width_of" 1 ["field", "way"] (sp_width_of W) := by
  obtain ⟨f, fd, g, F⟩ := S
  exact ⟨f, fd, g, f_width_of B F T , F.kp, (F.binds (ps := ["field", "way"]) fun _ _ _ _ _ _ us hl => match us, hl with | [_, _], _ => rfl)⟩
theorem go_width_of {W : Wd} {H : Hp} {Q : VK} {E : XK} {x y : V} {f : Fd} {w : Wy} (hf : Dq W.K H x (fdD f)) (hb : 0 ≤ f.br) (hw : Dq W.K H y (wyD w)) (ok : OkWy f.br w) (q : Q (.int ((wW f w : Nat) : Int)) H) : sp_width_of W [x, y] H Q E := ⟨f, w, hf, hb, hw, ok, q⟩
def sp_pieces (W : Wd) : Sp := fun vs H Q _ => match vs with
  | [v_shape, v_form, v_head] =>
  ∃ (s : Shp) (f : Fm) (hd : List Int), Dq W.K H v_shape (shD s) ∧ OkShp s ∧ Dq W.K H v_form (fmD f) ∧ OkFm s f ∧ Dq W.K H v_head (.tuple (hd.map .int)) ∧ hd.length = s.fs.length ∧ ∀ H', Same H H' → Q (.str (piecesT (triL s.fs f.ws hd))) H'
  | _ => False
abbrev N_pieces : List Str := ["shape", "form", "head", "told", "field", "way", "value", "width"]
theorem sc_pieces : FnScope N_pieces ["shape", "form", "head"] (defScope s_pieces) := ⟨rfl, rfl, rfl, by decide +kernel, rfl, by decide +kernel, by decide +kernel⟩
theorem f_pieces {W : Wd} {mg : Str → Option Value} {base : Heap} (B : Bi mg) {f : Addr} {fd : FuncData} (F : Fun W.K "pieces" "pieces" s_pieces f fd) (T : Kl W.K mg) (C_rest_of : Cal W mg base "rest_of" 1 ["number", "width"] (sp_rest_of W)) (C_bits_of : Cal W mg base "bits_of" 1 ["number", "width"] (sp_bits_of W)) (C_width_of : Cal W mg base "width_of" 1 ["field", "way"] (sp_width_of W)) : FnOk W.P W.w W.K mg base CX0 2 f fd ["shape", "form", "head"] (sp_pieces W) := by
  obtain ⟨a_rest_of, d_rest_of, g_rest_of, F_rest_of, k_rest_of, b_rest_of⟩ := C_rest_of
  obtain ⟨a_bits_of, d_bits_of, g_bits_of, F_bits_of, k_bits_of, b_bits_of⟩ := C_bits_of
  obtain ⟨a_width_of, d_width_of, g_width_of, F_width_of, k_width_of, b_width_of⟩ := C_width_of
  have nd := sc_pieces.nd
  have F0 : FnOk W.P W.w W.K mg base CX0 2 f fd ["shape", "form", "head"] (sp_pieces W) := by
    refine F.ok sc_pieces (fun vs H Q E h => ?_) (fun cdv A outer s H vs Q E hr h => ?_)
    · match vs, h with | [_, _, _], _ => rfl
    · match vs, h with
      | [v_shape, v_form, v_head], h =>
        change sp_pieces W [v_shape, v_form, v_head] H Q E at h
        refine ⟨tSeq (tAsg (tC (.str "")) (gName 3)) (tSeq (tFor (iZip3 W.K (tCons (tOp (rIxU W.K) (tVar 0) (tC (.int 0))) (tCons (tOp (rIxU W.K) (tVar 1) (tC (.int 2))) (tCons (tVar 2) (tNil))))) (gTup W.K 3 (gCons (gName 4) (gCons (gName 5) (gCons (gName 6) (gNil))))) (tSeq (tAsg (tCall (sp_width_of W) [] E0 (tCons (tVar 4) (tCons (tVar 5) (tNil)))) (gName 7)) (tAug 3 (tCall (sp_bits_of W) [] E0 (tCons (tCall (sp_rest_of W) [] E0 (tCons (tVar 6) (tCons (tVar 7) (tNil)))) (tCons (tVar 7) (tNil)))) (ipAddN W.K)))) (tRet (tVar 3))), pss_cons (ps_set (i := 3) nd rfl (.inl rfl) (pe_str)) (pss_cons (ps_for PassesOwn.never rfl (pi_zip3 (by rfl) B.b_zip (pa_cons (pe_ix u_ix (pv 0) (pe_int) (fun _ _ => rfl)) (pa_cons (pe_ix u_ix (pv 1) (pe_int) (fun _ _ => rfl)) (pa_cons (pv 2) (pa_nil))))) (pg_tup rfl (pgs_cons (pg_name (i := 4) nd rfl (by first | exact Or.inl rfl | exact Or.inr rfl)) (pgs_cons (pg_name (i := 5) nd rfl (by first | exact Or.inl rfl | exact Or.inr rfl)) (pgs_cons (pg_name (i := 6) nd rfl (by first | exact Or.inl rfl | exact Or.inr rfl)) (pgs_nil))))) (pss_cons (ps_set (i := 7) nd rfl (.inl rfl) (pe_call F_width_of (hr.mono (by decide)) (by rfl) g_width_of k_width_of b_width_of .nil pass0 (pa_cons (pv 4) (pa_cons (pv 5) (pa_nil))))) (pss_one (ps_aug (i := 3) nd rfl (.inl rfl) (pe_call F_bits_of (hr.mono (by decide)) (by rfl) g_bits_of k_bits_of b_bits_of .nil pass0 (pa_cons (pe_call F_rest_of (hr.mono (by decide)) (by rfl) g_rest_of k_rest_of b_rest_of .nil pass0 (pa_cons (pv 6) (pa_cons (pv 7) (pa_nil)))) (pa_cons (pv 7) (pa_nil)))) ip_addN)))) (pss_one (ps_ret (pv 3)))), ?_⟩
        clear hr
        clear F_rest_of g_rest_of k_rest_of b_rest_of d_rest_of a_rest_of
        clear F_bits_of g_bits_of k_bits_of b_bits_of d_bits_of a_bits_of
        clear F_width_of g_width_of k_width_of b_width_of d_width_of a_width_of
        rw [show L2.start N_pieces [v_shape, v_form, v_head] = [some v_shape, some v_form, some v_head, none, none, none, none, none] from rfl]
        obtain ⟨s, f, hd, hs, ok, hf, okf, hh, lh, q⟩ := h
        have l1 := ok.l1
        have lw := okf.len
        walk_at "Zs"
        refine w_ixQT hs (d := .tuple (s.fs.map fdD)) rfl fun x1 h1 => ?_
        walk_at "Zs"
        refine w_ixQT hf (d := .tuple (f.ws.map wyD)) rfl fun x2 h2 => ?_
        walk_at "Zs"
        obtain ⟨a, xs, rfl, hxs, hds⟩ := dq_tt h1
        obtain ⟨b, ys, rfl, hys, hes⟩ := dq_tt h2
        obtain ⟨c, rfl, hzs⟩ := dq_ti hh
        have lx := dqs_len hds
        have ly := dqs_len hes
        rw [List.length_map] at lx ly
        have w40 : ∀ t ∈ triL s.fs f.ws hd, wW t.1 t.2.1 ≤ 40 := fun t ht => by
          obtain ⟨i, hi⟩ := List.getElem?_of_mem ht
          obtain ⟨e1, e2⟩ := List.getElem?_zip_eq_some.mp hi
          obtain ⟨e3, _⟩ := List.getElem?_zip_eq_some.mp e2
          have o := ok.fd i _ e1
          have z := wW_le (okf.ok i _ _ e3 e1) (by have := o.b0; omega)
          have := o.b1
          omega
        refine w_goZ3 hxs.t hys.t hzs.t ?_
        refine forZ3 (by omega) (by rw [List.length_map]; omega) (fun i σ' H' => (∃ y4 y5 y6 y7, σ' = [some v_shape, some v_form, some (.ref c), some (.str (piecesT ((triL s.fs f.ws hd).take i))), y4, y5, y6, y7]) ∧ Same H H') ⟨⟨_, _, _, _, rfl⟩, Same.refl _⟩ (fun i σ' H' h => ⟨same_t h.2 hxs.t, same_t h.2 hys.t, same_t h.2 hzs.t⟩) (fun i x y z σ' H1 hx hy hz h H2 e2 => ?_) (fun σ' H1 h => ?_)
        · obtain ⟨⟨y4, y5, y6, y7, rfl⟩, e1⟩ := h
          obtain ⟨df, hdf, hxd⟩ := dqs_get2 hds hx
          obtain ⟨fd, hfd, rfl⟩ := map_at hdf
          obtain ⟨dw, hdw, hyd⟩ := dqs_get2 hes hy
          obtain ⟨wy, hwy, rfl⟩ := map_at hdw
          obtain ⟨v, hv, rfl⟩ := ints_at hz
          have okw := okf.ok i wy fd hwy hfd
          have okd := ok.fd i fd hfd
          have b0 := okd.b0
          have b1 := okd.b1
          have wl := wW_le okw (by omega)
          have ht := tri_get hfd hwy hv
          have lt : (piecesT ((triL s.fs f.ws hd).take i)).length ≤ 480 := by
            rw [pieces_len]
            have z := triW_le ((triL s.fs f.ws hd).take i) fun t h => w40 t (List.mem_of_mem_take h)
            rw [List.length_take, tri_len (by omega) (by omega)] at z
            omega
          walk_at "Zs"
          refine go_width_of (dq_mono (e1.trans e2) hxd) (by omega) (dq_mono (e1.trans e2) hyd) okw ?_
          walk_at "Zs"
          rename_i r er r0 r1 r2
          refine go_bits_of (by omega) fun H3 e3 => ?_
          walk_at "Zs"
          refine w_ipaddS (Nat.le_trans (m := 600) (by rw [len_bitsT]; omega) (by decide)) ?_
          walk_at "Zs"
          have e : piecesT ((triL s.fs f.ws hd).take (i + 1)) = piecesT ((triL s.fs f.ws hd).take i) ++ bitsT r (wW fd wy) := by
            rw [List.take_add_one, ht, er]
            exact pieces_snoc _ _
          rw [e]
          refine ⟨⟨_, _, _, _, rfl⟩, ?_⟩
          walk_at "Zkt"
        · obtain ⟨⟨y4, y5, y6, y7, rfl⟩, e1⟩ := h
          walk_at "Zs"
          rw [List.take_of_length_le (by rw [tri_len (by omega) (by omega)]; omega)]
          exact q _ e1
  exact F0
theorem c_pieces {W : Wd} {mg : Str → Option Value} {base : Heap} (B : Bi mg) (S : Src W.K mg "pieces" s_pieces) (T : Kl W.K mg) (C_rest_of : Cal W mg base "rest_of" 1 ["number", "width"] (sp_rest_of W)) (C_bits_of : Cal W mg base "bits_of" 1 ["number", "width"] (sp_bits_of W)) (C_width_of : Cal W mg base "width_of" 1 ["field", "way"] (sp_width_of W)) : Cal W mg base "pieces" 2 ["shape", "form", "head"] (sp_pieces W) := by
  obtain ⟨f, fd, g, F⟩ := S
  exact ⟨f, fd, g, f_pieces B F T C_rest_of C_bits_of C_width_of, F.kp, (F.binds (ps := ["shape", "form", "head"]) fun _ _ _ _ _ _ us hl => match us, hl with | [_, _, _], _ => rfl)⟩
theorem go_pieces {W : Wd} {H : Hp} {Q : VK} {E : XK} {x y z : V} {s : Shp} {f : Fm} {hd : List Int} (hs : Dq W.K H x (shD s)) (ok : OkShp s) (hf : Dq W.K H y (fmD f)) (okf : OkFm s f) (hh : Dq W.K H z (.tuple (hd.map .int))) (lh : hd.length = s.fs.length) (q : ∀ H', Same H H' → Q (.str (piecesT (triL s.fs f.ws hd))) H') : sp_pieces W [x, y, z] H Q E := ⟨s, f, hd, hs, ok, hf, okf, hh, lh, q⟩
def sp_size_of (W : Wd) : Sp := fun vs H Q _ => match vs with
  | [v_shape, v_form] =>
  ∃ (s : Shp) (f : Fm), Dq W.K H v_shape (shD s) ∧ OkShp s ∧ Dq W.K H v_form (fmD f) ∧ OkFm s f ∧ ∀ H', Same H H' → Q (.int (((s.fs.zip f.ws).map fun fw => ((wW fw.1 fw.2 : Nat) : Int)).sum)) H'
  | _ => False
abbrev N_size_of : List Str := ["shape", "form", "field", "way"]
theorem sc_size_of : FnScope N_size_of ["shape", "form"] (defScope s_size_of) := ⟨rfl, rfl, rfl, by decide +kernel, rfl, by decide +kernel, by decide +kernel⟩
theorem f_size_of {W : Wd} {mg : Str → Option Value} {base : Heap} (B : Bi mg) {f : Addr} {fd : FuncData} (F : Fun W.K "size_of" "size_of" s_size_of f fd) (T : Kl W.K mg) (C_width_of : Cal W mg base "width_of" 1 ["field", "way"] (sp_width_of W)) : FnOk W.P W.w W.K mg base CX0 2 f fd ["shape", "form"] (sp_size_of W) := by
  obtain ⟨a_width_of, d_width_of, g_width_of, F_width_of, k_width_of, b_width_of⟩ := C_width_of
  have nd := sc_size_of.nd
  have F0 : FnOk W.P W.w W.K mg base CX0 2 f fd ["shape", "form"] (sp_size_of W) := by
    refine F.ok sc_size_of (fun vs H Q E h => ?_) (fun cdv A outer s H vs Q E hr h => ?_)
    · match vs, h with | [_, _], _ => rfl
    · match vs, h with
      | [v_shape, v_form], h =>
        change sp_size_of W [v_shape, v_form] H Q E at h
        refine ⟨tRet (tCB (rSum W.K) (tCons (tLc (iZipA W.K (tCons (tOp (rIxU W.K) (tVar 0) (tC (.int 0))) (tCons (tOp (rIxU W.K) (tVar 1) (tC (.int 2))) (tNil)))) (gTup W.K 2 (gCons (gName 2) (gCons (gName 3) (gNil)))) (tYes) (tCall (sp_width_of W) [] E0 (tCons (tVar 2) (tCons (tVar 3) (tNil)))) [2, 3]) (tNil))), pss_one (ps_ret (pe_callB (cr_sum rfl) (by rfl) B.b_sum (by decide +kernel) (pa_cons (pe_lc (own := [("field", 2), ("way", 3)]) rfl nd (pi_zipA (by rfl) B.b_zip (pa_cons (pe_ix u_ix (pv 0) (pe_int) (fun _ _ => rfl)) (pa_cons (pe_ix u_ix (pv 1) (pe_int) (fun _ _ => rfl)) (pa_nil)))) (blkOk_by (own := [("field", 2), ("way", 3)]) (N := N_size_of) (sc := defScope s_size_of) (by decide +kernel)) (fun _ _ _ _ _ => pg_tup rfl (pgs_cons (pg_name (i := 2) nd rfl (by first | exact Or.inl rfl | exact Or.inr rfl)) (pgs_cons (pg_name (i := 3) nd rfl (by first | exact Or.inl rfl | exact Or.inr rfl)) (pgs_nil)))) (fun _ _ _ _ _ => pts_nil) (fun _ _ _ _ _ => pe_call F_width_of (hr.mono (by decide)) (by rfl) g_width_of k_width_of b_width_of .nil pass0 (pa_cons (pv 2) (pa_cons (pv 3) (pa_nil))))) (pa_nil)))), ?_⟩
        clear hr
        clear F_width_of g_width_of k_width_of b_width_of d_width_of a_width_of
        rw [show L2.start N_size_of [v_shape, v_form] = [some v_shape, some v_form, none, none] from rfl]
        obtain ⟨s, f, hs, ok, hf, okf, q⟩ := h
        have l1 := ok.l1
        have lw := okf.len
        walk_at "Zs"
        refine w_ixQT hs (d := .tuple (s.fs.map fdD)) rfl fun x1 h1 => ?_
        walk_at "Zs"
        refine w_ixQT hf (d := .tuple (f.ws.map wyD)) rfl fun x2 h2 => ?_
        walk_at "Zs"
        obtain ⟨a, xs, rfl, hxs, hds⟩ := dq_tt h1
        obtain ⟨b, ys, rfl, hys, hes⟩ := dq_tt h2
        have lx := dqs_len hds
        have ly := dqs_len hes
        rw [List.length_map] at lx ly
        refine w_goZT hxs.t hys.t ?_
        refine lcZT hxs.t hys.t (fun i acc _ => acc = ((s.fs.zip f.ws).take i).map fun fw => V.int ((wW fw.1 fw.2 : Nat) : Int)) stb_pure (by omega) (fun i acc H' e => by rw [e, List.length_map, List.length_take]; omega) (fun H' _ => rfl) (fun i x y acc H' hx hy e1 ea H3 e3 k k' hk hk' => ?_) fun D acc H' hD e1 hD' ea => ?_
        · obtain ⟨df, hdf, hxd⟩ := dqs_get2 hds hx
          obtain ⟨fd, hfd, rfl⟩ := map_at hdf
          obtain ⟨dw, hdw, hyd⟩ := dqs_get2 hes hy
          obtain ⟨wy, hwy, rfl⟩ := map_at hdw
          walk_at "Zs"
          refine go_width_of (dq_mono (e1.trans e3) hxd) (by have := (ok.fd i fd hfd).b0; omega) (dq_mono (e1.trans e3) hyd) (okf.ok i wy fd hwy hfd) ?_
          refine hk _ _ (Same.refl _) ?_
          have ez : (s.fs.zip f.ws)[i]? = some (fd, wy) := List.getElem?_zip_eq_some.mpr ⟨hfd, hwy⟩
          rw [List.take_add_one, ez, List.map_append, ea]
          rfl
        rw [List.take_of_length_le (by rw [List.length_zip]; omega)] at ea
        walk_at "Zs"
        refine w_sum (ns := (s.fs.zip f.ws).map fun fw => ((wW fw.1 fw.2 : Nat) : Int)) (SqL.of (by rw [hD', ea, List.map_map]; rfl)) ?_
        exact q _ e1
  exact F0
theorem c_size_of {W : Wd} {mg : Str → Option Value} {base : Heap} (B : Bi mg) (S : Src W.K mg "size_of" s_size_of) (T : Kl W.K mg) (C_width_of : Cal W mg base "width_of" 1 ["field", "way"] (sp_width_of W)) : Cal W mg base "size_of" 2 ["shape", "form"] (sp_size_of W) := by
  obtain ⟨f, fd, g, F⟩ := S
  exact ⟨f, fd, g, f_size_of B F T C_width_of, F.kp, (F.binds (ps := ["shape", "form"]) fun _ _ _ _ _ _ us hl => match us, hl with | [_, _], _ => rfl)⟩
theorem go_size_of {W : Wd} {H : Hp} {Q : VK} {E : XK} {x y : V} {s : Shp} {f : Fm} (hs : Dq W.K H x (shD s)) (ok : OkShp s) (hf : Dq W.K H y (fmD f)) (okf : OkFm s f) (q : ∀ H', Same H H' → Q (.int (((s.fs.zip f.ws).map fun fw => ((wW fw.1 fw.2 : Nat) : Int)).sum)) H') : sp_size_of W [x, y] H Q E := ⟨s, f, hs, ok, hf, okf, q⟩
def sp_value_opened (W : Wd) : Sp := fun vs H Q _ => match vs with
  | [v_shape, v_form, v_place, v_told, v_former, v_ahead, v_more] =>
  ∃ (s : Shp) (f : Fm) (p : Nat) (fd : Fd) (w : Wy) (z : Str) (fo ah : List Int) (v m : Int), Dq W.K H v_shape (shD s) ∧ OkShp s ∧ Dq W.K H v_form (fmD f) ∧ OkFm s f ∧ v_place = .int p ∧ s.fs[p]? = some fd ∧ f.ws[p]? = some w ∧ v_told = .str z ∧ (∀ c ∈ cz z, c = 48 ∨ c = 49) ∧ z.length ≤ 1000 ∧
    Dq W.K H v_former (.tuple (fo.map .int)) ∧ fo[p]? = some v ∧ Dq W.K H v_ahead (.tuple (ah.map .int)) ∧ p ≤ ah.length ∧ v_more = .int m ∧ -1000000 ≤ m ∧ m ≤ 1000000 ∧ ∀ (x : Int) H', Same H H' → VO fo ah m v fd (numT z) w x → Q (.int x) H'
  | _ => False
abbrev N_value_opened : List Str := ["shape", "form", "place", "told", "former", "ahead", "more", "way", "looked_for"]
theorem sc_value_opened : FnScope N_value_opened ["shape", "form", "place", "told", "former", "ahead", "more"] (defScope s_value_opened) := ⟨rfl, rfl, rfl, by decide +kernel, rfl, by decide +kernel, by decide +kernel⟩
theorem f_value_opened {W : Wd} {mg : Str → Option Value} {base : Heap} (B : Bi mg) {f : Addr} {fd : FuncData} (F : Fun W.K "value_opened" "value_opened" s_value_opened f fd) (T : Kl W.K mg) (C_number_of : Cal W mg base "number_of" 1 ["bits"] (sp_number_of W)) (C_around : Cal W mg base "around" 3 ["w", "base", "below", "rest", "width"] (sp_around W)) (C_expected : Cal W mg base "expected" 2 ["shape", "place", "former", "ahead", "more"] (sp_expected W)) : FnOk W.P W.w W.K mg base CX0 4 f fd ["shape", "form", "place", "told", "former", "ahead", "more"] (sp_value_opened W) := by
  obtain ⟨a_number_of, d_number_of, g_number_of, F_number_of, k_number_of, b_number_of⟩ := C_number_of
  obtain ⟨a_around, d_around, g_around, F_around, k_around, b_around⟩ := C_around
  obtain ⟨a_expected, d_expected, g_expected, F_expected, k_expected, b_expected⟩ := C_expected
  have nd := sc_value_opened.nd
  have F0 : FnOk W.P W.w W.K mg base CX0 4 f fd ["shape", "form", "place", "told", "former", "ahead", "more"] (sp_value_opened W) := by
    refine F.ok sc_value_opened (fun vs H Q E h => ?_) (fun cdv A outer s H vs Q E hr h => ?_)
    · match vs, h with | [_, _, _, _, _, _, _], _ => rfl
    · match vs, h with
      | [v_shape, v_form, v_place, v_told, v_former, v_ahead, v_more], h =>
        change sp_value_opened W [v_shape, v_form, v_place, v_told, v_former, v_ahead, v_more] H Q E at h
        refine ⟨tSeq (tAsg (tOp (rIxU W.K) (tOp (rIxU W.K) (tVar 1) (tC (.int 2))) (tVar 2)) (gName 7)) (tSeq (tIfS (tTest (tOp (rEqU W.K) (tOp (rIxU W.K) (tVar 7) (tC (.int 0))) (tC (.str "whole")))) (tRet (tCall (sp_number_of W) [] E0 (tCons (tVar 3) (tNil)))) (tNext)) (tSeq (tAsg (tCall (sp_expected W) [] E0 (tCons (tVar 0) (tCons (tVar 2) (tCons (tVar 4) (tCons (tVar 5) (tCons (tVar 6) (tNil))))))) (gName 8)) (tSeq (tIfS (tTest (tOp (rEqU W.K) (tOp (rIxU W.K) (tVar 7) (tC (.int 0))) (tC (.str "keep")))) (tRet (tVar 8)) (tNext)) (tRet (tCall (sp_around W) [] E0 (tCons (tOp (rIxU W.K) (tOp (rIxU W.K) (tOp (rIxU W.K) (tVar 0) (tC (.int 0))) (tVar 2)) (tC (.int 1))) (tCons (tVar 8) (tCons (tOp (rIxU W.K) (tVar 7) (tC (.int 2))) (tCons (tCall (sp_number_of W) [] E0 (tCons (tVar 3) (tNil))) (tCons (tOp (rIxU W.K) (tVar 7) (tC (.int 1))) (tNil))))))))))), pss_cons (ps_set (i := 7) nd rfl (.inl rfl) (pe_ix u_ix (pe_ix u_ix (pv 1) (pe_int) (fun _ _ => rfl)) (pv 2) (fun _ _ => rfl))) (pss_cons (ps_if (pt_cmpR (u_eq hr.units) (pe_ix u_ix (pv 7) (pe_int) (fun _ _ => rfl)) (pe_str) (nomark _)) (pss_one (ps_ret (pe_call F_number_of (hr.mono (by decide)) (by rfl) g_number_of k_number_of b_number_of .nil pass0 (pa_cons (pv 3) (pa_nil))))) (pss_nil)) (pss_cons (ps_set (i := 8) nd rfl (.inl rfl) (pe_call F_expected (hr.mono (by decide)) (by rfl) g_expected k_expected b_expected .nil pass0 (pa_cons (pv 0) (pa_cons (pv 2) (pa_cons (pv 4) (pa_cons (pv 5) (pa_cons (pv 6) (pa_nil)))))))) (pss_cons (ps_if (pt_cmpR (u_eq hr.units) (pe_ix u_ix (pv 7) (pe_int) (fun _ _ => rfl)) (pe_str) (nomark _)) (pss_one (ps_ret (pv 8))) (pss_nil)) (pss_one (ps_ret (pe_call F_around (hr.mono (by decide)) (by rfl) g_around k_around b_around .nil pass0 (pa_cons (pe_ix u_ix (pe_ix u_ix (pe_ix u_ix (pv 0) (pe_int) (fun _ _ => rfl)) (pv 2) (fun _ _ => rfl)) (pe_int) (fun _ _ => rfl)) (pa_cons (pv 8) (pa_cons (pe_ix u_ix (pv 7) (pe_int) (fun _ _ => rfl)) (pa_cons (pe_call F_number_of (hr.mono (by decide)) (by rfl) g_number_of k_number_of b_number_of .nil pass0 (pa_cons (pv 3) (pa_nil))) (pa_cons (pe_ix u_ix (pv 7) (pe_int) (fun _ _ => rfl)) (pa_nil)))))))))))), ?_⟩
        clear hr
        clear F_number_of g_number_of k_number_of b_number_of d_number_of a_number_of
        clear F_around g_around k_around b_around d_around a_around
        clear F_expected g_expected k_expected b_expected d_expected a_expected
        rw [show L2.start N_value_opened [v_shape, v_form, v_place, v_told, v_former, v_ahead, v_more] = [some v_shape, some v_form, some v_place, some v_told, some v_former, some v_ahead, some v_more, none, none] from rfl]
        obtain ⟨s, f, p, fd, w, z, fo, ah, v, m, hs, ok, hf, okf, rfl, hfd, hw, rfl, h01, hz, hfo, hv, hah, lah, rfl, m0, m1, q⟩ := h
        have okd := ok.fd p fd hfd
        have b0 := okd.b0
        have b1 := okd.b1
        have okw := okf.ok p w fd hw hfd
        have lp := (List.getElem?_eq_some_iff.mp hfd).1
        have lpw := (List.getElem?_eq_some_iff.mp hw).1
        walk_at "Zs"
        refine w_ixQT hf (d := .tuple (f.ws.map wyD)) rfl fun x1 h1 => ?_
        walk_at "Zs"
        refine w_ixM h1 (by omega) (by omega) fun w' x2 hw' h2 => ?_
        rw [Int.toNat_natCast, hw] at hw'
        obtain rfl := Option.some.inj hw'
        walk_at "Zs"
        cases w with
        | whole =>
          refine w_ixQTs h2 rfl ?_
          walk_at "Zs"
          refine go_number_of h01 (by omega) ?_
          exact q _ _ (Same.refl _) rfl
        | keep =>
          refine w_ixQTs h2 rfl ?_
          walk_at "Zs"
          refine go_expected hs ok hfd hfo hv hah lah m0 m1 fun r H1 e1 hr => ?_
          walk_at "Zs"
          refine w_ixQTs (dq_mono e1 h2) rfl ?_
          walk_at "Zs"
          exact q _ _ e1 ⟨r, hr, rfl⟩
        | low wd bl =>
          obtain ⟨k0, k1, k2, k3⟩ := okw
          refine w_ixQTs h2 rfl ?_
          walk_at "Zs"
          refine go_expected hs ok hfd hfo hv hah lah m0 m1 fun r H1 e1 hr => ?_
          walk_at "Zs"
          refine w_ixQTs (dq_mono e1 h2) rfl ?_
          walk_at "Zs"
          refine w_ixQT (dq_mono e1 hs) (d := .tuple (s.fs.map fdD)) rfl fun x3 h3 => ?_
          walk_at "Zs"
          refine w_ixM h3 (by omega) (by omega) fun fd' x4 hfd' h4 => ?_
          rw [Int.toNat_natCast, hfd] at hfd'
          obtain rfl := Option.some.inj hfd'
          walk_at "Zs"
          refine w_ixQTi h4 (n := fd.br) rfl ?_
          walk_at "Zs"
          refine w_ixQTi (dq_mono e1 h2) (n := bl) rfl ?_
          walk_at "Zs"
          refine go_number_of h01 (by omega) ?_
          walk_at "Zs"
          refine w_ixQTi (dq_mono e1 h2) (n := wd) rfl ?_
          walk_at "Zs"
          rename_i y ey y0 y1
          exact q _ _ e1 ⟨r, hr, ey⟩
  exact F0
theorem c_value_opened {W : Wd} {mg : Str → Option Value} {base : Heap} (B : Bi mg) (S : Src W.K mg "value_opened" s_value_opened) (T : Kl W.K mg) (C_number_of : Cal W mg base "number_of" 1 ["bits"] (sp_number_of W)) (C_around : Cal W mg base "around" 3 ["w", "base", "below", "rest", "width"] (sp_around W)) (C_expected : Cal W mg base "expected" 2 ["shape", "place", "former", "ahead", "more"] (sp_expected W)) : Cal W mg base "value_opened" 4 ["shape", "form", "place", "told", "former", "ahead", "more"] (sp_value_opened W) := by
  obtain ⟨f, fd, g, F⟩ := S
  exact ⟨f, fd, g, f_value_opened B F T C_number_of C_around C_expected, F.kp, (F.binds (ps := ["shape", "form", "place", "told", "former", "ahead", "more"]) fun _ _ _ _ _ _ us hl => match us, hl with | [_, _, _, _, _, _, _], _ => rfl)⟩
theorem go_value_opened {W : Wd} {H : Hp} {Q : VK} {E : XK} {vs vf vfo va : V} {s : Shp} {f : Fm} {p : Nat} {fd : Fd} {w : Wy} {z : Str} {fo ah : List Int} {v m : Int} (hs : Dq W.K H vs (shD s)) (ok : OkShp s) (hf : Dq W.K H vf (fmD f)) (okf : OkFm s f) (hfd : s.fs[p]? = some fd) (hw : f.ws[p]? = some w) (h01 : ∀ c ∈ cz z, c = 48 ∨ c = 49) (hz : z.length ≤ 1000)
    (hfo : Dq W.K H vfo (.tuple (fo.map .int))) (hv : fo[p]? = some v) (hah : Dq W.K H va (.tuple (ah.map .int))) (lah : p ≤ ah.length) (m0 : -1000000 ≤ m) (m1 : m ≤ 1000000) (q : ∀ (x : Int) H', Same H H' → VO fo ah m v fd (numT z) w x → Q (.int x) H') : sp_value_opened W [vs, vf, .int (p : Int), .str z, vfo, va, .int m] H Q E :=
  ⟨s, f, p, fd, w, z, fo, ah, v, m, hs, ok, hf, okf, rfl, hfd, hw, rfl, h01, hz, hfo, hv, hah, lah, rfl, m0, m1, q⟩
def sp_opened (W : Wd) : Sp := fun vs H Q _ => match vs with
  | [v_shape, v_form, v_bits, v_former, v_more] =>
  ∃ (s : Shp) (f : Fm) (z : Str) (fo : List Int) (m : Int), Dq W.K H v_shape (shD s) ∧ OkShp s ∧ Dq W.K H v_form (fmD f) ∧ OkFm s f ∧ v_bits = .str z ∧ (∀ c ∈ cz z, c = 48 ∨ c = 49) ∧ z.length = atW s.fs f.ws s.fs.length ∧ z.length ≤ 1000 ∧ Dq W.K H v_former (.tuple (fo.map .int)) ∧ fo.length = s.fs.length ∧ v_more = .int m ∧ -1000000 ≤ m ∧ m ≤ 1000000 ∧
    ∀ (hd : List Int) v H', Same H H' → OpN s f fo m z s.fs.length hd → Dq W.K H' v (.tuple (hd.map .int)) → Q v H'
  | _ => False
abbrev N_opened : List Str := ["shape", "form", "bits", "former", "more", "head", "at", "place", "field", "width", "value"]
theorem sc_opened : FnScope N_opened ["shape", "form", "bits", "former", "more"] (defScope s_opened) := ⟨rfl, rfl, rfl, by decide +kernel, rfl, by decide +kernel, by decide +kernel⟩
theorem f_opened {W : Wd} {mg : Str → Option Value} {base : Heap} (B : Bi mg) {f : Addr} {fd : FuncData} (F : Fun W.K "opened" "opened" s_opened f fd) (T : Kl W.K mg) (C_value_opened : Cal W mg base "value_opened" 4 ["shape", "form", "place", "told", "former", "ahead", "more"] (sp_value_opened W)) (C_width_of : Cal W mg base "width_of" 1 ["field", "way"] (sp_width_of W)) : FnOk W.P W.w W.K mg base CX0 5 f fd ["shape", "form", "bits", "former", "more"] (sp_opened W) := by
  obtain ⟨a_value_opened, d_value_opened, g_value_opened, F_value_opened, k_value_opened, b_value_opened⟩ := C_value_opened
  obtain ⟨a_width_of, d_width_of, g_width_of, F_width_of, k_width_of, b_width_of⟩ := C_width_of
  have nd := sc_opened.nd
  have F0 : FnOk W.P W.w W.K mg base CX0 5 f fd ["shape", "form", "bits", "former", "more"] (sp_opened W) := by
    refine F.ok sc_opened (fun vs H Q E h => ?_) (fun cdv A outer s H vs Q E hr h => ?_)
    · match vs, h with | [_, _, _, _, _], _ => rfl
    · match vs, h with
      | [v_shape, v_form, v_bits, v_former, v_more], h =>
        change sp_opened W [v_shape, v_form, v_bits, v_former, v_more] H Q E at h
        refine ⟨tSeq (tAsg (tTupN (tNil)) (gName 5)) (tSeq (tAsg (tC (.int 0)) (gName 6)) (tSeq (tFor (iEnumU W.K (tCons (tOp (rIxU W.K) (tVar 0) (tC (.int 0))) (tNil))) (gTup W.K 2 (gCons (gName 7) (gCons (gName 8) (gNil)))) (tSeq (tAsg (tCall (sp_width_of W) [] E0 (tCons (tVar 8) (tCons (tOp (rIxU W.K) (tOp (rIxU W.K) (tVar 1) (tC (.int 2))) (tVar 7)) (tNil)))) (gName 9)) (tSeq (tAsg (tCall (sp_value_opened W) [] E0 (tCons (tVar 0) (tCons (tVar 1) (tCons (tVar 7) (tCons (tSl (rSlU W.K) (tVar 2) (tPart (tVar 6)) (tPart (tOp (rAddN W.K) (tVar 6) (tVar 9)))) (tCons (tVar 3) (tCons (tVar 5) (tCons (tVar 4) (tNil))))))))) (gName 10)) (tSeq (tAsg (tOp (rAddN W.K) (tVar 5) (tTupN (tCons (tVar 10) (tNil)))) (gName 5)) (tAug 6 (tVar 9) (ipAddN W.K)))))) (tRet (tVar 5)))), pss_cons (ps_set (i := 5) nd rfl (.inl rfl) (pe_tupN (pa_nil))) (pss_cons (ps_set (i := 6) nd rfl (.inl rfl) (pe_int)) (pss_cons (ps_for PassesOwn.never rfl (pi_enumU (by rfl) B.b_enumerate (pa_cons (pe_ix u_ix (pv 0) (pe_int) (fun _ _ => rfl)) (pa_nil))) (pg_tup rfl (pgs_cons (pg_name (i := 7) nd rfl (by first | exact Or.inl rfl | exact Or.inr rfl)) (pgs_cons (pg_name (i := 8) nd rfl (by first | exact Or.inl rfl | exact Or.inr rfl)) (pgs_nil)))) (pss_cons (ps_set (i := 9) nd rfl (.inl rfl) (pe_call F_width_of (hr.mono (by decide)) (by rfl) g_width_of k_width_of b_width_of .nil pass0 (pa_cons (pv 8) (pa_cons (pe_ix u_ix (pe_ix u_ix (pv 1) (pe_int) (fun _ _ => rfl)) (pv 7) (fun _ _ => rfl)) (pa_nil))))) (pss_cons (ps_set (i := 10) nd rfl (.inl rfl) (pe_call F_value_opened (hr.mono (by decide)) (by rfl) g_value_opened k_value_opened b_value_opened .nil pass0 (pa_cons (pv 0) (pa_cons (pv 1) (pa_cons (pv 7) (pa_cons (pe_slice u_sl (pv 2) (po_some (pv 6)) (po_some (pe_op u_addN (pv 6) (pv 9)))) (pa_cons (pv 3) (pa_cons (pv 5) (pa_cons (pv 4) (pa_nil)))))))))) (pss_cons (ps_set (i := 5) nd rfl (.inl rfl) (pe_op u_addN (pv 5) (pe_tupN (pa_cons (pv 10) (pa_nil))))) (pss_one (ps_aug (i := 6) nd rfl (.inl rfl) (pv 9) ip_addN)))))) (pss_one (ps_ret (pv 5))))), ?_⟩
        clear hr
        clear F_value_opened g_value_opened k_value_opened b_value_opened d_value_opened a_value_opened
        clear F_width_of g_width_of k_width_of b_width_of d_width_of a_width_of
        rw [show L2.start N_opened [v_shape, v_form, v_bits, v_former, v_more] = [some v_shape, some v_form, some v_bits, some v_former, some v_more, none, none, none, none, none, none] from rfl]
        obtain ⟨s, f, z, fo, m, hs, ok, hf, okf, rfl, h01, hzl, hz, hfo, lfo, rfl, m0, m1, q⟩ := h
        have l1 := ok.l1
        have lw := okf.len
        have line : (1000 : Nat) ≤ sizeLine := by decide
        walk_at "Zs"
        rename_i p0 G0 np0 f0 g0
        refine w_ixQT (dq_mono f0 hs) (d := .tuple (s.fs.map fdD)) rfl fun x1 h1 => ?_
        walk_at "Zs"
        obtain ⟨a, xs, rfl, hxs, hds⟩ := dq_tt h1
        have hxl := dqs_len hds
        rw [List.length_map] at hxl
        refine w_goET hxs.t ?_
        refine forET2 (xs := xs) (fun i σ' H' => (∃ (v : V) (hd : List Int), (∃ y7 y8 y9 y10, σ' = [some v_shape, some v_form, some (.str z), some v_former, some (.int m), some v, some (.int ((atW s.fs f.ws i : Nat) : Int)), y7, y8, y9, y10]) ∧ Dq W.K H' v (.tuple (hd.map .int)) ∧ OpN s f fo m z i hd) ∧ Same G0 H') ⟨⟨.ref p0, [], ⟨_, _, _, _, rfl⟩, dq_ofN (ns := []) g0, OpN.nil⟩, Same.refl _⟩ (fun i σ' H' h => same_t h.2 hxs.t) (fun i x σ' H1 hx h H2 e2 => ?_) (fun σ' H1 h => ?_)
        · obtain ⟨⟨v, hd, ⟨y7, y8, y9, y10, rfl⟩, hhd, op⟩, e1⟩ := h
          obtain ⟨df, hdf, hxd⟩ := dqs_get2 hds hx
          obtain ⟨fd, hfd, rfl⟩ := map_at hdf
          have okd := ok.fd i fd hfd
          have b0 := okd.b0
          have b1 := okd.b1
          have hi := (List.getElem?_eq_some_iff.mp hfd).1
          obtain ⟨w, hw⟩ : ∃ w, f.ws[i]? = some w := ⟨_, List.getElem?_eq_getElem (by omega)⟩
          obtain ⟨v0, hv0⟩ : ∃ v0, fo[i]? = some v0 := ⟨_, List.getElem?_eq_getElem (by omega)⟩
          have okw := okf.ok i w fd hw hfd
          have es := atW_succ hfd hw
          have hm := atW_mono s.fs f.ws (show i + 1 ≤ s.fs.length by omega)
          have e12 : Same G0 H2 := e1.trans e2
          have S2 : Same H H2 := f0.trans e12
          have ci : i < s.fs.length := hi
          walk_at "Zs"
          refine w_ixQT (dq_mono S2 hf) (d := .tuple (f.ws.map wyD)) rfl fun x2 h2 => ?_
          walk_at "Zs"
          refine w_ixM h2 (by omega) (by omega) fun w' x3 hw' h3 => ?_
          rw [Int.toNat_natCast, hw] at hw'
          obtain rfl := Option.some.inj hw'
          walk_at "Zs"
          refine go_width_of (dq_mono e12 hxd) (by omega) h3 okw ?_
          walk_at "Zs"
          refine w_slS (by omega) ?_
          have ecut : cz (cutS z (some ((atW s.fs f.ws i : Nat) : Int)) (some (((atW s.fs f.ws i : Nat) : Int) + ((wW fd w : Nat) : Int)))) = sliceN z (atW s.fs f.ws i) (wW fd w) := by
            rw [cz_cut, cutD_mid (by omega) (by omega) (by rw [cz_len]; omega)]
            unfold sliceN
            congr 1
            omega
          have enum := num_slice ecut
          have s01 : ∀ c ∈ cz (cutS z (some ((atW s.fs f.ws i : Nat) : Int)) (some (((atW s.fs f.ws i : Nat) : Int) + ((wW fd w : Nat) : Int)))), c = 48 ∨ c = 49 := by
            rw [ecut]
            exact slice_01 h01
          have slen : (cutS z (some ((atW s.fs f.ws i : Nat) : Int)) (some (((atW s.fs f.ws i : Nat) : Int) + ((wW fd w : Nat) : Int)))).length ≤ 1000 := by
            rw [← cz_len, ecut, slice_len (by omega)]
            omega
          walk_at "Zs"
          refine go_value_opened (dq_mono S2 hs) ok (dq_mono S2 hf) okf hfd hw s01 slen (dq_mono S2 hfo) hv0 (dq_mono e2 hhd) (by rw [op.1]; omega) m0 m1 fun x4 H3 e3 hvo => ?_
          rw [enum] at hvo
          walk_at "Zs"
          rename_i p5 H4 np5 e4 h5
          refine w_catQT (dq_mono (e2.trans (e3.trans e4)) hhd) (dq_ofN (ns := [x4]) h5) (by rw [List.length_map, List.length_map, op.1]; exact Nat.le_trans (m := 100) (by simp only [List.length_cons, List.length_nil]; omega) (by decide)) fun u H5 e5 hu => ?_
          walk_at "Zs"
          rw [← List.map_append] at hu
          rw [es]
          refine ⟨⟨u, hd ++ [x4], ⟨_, _, _, _, rfl⟩, hu, op.snoc hfd hw hv0 hvo⟩, ?_⟩
          walk_at "Zkt"
        · obtain ⟨⟨v, hd, ⟨y7, y8, y9, y10, rfl⟩, hhd, op⟩, e1⟩ := h
          walk_at "Zs"
          rw [hxl] at op
          exact q hd v _ (f0.trans e1) op hhd
  exact F0
theorem c_opened {W : Wd} {mg : Str → Option Value} {base : Heap} (B : Bi mg) (S : Src W.K mg "opened" s_opened) (T : Kl W.K mg) (C_value_opened : Cal W mg base "value_opened" 4 ["shape", "form", "place", "told", "former", "ahead", "more"] (sp_value_opened W)) (C_width_of : Cal W mg base "width_of" 1 ["field", "way"] (sp_width_of W)) : Cal W mg base "opened" 5 ["shape", "form", "bits", "former", "more"] (sp_opened W) := by
  obtain ⟨f, fd, g, F⟩ := S
  exact ⟨f, fd, g, f_opened B F T C_value_opened C_width_of, F.kp, (F.binds (ps := ["shape", "form", "bits", "former", "more"]) fun _ _ _ _ _ _ us hl => match us, hl with | [_, _, _, _, _], _ => rfl)⟩
theorem go_opened {W : Wd} {H : Hp} {Q : VK} {E : XK} {vs vf vfo : V} {s : Shp} {f : Fm} {z : Str} {fo : List Int} {m : Int} (hs : Dq W.K H vs (shD s)) (ok : OkShp s) (hf : Dq W.K H vf (fmD f)) (okf : OkFm s f) (h01 : ∀ c ∈ cz z, c = 48 ∨ c = 49) (hzl : z.length = atW s.fs f.ws s.fs.length) (hz : z.length ≤ 1000) (hfo : Dq W.K H vfo (.tuple (fo.map .int))) (lfo : fo.length = s.fs.length) (m0 : -1000000 ≤ m) (m1 : m ≤ 1000000)
    (q : ∀ (hd : List Int) v H', Same H H' → OpN s f fo m z s.fs.length hd → Dq W.K H' v (.tuple (hd.map .int)) → Q v H') : sp_opened W [vs, vf, .str z, vfo, .int m] H Q E :=
  ⟨s, f, z, fo, m, hs, ok, hf, okf, rfl, h01, hzl, hz, hfo, lfo, rfl, m0, m1, q⟩
def sp_first_unlike (W : Wd) : Sp := fun vs H Q _ => match vs with
  | [v_one, v_other] =>
  ∃ (a b : List Int), Dq W.K H v_one (headD a) ∧ Dq W.K H v_other (headD b) ∧ a.length = b.length ∧ (∀ (k : Nat) H', Same H H' → FstU a b (some k) → Q (.int (k : Int)) H') ∧ (∀ H', Same H H' → FstU a b none → Q .non H')
  | _ => False
abbrev N_first_unlike : List Str := ["one", "other", "place", "value"]
theorem sc_first_unlike : FnScope N_first_unlike ["one", "other"] (defScope s_first_unlike) := ⟨rfl, rfl, rfl, by decide +kernel, rfl, by decide +kernel, by decide +kernel⟩
theorem f_first_unlike {W : Wd} {mg : Str → Option Value} {base : Heap} (B : Bi mg) {f : Addr} {fd : FuncData} (F : Fun W.K "first_unlike" "first_unlike" s_first_unlike f fd) (T : Kl W.K mg)  : FnOk W.P W.w W.K mg base CX0 1 f fd ["one", "other"] (sp_first_unlike W) := by
  have nd := sc_first_unlike.nd
  have F0 : FnOk W.P W.w W.K mg base CX0 1 f fd ["one", "other"] (sp_first_unlike W) := by
    refine F.ok sc_first_unlike (fun vs H Q E h => ?_) (fun cdv A outer s H vs Q E hr h => ?_)
    · match vs, h with | [_, _], _ => rfl
    · match vs, h with
      | [v_one, v_other], h =>
        change sp_first_unlike W [v_one, v_other] H Q E at h
        refine ⟨tSeq (tFor (iEnumU W.K (tCons (tVar 0) (tNil))) (gTup W.K 2 (gCons (gName 2) (gCons (gName 3) (gNil)))) (tIfS (tTest (tOp (rNeU W.K) (tVar 3) (tOp (rIxU W.K) (tVar 1) (tVar 2)))) (tRet (tVar 2)) (tNext))) (tRet (tC .non)), pss_cons (ps_for PassesOwn.never rfl (pi_enumU (by rfl) B.b_enumerate (pa_cons (pv 0) (pa_nil))) (pg_tup rfl (pgs_cons (pg_name (i := 2) nd rfl (by first | exact Or.inl rfl | exact Or.inr rfl)) (pgs_cons (pg_name (i := 3) nd rfl (by first | exact Or.inl rfl | exact Or.inr rfl)) (pgs_nil)))) (pss_one (ps_if (pt_cmpR (u_ne hr.units) (pv 3) (pe_ix u_ix (pv 1) (pv 2) (fun _ _ => rfl)) (nomark _)) (pss_one (ps_ret (pv 2))) (pss_nil)))) (pss_one (ps_ret (pe_non))), ?_⟩
        clear hr
        rw [show L2.start N_first_unlike [v_one, v_other] = [some v_one, some v_other, none, none] from rfl]
        obtain ⟨a, b, ha, hb, lab, qs, qn⟩ := h
        obtain ⟨p, xs, rfl, hxs, hds⟩ := dq_tt ha
        have lxs := dqs_len hds
        rw [List.length_map] at lxs
        walk_at "Zs"
        refine w_goET hxs.t ?_
        refine forET2 (xs := xs) (fun i σ' H' => (∃ y2 y3, σ' = [some (.ref p), some v_other, y2, y3]) ∧ Same H H' ∧ a.take i = b.take i) ⟨⟨_, _, rfl⟩, Same.refl _, by rw [List.take_zero, List.take_zero]⟩ (fun i σ' H' h => same_t h.2.1 hxs.t) (fun i x σ' H1 hx h H2 e2 => ?_) (fun σ' H1 h => ?_)
        · obtain ⟨⟨y2, y3, rfl⟩, e1, et⟩ := h
          obtain ⟨d, hd, hxd⟩ := dqs_get2 hds hx
          obtain ⟨n, hn, rfl⟩ := map_at hd
          obtain rfl := dq_int hxd
          have hi := (List.getElem?_eq_some_iff.mp hn).1
          walk_at "Zs"
          refine w_ixMi (dq_mono (e1.trans e2) hb) (by omega) (by omega) fun m hm => ?_
          rw [Int.toNat_natCast] at hm
          walk_at "Zs"
          by_cases c : n = m
          · subst c
            rw [decide_eq_true rfl]
            walk_at "Zs"
            exact ⟨⟨_, _, rfl⟩, e1.trans e2, by rw [take_snocI hn, take_snocI hm, et]⟩
          · rw [decide_eq_false c]
            walk_at "Zs"
            exact qs i _ (e1.trans e2) ⟨et, n, m, hn, hm, c⟩
        · obtain ⟨⟨y2, y3, rfl⟩, e1, et⟩ := h
          walk_at "Zs"
          refine qn _ e1 ?_
          rw [List.take_of_length_le (by omega), List.take_of_length_le (by omega)] at et
          exact et
  exact F0
theorem c_first_unlike {W : Wd} {mg : Str → Option Value} {base : Heap} (B : Bi mg) (S : Src W.K mg "first_unlike" s_first_unlike) (T : Kl W.K mg)  : Cal W mg base "first_unlike" 1 ["one", "other"] (sp_first_unlike W) := by
  obtain ⟨f, fd, g, F⟩ := S
  exact ⟨f, fd, g, f_first_unlike B F T , F.kp, (F.binds (ps := ["one", "other"]) fun _ _ _ _ _ _ us hl => match us, hl with | [_, _], _ => rfl)⟩
theorem go_first_unlike {W : Wd} {H : Hp} {Q : VK} {E : XK} {x y : V} {a b : List Int} (ha : Dq W.K H x (headD a)) (hb : Dq W.K H y (headD b)) (l : a.length = b.length) (qs : ∀ (k : Nat) H', Same H H' → FstU a b (some k) → Q (.int (k : Int)) H') (qn : ∀ H', Same H H' → FstU a b none → Q .non H') : sp_first_unlike W [x, y] H Q E := ⟨a, b, ha, hb, l, qs, qn⟩
def sp_doubt (W : Wd) : Sp := fun vs H Q _ => match vs with
  | [v_shape, v_form, v_head, v_formers] =>
  ∃ (s : Shp) (f : Fm) (hd : List Int) (ps : List Fo), Dq W.K H v_shape (shD s) ∧ OkShp s ∧ Dq W.K H v_form (fmD f) ∧ OkFm s f ∧ Dq W.K H v_head (headD hd) ∧ hd.length = s.fs.length ∧ Dq W.K H v_formers (fosD ps) ∧ (∀ p ∈ ps, OkFo s p) ∧ ps.length ≤ 1000 ∧ ∀ d u H', Same H H' → DouR s f hd ps d → Dq W.K H' u (pairD d) → Q u H'
  | _ => False
abbrev N_doubt : List Str := ["shape", "form", "head", "formers", "bits", "k", "more", "former", "told", "place"]
theorem sc_doubt : FnScope N_doubt ["shape", "form", "head", "formers"] (defScope s_doubt) := ⟨rfl, rfl, rfl, by decide +kernel, rfl, by decide +kernel, by decide +kernel⟩
theorem f_doubt {W : Wd} {mg : Str → Option Value} {base : Heap} (B : Bi mg) {f : Addr} {fd : FuncData} (F : Fun W.K "doubt" "doubt" s_doubt f fd) (T : Kl W.K mg) (C_first_unlike : Cal W mg base "first_unlike" 1 ["one", "other"] (sp_first_unlike W)) (C_opened : Cal W mg base "opened" 5 ["shape", "form", "bits", "former", "more"] (sp_opened W)) (C_pieces : Cal W mg base "pieces" 2 ["shape", "form", "head"] (sp_pieces W)) : FnOk W.P W.w W.K mg base CX0 6 f fd ["shape", "form", "head", "formers"] (sp_doubt W) := by
  obtain ⟨a_first_unlike, d_first_unlike, g_first_unlike, F_first_unlike, k_first_unlike, b_first_unlike⟩ := C_first_unlike
  obtain ⟨a_opened, d_opened, g_opened, F_opened, k_opened, b_opened⟩ := C_opened
  obtain ⟨a_pieces, d_pieces, g_pieces, F_pieces, k_pieces, b_pieces⟩ := C_pieces
  have nd := sc_doubt.nd
  have F0 : FnOk W.P W.w W.K mg base CX0 6 f fd ["shape", "form", "head", "formers"] (sp_doubt W) := by
    refine F.ok sc_doubt (fun vs H Q E h => ?_) (fun cdv A outer s H vs Q E hr h => ?_)
    · match vs, h with | [_, _, _, _], _ => rfl
    · match vs, h with
      | [v_shape, v_form, v_head, v_formers], h =>
        change sp_doubt W [v_shape, v_form, v_head, v_formers] H Q E at h
        refine ⟨tSeq (tAsg (tCall (sp_pieces W) [] E0 (tCons (tVar 0) (tCons (tVar 1) (tCons (tVar 2) (tNil))))) (gName 4)) (tSeq (tFor (iEnumU W.K (tCons (tVar 3) (tNil))) (gTup W.K 2 (gCons (gName 5) (gCons (gTup W.K 2 (gCons (gName 6) (gCons (gName 7) (gNil)))) (gNil)))) (tSeq (tAsg (tCall (sp_opened W) [] E0 (tCons (tVar 0) (tCons (tVar 1) (tCons (tVar 4) (tCons (tVar 7) (tCons (tVar 6) (tNil))))))) (gName 8)) (tSeq (tAsg (tCall (sp_first_unlike W) [] E0 (tCons (tVar 8) (tCons (tVar 2) (tNil)))) (gName 9)) (tIfS (tTest (tOp (rIsNotU) (tVar 9) (tC .non))) (tRet (tTupN (tCons (tVar 5) (tCons (tVar 9) (tCons (tOp (rIxU W.K) (tVar 8) (tVar 9)) (tNil)))))) (tNext))))) (tRet (tC .non))), pss_cons (ps_set (i := 4) nd rfl (.inl rfl) (pe_call F_pieces (hr.mono (by decide)) (by rfl) g_pieces k_pieces b_pieces .nil pass0 (pa_cons (pv 0) (pa_cons (pv 1) (pa_cons (pv 2) (pa_nil)))))) (pss_cons (ps_for PassesOwn.never rfl (pi_enumU (by rfl) B.b_enumerate (pa_cons (pv 3) (pa_nil))) (pg_tup rfl (pgs_cons (pg_name (i := 5) nd rfl (by first | exact Or.inl rfl | exact Or.inr rfl)) (pgs_cons (pg_tup rfl (pgs_cons (pg_name (i := 6) nd rfl (by first | exact Or.inl rfl | exact Or.inr rfl)) (pgs_cons (pg_name (i := 7) nd rfl (by first | exact Or.inl rfl | exact Or.inr rfl)) (pgs_nil)))) (pgs_nil)))) (pss_cons (ps_set (i := 8) nd rfl (.inl rfl) (pe_call F_opened (hr.mono (by decide)) (by rfl) g_opened k_opened b_opened .nil pass0 (pa_cons (pv 0) (pa_cons (pv 1) (pa_cons (pv 4) (pa_cons (pv 7) (pa_cons (pv 6) (pa_nil)))))))) (pss_cons (ps_set (i := 9) nd rfl (.inl rfl) (pe_call F_first_unlike (hr.mono (by decide)) (by rfl) g_first_unlike k_first_unlike b_first_unlike .nil pass0 (pa_cons (pv 8) (pa_cons (pv 2) (pa_nil))))) (pss_one (ps_if (pt_cmpR u_isnot (pv 9) (pe_non) (nomark _)) (pss_one (ps_ret (pe_tupN (pa_cons (pv 5) (pa_cons (pv 9) (pa_cons (pe_ix u_ix (pv 8) (pv 9) (fun _ _ => rfl)) (pa_nil))))))) (pss_nil)))))) (pss_one (ps_ret (pe_non)))), ?_⟩
        clear hr
        clear F_first_unlike g_first_unlike k_first_unlike b_first_unlike d_first_unlike a_first_unlike
        clear F_opened g_opened k_opened b_opened d_opened a_opened
        clear F_pieces g_pieces k_pieces b_pieces d_pieces a_pieces
        rw [show L2.start N_doubt [v_shape, v_form, v_head, v_formers] = [some v_shape, some v_form, some v_head, some v_formers, none, none, none, none, none, none] from rfl]
        obtain ⟨s, f, hd, ps, hs, ok, hf, okf, hh, lh, hps, okp, lps, q⟩ := h
        have at0 := atW_le ok okf
        walk_at "Zs"
        refine go_pieces hs ok hf okf hh lh fun H1 e1 => ?_
        have lz : (piecesT (triL s.fs f.ws hd)).length = atW s.fs f.ws s.fs.length := by rw [pieces_len, atW_all okf.len lh]
        have z01 := pieces_01 (triL s.fs f.ws hd)
        obtain ⟨a, xs, rfl, hxs, hds⟩ := dq_tt hps
        have lxs := dqs_len hds
        rw [List.length_map] at lxs
        walk_at "Zs"
        refine w_goET (same_t e1 hxs.t) ?_
        refine forETg (xs := xs) (fun i σ' H' => (∃ y5 y6 y7 y8 y9, σ' = [some v_shape, some v_form, some v_head, some (.ref a), some (.str (piecesT (triL s.fs f.ws hd))), y5, y6, y7, y8, y9]) ∧ Same H H' ∧ SuA s f hd (ps.take i)) ⟨⟨_, _, _, _, _, rfl⟩, e1, by rw [List.take_zero]; exact suA_nil⟩ (fun i σ' H' h => same_t h.2.1 hxs.t) (fun i x σ' H2 hx h H3 e3 => ?_) (fun σ' H2 h => ?_)
        · obtain ⟨⟨y5, y6, y7, y8, y9, rfl⟩, e2, su⟩ := h
          obtain ⟨d, hd1, hxd⟩ := dqs_get2 hds hx
          obtain ⟨p, hp, rfl⟩ := map_at hd1
          have okp' := okp p (List.mem_of_getElem? hp)
          have m0 := okp'.2
          have e23 := e2.trans e3
          obtain ⟨b, x1, y1, rfl, hb, hx1, hy1⟩ := dq_t2 (dq_mono e23 hxd)
          obtain rfl := dq_int hx1
          refine w_gtup hb.t rfl ?_
          walk_at "Zs"
          refine go_opened (dq_mono e23 hs) ok (dq_mono e23 hf) okf z01 lz (by omega) hy1 okp'.1 (by omega) (by omega) fun o ov H4 e4 op hov => ?_
          have e24 := e23.trans e4
          walk_at "Zs"
          refine go_first_unlike hov (dq_mono e24 hh) (by rw [op.1, lh]) (fun k H5 e5 u => ?_) (fun H5 e5 u => ?_)
          · walk_at "Zs"
            obtain ⟨v, w, hv, hw, hn⟩ := u.2
            have hk := (List.getElem?_eq_some_iff.mp hv).1
            refine w_ixMi (dq_mono e5 hov) (by omega) (by omega) fun n hn => ?_
            rw [Int.toNat_natCast] at hn
            walk_at "Zs"
            rename_i p6 H6 n6 e6 h6
            exact q (some ((i : Int), (k : Int), n)) _ _ (e24.trans (e5.trans e6)) ⟨i, k, p, o, rfl, rfl, hp, su, op, u, hn⟩ (dq_new h6 (.cons (.int _) (dqs_two (.int _) (.int _))))
          · walk_at "Zs"
            exact ⟨⟨_, _, _, _, _, rfl⟩, e24.trans e5, suA_step su hp op u⟩
        · obtain ⟨⟨y5, y6, y7, y8, y9, rfl⟩, e2, su⟩ := h
          walk_at "Zs"
          rw [List.take_of_length_le (by omega)] at su
          exact q none _ _ e2 su .non
  exact F0
theorem c_doubt {W : Wd} {mg : Str → Option Value} {base : Heap} (B : Bi mg) (S : Src W.K mg "doubt" s_doubt) (T : Kl W.K mg) (C_first_unlike : Cal W mg base "first_unlike" 1 ["one", "other"] (sp_first_unlike W)) (C_opened : Cal W mg base "opened" 5 ["shape", "form", "bits", "former", "more"] (sp_opened W)) (C_pieces : Cal W mg base "pieces" 2 ["shape", "form", "head"] (sp_pieces W)) : Cal W mg base "doubt" 6 ["shape", "form", "head", "formers"] (sp_doubt W) := by
  obtain ⟨f, fd, g, F⟩ := S
  exact ⟨f, fd, g, f_doubt B F T C_first_unlike C_opened C_pieces, F.kp, (F.binds (ps := ["shape", "form", "head", "formers"]) fun _ _ _ _ _ _ us hl => match us, hl with | [_, _, _, _], _ => rfl)⟩
theorem go_doubt {W : Wd} {H : Hp} {Q : VK} {E : XK} {vs vf vh vp : V} {s : Shp} {f : Fm} {hd : List Int} {ps : List Fo} (hs : Dq W.K H vs (shD s)) (ok : OkShp s) (hf : Dq W.K H vf (fmD f)) (okf : OkFm s f) (hh : Dq W.K H vh (headD hd)) (lh : hd.length = s.fs.length) (hps : Dq W.K H vp (fosD ps)) (okp : ∀ p ∈ ps, OkFo s p) (lps : ps.length ≤ 1000) (q : ∀ d u H', Same H H' → DouR s f hd ps d → Dq W.K H' u (pairD d) → Q u H') : sp_doubt W [vs, vf, vh, vp] H Q E := ⟨s, f, hd, ps, hs, ok, hf, okf, hh, lh, hps, okp, lps, q⟩
def sp_sort_width (W : Wd) : Sp := fun vs H Q _ => match vs with
  | [v_pact] =>
  ∃ P : Pt, Dq W.K H v_pact (ptD P) ∧ OkPt P ∧ Q (.int (P.sw : Int)) H
  | _ => False
abbrev N_sort_width : List Str := ["pact"]
theorem sc_sort_width : FnScope N_sort_width ["pact"] (defScope s_sort_width) := ⟨rfl, rfl, rfl, by decide +kernel, rfl, by decide +kernel, by decide +kernel⟩
theorem f_sort_width {W : Wd} {mg : Str → Option Value} {base : Heap} (B : Bi mg) {f : Addr} {fd : FuncData} (F : Fun W.K "sort_width" "sort_width" s_sort_width f fd) (T : Kl W.K mg) (C_width_for : Cal W mg base "width_for" 1 ["many"] (sp_width_for W)) : FnOk W.P W.w W.K mg base CX0 2 f fd ["pact"] (sp_sort_width W) := by
  obtain ⟨a_width_for, d_width_for, g_width_for, F_width_for, k_width_for, b_width_for⟩ := C_width_for
  have nd := sc_sort_width.nd
  have F0 : FnOk W.P W.w W.K mg base CX0 2 f fd ["pact"] (sp_sort_width W) := by
    refine F.ok sc_sort_width (fun vs H Q E h => ?_) (fun cdv A outer s H vs Q E hr h => ?_)
    · match vs, h with | [_], _ => rfl
    · match vs, h with
      | [v_pact], h =>
        change sp_sort_width W [v_pact] H Q E at h
        refine ⟨tRet (tCall (sp_width_for W) [] E0 (tCons (tOp (rAddN W.K) (tC (.int 1)) (tCB (rLenU W.K) (tCons (tOp (rIxU W.K) (tVar 0) (tC (.int 2))) (tNil)))) (tNil))), pss_one (ps_ret (pe_call F_width_for (hr.mono (by decide)) (by rfl) g_width_for k_width_for b_width_for .nil pass0 (pa_cons (pe_op u_addN (pe_int) (pe_callB u_len (by rfl) B.b_len (by decide +kernel) (pa_cons (pe_ix u_ix (pv 0) (pe_int) (fun _ _ => rfl)) (pa_nil)))) (pa_nil)))), ?_⟩
        clear hr
        clear F_width_for g_width_for k_width_for b_width_for d_width_for a_width_for
        rw [show L2.start N_sort_width [v_pact] = [some v_pact] from rfl]
        obtain ⟨P, hp, ok, q⟩ := h
        have fl := ok.fl
        walk_at "Zs"
        refine w_ptF hp fun x1 h1 => ?_
        walk_at "Zs"
        intro n hn
        obtain rfl := isW_one hn ok.sw
        exact q
  exact F0
theorem c_sort_width {W : Wd} {mg : Str → Option Value} {base : Heap} (B : Bi mg) (S : Src W.K mg "sort_width" s_sort_width) (T : Kl W.K mg) (C_width_for : Cal W mg base "width_for" 1 ["many"] (sp_width_for W)) : Cal W mg base "sort_width" 2 ["pact"] (sp_sort_width W) := by
  obtain ⟨f, fd, g, F⟩ := S
  exact ⟨f, fd, g, f_sort_width B F T C_width_for, F.kp, (F.binds (ps := ["pact"]) fun _ _ _ _ _ _ us hl => match us, hl with | [_], _ => rfl)⟩
theorem go_sort_width {W : Wd} {H : Hp} {Q : VK} {E : XK} {v : V} {P : Pt} (hp : Dq W.K H v (ptD P)) (ok : OkPt P) (q : Q (.int (P.sw : Int)) H) : sp_sort_width W [v] H Q E := ⟨P, hp, ok, q⟩
local macro_rules | `(tactic| walk_at "Zc") => `(tactic| ((with_reducible refine' go_sort_width ?hp ?ok ?_); (case hp => walk_at "Zdx"); (case ok => assumption)))
def sp_check_width (W : Wd) : Sp := fun vs H Q _ => match vs with
  | [v_pact] =>
  ∃ P : Pt, Dq W.K H v_pact (ptD P) ∧ OkPt P ∧ Q (.int (P.cw : Int)) H
  | _ => False
abbrev N_check_width : List Str := ["pact"]
theorem sc_check_width : FnScope N_check_width ["pact"] (defScope s_check_width) := ⟨rfl, rfl, rfl, by decide +kernel, rfl, by decide +kernel, by decide +kernel⟩
theorem f_check_width {W : Wd} {mg : Str → Option Value} {base : Heap} (B : Bi mg) {f : Addr} {fd : FuncData} (F : Fun W.K "check_width" "check_width" s_check_width f fd) (T : Kl W.K mg) (C_width_for : Cal W mg base "width_for" 1 ["many"] (sp_width_for W)) : FnOk W.P W.w W.K mg base CX0 2 f fd ["pact"] (sp_check_width W) := by
  obtain ⟨a_width_for, d_width_for, g_width_for, F_width_for, k_width_for, b_width_for⟩ := C_width_for
  have nd := sc_check_width.nd
  have F0 : FnOk W.P W.w W.K mg base CX0 2 f fd ["pact"] (sp_check_width W) := by
    refine F.ok sc_check_width (fun vs H Q E h => ?_) (fun cdv A outer s H vs Q E hr h => ?_)
    · match vs, h with | [_], _ => rfl
    · match vs, h with
      | [v_pact], h =>
        change sp_check_width W [v_pact] H Q E at h
        refine ⟨tRet (tCall (sp_width_for W) [] E0 (tCons (tOp (rIxU W.K) (tOp (rIxU W.K) (tVar 0) (tC (.int 0))) (tC (.int 1))) (tNil))), pss_one (ps_ret (pe_call F_width_for (hr.mono (by decide)) (by rfl) g_width_for k_width_for b_width_for .nil pass0 (pa_cons (pe_ix u_ix (pe_ix u_ix (pv 0) (pe_int) (fun _ _ => rfl)) (pe_int) (fun _ _ => rfl)) (pa_nil)))), ?_⟩
        clear hr
        clear F_width_for g_width_for k_width_for b_width_for d_width_for a_width_for
        rw [show L2.start N_check_width [v_pact] = [some v_pact] from rfl]
        obtain ⟨P, hp, ok, q⟩ := h
        have m1 := ok.ok.m1
        walk_at "Zs"
        refine w_ptS hp fun x1 h1 => ?_
        walk_at "Zs"
        refine w_shM h1 ?_
        walk_at "Zs"
        intro n hn
        obtain rfl := isW_one hn ok.cw
        exact q
  exact F0
theorem c_check_width {W : Wd} {mg : Str → Option Value} {base : Heap} (B : Bi mg) (S : Src W.K mg "check_width" s_check_width) (T : Kl W.K mg) (C_width_for : Cal W mg base "width_for" 1 ["many"] (sp_width_for W)) : Cal W mg base "check_width" 2 ["pact"] (sp_check_width W) := by
  obtain ⟨f, fd, g, F⟩ := S
  exact ⟨f, fd, g, f_check_width B F T C_width_for, F.kp, (F.binds (ps := ["pact"]) fun _ _ _ _ _ _ us hl => match us, hl with | [_], _ => rfl)⟩
theorem go_check_width {W : Wd} {H : Hp} {Q : VK} {E : XK} {v : V} {P : Pt} (hp : Dq W.K H v (ptD P)) (ok : OkPt P) (q : Q (.int (P.cw : Int)) H) : sp_check_width W [v] H Q E := ⟨P, hp, ok, q⟩
local macro_rules | `(tactic| walk_at "Zc") => `(tactic| ((with_reducible refine' go_check_width ?hp ?ok ?_); (case hp => walk_at "Zdx"); (case ok => assumption)))
def sp_number_width (W : Wd) : Sp := fun vs H Q _ => match vs with
  | [v_pact, v_at] =>
  ∃ (P : Pt) (t : Option Nat), Dq W.K H v_pact (ptD P) ∧ OkPt P ∧ v_at = atV t ∧ AtOk P t ∧ Q (.int (cntP P t)) H
  | _ => False
abbrev N_number_width : List Str := ["pact", "at"]
theorem sc_number_width : FnScope N_number_width ["pact", "at"] (defScope s_number_width) := ⟨rfl, rfl, rfl, by decide +kernel, rfl, by decide +kernel, by decide +kernel⟩
theorem f_number_width {W : Wd} {mg : Str → Option Value} {base : Heap} (B : Bi mg) {f : Addr} {fd : FuncData} (F : Fun W.K "number_width" "number_width" s_number_width f fd) (T : Kl W.K mg)  : FnOk W.P W.w W.K mg base CX0 1 f fd ["pact", "at"] (sp_number_width W) := by
  have nd := sc_number_width.nd
  have F0 : FnOk W.P W.w W.K mg base CX0 1 f fd ["pact", "at"] (sp_number_width W) := by
    refine F.ok sc_number_width (fun vs H Q E h => ?_) (fun cdv A outer s H vs Q E hr h => ?_)
    · match vs, h with | [_, _], _ => rfl
    · match vs, h with
      | [v_pact, v_at], h =>
        change sp_number_width W [v_pact, v_at] H Q E at h
        refine ⟨tSeq (tIfS (tTest (tOp (rIsU) (tVar 1) (tC .non))) (tRet (tOp (rIxU W.K) (tVar 0) (tC (.int 1)))) (tNext)) (tRet (tOp (rIxU W.K) (tOp (rIxU W.K) (tOp (rIxU W.K) (tVar 0) (tC (.int 2))) (tVar 1)) (tC (.int 1)))), pss_cons (ps_if (pt_cmpR u_is (pv 1) (pe_non) (nomark _)) (pss_one (ps_ret (pe_ix u_ix (pv 0) (pe_int) (fun _ _ => rfl)))) (pss_nil)) (pss_one (ps_ret (pe_ix u_ix (pe_ix u_ix (pe_ix u_ix (pv 0) (pe_int) (fun _ _ => rfl)) (pv 1) (fun _ _ => rfl)) (pe_int) (fun _ _ => rfl)))), ?_⟩
        clear hr
        rw [show L2.start N_number_width [v_pact, v_at] = [some v_pact, some v_at] from rfl]
        obtain ⟨P, t, hp, ok, rfl, ht, q⟩ := h
        walk_at "Zs"
        cases t with
        | none =>
          show if decide (V.non = V.non) = true then _ else _
          walk_at "Zs"
          refine w_ptN hp ?_
          exact q
        | some i =>
          obtain ⟨f, hf, okf, _, ec⟩ := at_form ok ht
          have hi : i < P.fs.length := ht
          show if decide (V.int (i : Int) = V.non) = true then _ else _
          rw [decide_eq_false (fun z => nomatch z)]
          walk_at "Zs"
          refine w_ptF hp fun x1 h1 => ?_
          walk_at "Zs"
          refine w_ixM h1 (by omega) (by omega) fun f' x2 hf' h2 => ?_
          rw [Int.toNat_natCast, hf] at hf'
          obtain rfl := Option.some.inj hf'
          walk_at "Zs"
          refine w_ixQTi h2 (n := f.c) rfl ?_
          rw [← ec]
          exact q
  exact F0
theorem c_number_width {W : Wd} {mg : Str → Option Value} {base : Heap} (B : Bi mg) (S : Src W.K mg "number_width" s_number_width) (T : Kl W.K mg)  : Cal W mg base "number_width" 1 ["pact", "at"] (sp_number_width W) := by
  obtain ⟨f, fd, g, F⟩ := S
  exact ⟨f, fd, g, f_number_width B F T , F.kp, (F.binds (ps := ["pact", "at"]) fun _ _ _ _ _ _ us hl => match us, hl with | [_, _], _ => rfl)⟩
theorem go_number_width {W : Wd} {H : Hp} {Q : VK} {E : XK} {v : V} {P : Pt} {t : Option Nat} (hp : Dq W.K H v (ptD P)) (ok : OkPt P) (ht : AtOk P t) (q : Q (.int (cntP P t)) H) : sp_number_width W [v, atV t] H Q E := ⟨P, t, hp, ok, rfl, ht, q⟩
def sp_pieces_size (W : Wd) : Sp := fun vs H Q _ => match vs with
  | [v_pact, v_at] =>
  ∃ (P : Pt) (t : Option Nat), Dq W.K H v_pact (ptD P) ∧ OkPt P ∧ v_at = atV t ∧ AtOk P t ∧ ∀ H', Same H H' → Q (.int ((szP P t : Nat) : Int)) H'
  | _ => False
abbrev N_pieces_size : List Str := ["pact", "at", "field"]
theorem sc_pieces_size : FnScope N_pieces_size ["pact", "at"] (defScope s_pieces_size) := ⟨rfl, rfl, rfl, by decide +kernel, rfl, by decide +kernel, by decide +kernel⟩
theorem f_pieces_size {W : Wd} {mg : Str → Option Value} {base : Heap} (B : Bi mg) {f : Addr} {fd : FuncData} (F : Fun W.K "pieces_size" "pieces_size" s_pieces_size f fd) (T : Kl W.K mg) (C_size_of : Cal W mg base "size_of" 2 ["shape", "form"] (sp_size_of W)) : FnOk W.P W.w W.K mg base CX0 3 f fd ["pact", "at"] (sp_pieces_size W) := by
  obtain ⟨a_size_of, d_size_of, g_size_of, F_size_of, k_size_of, b_size_of⟩ := C_size_of
  have nd := sc_pieces_size.nd
  have F0 : FnOk W.P W.w W.K mg base CX0 3 f fd ["pact", "at"] (sp_pieces_size W) := by
    refine F.ok sc_pieces_size (fun vs H Q E h => ?_) (fun cdv A outer s H vs Q E hr h => ?_)
    · match vs, h with | [_, _], _ => rfl
    · match vs, h with
      | [v_pact, v_at], h =>
        change sp_pieces_size W [v_pact, v_at] H Q E at h
        refine ⟨tSeq (tIfS (tTest (tOp (rIsU) (tVar 1) (tC .non))) (tRet (tCB (rSum W.K) (tCons (tLc (iAny W.K (tOp (rIxU W.K) (tOp (rIxU W.K) (tVar 0) (tC (.int 0))) (tC (.int 0)))) (gName 2) (tYes) (tOp (rIxU W.K) (tVar 2) (tC (.int 1))) [2]) (tNil)))) (tNext)) (tRet (tCall (sp_size_of W) [] E0 (tCons (tOp (rIxU W.K) (tVar 0) (tC (.int 0))) (tCons (tOp (rIxU W.K) (tOp (rIxU W.K) (tVar 0) (tC (.int 2))) (tVar 1)) (tNil))))), pss_cons (ps_if (pt_cmpR u_is (pv 1) (pe_non) (nomark _)) (pss_one (ps_ret (pe_callB (cr_sum rfl) (by rfl) B.b_sum (by decide +kernel) (pa_cons (pe_lc (own := [("field", 2)]) rfl nd (pi_any (pe_ix u_ix (pe_ix u_ix (pv 0) (pe_int) (fun _ _ => rfl)) (pe_int) (fun _ _ => rfl))) (blkOk_by (own := [("field", 2)]) (N := N_pieces_size) (sc := defScope s_pieces_size) (by decide +kernel)) (fun _ _ _ _ _ => pg_name (i := 2) nd rfl (by first | exact Or.inl rfl | exact Or.inr rfl)) (fun _ _ _ _ _ => pts_nil) (fun _ _ _ _ _ => pe_ix u_ix (pv 2) (pe_int) (fun _ _ => rfl))) (pa_nil))))) (pss_nil)) (pss_one (ps_ret (pe_call F_size_of (hr.mono (by decide)) (by rfl) g_size_of k_size_of b_size_of .nil pass0 (pa_cons (pe_ix u_ix (pv 0) (pe_int) (fun _ _ => rfl)) (pa_cons (pe_ix u_ix (pe_ix u_ix (pv 0) (pe_int) (fun _ _ => rfl)) (pv 1) (fun _ _ => rfl)) (pa_nil)))))), ?_⟩
        clear hr
        clear F_size_of g_size_of k_size_of b_size_of d_size_of a_size_of
        rw [show L2.start N_pieces_size [v_pact, v_at] = [some v_pact, some v_at, none] from rfl]
        obtain ⟨P, t, hp, ok, rfl, ht, q⟩ := h
        have l1 := ok.ok.l1
        walk_at "Zs"
        cases t with
        | none =>
          show if decide (V.non = V.non) = true then _ else _
          walk_at "Zs"
          refine w_ptS hp fun x1 h1 => ?_
          walk_at "Zs"
          refine w_shF h1 fun x2 h2 => ?_
          walk_at "Zs"
          obtain ⟨a, xs, rfl, hxs, hds⟩ := dq_tt h2
          have hxl := dqs_len hds
          rw [List.length_map] at hxl
          refine w_goT hxs.t ?_
          refine lcT hxs.t (fun i acc _ => acc = (P.s.fs.take i).map fun f => V.int f.br) stb_pure (by omega) (fun i acc H' e => by rw [e, List.length_map, List.length_take]; omega) (fun H' _ => rfl) (fun i x acc H' hx e1 ea k k' hk hk' => ?_) fun D acc H' hD e1 hD' ea => ?_
          · obtain ⟨df, hdf, hxd⟩ := dqs_get2 hds hx
            obtain ⟨f, hf, rfl⟩ := map_at hdf
            walk_at "Zs"
            refine w_ixQTi (dq_mono e1 hxd) (n := f.br) rfl ?_
            refine hk _ _ (Same.refl _) ?_
            rw [List.take_add_one, hf, List.map_append, ea]
            rfl
          · rw [hxl, List.take_of_length_le (Nat.le_refl _)] at ea
            walk_at "Zs"
            refine w_sum (ns := P.s.fs.map fun f => f.br) (SqL.of (by rw [hD', ea, List.map_map]; rfl)) ?_
            have e : (P.s.fs.map fun f => f.br).sum = ((szP P none : Nat) : Int) := by
              rw [sum_whole _ fun f hf => by
                obtain ⟨i, hi⟩ := List.getElem?_of_mem hf
                have := (ok.ok.fd i f hi).b0
                omega]
              exact sz_form ok ht
            rw [e]
            exact q _ e1
        | some i =>
          obtain ⟨f, hf, okf, ew, _⟩ := at_form ok ht
          have hi : i < P.fs.length := ht
          show if decide (V.int (i : Int) = V.non) = true then _ else _
          rw [decide_eq_false (fun z => nomatch z)]
          walk_at "Zs"
          refine w_ptS hp fun x1 h1 => ?_
          walk_at "Zs"
          refine w_ptF hp fun x2 h2 => ?_
          walk_at "Zs"
          refine w_ixM h2 (by omega) (by omega) fun f' x3 hf' h3 => ?_
          rw [Int.toNat_natCast, hf] at hf'
          obtain rfl := Option.some.inj hf'
          walk_at "Zs"
          refine go_size_of h1 ok.ok h3 okf fun H1 e1 => ?_
          rw [← ew, sz_form ok ht]
          exact q _ e1
  exact F0
theorem c_pieces_size {W : Wd} {mg : Str → Option Value} {base : Heap} (B : Bi mg) (S : Src W.K mg "pieces_size" s_pieces_size) (T : Kl W.K mg) (C_size_of : Cal W mg base "size_of" 2 ["shape", "form"] (sp_size_of W)) : Cal W mg base "pieces_size" 3 ["pact", "at"] (sp_pieces_size W) := by
  obtain ⟨f, fd, g, F⟩ := S
  exact ⟨f, fd, g, f_pieces_size B F T C_size_of, F.kp, (F.binds (ps := ["pact", "at"]) fun _ _ _ _ _ _ us hl => match us, hl with | [_, _], _ => rfl)⟩
theorem go_pieces_size {W : Wd} {H : Hp} {Q : VK} {E : XK} {v : V} {P : Pt} {t : Option Nat} (hp : Dq W.K H v (ptD P)) (ok : OkPt P) (ht : AtOk P t) (q : ∀ H', Same H H' → Q (.int ((szP P t : Nat) : Int)) H') : sp_pieces_size W [v, atV t] H Q E := ⟨P, t, hp, ok, rfl, ht, q⟩
def sp_letter_size (W : Wd) : Sp := fun vs H Q _ => match vs with
  | [v_pact, v_at] =>
  ∃ (P : Pt) (t : Option Nat), Dq W.K H v_pact (ptD P) ∧ OkPt P ∧ v_at = atV t ∧ AtOk P t ∧ ∀ H', Same H H' → Q (.int (sizeP P t)) H'
  | _ => False
abbrev N_letter_size : List Str := ["pact", "at"]
theorem sc_letter_size : FnScope N_letter_size ["pact", "at"] (defScope s_letter_size) := ⟨rfl, rfl, rfl, by decide +kernel, rfl, by decide +kernel, by decide +kernel⟩
theorem f_letter_size {W : Wd} {mg : Str → Option Value} {base : Heap} (B : Bi mg) {f : Addr} {fd : FuncData} (F : Fun W.K "letter_size" "letter_size" s_letter_size f fd) (T : Kl W.K mg) (C_sort_width : Cal W mg base "sort_width" 2 ["pact"] (sp_sort_width W)) (C_number_width : Cal W mg base "number_width" 1 ["pact", "at"] (sp_number_width W)) (C_pieces_size : Cal W mg base "pieces_size" 3 ["pact", "at"] (sp_pieces_size W)) (C_check_width : Cal W mg base "check_width" 2 ["pact"] (sp_check_width W)) : FnOk W.P W.w W.K mg base CX0 4 f fd ["pact", "at"] (sp_letter_size W) := by
  obtain ⟨a_sort_width, d_sort_width, g_sort_width, F_sort_width, k_sort_width, b_sort_width⟩ := C_sort_width
  obtain ⟨a_number_width, d_number_width, g_number_width, F_number_width, k_number_width, b_number_width⟩ := C_number_width
  obtain ⟨a_pieces_size, d_pieces_size, g_pieces_size, F_pieces_size, k_pieces_size, b_pieces_size⟩ := C_pieces_size
  obtain ⟨a_check_width, d_check_width, g_check_width, F_check_width, k_check_width, b_check_width⟩ := C_check_width
  have nd := sc_letter_size.nd
  have F0 : FnOk W.P W.w W.K mg base CX0 4 f fd ["pact", "at"] (sp_letter_size W) := by
    refine F.ok sc_letter_size (fun vs H Q E h => ?_) (fun cdv A outer s H vs Q E hr h => ?_)
    · match vs, h with | [_, _], _ => rfl
    · match vs, h with
      | [v_pact, v_at], h =>
        change sp_letter_size W [v_pact, v_at] H Q E at h
        refine ⟨tRet (tOp (rAddN W.K) (tOp (rAddN W.K) (tOp (rAddN W.K) (tCall (sp_sort_width W) [] E0 (tCons (tVar 0) (tNil))) (tCall (sp_number_width W) [] E0 (tCons (tVar 0) (tCons (tVar 1) (tNil))))) (tCall (sp_pieces_size W) [] E0 (tCons (tVar 0) (tCons (tVar 1) (tNil))))) (tCall (sp_check_width W) [] E0 (tCons (tVar 0) (tNil)))), pss_one (ps_ret (pe_op u_addN (pe_op u_addN (pe_op u_addN (pe_call F_sort_width (hr.mono (by decide)) (by rfl) g_sort_width k_sort_width b_sort_width .nil pass0 (pa_cons (pv 0) (pa_nil))) (pe_call F_number_width (hr.mono (by decide)) (by rfl) g_number_width k_number_width b_number_width .nil pass0 (pa_cons (pv 0) (pa_cons (pv 1) (pa_nil))))) (pe_call F_pieces_size (hr.mono (by decide)) (by rfl) g_pieces_size k_pieces_size b_pieces_size .nil pass0 (pa_cons (pv 0) (pa_cons (pv 1) (pa_nil))))) (pe_call F_check_width (hr.mono (by decide)) (by rfl) g_check_width k_check_width b_check_width .nil pass0 (pa_cons (pv 0) (pa_nil))))), ?_⟩
        clear hr
        clear F_sort_width g_sort_width k_sort_width b_sort_width d_sort_width a_sort_width
        clear F_number_width g_number_width k_number_width b_number_width d_number_width a_number_width
        clear F_pieces_size g_pieces_size k_pieces_size b_pieces_size d_pieces_size a_pieces_size
        clear F_check_width g_check_width k_check_width b_check_width d_check_width a_check_width
        rw [show L2.start N_letter_size [v_pact, v_at] = [some v_pact, some v_at] from rfl]
        obtain ⟨P, t, hp, ok, rfl, ht, q⟩ := h
        walk_at "Zs"
        refine go_number_width hp ok ht ?_
        walk_at "Zs"
        refine go_pieces_size hp ok ht fun H1 e1 => ?_
        have hp1 := dq_mono e1 hp
        walk_at "Zs"
        exact q _ e1
  exact F0
theorem c_letter_size {W : Wd} {mg : Str → Option Value} {base : Heap} (B : Bi mg) (S : Src W.K mg "letter_size" s_letter_size) (T : Kl W.K mg) (C_sort_width : Cal W mg base "sort_width" 2 ["pact"] (sp_sort_width W)) (C_number_width : Cal W mg base "number_width" 1 ["pact", "at"] (sp_number_width W)) (C_pieces_size : Cal W mg base "pieces_size" 3 ["pact", "at"] (sp_pieces_size W)) (C_check_width : Cal W mg base "check_width" 2 ["pact"] (sp_check_width W)) : Cal W mg base "letter_size" 4 ["pact", "at"] (sp_letter_size W) := by
  obtain ⟨f, fd, g, F⟩ := S
  exact ⟨f, fd, g, f_letter_size B F T C_sort_width C_number_width C_pieces_size C_check_width, F.kp, (F.binds (ps := ["pact", "at"]) fun _ _ _ _ _ _ us hl => match us, hl with | [_, _], _ => rfl)⟩
theorem go_letter_size {W : Wd} {H : Hp} {Q : VK} {E : XK} {v : V} {P : Pt} {t : Option Nat} (hp : Dq W.K H v (ptD P)) (ok : OkPt P) (ht : AtOk P t) (q : ∀ H', Same H H' → Q (.int (sizeP P t)) H') : sp_letter_size W [v, atV t] H Q E := ⟨P, t, hp, ok, rfl, ht, q⟩
def sp_bits_ahead (W : Wd) : Sp := fun vs H Q _ => match vs with
  | [v_pact, v_at, v_written] =>
  ∃ (P : Pt) (t : Option Nat) (x : Int), Dq W.K H v_pact (ptD P) ∧ OkPt P ∧ v_at = atV t ∧ AtOk P t ∧ v_written = .int x ∧ ∀ H', Same H H' → Q (.str (aheadT P t x)) H'
  | _ => False
abbrev N_bits_ahead : List Str := ["pact", "at", "written", "sort"]
theorem sc_bits_ahead : FnScope N_bits_ahead ["pact", "at", "written"] (defScope s_bits_ahead) := ⟨rfl, rfl, rfl, by decide +kernel, rfl, by decide +kernel, by decide +kernel⟩
theorem f_bits_ahead {W : Wd} {mg : Str → Option Value} {base : Heap} (B : Bi mg) {f : Addr} {fd : FuncData} (F : Fun W.K "bits_ahead" "bits_ahead" s_bits_ahead f fd) (T : Kl W.K mg) (C_sort_width : Cal W mg base "sort_width" 2 ["pact"] (sp_sort_width W)) (C_bits_of : Cal W mg base "bits_of" 1 ["number", "width"] (sp_bits_of W)) (C_number_width : Cal W mg base "number_width" 1 ["pact", "at"] (sp_number_width W)) : FnOk W.P W.w W.K mg base CX0 3 f fd ["pact", "at", "written"] (sp_bits_ahead W) := by
  obtain ⟨a_sort_width, d_sort_width, g_sort_width, F_sort_width, k_sort_width, b_sort_width⟩ := C_sort_width
  obtain ⟨a_bits_of, d_bits_of, g_bits_of, F_bits_of, k_bits_of, b_bits_of⟩ := C_bits_of
  obtain ⟨a_number_width, d_number_width, g_number_width, F_number_width, k_number_width, b_number_width⟩ := C_number_width
  have nd := sc_bits_ahead.nd
  have F0 : FnOk W.P W.w W.K mg base CX0 3 f fd ["pact", "at", "written"] (sp_bits_ahead W) := by
    refine F.ok sc_bits_ahead (fun vs H Q E h => ?_) (fun cdv A outer s H vs Q E hr h => ?_)
    · match vs, h with | [_, _, _], _ => rfl
    · match vs, h with
      | [v_pact, v_at, v_written], h =>
        change sp_bits_ahead W [v_pact, v_at, v_written] H Q E at h
        refine ⟨tSeq (tAsg (tIf (tTest (tOp (rIsU) (tVar 1) (tC .non))) (tC (.int 0)) (tOp (rAddN W.K) (tC (.int 1)) (tVar 1))) (gName 3)) (tRet (tOp (rAddN W.K) (tCall (sp_bits_of W) [] E0 (tCons (tVar 3) (tCons (tCall (sp_sort_width W) [] E0 (tCons (tVar 0) (tNil))) (tNil)))) (tCall (sp_bits_of W) [] E0 (tCons (tVar 2) (tCons (tCall (sp_number_width W) [] E0 (tCons (tVar 0) (tCons (tVar 1) (tNil)))) (tNil)))))), pss_cons (ps_set (i := 3) nd rfl (.inl rfl) (pe_ifExp (pt_cmpR u_is (pv 1) (pe_non) (nomark _)) (pe_int) (pe_op u_addN (pe_int) (pv 1)))) (pss_one (ps_ret (pe_op u_addN (pe_call F_bits_of (hr.mono (by decide)) (by rfl) g_bits_of k_bits_of b_bits_of .nil pass0 (pa_cons (pv 3) (pa_cons (pe_call F_sort_width (hr.mono (by decide)) (by rfl) g_sort_width k_sort_width b_sort_width .nil pass0 (pa_cons (pv 0) (pa_nil))) (pa_nil)))) (pe_call F_bits_of (hr.mono (by decide)) (by rfl) g_bits_of k_bits_of b_bits_of .nil pass0 (pa_cons (pv 2) (pa_cons (pe_call F_number_width (hr.mono (by decide)) (by rfl) g_number_width k_number_width b_number_width .nil pass0 (pa_cons (pv 0) (pa_cons (pv 1) (pa_nil)))) (pa_nil))))))), ?_⟩
        clear hr
        clear F_sort_width g_sort_width k_sort_width b_sort_width d_sort_width a_sort_width
        clear F_bits_of g_bits_of k_bits_of b_bits_of d_bits_of a_bits_of
        clear F_number_width g_number_width k_number_width b_number_width d_number_width a_number_width
        rw [show L2.start N_bits_ahead [v_pact, v_at, v_written] = [some v_pact, some v_at, some v_written, none] from rfl]
        obtain ⟨P, t, x, hp, ok, rfl, ht, rfl, q⟩ := h
        have sw4 := ok.sw4
        have cb := cntP_bd ok ht
        have ec : cntP P t = ((cntP P t).toNat : Int) := by omega
        have fin : ∀ (k : Str → Prop), True := fun _ => trivial
        walk_at "Zs"
        cases t with
        | none =>
          show if decide (V.non = V.non) = true then _ else _
          walk_at "Zs"
          refine go_bits_of (by omega) fun H1 e1 => ?_
          have hp1 := dq_mono e1 hp
          walk_at "Zs"
          refine go_number_width (t := none) hp1 ok ht ?_
          rw [ec]
          walk_at "Zs"
          refine go_bits_of (by omega) fun H2 e2 => ?_
          walk_at "Zs"
          refine w_adT (by rw [len_bitsT, len_bitsT]; omega) ?_
          exact q _ (e1.trans e2)
        | some i =>
          show if decide (V.int (i : Int) = V.non) = true then _ else _
          rw [decide_eq_false (fun z => nomatch z)]
          walk_at "Zs"
          show rAddN W.K (.int 1) (.int (i : Int)) _ _
          walk_at "Zs"
          refine go_bits_of (by omega) fun H1 e1 => ?_
          have hp1 := dq_mono e1 hp
          walk_at "Zs"
          refine go_number_width (t := some i) hp1 ok ht ?_
          rw [ec]
          walk_at "Zs"
          refine go_bits_of (by omega) fun H2 e2 => ?_
          walk_at "Zs"
          refine w_adT (by rw [len_bitsT, len_bitsT]; omega) ?_
          exact q _ (e1.trans e2)
  exact F0
theorem c_bits_ahead {W : Wd} {mg : Str → Option Value} {base : Heap} (B : Bi mg) (S : Src W.K mg "bits_ahead" s_bits_ahead) (T : Kl W.K mg) (C_sort_width : Cal W mg base "sort_width" 2 ["pact"] (sp_sort_width W)) (C_bits_of : Cal W mg base "bits_of" 1 ["number", "width"] (sp_bits_of W)) (C_number_width : Cal W mg base "number_width" 1 ["pact", "at"] (sp_number_width W)) : Cal W mg base "bits_ahead" 3 ["pact", "at", "written"] (sp_bits_ahead W) := by
  obtain ⟨f, fd, g, F⟩ := S
  exact ⟨f, fd, g, f_bits_ahead B F T C_sort_width C_bits_of C_number_width, F.kp, (F.binds (ps := ["pact", "at", "written"]) fun _ _ _ _ _ _ us hl => match us, hl with | [_, _, _], _ => rfl)⟩
theorem go_bits_ahead {W : Wd} {H : Hp} {Q : VK} {E : XK} {v : V} {P : Pt} {t : Option Nat} {x : Int} (hp : Dq W.K H v (ptD P)) (ok : OkPt P) (ht : AtOk P t) (q : ∀ H', Same H H' → Q (.str (aheadT P t x)) H') : sp_bits_ahead W [v, atV t, .int x] H Q E := ⟨P, t, x, hp, ok, rfl, ht, rfl, q⟩
def sp_check_bits (W : Wd) : Sp := fun vs H Q _ => match vs with
  | [v_pact, v_number, v_head] =>
  ∃ (P : Pt) (x : Int) (hd : List Int), Dq W.K H v_pact (ptD P) ∧ OkPt P ∧ v_number = .int x ∧ Dq W.K H v_head (headD hd) ∧ hd.length ≤ 1000 ∧ ∀ H', Same H H' → Q (.str (bitsT ((x + ckF 0 hd) % P.s.m) P.cw)) H'
  | _ => False
abbrev N_check_bits : List Str := ["pact", "number", "head"]
theorem sc_check_bits : FnScope N_check_bits ["pact", "number", "head"] (defScope s_check_bits) := ⟨rfl, rfl, rfl, by decide +kernel, rfl, by decide +kernel, by decide +kernel⟩
theorem f_check_bits {W : Wd} {mg : Str → Option Value} {base : Heap} (B : Bi mg) {f : Addr} {fd : FuncData} (F : Fun W.K "check_bits" "check_bits" s_check_bits f fd) (T : Kl W.K mg) (C_check_width : Cal W mg base "check_width" 2 ["pact"] (sp_check_width W)) (C_check_of : Cal W mg base "check_of" 1 ["shape", "number", "head"] (sp_check_of W)) (C_bits_of : Cal W mg base "bits_of" 1 ["number", "width"] (sp_bits_of W)) : FnOk W.P W.w W.K mg base CX0 3 f fd ["pact", "number", "head"] (sp_check_bits W) := by
  obtain ⟨a_check_width, d_check_width, g_check_width, F_check_width, k_check_width, b_check_width⟩ := C_check_width
  obtain ⟨a_check_of, d_check_of, g_check_of, F_check_of, k_check_of, b_check_of⟩ := C_check_of
  obtain ⟨a_bits_of, d_bits_of, g_bits_of, F_bits_of, k_bits_of, b_bits_of⟩ := C_bits_of
  have nd := sc_check_bits.nd
  have F0 : FnOk W.P W.w W.K mg base CX0 3 f fd ["pact", "number", "head"] (sp_check_bits W) := by
    refine F.ok sc_check_bits (fun vs H Q E h => ?_) (fun cdv A outer s H vs Q E hr h => ?_)
    · match vs, h with | [_, _, _], _ => rfl
    · match vs, h with
      | [v_pact, v_number, v_head], h =>
        change sp_check_bits W [v_pact, v_number, v_head] H Q E at h
        refine ⟨tRet (tCall (sp_bits_of W) [] E0 (tCons (tCall (sp_check_of W) [] E0 (tCons (tOp (rIxU W.K) (tVar 0) (tC (.int 0))) (tCons (tVar 1) (tCons (tVar 2) (tNil))))) (tCons (tCall (sp_check_width W) [] E0 (tCons (tVar 0) (tNil))) (tNil)))), pss_one (ps_ret (pe_call F_bits_of (hr.mono (by decide)) (by rfl) g_bits_of k_bits_of b_bits_of .nil pass0 (pa_cons (pe_call F_check_of (hr.mono (by decide)) (by rfl) g_check_of k_check_of b_check_of .nil pass0 (pa_cons (pe_ix u_ix (pv 0) (pe_int) (fun _ _ => rfl)) (pa_cons (pv 1) (pa_cons (pv 2) (pa_nil))))) (pa_cons (pe_call F_check_width (hr.mono (by decide)) (by rfl) g_check_width k_check_width b_check_width .nil pass0 (pa_cons (pv 0) (pa_nil))) (pa_nil))))), ?_⟩
        clear hr
        clear F_check_width g_check_width k_check_width b_check_width d_check_width a_check_width
        clear F_check_of g_check_of k_check_of b_check_of d_check_of a_check_of
        clear F_bits_of g_bits_of k_bits_of b_bits_of d_bits_of a_bits_of
        rw [show L2.start N_check_bits [v_pact, v_number, v_head] = [some v_pact, some v_number, some v_head] from rfl]
        obtain ⟨P, x, hd, hp, ok, rfl, hh, lh, q⟩ := h
        have cw20 := ok.cw20
        have m0 := ok.ok.m0
        walk_at "Zs"
        refine w_ptS hp fun x1 h1 => ?_
        walk_at "Zs"
        refine go_check_ofS h1 hh lh (by omega) fun H1 e1 => ?_
        have hp1 := dq_mono e1 hp
        walk_at "Zs"
        refine go_bits_of (by omega) fun H2 e2 => ?_
        exact q _ (e1.trans e2)
  exact F0
theorem c_check_bits {W : Wd} {mg : Str → Option Value} {base : Heap} (B : Bi mg) (S : Src W.K mg "check_bits" s_check_bits) (T : Kl W.K mg) (C_check_width : Cal W mg base "check_width" 2 ["pact"] (sp_check_width W)) (C_check_of : Cal W mg base "check_of" 1 ["shape", "number", "head"] (sp_check_of W)) (C_bits_of : Cal W mg base "bits_of" 1 ["number", "width"] (sp_bits_of W)) : Cal W mg base "check_bits" 3 ["pact", "number", "head"] (sp_check_bits W) := by
  obtain ⟨f, fd, g, F⟩ := S
  exact ⟨f, fd, g, f_check_bits B F T C_check_width C_check_of C_bits_of, F.kp, (F.binds (ps := ["pact", "number", "head"]) fun _ _ _ _ _ _ us hl => match us, hl with | [_, _, _], _ => rfl)⟩
theorem go_check_bits {W : Wd} {H : Hp} {Q : VK} {E : XK} {v vh : V} {P : Pt} {x : Int} {hd : List Int} (hp : Dq W.K H v (ptD P)) (ok : OkPt P) (hh : Dq W.K H vh (headD hd)) (lh : hd.length ≤ 1000) (q : ∀ H', Same H H' → Q (.str (bitsT ((x + ckF 0 hd) % P.s.m) P.cw)) H') : sp_check_bits W [v, .int x, vh] H Q E := ⟨P, x, hd, hp, ok, rfl, hh, lh, q⟩
def sp_whole_pieces (W : Wd) : Sp := fun vs H Q _ => match vs with
  | [v_shape, v_head] =>
  ∃ (P : Pt) (hd : List Int), Dq W.K H v_shape (shD P.s) ∧ OkPt P ∧ Dq W.K H v_head (headD hd) ∧ OkHead P.s.fs hd ∧ ∀ H', Same H H' → Q (.str (pcsP P none hd)) H'
  | _ => False
abbrev N_whole_pieces : List Str := ["shape", "head", "field", "value"]
theorem sc_whole_pieces : FnScope N_whole_pieces ["shape", "head"] (defScope s_whole_pieces) := ⟨rfl, rfl, rfl, by decide +kernel, rfl, by decide +kernel, by decide +kernel⟩
theorem f_whole_pieces {W : Wd} {mg : Str → Option Value} {base : Heap} (B : Bi mg) {f : Addr} {fd : FuncData} (F : Fun W.K "whole_pieces" "whole_pieces" s_whole_pieces f fd) (T : Kl W.K mg) (C_bits_of : Cal W mg base "bits_of" 1 ["number", "width"] (sp_bits_of W)) : FnOk W.P W.w W.K mg base CX0 2 f fd ["shape", "head"] (sp_whole_pieces W) := by
  obtain ⟨a_bits_of, d_bits_of, g_bits_of, F_bits_of, k_bits_of, b_bits_of⟩ := C_bits_of
  have nd := sc_whole_pieces.nd
  have F0 : FnOk W.P W.w W.K mg base CX0 2 f fd ["shape", "head"] (sp_whole_pieces W) := by
    refine F.ok sc_whole_pieces (fun vs H Q E h => ?_) (fun cdv A outer s H vs Q E hr h => ?_)
    · match vs, h with | [_, _], _ => rfl
    · match vs, h with
      | [v_shape, v_head], h =>
        change sp_whole_pieces W [v_shape, v_head] H Q E at h
        refine ⟨tRet (tM1 (rJoinU W.K) (tC (.str "")) (tLc (iZipA W.K (tCons (tOp (rIxU W.K) (tVar 0) (tC (.int 0))) (tCons (tVar 1) (tNil)))) (gTup W.K 2 (gCons (gName 2) (gCons (gName 3) (gNil)))) (tYes) (tCall (sp_bits_of W) [] E0 (tCons (tVar 3) (tCons (tOp (rIxU W.K) (tVar 2) (tC (.int 1))) (tNil)))) [2, 3])), pss_one (ps_ret (pe_join (pe_str) (pe_lc (own := [("field", 2), ("value", 3)]) rfl nd (pi_zipA (by rfl) B.b_zip (pa_cons (pe_ix u_ix (pv 0) (pe_int) (fun _ _ => rfl)) (pa_cons (pv 1) (pa_nil)))) (blkOk_by (own := [("field", 2), ("value", 3)]) (N := N_whole_pieces) (sc := defScope s_whole_pieces) (by decide +kernel)) (fun _ _ _ _ _ => pg_tup rfl (pgs_cons (pg_name (i := 2) nd rfl (by first | exact Or.inl rfl | exact Or.inr rfl)) (pgs_cons (pg_name (i := 3) nd rfl (by first | exact Or.inl rfl | exact Or.inr rfl)) (pgs_nil)))) (fun _ _ _ _ _ => pts_nil) (fun _ _ _ _ _ => pe_call F_bits_of (hr.mono (by decide)) (by rfl) g_bits_of k_bits_of b_bits_of .nil pass0 (pa_cons (pv 3) (pa_cons (pe_ix u_ix (pv 2) (pe_int) (fun _ _ => rfl)) (pa_nil))))))), ?_⟩
        clear hr
        clear F_bits_of g_bits_of k_bits_of b_bits_of d_bits_of a_bits_of
        rw [show L2.start N_whole_pieces [v_shape, v_head] = [some v_shape, some v_head, none, none] from rfl]
        obtain ⟨P, hd, hs, okp, hh, oh, q⟩ := h
        have ok := okp.ok
        have l1 := ok.l1
        have lh := okHead_len oh
        walk_at "Zs"
        refine w_shF hs fun x1 h1 => ?_
        walk_at "Zs"
        obtain ⟨a, xs, rfl, hxs, hds⟩ := dq_tt h1
        have hxl := dqs_len hds
        rw [List.length_map] at hxl
        obtain ⟨b, ys, rfl, hys, hes⟩ := dq_tt hh
        have hyl := dqs_len hes
        rw [List.length_map] at hyl
        have lw : (wsP P none).length = P.s.fs.length := wsP_len okp trivial
        have tl : (triL P.s.fs (wsP P none) hd).length = P.s.fs.length := tri_len lw lh
        refine w_goZT hxs.t hys.t ?_
        refine lcZT hxs.t hys.t (fun i acc _ => acc = (((triL P.s.fs (wsP P none) hd).take i).map pieceT).map V.str) stb_pure (by omega) (fun i acc H' e => by rw [e, List.length_map, List.length_map, List.length_take]; omega) (fun H' _ => rfl) (fun i x y acc H' hx hy e1 ea H2 e2 k k' hk hk' => ?_) fun D acc H' hD e1 hD' ea => ?_
        · obtain ⟨df, hdf, hxd⟩ := dqs_get2 hds hx
          obtain ⟨fd, hfd, rfl⟩ := map_at hdf
          obtain ⟨dv, hdv, hyd⟩ := dqs_get2 hes hy
          obtain ⟨v0, hv0, rfl⟩ := map_at hdv
          obtain rfl := dq_int hyd
          have okd := ok.fd i fd hfd
          have br0 := okd.b0
          have br1 := okd.b1
          have hw : (wsP P none)[i]? = some .whole := by
            show (P.s.fs.map fun _ => Wy.whole)[i]? = _
            rw [List.getElem?_map, hfd]
            rfl
          have eb : fd.br = ((fd.br.toNat : Nat) : Int) := by omega
          walk_at "Zs"
          refine w_ixQTi (dq_mono (e1.trans e2) hxd) (n := fd.br) rfl ?_
          rw [eb]
          walk_at "Zs"
          refine go_bits_of (by omega) fun H3 e3 => ?_
          refine hk _ _ e3 ?_
          rw [take_snoc (tri_get hfd hw hv0), List.map_append, List.map_append, ea]
          show _ ++ [V.str (bitsT v0 fd.br.toNat)] = _ ++ [V.str (pieceT (fd, .whole, v0))]
          have e : pieceT (fd, .whole, v0) = bitsT v0 fd.br.toNat := by
            show bitsT (v0 % p2 ((fd.br.toNat : Nat) : Int)) fd.br.toNat = _
            have e : p2 ((fd.br.toNat : Nat) : Int) = 2 ^ fd.br.toNat := by unfold p2; rw [Int.toNat_natCast]
            rw [e, bitsT_mod]
          rw [e]
        · rw [List.take_of_length_le (by omega)] at ea
          have sz := szP_le (t := none) okp trivial
          have pl := pcsP_len (t := none) okp trivial lh
          refine w_joinL (SqL.of (by rw [hD', ea])) ?_ ?_
          · rw [sum_pieces, ← pieces_len]
            show (pcsP P none hd).length + _ * 0 ≤ _
            omega
          · rw [join_pieces]
            exact q _ e1
  exact F0
theorem c_whole_pieces {W : Wd} {mg : Str → Option Value} {base : Heap} (B : Bi mg) (S : Src W.K mg "whole_pieces" s_whole_pieces) (T : Kl W.K mg) (C_bits_of : Cal W mg base "bits_of" 1 ["number", "width"] (sp_bits_of W)) : Cal W mg base "whole_pieces" 2 ["shape", "head"] (sp_whole_pieces W) := by
  obtain ⟨f, fd, g, F⟩ := S
  exact ⟨f, fd, g, f_whole_pieces B F T C_bits_of, F.kp, (F.binds (ps := ["shape", "head"]) fun _ _ _ _ _ _ us hl => match us, hl with | [_, _], _ => rfl)⟩
theorem go_whole_pieces {W : Wd} {H : Hp} {Q : VK} {E : XK} {v vh : V} {P : Pt} {hd : List Int} (hs : Dq W.K H v (shD P.s)) (ok : OkPt P) (hh : Dq W.K H vh (headD hd)) (oh : OkHead P.s.fs hd) (q : ∀ H', Same H H' → Q (.str (pcsP P none hd)) H') : sp_whole_pieces W [v, vh] H Q E := ⟨P, hd, hs, ok, hh, oh, q⟩
def sp_whole_letter (W : Wd) : Sp := fun vs H Q _ => match vs with
  | [v_pact, v_number, v_head] =>
  ∃ (P : Pt) (x : Int) (hd : List Int), Dq W.K H v_pact (ptD P) ∧ OkPt P ∧ v_number = .int x ∧ Dq W.K H v_head (headD hd) ∧ OkHead P.s.fs hd ∧ ∀ H', Same H H' → Q (.str (letT P none x hd)) H'
  | _ => False
abbrev N_whole_letter : List Str := ["pact", "number", "head"]
theorem sc_whole_letter : FnScope N_whole_letter ["pact", "number", "head"] (defScope s_whole_letter) := ⟨rfl, rfl, rfl, by decide +kernel, rfl, by decide +kernel, by decide +kernel⟩
theorem f_whole_letter {W : Wd} {mg : Str → Option Value} {base : Heap} (B : Bi mg) {f : Addr} {fd : FuncData} (F : Fun W.K "whole_letter" "whole_letter" s_whole_letter f fd) (T : Kl W.K mg) (C_bits_ahead : Cal W mg base "bits_ahead" 3 ["pact", "at", "written"] (sp_bits_ahead W)) (C_whole_pieces : Cal W mg base "whole_pieces" 2 ["shape", "head"] (sp_whole_pieces W)) (C_check_bits : Cal W mg base "check_bits" 3 ["pact", "number", "head"] (sp_check_bits W)) : FnOk W.P W.w W.K mg base CX0 4 f fd ["pact", "number", "head"] (sp_whole_letter W) := by
  obtain ⟨a_bits_ahead, d_bits_ahead, g_bits_ahead, F_bits_ahead, k_bits_ahead, b_bits_ahead⟩ := C_bits_ahead
  obtain ⟨a_whole_pieces, d_whole_pieces, g_whole_pieces, F_whole_pieces, k_whole_pieces, b_whole_pieces⟩ := C_whole_pieces
  obtain ⟨a_check_bits, d_check_bits, g_check_bits, F_check_bits, k_check_bits, b_check_bits⟩ := C_check_bits
  have nd := sc_whole_letter.nd
  have F0 : FnOk W.P W.w W.K mg base CX0 4 f fd ["pact", "number", "head"] (sp_whole_letter W) := by
    refine F.ok sc_whole_letter (fun vs H Q E h => ?_) (fun cdv A outer s H vs Q E hr h => ?_)
    · match vs, h with | [_, _, _], _ => rfl
    · match vs, h with
      | [v_pact, v_number, v_head], h =>
        change sp_whole_letter W [v_pact, v_number, v_head] H Q E at h
        refine ⟨tRet (tOp (rAddN W.K) (tOp (rAddN W.K) (tCall (sp_bits_ahead W) [] E0 (tCons (tVar 0) (tCons (tC .non) (tCons (tVar 1) (tNil))))) (tCall (sp_whole_pieces W) [] E0 (tCons (tOp (rIxU W.K) (tVar 0) (tC (.int 0))) (tCons (tVar 2) (tNil))))) (tCall (sp_check_bits W) [] E0 (tCons (tVar 0) (tCons (tVar 1) (tCons (tVar 2) (tNil)))))), pss_one (ps_ret (pe_op u_addN (pe_op u_addN (pe_call F_bits_ahead (hr.mono (by decide)) (by rfl) g_bits_ahead k_bits_ahead b_bits_ahead .nil pass0 (pa_cons (pv 0) (pa_cons (pe_non) (pa_cons (pv 1) (pa_nil))))) (pe_call F_whole_pieces (hr.mono (by decide)) (by rfl) g_whole_pieces k_whole_pieces b_whole_pieces .nil pass0 (pa_cons (pe_ix u_ix (pv 0) (pe_int) (fun _ _ => rfl)) (pa_cons (pv 2) (pa_nil))))) (pe_call F_check_bits (hr.mono (by decide)) (by rfl) g_check_bits k_check_bits b_check_bits .nil pass0 (pa_cons (pv 0) (pa_cons (pv 1) (pa_cons (pv 2) (pa_nil))))))), ?_⟩
        clear hr
        clear F_bits_ahead g_bits_ahead k_bits_ahead b_bits_ahead d_bits_ahead a_bits_ahead
        clear F_whole_pieces g_whole_pieces k_whole_pieces b_whole_pieces d_whole_pieces a_whole_pieces
        clear F_check_bits g_check_bits k_check_bits b_check_bits d_check_bits a_check_bits
        rw [show L2.start N_whole_letter [v_pact, v_number, v_head] = [some v_pact, some v_number, some v_head] from rfl]
        obtain ⟨P, x, hd, hp, ok, rfl, hh, oh, q⟩ := h
        have l1 := ok.ok.l1
        have lh := okHead_len oh
        have sw4 := ok.sw4
        have cw20 := ok.cw20
        have cb := cntP_bd (t := none) ok trivial
        have sz := szP_le (t := none) ok trivial
        have pl := pcsP_len (t := none) ok trivial lh
        walk_at "Zs"
        refine go_bits_ahead (t := none) hp ok trivial fun H1 e1 => ?_
        walk_at "Zs"
        refine w_ptS (dq_mono e1 hp) fun x1 h1 => ?_
        walk_at "Zs"
        refine go_whole_pieces h1 ok (dq_mono e1 hh) oh fun H2 e2 => ?_
        have e12 := e1.trans e2
        walk_at "Zs"
        refine w_adT (by rw [ahead_len, pl]; omega) ?_
        walk_at "Zs"
        refine go_check_bits (dq_mono e12 hp) ok (dq_mono e12 hh) (by omega) fun H3 e3 => ?_
        walk_at "Zs"
        refine w_adT (by rw [len_app, ahead_len, pl, len_bitsT]; omega) ?_
        exact q _ (e12.trans e3)
  exact F0
theorem c_whole_letter {W : Wd} {mg : Str → Option Value} {base : Heap} (B : Bi mg) (S : Src W.K mg "whole_letter" s_whole_letter) (T : Kl W.K mg) (C_bits_ahead : Cal W mg base "bits_ahead" 3 ["pact", "at", "written"] (sp_bits_ahead W)) (C_whole_pieces : Cal W mg base "whole_pieces" 2 ["shape", "head"] (sp_whole_pieces W)) (C_check_bits : Cal W mg base "check_bits" 3 ["pact", "number", "head"] (sp_check_bits W)) : Cal W mg base "whole_letter" 4 ["pact", "number", "head"] (sp_whole_letter W) := by
  obtain ⟨f, fd, g, F⟩ := S
  exact ⟨f, fd, g, f_whole_letter B F T C_bits_ahead C_whole_pieces C_check_bits, F.kp, (F.binds (ps := ["pact", "number", "head"]) fun _ _ _ _ _ _ us hl => match us, hl with | [_, _, _], _ => rfl)⟩
theorem go_whole_letter {W : Wd} {H : Hp} {Q : VK} {E : XK} {v vh : V} {P : Pt} {x : Int} {hd : List Int} (hp : Dq W.K H v (ptD P)) (ok : OkPt P) (hh : Dq W.K H vh (headD hd)) (oh : OkHead P.s.fs hd) (q : ∀ H', Same H H' → Q (.str (letT P none x hd)) H') : sp_whole_letter W [v, .int x, vh] H Q E := ⟨P, x, hd, hp, ok, rfl, hh, oh, q⟩
def sp_pressed_letter (W : Wd) : Sp := fun vs H Q _ => match vs with
  | [v_pact, v_at, v_number, v_head] =>
  ∃ (P : Pt) (i : Nat) (x : Int) (hd : List Int), Dq W.K H v_pact (ptD P) ∧ OkPt P ∧ v_at = .int (i : Int) ∧ i < P.fs.length ∧ v_number = .int x ∧ Dq W.K H v_head (headD hd) ∧ hd.length = P.s.fs.length ∧ ∀ H', Same H H' → Q (.str (letT P (some i) x hd)) H'
  | _ => False
abbrev N_pressed_letter : List Str := ["pact", "at", "number", "head", "form", "told"]
theorem sc_pressed_letter : FnScope N_pressed_letter ["pact", "at", "number", "head"] (defScope s_pressed_letter) := ⟨rfl, rfl, rfl, by decide +kernel, rfl, by decide +kernel, by decide +kernel⟩
theorem f_pressed_letter {W : Wd} {mg : Str → Option Value} {base : Heap} (B : Bi mg) {f : Addr} {fd : FuncData} (F : Fun W.K "pressed_letter" "pressed_letter" s_pressed_letter f fd) (T : Kl W.K mg) (C_check_bits : Cal W mg base "check_bits" 3 ["pact", "number", "head"] (sp_check_bits W)) (C_rest_of : Cal W mg base "rest_of" 1 ["number", "width"] (sp_rest_of W)) (C_bits_ahead : Cal W mg base "bits_ahead" 3 ["pact", "at", "written"] (sp_bits_ahead W)) (C_pieces : Cal W mg base "pieces" 2 ["shape", "form", "head"] (sp_pieces W)) : FnOk W.P W.w W.K mg base CX0 4 f fd ["pact", "at", "number", "head"] (sp_pressed_letter W) := by
  obtain ⟨a_check_bits, d_check_bits, g_check_bits, F_check_bits, k_check_bits, b_check_bits⟩ := C_check_bits
  obtain ⟨a_rest_of, d_rest_of, g_rest_of, F_rest_of, k_rest_of, b_rest_of⟩ := C_rest_of
  obtain ⟨a_bits_ahead, d_bits_ahead, g_bits_ahead, F_bits_ahead, k_bits_ahead, b_bits_ahead⟩ := C_bits_ahead
  obtain ⟨a_pieces, d_pieces, g_pieces, F_pieces, k_pieces, b_pieces⟩ := C_pieces
  have nd := sc_pressed_letter.nd
  have F0 : FnOk W.P W.w W.K mg base CX0 4 f fd ["pact", "at", "number", "head"] (sp_pressed_letter W) := by
    refine F.ok sc_pressed_letter (fun vs H Q E h => ?_) (fun cdv A outer s H vs Q E hr h => ?_)
    · match vs, h with | [_, _, _, _], _ => rfl
    · match vs, h with
      | [v_pact, v_at, v_number, v_head], h =>
        change sp_pressed_letter W [v_pact, v_at, v_number, v_head] H Q E at h
        refine ⟨tSeq (tAsg (tOp (rIxU W.K) (tOp (rIxU W.K) (tVar 0) (tC (.int 2))) (tVar 1)) (gName 4)) (tSeq (tAsg (tOp (rAddN W.K) (tCall (sp_bits_ahead W) [] E0 (tCons (tVar 0) (tCons (tVar 1) (tCons (tCall (sp_rest_of W) [] E0 (tCons (tVar 2) (tCons (tOp (rIxU W.K) (tVar 4) (tC (.int 1))) (tNil)))) (tNil))))) (tCall (sp_pieces W) [] E0 (tCons (tOp (rIxU W.K) (tVar 0) (tC (.int 0))) (tCons (tVar 4) (tCons (tVar 3) (tNil)))))) (gName 5)) (tRet (tOp (rAddN W.K) (tVar 5) (tCall (sp_check_bits W) [] E0 (tCons (tVar 0) (tCons (tVar 2) (tCons (tVar 3) (tNil)))))))), pss_cons (ps_set (i := 4) nd rfl (.inl rfl) (pe_ix u_ix (pe_ix u_ix (pv 0) (pe_int) (fun _ _ => rfl)) (pv 1) (fun _ _ => rfl))) (pss_cons (ps_set (i := 5) nd rfl (.inl rfl) (pe_op u_addN (pe_call F_bits_ahead (hr.mono (by decide)) (by rfl) g_bits_ahead k_bits_ahead b_bits_ahead .nil pass0 (pa_cons (pv 0) (pa_cons (pv 1) (pa_cons (pe_call F_rest_of (hr.mono (by decide)) (by rfl) g_rest_of k_rest_of b_rest_of .nil pass0 (pa_cons (pv 2) (pa_cons (pe_ix u_ix (pv 4) (pe_int) (fun _ _ => rfl)) (pa_nil)))) (pa_nil))))) (pe_call F_pieces (hr.mono (by decide)) (by rfl) g_pieces k_pieces b_pieces .nil pass0 (pa_cons (pe_ix u_ix (pv 0) (pe_int) (fun _ _ => rfl)) (pa_cons (pv 4) (pa_cons (pv 3) (pa_nil))))))) (pss_one (ps_ret (pe_op u_addN (pv 5) (pe_call F_check_bits (hr.mono (by decide)) (by rfl) g_check_bits k_check_bits b_check_bits .nil pass0 (pa_cons (pv 0) (pa_cons (pv 2) (pa_cons (pv 3) (pa_nil))))))))), ?_⟩
        clear hr
        clear F_check_bits g_check_bits k_check_bits b_check_bits d_check_bits a_check_bits
        clear F_rest_of g_rest_of k_rest_of b_rest_of d_rest_of a_rest_of
        clear F_bits_ahead g_bits_ahead k_bits_ahead b_bits_ahead d_bits_ahead a_bits_ahead
        clear F_pieces g_pieces k_pieces b_pieces d_pieces a_pieces
        rw [show L2.start N_pressed_letter [v_pact, v_at, v_number, v_head] = [some v_pact, some v_at, some v_number, some v_head, none, none] from rfl]
        obtain ⟨P, i, x, hd, hp, ok, rfl, hi, rfl, hh, lh, q⟩ := h
        have l1 := ok.ok.l1
        have sw4 := ok.sw4
        have cw20 := ok.cw20
        have cb := cntP_bd (t := some i) ok hi
        have sz := szP_le (t := some i) ok hi
        have pl := pcsP_len (t := some i) ok hi lh
        obtain ⟨f, hf, okf, ew, ec⟩ := at_form ok hi
        have c0 := okf.c0
        have c1 := okf.c1
        walk_at "Zs"
        refine w_ptF hp fun x1 h1 => ?_
        walk_at "Zs"
        refine w_ixM h1 (by omega) (by omega) fun f' x2 hf' h2 => ?_
        rw [Int.toNat_natCast, hf] at hf'
        obtain rfl := Option.some.inj hf'
        walk_at "Zs"
        refine w_ixQTi h2 (n := f.c) rfl ?_
        walk_at "Zq"
        refine go_rest_of (by omega) (by omega) fun r hr _ _ _ => ?_
        walk_at "Zq"
        refine go_bits_ahead (t := some i) hp ok hi fun H1 e1 => ?_
        rw [hr, ← ec, ahead_mod]
        walk_at "Zq"
        refine w_ptS (dq_mono e1 hp) fun x3 h3 => ?_
        walk_at "Zq"
        refine go_pieces h3 ok.ok (dq_mono e1 h2) okf (dq_mono e1 hh) lh fun H2 e2 => ?_
        have e12 := e1.trans e2
        rw [← ew]
        show rAddN W.K (.str (aheadT P (some i) x)) (.str (pcsP P (some i) hd)) _ _
        refine w_adT (by rw [ahead_len, pl]; omega) ?_
        walk_at "Zq"
        refine go_check_bits (dq_mono e12 hp) ok (dq_mono e12 hh) (by omega) fun H3 e3 => ?_
        walk_at "Zq"
        refine w_adT (by rw [len_app, ahead_len, pl, len_bitsT]; omega) ?_
        exact q _ (e12.trans e3)
  exact F0
theorem c_pressed_letter {W : Wd} {mg : Str → Option Value} {base : Heap} (B : Bi mg) (S : Src W.K mg "pressed_letter" s_pressed_letter) (T : Kl W.K mg) (C_check_bits : Cal W mg base "check_bits" 3 ["pact", "number", "head"] (sp_check_bits W)) (C_rest_of : Cal W mg base "rest_of" 1 ["number", "width"] (sp_rest_of W)) (C_bits_ahead : Cal W mg base "bits_ahead" 3 ["pact", "at", "written"] (sp_bits_ahead W)) (C_pieces : Cal W mg base "pieces" 2 ["shape", "form", "head"] (sp_pieces W)) : Cal W mg base "pressed_letter" 4 ["pact", "at", "number", "head"] (sp_pressed_letter W) := by
  obtain ⟨f, fd, g, F⟩ := S
  exact ⟨f, fd, g, f_pressed_letter B F T C_check_bits C_rest_of C_bits_ahead C_pieces, F.kp, (F.binds (ps := ["pact", "at", "number", "head"]) fun _ _ _ _ _ _ us hl => match us, hl with | [_, _, _, _], _ => rfl)⟩
theorem go_pressed_letter {W : Wd} {H : Hp} {Q : VK} {E : XK} {v vh : V} {P : Pt} {i : Nat} {x : Int} {hd : List Int} (hp : Dq W.K H v (ptD P)) (ok : OkPt P) (hi : i < P.fs.length) (hh : Dq W.K H vh (headD hd)) (lh : hd.length = P.s.fs.length) (q : ∀ H', Same H H' → Q (.str (letT P (some i) x hd)) H') : sp_pressed_letter W [v, .int (i : Int), .int x, vh] H Q E := ⟨P, i, x, hd, hp, ok, rfl, hi, rfl, hh, lh, q⟩
def sp_greater (W : Wd) : Sp := fun vs H Q _ => match vs with
  | [v_one, v_other] =>
  ∃ a b : Option Int, v_one = oV a ∧ v_other = oV b ∧ Q (oV (grt a b)) H
  | _ => False
abbrev N_greater : List Str := ["one", "other"]
theorem sc_greater : FnScope N_greater ["one", "other"] (defScope s_greater) := ⟨rfl, rfl, rfl, by decide +kernel, rfl, by decide +kernel, by decide +kernel⟩
theorem f_greater {W : Wd} {mg : Str → Option Value} {base : Heap} (B : Bi mg) {f : Addr} {fd : FuncData} (F : Fun W.K "greater" "greater" s_greater f fd) (T : Kl W.K mg)  : FnOk W.P W.w W.K mg base CX0 1 f fd ["one", "other"] (sp_greater W) := by
  have nd := sc_greater.nd
  have F0 : FnOk W.P W.w W.K mg base CX0 1 f fd ["one", "other"] (sp_greater W) := by
    refine F.ok sc_greater (fun vs H Q E h => ?_) (fun cdv A outer s H vs Q E hr h => ?_)
    · match vs, h with | [_, _], _ => rfl
    · match vs, h with
      | [v_one, v_other], h =>
        change sp_greater W [v_one, v_other] H Q E at h
        refine ⟨tSeq (tIfS (tOr (tTest (tOp (rIsU) (tVar 0) (tC .non))) (tAnd (tTest (tOp (rIsNotU) (tVar 1) (tC .non))) (tTest (tOp (rLtU W.K) (tVar 0) (tVar 1))))) (tRet (tVar 1)) (tNext)) (tRet (tVar 0)), pss_cons (ps_if (PW.pt (pw_or (pt_cmpR u_is (pv 0) (pe_non) (nomark _)) (pw_or1 (PW.pt (pw_and (pt_cmpR u_isnot (pv 1) (pe_non) (nomark _)) (pw_and1 (pt_cmpR u_lt (pv 0) (pv 1) (nomark _)))))))) (pss_one (ps_ret (pv 1))) (pss_nil)) (pss_one (ps_ret (pv 0))), ?_⟩
        clear hr
        rw [show L2.start N_greater [v_one, v_other] = [some v_one, some v_other] from rfl]
        obtain ⟨a, b, rfl, rfl, q⟩ := h
        rcases a with _ | x
        · dsimp only [oV, grt] at q ⊢
          walk_at "Zs"
          exact q
        · rcases b with _ | y
          · dsimp only [oV, grt] at q ⊢
            walk_at "Zs"
            exact q
          · have e : grt (some x) (some y) = if x < y then some y else some x := rfl
            rw [e] at q
            dsimp only [oV] at q ⊢
            walk_at "Zs"
            refine w_dec (fun c => ?_) (fun c => ?_)
            · rw [if_pos c] at q
              walk_at "Zs"
              exact q
            · rw [if_neg c] at q
              walk_at "Zs"
              exact q
  exact F0
theorem c_greater {W : Wd} {mg : Str → Option Value} {base : Heap} (B : Bi mg) (S : Src W.K mg "greater" s_greater) (T : Kl W.K mg)  : Cal W mg base "greater" 1 ["one", "other"] (sp_greater W) := by
  obtain ⟨f, fd, g, F⟩ := S
  exact ⟨f, fd, g, f_greater B F T , F.kp, (F.binds (ps := ["one", "other"]) fun _ _ _ _ _ _ us hl => match us, hl with | [_, _], _ => rfl)⟩
theorem go_greater {W : Wd} {H : Hp} {Q : VK} {E : XK} {a b : Option Int} (q : Q (oV (grt a b)) H) : sp_greater W [oV a, oV b] H Q E := ⟨a, b, rfl, rfl, q⟩
theorem go_greaterI {W : Wd} {H : Hp} {Q : VK} {E : XK} {a : Option Int} {n : Int} (q : Q (oV (grt a (some n))) H) : sp_greater W [oV a, .int n] H Q E := ⟨a, some n, rfl, rfl, q⟩
theorem go_greaterN {W : Wd} {H : Hp} {Q : VK} {E : XK} {a : Option Int} (q : Q (oV (grt a none)) H) : sp_greater W [oV a, .non] H Q E := ⟨a, none, rfl, rfl, q⟩
def sp_Presser___init__ (W : Wd) : Sp := fun vs H Q _ => match vs with
  | [v_self, v_pact] =>
  ∃ (p dx : Addr) (P : Pt), v_self = .ref p ∧ H p = some (.ins (clsOf W.K "Presser") dx []) ∧ Dq W.K H v_pact (ptD P) ∧ ∀ l H', H l = none → (∀ a u, H a = some u → a ≠ p → H' a = some u) → PrAt W H' p l ⟨P, [], none, none, 0⟩ → Q .non H'
  | _ => False
abbrev N_Presser___init__ : List Str := ["self", "pact"]
theorem sc_Presser___init__ : FnScope N_Presser___init__ ["self", "pact"] (defScope s_Presser___init__) := ⟨rfl, rfl, rfl, by decide +kernel, rfl, by decide +kernel, by decide +kernel⟩
theorem f_Presser___init__ {W : Wd} {mg : Str → Option Value} {base : Heap} (B : Bi mg) {f : Addr} {fd : FuncData} (F : Fun W.K "__init__" "Presser.__init__" s_Presser___init__ f fd) (T : Kl W.K mg)  : FnOk W.P W.w W.K mg base CX0 1 f fd ["self", "pact"] (sp_Presser___init__ W) := by
  have nd := sc_Presser___init__.nd
  have F0 : FnOk W.P W.w W.K mg base CX0 1 f fd ["self", "pact"] (sp_Presser___init__ W) := by
    refine F.ok sc_Presser___init__ (fun vs H Q E h => ?_) (fun cdv A outer s H vs Q E hr h => ?_)
    · match vs, h with | [_, _], _ => rfl
    · match vs, h with
      | [v_self, v_pact], h =>
        change sp_Presser___init__ W [v_self, v_pact] H Q E at h
        refine ⟨tSeq (sFd (clsOf W.K "Presser") (tVar 0) (tVar 1) "pact") (tSeq (sFd (clsOf W.K "Presser") (tVar 0) (tLst (tNil)) "past") (tSeq (sFd (clsOf W.K "Presser") (tVar 0) (tC .non) "had_most") (tSeq (sFd (clsOf W.K "Presser") (tVar 0) (tC .non) "base_most") (sFd (clsOf W.K "Presser") (tVar 0) (tC (.int 0)) "fresh_from")))), pss_cons (ps_fd T.Presser.cl T.Presser_pact (pv 0) (pv 1) rfl) (pss_cons (ps_fd T.Presser.cl T.Presser_past (pv 0) (pe_lst (pa_nil)) rfl) (pss_cons (ps_fd T.Presser.cl T.Presser_had_most (pv 0) (pe_non) rfl) (pss_cons (ps_fd T.Presser.cl T.Presser_base_most (pv 0) (pe_non) rfl) (pss_one (ps_fd T.Presser.cl T.Presser_fresh_from (pv 0) (pe_int) rfl))))), ?_⟩
        clear hr
        rw [show L2.start N_Presser___init__ [v_self, v_pact] = [some v_self, some v_pact] from rfl]
        obtain ⟨p, dx, P, rfl, hp, hP, q⟩ := h
        walk_at "Zs"
        refine w_sfok hp (by show 0 < 1000; decide) ?_
        walk_at "Zs"
        rename_i l H2 n2 e2 h2
        have nlp : p ≠ l := fun z => by rw [← z, upd_same] at n2; cases n2
        refine w_sfok (e2 _ _ upd_same) (by show 1 < 1000; decide) ?_
        walk_at "Zs"
        refine w_sfok upd_same (by show 2 < 1000; decide) ?_
        walk_at "Zs"
        refine w_sfok upd_same (by show 3 < 1000; decide) ?_
        walk_at "Zs"
        refine w_sfok upd_same (by show 4 < 1000; decide) ?_
        have hk : ∀ a u, H a = some u → a ≠ p → ∀ u', upd (upd (upd (upd H2 p u) p u) p u) p u' a = some u := fun a u h n u' => by
          rw [upd_ne n, upd_ne n, upd_ne n, upd_ne n]
          exact e2 _ _ (by rw [upd_ne n]; exact h)
        have hk2 : ∀ (u1 u2 u3 u4 : HO) a u, H a = some u → a ≠ p → upd (upd (upd (upd H2 p u1) p u2) p u3) p u4 a = some u := fun u1 u2 u3 u4 a u h n => by
          rw [upd_ne n, upd_ne n, upd_ne n, upd_ne n]
          exact e2 _ _ (by rw [upd_ne n]; exact h)
        refine q l _ ?_ (hk2 _ _ _ _) ⟨dx, v_pact, [], by rw [upd_same, prF_mk], ?_, ?_, .nil⟩
        · rw [upd_ne nlp.symm] at n2
          exact n2
        · refine dqt (fun a u h t => hk2 _ _ _ _ a u h fun z => ?_) hP (tupO_pt P)
          rw [z, hp] at h
          cases h
          exact t
        · rw [upd_ne nlp.symm, upd_ne nlp.symm, upd_ne nlp.symm, upd_ne nlp.symm]
          exact h2
  exact F0
theorem c_Presser___init__ {W : Wd} {mg : Str → Option Value} {base : Heap} (B : Bi mg) (S : SrcI W.K (clsOf W.K "Presser") "Presser.__init__" s_Presser___init__) (T : Kl W.K mg)  : CalI W mg base (clsOf W.K "Presser") 1 ["self", "pact"] (sp_Presser___init__ W) := by
  obtain ⟨f, fd, g, F⟩ := S
  exact ⟨f, fd, g, f_Presser___init__ B F T , (F.binds (ps := ["self", "pact"]) fun _ _ _ _ _ _ us hl => match us, hl with | [_, _], _ => rfl)⟩
theorem go_Presser___init__ {W : Wd} {H : Hp} {Q : VK} {E : XK} {v : V} {P : Pt} (hP : Dq W.K H v (ptD P)) (q : ∀ p l H', H p = none → H l = none → Same H H' → PrAt W H' p l ⟨P, [], none, none, 0⟩ → Q (.ref p) H') : MkOk (clsOf W.K "Presser") (sp_Presser___init__ W) E Q [v] H := fun x dx nx ndx nex => by
  have e0 : Same H (upd (upd H dx (.own x)) x (.ins (clsOf W.K "Presser") dx [])) := same_mut (same_new ndx) nx
  refine ⟨x, dx, P, rfl, upd_same, dq_mono e0 hP, fun l H' nl ek hp => ⟨rfl, q x l H' nx ?_ (fun a u h => ek a u (e0 a u h) (ne_of_none h nx)) hp⟩⟩
  exact none_of e0 nl
def sp_Presser_sent (W : Wd) : Sp := fun vs H Q _ => match vs with
  | [v_self] =>
  ∃ p l s, v_self = .ref p ∧ PrAt W H p l s ∧ Q (.int (s.past.length : Int)) H
  | _ => False
abbrev N_Presser_sent : List Str := ["self"]
theorem sc_Presser_sent : FnScope N_Presser_sent ["self"] (defScope s_Presser_sent) := ⟨rfl, rfl, rfl, by decide +kernel, rfl, by decide +kernel, by decide +kernel⟩
theorem f_Presser_sent {W : Wd} {mg : Str → Option Value} {base : Heap} (B : Bi mg) {f : Addr} {fd : FuncData} (F : Fun W.K "sent" "Presser.sent" s_Presser_sent f fd) (T : Kl W.K mg)  : FnOk W.P W.w W.K mg base CX0 1 f fd ["self"] (sp_Presser_sent W) := by
  have nd := sc_Presser_sent.nd
  have F0 : FnOk W.P W.w W.K mg base CX0 1 f fd ["self"] (sp_Presser_sent W) := by
    refine F.ok sc_Presser_sent (fun vs H Q E h => ?_) (fun cdv A outer s H vs Q E hr h => ?_)
    · match vs, h with | [_], _ => rfl
    · match vs, h with
      | [v_self], h =>
        change sp_Presser_sent W [v_self] H Q E at h
        refine ⟨tRet (tCB (rLenU W.K) (tCons (tFd (clsOf W.K "Presser") (tVar 0) "past") (tNil))), pss_one (ps_ret (pe_callB u_len (by rfl) B.b_len (by decide +kernel) (pa_cons (pe_fd T.Presser.cl T.Presser_past (pv 0) rfl) (pa_nil)))), ?_⟩
        clear hr
        rw [show L2.start N_Presser_sent [v_self] = [some v_self] from rfl]
        obtain ⟨p, l, s, rfl, hp, q⟩ := h
        walk_at "Zs"
        exact q
  exact F0
theorem c_Presser_sent {W : Wd} {mg : Str → Option Value} {base : Heap} (B : Bi mg) (S : SrcM W.K (clsOf W.K "Presser") "sent" "Presser.sent" s_Presser_sent) (T : Kl W.K mg)  : CalM W mg base (clsOf W.K "Presser") "sent" 1 ["self"] (sp_Presser_sent W) := by
  obtain ⟨f, fd, g, F⟩ := S
  exact ⟨f, fd, g, f_Presser_sent B F T , (F.binds (ps := ["self"]) fun _ _ _ _ _ _ us hl => match us, hl with | [_], _ => rfl)⟩
theorem go_Presser_sent {W : Wd} {H : Hp} {Q : VK} {E : XK} {p l : Addr} {s : PrS} (hp : PrAt W H p l s) (q : Q (.int (s.past.length : Int)) H) : sp_Presser_sent W [.ref p] H Q E := ⟨p, l, s, rfl, hp, q⟩
local macro_rules | `(tactic| walk_at "Zc") => `(tactic| ((with_reducible refine' go_Presser_sent ?hp ?_); (case hp => walk_at "Zpr")))
def sp_Presser_known (W : Wd) : Sp := fun vs H Q _ => match vs with
  | [v_self] =>
  ∃ p l s, v_self = .ref p ∧ PrAt W H p l s ∧ ∀ v H', Same H H' → Dq W.K H' v (.tuple [oD s.had, oD s.base, .int s.fresh]) → Q v H'
  | _ => False
abbrev N_Presser_known : List Str := ["self"]
theorem sc_Presser_known : FnScope N_Presser_known ["self"] (defScope s_Presser_known) := ⟨rfl, rfl, rfl, by decide +kernel, rfl, by decide +kernel, by decide +kernel⟩
theorem f_Presser_known {W : Wd} {mg : Str → Option Value} {base : Heap} (B : Bi mg) {f : Addr} {fd : FuncData} (F : Fun W.K "known" "Presser.known" s_Presser_known f fd) (T : Kl W.K mg)  : FnOk W.P W.w W.K mg base CX0 1 f fd ["self"] (sp_Presser_known W) := by
  have nd := sc_Presser_known.nd
  have F0 : FnOk W.P W.w W.K mg base CX0 1 f fd ["self"] (sp_Presser_known W) := by
    refine F.ok sc_Presser_known (fun vs H Q E h => ?_) (fun cdv A outer s H vs Q E hr h => ?_)
    · match vs, h with | [_], _ => rfl
    · match vs, h with
      | [v_self], h =>
        change sp_Presser_known W [v_self] H Q E at h
        refine ⟨tRet (tTupN (tCons (tFd (clsOf W.K "Presser") (tVar 0) "had_most") (tCons (tFd (clsOf W.K "Presser") (tVar 0) "base_most") (tCons (tFd (clsOf W.K "Presser") (tVar 0) "fresh_from") (tNil))))), pss_one (ps_ret (pe_tupN (pa_cons (pe_fd T.Presser.cl T.Presser_had_most (pv 0) rfl) (pa_cons (pe_fd T.Presser.cl T.Presser_base_most (pv 0) rfl) (pa_cons (pe_fd T.Presser.cl T.Presser_fresh_from (pv 0) rfl) (pa_nil)))))), ?_⟩
        clear hr
        rw [show L2.start N_Presser_known [v_self] = [some v_self] from rfl]
        obtain ⟨p, l, s, rfl, hp, q⟩ := h
        walk_at "Zs"
        rename_i p1 H1 n1 e1 h1
        exact q _ _ e1 (dq_new h1 (.cons (oV_dq _) (dqs_two (oV_dq _) (.int _))))
  exact F0
theorem c_Presser_known {W : Wd} {mg : Str → Option Value} {base : Heap} (B : Bi mg) (S : SrcM W.K (clsOf W.K "Presser") "known" "Presser.known" s_Presser_known) (T : Kl W.K mg)  : CalM W mg base (clsOf W.K "Presser") "known" 1 ["self"] (sp_Presser_known W) := by
  obtain ⟨f, fd, g, F⟩ := S
  exact ⟨f, fd, g, f_Presser_known B F T , (F.binds (ps := ["self"]) fun _ _ _ _ _ _ us hl => match us, hl with | [_], _ => rfl)⟩
theorem go_Presser_known {W : Wd} {H : Hp} {Q : VK} {E : XK} {p l : Addr} {s : PrS} (hp : PrAt W H p l s) (q : ∀ v H', Same H H' → Dq W.K H' v (.tuple [oD s.had, oD s.base, .int s.fresh]) → Q v H') : sp_Presser_known W [.ref p] H Q E := ⟨p, l, s, rfl, hp, q⟩
def sp_Presser_formers (W : Wd) : Sp := fun vs H Q _ => match vs with
  | [v_self, v_reach] =>
  ∃ p l s r, v_self = .ref p ∧ PrAt W H p l s ∧ v_reach = .int r ∧ 0 ≤ r ∧ s.past.length ≤ 1000 ∧ ∀ v H', Same H H' → Dq W.K H' v (fosD (foP s.past r.toNat)) → Q v H'
  | _ => False
abbrev N_Presser_formers : List Str := ["self", "reach", "many", "more"]
theorem sc_Presser_formers : FnScope N_Presser_formers ["self", "reach"] (defScope s_Presser_formers) := ⟨rfl, rfl, rfl, by decide +kernel, rfl, by decide +kernel, by decide +kernel⟩
theorem f_Presser_formers {W : Wd} {mg : Str → Option Value} {base : Heap} (B : Bi mg) {f : Addr} {fd : FuncData} (F : Fun W.K "formers" "Presser.formers" s_Presser_formers f fd) (T : Kl W.K mg)  : FnOk W.P W.w W.K mg base CX0 1 f fd ["self", "reach"] (sp_Presser_formers W) := by
  have nd := sc_Presser_formers.nd
  have F0 : FnOk W.P W.w W.K mg base CX0 1 f fd ["self", "reach"] (sp_Presser_formers W) := by
    refine F.ok sc_Presser_formers (fun vs H Q E h => ?_) (fun cdv A outer s H vs Q E hr h => ?_)
    · match vs, h with | [_, _], _ => rfl
    · match vs, h with
      | [v_self, v_reach], h =>
        change sp_Presser_formers W [v_self, v_reach] H Q E at h
        refine ⟨tSeq (tAsg (tCB (rMin2) (tCons (tVar 1) (tCons (tCB (rLenU W.K) (tCons (tFd (clsOf W.K "Presser") (tVar 0) "past") (tNil))) (tNil)))) (gName 2)) (tRet (tCB (rTupleOfN W.K) (tCons (tLc (iRng2 (tCons (tC (.int 1)) (tCons (tOp (rAddN W.K) (tVar 2) (tC (.int 1))) (tNil)))) (gName 3) (tYes) (tTupN (tCons (tVar 3) (tCons (tOp (rIxU W.K) (tFd (clsOf W.K "Presser") (tVar 0) "past") (tUn (rU fun i => .int (-i)) (tVar 3))) (tNil)))) [3]) (tNil)))), pss_cons (ps_set (i := 2) nd rfl (.inl rfl) (pe_callB (call_min2 rfl) (by rfl) B.b_min (by decide +kernel) (pa_cons (pv 1) (pa_cons (pe_callB u_len (by rfl) B.b_len (by decide +kernel) (pa_cons (pe_fd T.Presser.cl T.Presser_past (pv 0) rfl) (pa_nil))) (pa_nil))))) (pss_one (ps_ret (pe_callTy call_tuple_ofN (by rfl) B.b_tuple (by decide +kernel) (pa_cons (pe_lc (own := [("more", 3)]) rfl nd (pi_range2 (by rfl) B.b_range (pa_cons (pe_int) (pa_cons (pe_op u_addN (pv 2) (pe_int)) (pa_nil)))) (blkOk_by (own := [("more", 3)]) (N := N_Presser_formers) (sc := defScope s_Presser_formers) (by decide +kernel)) (fun _ _ _ _ _ => pg_name (i := 3) nd rfl (by first | exact Or.inl rfl | exact Or.inr rfl)) (fun _ _ _ _ _ => pts_nil) (fun _ _ _ _ _ => pe_tupN (pa_cons (pv 3) (pa_cons (pe_ix u_ix (pe_fd T.Presser.cl T.Presser_past (pv 0) rfl) (pe_un un_neg (pv 3)) (fun _ _ => rfl)) (pa_nil))))) (pa_nil))))), ?_⟩
        clear hr
        rw [show L2.start N_Presser_formers [v_self, v_reach] = [some v_self, some v_reach, none, none] from rfl]
        obtain ⟨p, l, s, r, rfl, hp, rfl, r0, hl, q⟩ := h
        walk_at "Zs"
        have em : (if (s.past.length : Int) < r then (s.past.length : Int) else r) = ((min r.toNat s.past.length : Nat) : Int) := by
          split <;> omega
        rw [em]
        generalize hm : min r.toNat s.past.length = m
        refine w_rg2 (by omega) ?_
        rw [show ((m : Int) + 1 - 1).toNat = m by omega]
        refine lcR2 (n := m) (c := 1) (fun i acc H' => DqAll W.K H' acc ((List.range i).map fun (k : Nat) => foD ((k : Int) + 1, s.past.getD (s.past.length - (k + 1)) []))) (fun i acc H' D xs ys hD h => dqs_lst hD h (tupOs_of fun d hd => ?_)) (by omega) (fun i acc H' h => ?_) (fun H' _ => .nil) (fun i acc H' hi e1 ea k k' hk hk' => ?_) fun D acc H1 hD e1 hD' ea => ?_
        · obtain ⟨g, _, rfl⟩ := List.mem_map.mp hd
          exact tupO_fo _
        · rw [dqs_len h, List.length_map, List.length_range]
          exact Nat.le_refl _
        · have hp1 := pr_same e1 hp
          walk_at "Zs"
          rw [show -(1 + (i : Int)) = -((i + 1 : Nat) : Int) by omega]
          refine w_ixPast hp1 (by omega) (by omega) fun v hv => ?_
          walk_at "Zs"
          rename_i p2' H2 n2 e2 h2
          refine hk _ _ e2 ?_
          rw [List.range_succ, List.map_append]
          refine dqs_app (dqs_mono e2 ea) (dqs_one (dq_new h2 ?_))
          rw [show (1 : Int) + (i : Int) = (i : Int) + 1 by omega]
          exact .cons (.int _) (.cons (dq_mono e2 hv) .nil)
        · walk_at "Zs"
          refine w_tupleN (SqL.of hD') fun p2' H2 n2 e2 h2 => ?_
          walk_at "Zs"
          refine q _ _ (e1.trans e2) (dq_new h2 (dqs_mono e2 ?_))
          unfold foP
          rw [List.map_map, hm]
          exact ea
  exact F0
theorem c_Presser_formers {W : Wd} {mg : Str → Option Value} {base : Heap} (B : Bi mg) (S : SrcM W.K (clsOf W.K "Presser") "formers" "Presser.formers" s_Presser_formers) (T : Kl W.K mg)  : CalM W mg base (clsOf W.K "Presser") "formers" 1 ["self", "reach"] (sp_Presser_formers W) := by
  obtain ⟨f, fd, g, F⟩ := S
  exact ⟨f, fd, g, f_Presser_formers B F T , (F.binds (ps := ["self", "reach"]) fun _ _ _ _ _ _ us hl => match us, hl with | [_, _], _ => rfl)⟩
theorem go_Presser_formers {W : Wd} {H : Hp} {Q : VK} {E : XK} {p l : Addr} {s : PrS} {r : Int} (hp : PrAt W H p l s) (r0 : 0 ≤ r) (hl : s.past.length ≤ 1000) (q : ∀ v H', Same H H' → Dq W.K H' v (fosD (foP s.past r.toNat)) → Q v H') : sp_Presser_formers W [.ref p, .int r] H Q E := ⟨p, l, s, r, rfl, hp, rfl, r0, hl, q⟩
def sp_Presser_shared_most (W : Wd) : Sp := fun vs H Q _ => match vs with
  | [v_self] =>
  ∃ p l s, v_self = .ref p ∧ PrAt W H p l s ∧ Q (oV (shM s)) H
  | _ => False
abbrev N_Presser_shared_most : List Str := ["self", "behind"]
theorem sc_Presser_shared_most : FnScope N_Presser_shared_most ["self"] (defScope s_Presser_shared_most) := ⟨rfl, rfl, rfl, by decide +kernel, rfl, by decide +kernel, by decide +kernel⟩
theorem f_Presser_shared_most {W : Wd} {mg : Str → Option Value} {base : Heap} (B : Bi mg) {f : Addr} {fd : FuncData} (F : Fun W.K "shared_most" "Presser.shared_most" s_Presser_shared_most f fd) (T : Kl W.K mg) (C_greater : Cal W mg base "greater" 1 ["one", "other"] (sp_greater W)) (C_Presser_sent : CalM W mg base (clsOf W.K "Presser") "sent" 1 ["self"] (sp_Presser_sent W)) : FnOk W.P W.w W.K mg base CX0 2 f fd ["self"] (sp_Presser_shared_most W) := by
  obtain ⟨a_greater, d_greater, g_greater, F_greater, k_greater, b_greater⟩ := C_greater
  obtain ⟨a_Presser_sent, d_Presser_sent, m_Presser_sent, F_Presser_sent, b_Presser_sent⟩ := C_Presser_sent
  have nd := sc_Presser_shared_most.nd
  have F0 : FnOk W.P W.w W.K mg base CX0 2 f fd ["self"] (sp_Presser_shared_most W) := by
    refine F.ok sc_Presser_shared_most (fun vs H Q E h => ?_) (fun cdv A outer s H vs Q E hr h => ?_)
    · match vs, h with | [_], _ => rfl
    · match vs, h with
      | [v_self], h =>
        change sp_Presser_shared_most W [v_self] H Q E at h
        refine ⟨tSeq (tAsg (tOp (rSubU) (tOp (rSubU) (tMeth (clsOf W.K "Presser") "sent" (sp_Presser_sent W) [] E0 (tVar 0) tNil) (tC (.int 1))) (tOp (rIxU W.K) (tOp (rIxU W.K) (tFd (clsOf W.K "Presser") (tVar 0) "pact") (tC (.int 3))) (tC (.int 0)))) (gName 1)) (tSeq (tIfS (tTest (tOp (rLtU W.K) (tVar 1) (tFd (clsOf W.K "Presser") (tVar 0) "fresh_from"))) (tAsg (tC .non) (gName 1)) (tNext)) (tRet (tCall (sp_greater W) [] E0 (tCons (tFd (clsOf W.K "Presser") (tVar 0) "base_most") (tCons (tVar 1) (tNil)))))), pss_cons (ps_set (i := 1) nd rfl (.inl rfl) (pe_op u_sub (pe_op u_sub (pe_meth0 (pv 0) T.Presser.cl m_Presser_sent F_Presser_sent (hr.mono (by decide)) b_Presser_sent .nil pass0) (pe_int)) (pe_ix u_ix (pe_ix u_ix (pe_fd T.Presser.cl T.Presser_pact (pv 0) rfl) (pe_int) (fun _ _ => rfl)) (pe_int) (fun _ _ => rfl)))) (pss_cons (ps_if (pt_cmpR u_lt (pv 1) (pe_fd T.Presser.cl T.Presser_fresh_from (pv 0) rfl) (nomark _)) (pss_one (ps_set (i := 1) nd rfl (.inl rfl) (pe_non))) (pss_nil)) (pss_one (ps_ret (pe_call F_greater (hr.mono (by decide)) (by rfl) g_greater k_greater b_greater .nil pass0 (pa_cons (pe_fd T.Presser.cl T.Presser_base_most (pv 0) rfl) (pa_cons (pv 1) (pa_nil))))))), ?_⟩
        clear hr
        clear F_greater g_greater k_greater b_greater d_greater a_greater
        clear F_Presser_sent m_Presser_sent b_Presser_sent d_Presser_sent a_Presser_sent
        rw [show L2.start N_Presser_shared_most [v_self] = [some v_self, none] from rfl]
        obtain ⟨p, l, s, rfl, hp, q⟩ := h
        unfold shM at q
        walk_at "Zs"
        refine w_dec (fun c => ?_) (fun c => ?_)
        · rw [if_pos c] at q
          walk_at "Zs"
          exact go_greaterN q
        · rw [if_neg c] at q
          walk_at "Zs"
          exact go_greaterI q
  exact F0
theorem c_Presser_shared_most {W : Wd} {mg : Str → Option Value} {base : Heap} (B : Bi mg) (S : SrcM W.K (clsOf W.K "Presser") "shared_most" "Presser.shared_most" s_Presser_shared_most) (T : Kl W.K mg) (C_greater : Cal W mg base "greater" 1 ["one", "other"] (sp_greater W)) (C_Presser_sent : CalM W mg base (clsOf W.K "Presser") "sent" 1 ["self"] (sp_Presser_sent W)) : CalM W mg base (clsOf W.K "Presser") "shared_most" 2 ["self"] (sp_Presser_shared_most W) := by
  obtain ⟨f, fd, g, F⟩ := S
  exact ⟨f, fd, g, f_Presser_shared_most B F T C_greater C_Presser_sent, (F.binds (ps := ["self"]) fun _ _ _ _ _ _ us hl => match us, hl with | [_], _ => rfl)⟩
theorem go_Presser_shared_most {W : Wd} {H : Hp} {Q : VK} {E : XK} {p l : Addr} {s : PrS} (hp : PrAt W H p l s) (q : Q (oV (shM s)) H) : sp_Presser_shared_most W [.ref p] H Q E := ⟨p, l, s, rfl, hp, q⟩
local macro_rules | `(tactic| walk_at "Zc") => `(tactic| ((with_reducible refine' go_Presser_shared_most ?hp ?_); (case hp => walk_at "Zpr")))
def sp_Presser_is_shared (W : Wd) : Sp := fun vs H Q _ => match vs with
  | [v_self, v_form] =>
  ∃ p l s f, v_self = .ref p ∧ PrAt W H p l s ∧ Dq W.K H v_form (fmD f) ∧ Q (.bl (shB s f.r)) H
  | _ => False
abbrev N_Presser_is_shared : List Str := ["self", "form", "least"]
theorem sc_Presser_is_shared : FnScope N_Presser_is_shared ["self", "form"] (defScope s_Presser_is_shared) := ⟨rfl, rfl, rfl, by decide +kernel, rfl, by decide +kernel, by decide +kernel⟩
theorem f_Presser_is_shared {W : Wd} {mg : Str → Option Value} {base : Heap} (B : Bi mg) {f : Addr} {fd : FuncData} (F : Fun W.K "is_shared" "Presser.is_shared" s_Presser_is_shared f fd) (T : Kl W.K mg) (C_Presser_sent : CalM W mg base (clsOf W.K "Presser") "sent" 1 ["self"] (sp_Presser_sent W)) (C_Presser_shared_most : CalM W mg base (clsOf W.K "Presser") "shared_most" 2 ["self"] (sp_Presser_shared_most W)) : FnOk W.P W.w W.K mg base CX0 3 f fd ["self", "form"] (sp_Presser_is_shared W) := by
  obtain ⟨a_Presser_sent, d_Presser_sent, m_Presser_sent, F_Presser_sent, b_Presser_sent⟩ := C_Presser_sent
  obtain ⟨a_Presser_shared_most, d_Presser_shared_most, m_Presser_shared_most, F_Presser_shared_most, b_Presser_shared_most⟩ := C_Presser_shared_most
  have nd := sc_Presser_is_shared.nd
  have F0 : FnOk W.P W.w W.K mg base CX0 3 f fd ["self", "form"] (sp_Presser_is_shared W) := by
    refine F.ok sc_Presser_is_shared (fun vs H Q E h => ?_) (fun cdv A outer s H vs Q E hr h => ?_)
    · match vs, h with | [_, _], _ => rfl
    · match vs, h with
      | [v_self, v_form], h =>
        change sp_Presser_is_shared W [v_self, v_form] H Q E at h
        refine ⟨tSeq (tAsg (tMeth (clsOf W.K "Presser") "shared_most" (sp_Presser_shared_most W) [] E0 (tVar 0) tNil) (gName 2)) (tRet (tAndV (tOp (rIsNotU) (tVar 2) (tC .non)) (tOp (rLeU) (tOp (rSubU) (tMeth (clsOf W.K "Presser") "sent" (sp_Presser_sent W) [] E0 (tVar 0) tNil) (tOp (rIxU W.K) (tVar 1) (tC (.int 0)))) (tVar 2)))), pss_cons (ps_set (i := 2) nd rfl (.inl rfl) (pe_meth0 (pv 0) T.Presser.cl m_Presser_shared_most F_Presser_shared_most (hr.mono (by decide)) b_Presser_shared_most .nil pass0)) (pss_one (ps_ret (pe_and (pe_cmpR u_isnot (pv 2) (pe_non) (nomark _)) (pe_one (pe_cmpR u_le (pe_op u_sub (pe_meth0 (pv 0) T.Presser.cl m_Presser_sent F_Presser_sent (hr.mono (by decide)) b_Presser_sent .nil pass0) (pe_ix u_ix (pv 1) (pe_int) (fun _ _ => rfl))) (pv 2) (nomark _)))))), ?_⟩
        clear hr
        clear F_Presser_sent m_Presser_sent b_Presser_sent d_Presser_sent a_Presser_sent
        clear F_Presser_shared_most m_Presser_shared_most b_Presser_shared_most d_Presser_shared_most a_Presser_shared_most
        rw [show L2.start N_Presser_is_shared [v_self, v_form] = [some v_self, some v_form, none] from rfl]
        obtain ⟨p, l, s, f, rfl, hp, hf, q⟩ := h
        unfold shB at q
        walk_at "Zs"
        cases c : shM s with
        | none =>
          rw [c] at q
          dsimp only [oV]
          walk_at "Zs"
          exact q
        | some m =>
          rw [c] at q
          dsimp only [oV]
          walk_at "Zs"
          refine w_ifn ?_
          walk_at "Zs"
          refine w_ixQTi hf (n := f.r) rfl ?_
          walk_at "Zs"
          exact q
  exact F0
theorem c_Presser_is_shared {W : Wd} {mg : Str → Option Value} {base : Heap} (B : Bi mg) (S : SrcM W.K (clsOf W.K "Presser") "is_shared" "Presser.is_shared" s_Presser_is_shared) (T : Kl W.K mg) (C_Presser_sent : CalM W mg base (clsOf W.K "Presser") "sent" 1 ["self"] (sp_Presser_sent W)) (C_Presser_shared_most : CalM W mg base (clsOf W.K "Presser") "shared_most" 2 ["self"] (sp_Presser_shared_most W)) : CalM W mg base (clsOf W.K "Presser") "is_shared" 3 ["self", "form"] (sp_Presser_is_shared W) := by
  obtain ⟨f, fd, g, F⟩ := S
  exact ⟨f, fd, g, f_Presser_is_shared B F T C_Presser_sent C_Presser_shared_most, (F.binds (ps := ["self", "form"]) fun _ _ _ _ _ _ us hl => match us, hl with | [_, _], _ => rfl)⟩
theorem go_Presser_is_shared {W : Wd} {H : Hp} {Q : VK} {E : XK} {p l : Addr} {s : PrS} {f : Fm} {v : V} (hp : PrAt W H p l s) (hf : Dq W.K H v (fmD f)) (q : Q (.bl (shB s f.r)) H) : sp_Presser_is_shared W [.ref p, v] H Q E := ⟨p, l, s, f, rfl, hp, hf, q⟩
def sp_Presser_least_top (W : Wd) : Sp := fun vs H Q _ => match vs with
  | [v_self] =>
  ∃ p l s, v_self = .ref p ∧ PrAt W H p l s ∧ Q (.int (ltI s)) H
  | _ => False
abbrev N_Presser_least_top : List Str := ["self", "least"]
theorem sc_Presser_least_top : FnScope N_Presser_least_top ["self"] (defScope s_Presser_least_top) := ⟨rfl, rfl, rfl, by decide +kernel, rfl, by decide +kernel, by decide +kernel⟩
theorem f_Presser_least_top {W : Wd} {mg : Str → Option Value} {base : Heap} (B : Bi mg) {f : Addr} {fd : FuncData} (F : Fun W.K "least_top" "Presser.least_top" s_Presser_least_top f fd) (T : Kl W.K mg) (C_Presser_sent : CalM W mg base (clsOf W.K "Presser") "sent" 1 ["self"] (sp_Presser_sent W)) : FnOk W.P W.w W.K mg base CX0 2 f fd ["self"] (sp_Presser_least_top W) := by
  obtain ⟨a_Presser_sent, d_Presser_sent, m_Presser_sent, F_Presser_sent, b_Presser_sent⟩ := C_Presser_sent
  have nd := sc_Presser_least_top.nd
  have F0 : FnOk W.P W.w W.K mg base CX0 2 f fd ["self"] (sp_Presser_least_top W) := by
    refine F.ok sc_Presser_least_top (fun vs H Q E h => ?_) (fun cdv A outer s H vs Q E hr h => ?_)
    · match vs, h with | [_], _ => rfl
    · match vs, h with
      | [v_self], h =>
        change sp_Presser_least_top W [v_self] H Q E at h
        refine ⟨tSeq (tAsg (tCB (rMax2) (tCons (tC (.int 0)) (tCons (tOp (rSubU) (tOp (rSubU) (tMeth (clsOf W.K "Presser") "sent" (sp_Presser_sent W) [] E0 (tVar 0) tNil) (tC (.int 1))) (tOp (rIxU W.K) (tOp (rIxU W.K) (tFd (clsOf W.K "Presser") (tVar 0) "pact") (tC (.int 3))) (tC (.int 1)))) (tNil)))) (gName 1)) (tSeq (tIfS (tTest (tOp (rIsNotU) (tFd (clsOf W.K "Presser") (tVar 0) "had_most") (tC .non))) (tAsg (tCB (rMax2) (tCons (tVar 1) (tCons (tOp (rSubU) (tFd (clsOf W.K "Presser") (tVar 0) "had_most") (tOp (rIxU W.K) (tOp (rIxU W.K) (tFd (clsOf W.K "Presser") (tVar 0) "pact") (tC (.int 3))) (tC (.int 2)))) (tNil)))) (gName 1)) (tNext)) (tRet (tVar 1))), pss_cons (ps_set (i := 1) nd rfl (.inl rfl) (pe_callB (call_max2 rfl) (by rfl) B.b_max (by decide +kernel) (pa_cons (pe_int) (pa_cons (pe_op u_sub (pe_op u_sub (pe_meth0 (pv 0) T.Presser.cl m_Presser_sent F_Presser_sent (hr.mono (by decide)) b_Presser_sent .nil pass0) (pe_int)) (pe_ix u_ix (pe_ix u_ix (pe_fd T.Presser.cl T.Presser_pact (pv 0) rfl) (pe_int) (fun _ _ => rfl)) (pe_int) (fun _ _ => rfl))) (pa_nil))))) (pss_cons (ps_if (pt_cmpR u_isnot (pe_fd T.Presser.cl T.Presser_had_most (pv 0) rfl) (pe_non) (nomark _)) (pss_one (ps_set (i := 1) nd rfl (.inl rfl) (pe_callB (call_max2 rfl) (by rfl) B.b_max (by decide +kernel) (pa_cons (pv 1) (pa_cons (pe_op u_sub (pe_fd T.Presser.cl T.Presser_had_most (pv 0) rfl) (pe_ix u_ix (pe_ix u_ix (pe_fd T.Presser.cl T.Presser_pact (pv 0) rfl) (pe_int) (fun _ _ => rfl)) (pe_int) (fun _ _ => rfl))) (pa_nil)))))) (pss_nil)) (pss_one (ps_ret (pv 1)))), ?_⟩
        clear hr
        clear F_Presser_sent m_Presser_sent b_Presser_sent d_Presser_sent a_Presser_sent
        rw [show L2.start N_Presser_least_top [v_self] = [some v_self, none] from rfl]
        obtain ⟨p, l, s, rfl, hp, q⟩ := h
        unfold ltI maxI at q
        walk_at "Zs"
        cases c : s.had with
        | none =>
          rw [c] at q
          dsimp only [oV]
          refine w_it rfl ?_
          walk_at "Zs"
          exact q
        | some x =>
          rw [c] at q
          dsimp only [oV]
          walk_at "Zs"
          refine w_ifn ?_
          walk_at "Zs"
          rw [c]
          dsimp only [oV]
          walk_at "Zs"
          exact q
  exact F0
theorem c_Presser_least_top {W : Wd} {mg : Str → Option Value} {base : Heap} (B : Bi mg) (S : SrcM W.K (clsOf W.K "Presser") "least_top" "Presser.least_top" s_Presser_least_top) (T : Kl W.K mg) (C_Presser_sent : CalM W mg base (clsOf W.K "Presser") "sent" 1 ["self"] (sp_Presser_sent W)) : CalM W mg base (clsOf W.K "Presser") "least_top" 2 ["self"] (sp_Presser_least_top W) := by
  obtain ⟨f, fd, g, F⟩ := S
  exact ⟨f, fd, g, f_Presser_least_top B F T C_Presser_sent, (F.binds (ps := ["self"]) fun _ _ _ _ _ _ us hl => match us, hl with | [_], _ => rfl)⟩
theorem go_Presser_least_top {W : Wd} {H : Hp} {Q : VK} {E : XK} {p l : Addr} {s : PrS} (hp : PrAt W H p l s) (q : Q (.int (ltI s)) H) : sp_Presser_least_top W [.ref p] H Q E := ⟨p, l, s, rfl, hp, q⟩
local macro_rules | `(tactic| walk_at "Zc") => `(tactic| ((with_reducible refine' go_Presser_least_top ?hp ?_); (case hp => walk_at "Zpr")))
def sp_Presser_does_count (W : Wd) : Sp := fun vs H Q _ => match vs with
  | [v_self, v_form] =>
  ∃ p l s f, v_self = .ref p ∧ PrAt W H p l s ∧ Dq W.K H v_form (fmD f) ∧ 1 ≤ f.c ∧ f.c ≤ 40 ∧ Q (.bl (cntB s f.c)) H
  | _ => False
abbrev N_Presser_does_count : List Str := ["self", "form"]
theorem sc_Presser_does_count : FnScope N_Presser_does_count ["self", "form"] (defScope s_Presser_does_count) := ⟨rfl, rfl, rfl, by decide +kernel, rfl, by decide +kernel, by decide +kernel⟩
theorem f_Presser_does_count {W : Wd} {mg : Str → Option Value} {base : Heap} (B : Bi mg) {f : Addr} {fd : FuncData} (F : Fun W.K "does_count" "Presser.does_count" s_Presser_does_count f fd) (T : Kl W.K mg) (C_Presser_sent : CalM W mg base (clsOf W.K "Presser") "sent" 1 ["self"] (sp_Presser_sent W)) (C_Presser_least_top : CalM W mg base (clsOf W.K "Presser") "least_top" 2 ["self"] (sp_Presser_least_top W)) : FnOk W.P W.w W.K mg base CX0 3 f fd ["self", "form"] (sp_Presser_does_count W) := by
  obtain ⟨a_Presser_sent, d_Presser_sent, m_Presser_sent, F_Presser_sent, b_Presser_sent⟩ := C_Presser_sent
  obtain ⟨a_Presser_least_top, d_Presser_least_top, m_Presser_least_top, F_Presser_least_top, b_Presser_least_top⟩ := C_Presser_least_top
  have nd := sc_Presser_does_count.nd
  have F0 : FnOk W.P W.w W.K mg base CX0 3 f fd ["self", "form"] (sp_Presser_does_count W) := by
    refine F.ok sc_Presser_does_count (fun vs H Q E h => ?_) (fun cdv A outer s H vs Q E hr h => ?_)
    · match vs, h with | [_, _], _ => rfl
    · match vs, h with
      | [v_self, v_form], h =>
        change sp_Presser_does_count W [v_self, v_form] H Q E at h
        refine ⟨tRet (tOp (rGtU) (tOp (rShlU) (tC (.int 1)) (tOp (rIxU W.K) (tVar 1) (tC (.int 1)))) (tOp (rSubU) (tOp (rAddN W.K) (tMeth (clsOf W.K "Presser") "sent" (sp_Presser_sent W) [] E0 (tVar 0) tNil) (tOp (rIxU W.K) (tOp (rIxU W.K) (tFd (clsOf W.K "Presser") (tVar 0) "pact") (tC (.int 3))) (tC (.int 2)))) (tMeth (clsOf W.K "Presser") "least_top" (sp_Presser_least_top W) [] E0 (tVar 0) tNil))), pss_one (ps_ret (pe_cmpR u_gt (pe_op u_shl (pe_int) (pe_ix u_ix (pv 1) (pe_int) (fun _ _ => rfl))) (pe_op u_sub (pe_op u_addN (pe_meth0 (pv 0) T.Presser.cl m_Presser_sent F_Presser_sent (hr.mono (by decide)) b_Presser_sent .nil pass0) (pe_ix u_ix (pe_ix u_ix (pe_fd T.Presser.cl T.Presser_pact (pv 0) rfl) (pe_int) (fun _ _ => rfl)) (pe_int) (fun _ _ => rfl))) (pe_meth0 (pv 0) T.Presser.cl m_Presser_least_top F_Presser_least_top (hr.mono (by decide)) b_Presser_least_top .nil pass0)) (nomark _))), ?_⟩
        clear hr
        clear F_Presser_sent m_Presser_sent b_Presser_sent d_Presser_sent a_Presser_sent
        clear F_Presser_least_top m_Presser_least_top b_Presser_least_top d_Presser_least_top a_Presser_least_top
        rw [show L2.start N_Presser_does_count [v_self, v_form] = [some v_self, some v_form] from rfl]
        obtain ⟨p, l, s, f, rfl, hp, hf, c0, c1, q⟩ := h
        walk_at "Zs"
        refine w_ixQTi hf (n := f.c) rfl ?_
        walk_at "Zs"
        exact q
  exact F0
theorem c_Presser_does_count {W : Wd} {mg : Str → Option Value} {base : Heap} (B : Bi mg) (S : SrcM W.K (clsOf W.K "Presser") "does_count" "Presser.does_count" s_Presser_does_count) (T : Kl W.K mg) (C_Presser_sent : CalM W mg base (clsOf W.K "Presser") "sent" 1 ["self"] (sp_Presser_sent W)) (C_Presser_least_top : CalM W mg base (clsOf W.K "Presser") "least_top" 2 ["self"] (sp_Presser_least_top W)) : CalM W mg base (clsOf W.K "Presser") "does_count" 3 ["self", "form"] (sp_Presser_does_count W) := by
  obtain ⟨f, fd, g, F⟩ := S
  exact ⟨f, fd, g, f_Presser_does_count B F T C_Presser_sent C_Presser_least_top, (F.binds (ps := ["self", "form"]) fun _ _ _ _ _ _ us hl => match us, hl with | [_, _], _ => rfl)⟩
theorem go_Presser_does_count {W : Wd} {H : Hp} {Q : VK} {E : XK} {p l : Addr} {s : PrS} {f : Fm} {v : V} (hp : PrAt W H p l s) (hf : Dq W.K H v (fmD f)) (c0 : 1 ≤ f.c) (c1 : f.c ≤ 40) (q : Q (.bl (cntB s f.c)) H) : sp_Presser_does_count W [.ref p, v] H Q E := ⟨p, l, s, f, rfl, hp, hf, c0, c1, q⟩
def sp_Presser_is_turn_of_whole (W : Wd) : Sp := fun vs H Q _ => match vs with
  | [v_self] =>
  ∃ p l s, v_self = .ref p ∧ PrAt W H p l s ∧ Q (.bl (tnB s)) H
  | _ => False
abbrev N_Presser_is_turn_of_whole : List Str := ["self", "anew"]
theorem sc_Presser_is_turn_of_whole : FnScope N_Presser_is_turn_of_whole ["self"] (defScope s_Presser_is_turn_of_whole) := ⟨rfl, rfl, rfl, by decide +kernel, rfl, by decide +kernel, by decide +kernel⟩
theorem f_Presser_is_turn_of_whole {W : Wd} {mg : Str → Option Value} {base : Heap} (B : Bi mg) {f : Addr} {fd : FuncData} (F : Fun W.K "is_turn_of_whole" "Presser.is_turn_of_whole" s_Presser_is_turn_of_whole f fd) (T : Kl W.K mg) (C_Presser_sent : CalM W mg base (clsOf W.K "Presser") "sent" 1 ["self"] (sp_Presser_sent W)) : FnOk W.P W.w W.K mg base CX0 2 f fd ["self"] (sp_Presser_is_turn_of_whole W) := by
  obtain ⟨a_Presser_sent, d_Presser_sent, m_Presser_sent, F_Presser_sent, b_Presser_sent⟩ := C_Presser_sent
  have nd := sc_Presser_is_turn_of_whole.nd
  have F0 : FnOk W.P W.w W.K mg base CX0 2 f fd ["self"] (sp_Presser_is_turn_of_whole W) := by
    refine F.ok sc_Presser_is_turn_of_whole (fun vs H Q E h => ?_) (fun cdv A outer s H vs Q E hr h => ?_)
    · match vs, h with | [_], _ => rfl
    · match vs, h with
      | [v_self], h =>
        change sp_Presser_is_turn_of_whole W [v_self] H Q E at h
        refine ⟨tSeq (tAsg (tOp (rIxU W.K) (tOp (rIxU W.K) (tFd (clsOf W.K "Presser") (tVar 0) "pact") (tC (.int 3))) (tC (.int 3))) (gName 1)) (tRet (tAndV (tOp (rGtU) (tVar 1) (tC (.int 0))) (tOp (rEqU W.K) (tOp (rModU) (tMeth (clsOf W.K "Presser") "sent" (sp_Presser_sent W) [] E0 (tVar 0) tNil) (tVar 1)) (tC (.int 0))))), pss_cons (ps_set (i := 1) nd rfl (.inl rfl) (pe_ix u_ix (pe_ix u_ix (pe_fd T.Presser.cl T.Presser_pact (pv 0) rfl) (pe_int) (fun _ _ => rfl)) (pe_int) (fun _ _ => rfl))) (pss_one (ps_ret (pe_and (pe_cmpR u_gt (pv 1) (pe_int) (nomark _)) (pe_one (pe_cmpR (u_eq hr.units) (pe_op u_mod (pe_meth0 (pv 0) T.Presser.cl m_Presser_sent F_Presser_sent (hr.mono (by decide)) b_Presser_sent .nil pass0) (pv 1)) (pe_int) (nomark _)))))), ?_⟩
        clear hr
        clear F_Presser_sent m_Presser_sent b_Presser_sent d_Presser_sent a_Presser_sent
        rw [show L2.start N_Presser_is_turn_of_whole [v_self] = [some v_self, none] from rfl]
        obtain ⟨p, l, s, rfl, hp, q⟩ := h
        unfold tnB at q
        walk_at "Zs"
        refine w_dec (fun c => ?_) (fun c => ?_)
        · rw [decide_eq_true c, Bool.true_and] at q
          walk_at "Zs"
          exact q
        · rw [decide_eq_false c, Bool.false_and] at q
          exact q
  exact F0
theorem c_Presser_is_turn_of_whole {W : Wd} {mg : Str → Option Value} {base : Heap} (B : Bi mg) (S : SrcM W.K (clsOf W.K "Presser") "is_turn_of_whole" "Presser.is_turn_of_whole" s_Presser_is_turn_of_whole) (T : Kl W.K mg) (C_Presser_sent : CalM W mg base (clsOf W.K "Presser") "sent" 1 ["self"] (sp_Presser_sent W)) : CalM W mg base (clsOf W.K "Presser") "is_turn_of_whole" 2 ["self"] (sp_Presser_is_turn_of_whole W) := by
  obtain ⟨f, fd, g, F⟩ := S
  exact ⟨f, fd, g, f_Presser_is_turn_of_whole B F T C_Presser_sent, (F.binds (ps := ["self"]) fun _ _ _ _ _ _ us hl => match us, hl with | [_], _ => rfl)⟩
theorem go_Presser_is_turn_of_whole {W : Wd} {H : Hp} {Q : VK} {E : XK} {p l : Addr} {s : PrS} (hp : PrAt W H p l s) (q : Q (.bl (tnB s)) H) : sp_Presser_is_turn_of_whole W [.ref p] H Q E := ⟨p, l, s, rfl, hp, q⟩
local macro_rules | `(tactic| walk_at "Zc") => `(tactic| ((with_reducible refine' go_Presser_is_turn_of_whole ?hp ?_); (case hp => walk_at "Zpr")))
def sp_Presser_hindered (W : Wd) : Sp := fun vs H Q _ => match vs with
  | [v_self, v_head, v_at] =>
  ∃ p l s hd i f, v_self = .ref p ∧ PrAt W H p l s ∧ OkPr s ∧ Dq W.K H v_head (headD hd) ∧ OkHead s.P.s.fs hd ∧ v_at = .int ((i : Nat) : Int) ∧ s.P.fs[i]? = some f ∧ ∀ r v H', Same H H' → HinR s hd f r → Dq W.K H' v (hinD r) → Q v H'
  | _ => False
abbrev N_Presser_hindered : List Str := ["self", "head", "at", "form"]
theorem sc_Presser_hindered : FnScope N_Presser_hindered ["self", "head", "at"] (defScope s_Presser_hindered) := ⟨rfl, rfl, rfl, by decide +kernel, rfl, by decide +kernel, by decide +kernel⟩
theorem f_Presser_hindered {W : Wd} {mg : Str → Option Value} {base : Heap} (B : Bi mg) {f : Addr} {fd : FuncData} (F : Fun W.K "hindered" "Presser.hindered" s_Presser_hindered f fd) (T : Kl W.K mg) (C_Presser_formers : CalM W mg base (clsOf W.K "Presser") "formers" 1 ["self", "reach"] (sp_Presser_formers W)) (C_doubt : Cal W mg base "doubt" 6 ["shape", "form", "head", "formers"] (sp_doubt W)) (C_Presser_does_count : CalM W mg base (clsOf W.K "Presser") "does_count" 3 ["self", "form"] (sp_Presser_does_count W)) (C_Presser_is_shared : CalM W mg base (clsOf W.K "Presser") "is_shared" 3 ["self", "form"] (sp_Presser_is_shared W)) (C_Presser_is_turn_of_whole : CalM W mg base (clsOf W.K "Presser") "is_turn_of_whole" 2 ["self"] (sp_Presser_is_turn_of_whole W)) : FnOk W.P W.w W.K mg base CX0 7 f fd ["self", "head", "at"] (sp_Presser_hindered W) := by
  obtain ⟨a_Presser_formers, d_Presser_formers, m_Presser_formers, F_Presser_formers, b_Presser_formers⟩ := C_Presser_formers
  obtain ⟨a_doubt, d_doubt, g_doubt, F_doubt, k_doubt, b_doubt⟩ := C_doubt
  obtain ⟨a_Presser_does_count, d_Presser_does_count, m_Presser_does_count, F_Presser_does_count, b_Presser_does_count⟩ := C_Presser_does_count
  obtain ⟨a_Presser_is_shared, d_Presser_is_shared, m_Presser_is_shared, F_Presser_is_shared, b_Presser_is_shared⟩ := C_Presser_is_shared
  obtain ⟨a_Presser_is_turn_of_whole, d_Presser_is_turn_of_whole, m_Presser_is_turn_of_whole, F_Presser_is_turn_of_whole, b_Presser_is_turn_of_whole⟩ := C_Presser_is_turn_of_whole
  have nd := sc_Presser_hindered.nd
  have F0 : FnOk W.P W.w W.K mg base CX0 7 f fd ["self", "head", "at"] (sp_Presser_hindered W) := by
    refine F.ok sc_Presser_hindered (fun vs H Q E h => ?_) (fun cdv A outer s H vs Q E hr h => ?_)
    · match vs, h with | [_, _, _], _ => rfl
    · match vs, h with
      | [v_self, v_head, v_at], h =>
        change sp_Presser_hindered W [v_self, v_head, v_at] H Q E at h
        refine ⟨tSeq (tAsg (tOp (rIxU W.K) (tOp (rIxU W.K) (tFd (clsOf W.K "Presser") (tVar 0) "pact") (tC (.int 2))) (tVar 2)) (gName 3)) (tSeq (tIfS (tB (tMeth (clsOf W.K "Presser") "is_turn_of_whole" (sp_Presser_is_turn_of_whole W) [] E0 (tVar 0) tNil)) (tRet (tC (.str "anew"))) (tNext)) (tSeq (tIfS (tNot (tB (tMeth (clsOf W.K "Presser") "is_shared" (sp_Presser_is_shared W) [] E0 (tVar 0) (tCons (tVar 3) (tNil))))) (tRet (tC (.str "shared"))) (tNext)) (tSeq (tIfS (tNot (tB (tMeth (clsOf W.K "Presser") "does_count" (sp_Presser_does_count W) [] E0 (tVar 0) (tCons (tVar 3) (tNil))))) (tRet (tC (.str "count"))) (tNext)) (tRet (tCall (sp_doubt W) [] E0 (tCons (tOp (rIxU W.K) (tFd (clsOf W.K "Presser") (tVar 0) "pact") (tC (.int 0))) (tCons (tVar 3) (tCons (tVar 1) (tCons (tMeth (clsOf W.K "Presser") "formers" (sp_Presser_formers W) [] E0 (tVar 0) (tCons (tOp (rIxU W.K) (tVar 3) (tC (.int 0))) (tNil))) (tNil)))))))))), pss_cons (ps_set (i := 3) nd rfl (.inl rfl) (pe_ix u_ix (pe_ix u_ix (pe_fd T.Presser.cl T.Presser_pact (pv 0) rfl) (pe_int) (fun _ _ => rfl)) (pv 2) (fun _ _ => rfl))) (pss_cons (ps_if (pt_val (pe_meth0 (pv 0) T.Presser.cl m_Presser_is_turn_of_whole F_Presser_is_turn_of_whole (hr.mono (by decide)) b_Presser_is_turn_of_whole .nil pass0)) (pss_one (ps_ret (pe_str))) (pss_nil)) (pss_cons (ps_if (pt_not (pt_val (pe_meth (pv 0) T.Presser.cl m_Presser_is_shared F_Presser_is_shared (hr.mono (by decide)) b_Presser_is_shared .nil pass0 (pa_cons (pv 3) (pa_nil))))) (pss_one (ps_ret (pe_str))) (pss_nil)) (pss_cons (ps_if (pt_not (pt_val (pe_meth (pv 0) T.Presser.cl m_Presser_does_count F_Presser_does_count (hr.mono (by decide)) b_Presser_does_count .nil pass0 (pa_cons (pv 3) (pa_nil))))) (pss_one (ps_ret (pe_str))) (pss_nil)) (pss_one (ps_ret (pe_call F_doubt (hr.mono (by decide)) (by rfl) g_doubt k_doubt b_doubt .nil pass0 (pa_cons (pe_ix u_ix (pe_fd T.Presser.cl T.Presser_pact (pv 0) rfl) (pe_int) (fun _ _ => rfl)) (pa_cons (pv 3) (pa_cons (pv 1) (pa_cons (pe_meth (pv 0) T.Presser.cl m_Presser_formers F_Presser_formers (hr.mono (by decide)) b_Presser_formers .nil pass0 (pa_cons (pe_ix u_ix (pv 3) (pe_int) (fun _ _ => rfl)) (pa_nil))) (pa_nil))))))))))), ?_⟩
        clear hr
        clear F_Presser_formers m_Presser_formers b_Presser_formers d_Presser_formers a_Presser_formers
        clear F_doubt g_doubt k_doubt b_doubt d_doubt a_doubt
        clear F_Presser_does_count m_Presser_does_count b_Presser_does_count d_Presser_does_count a_Presser_does_count
        clear F_Presser_is_shared m_Presser_is_shared b_Presser_is_shared d_Presser_is_shared a_Presser_is_shared
        clear F_Presser_is_turn_of_whole m_Presser_is_turn_of_whole b_Presser_is_turn_of_whole d_Presser_is_turn_of_whole a_Presser_is_turn_of_whole
        rw [show L2.start N_Presser_hindered [v_self, v_head, v_at] = [some v_self, some v_head, some v_at, none] from rfl]
        obtain ⟨p, l, s, hd, i, f, rfl, hp, ok, hh, oh, rfl, hf, q⟩ := h
        have okf := ok.ok.fk f (List.mem_of_getElem? hf)
        have lp := ok.len
        have r0 := okf.r0
        have r1 := okf.r1
        walk_at "Zs"
        rename_i vP hvP
        refine w_ptF hvP fun x1 h1 => ?_
        walk_at "Zs"
        refine w_fmAt h1 hf fun fv hfv => ?_
        walk_at "Zs"
        unfold HinR at q
        cases c1 : tnB s with
        | true =>
          rw [c1] at q
          walk_at "Zs"
          exact q .anew _ _ (Same.refl _) rfl (.str _)
        | false =>
          rw [c1] at q
          walk_at "Zs"
          refine go_Presser_is_shared hp hfv ?_
          cases c2 : shB s f.r with
          | false =>
            rw [c2] at q
            walk_at "Zs"
            exact q .shared _ _ (Same.refl _) rfl (.str _)
          | true =>
            rw [c2] at q
            walk_at "Zs"
            refine go_Presser_does_count hp hfv okf.c0 okf.c1 ?_
            cases c3 : cntB s f.c with
            | false =>
              rw [c3] at q
              walk_at "Zs"
              exact q .count _ _ (Same.refl _) rfl (.str _)
            | true =>
              rw [c3] at q
              walk_at "Zs"
              rename_i vP2 hvP2
              refine w_ptS hvP2 fun x2 h2 => ?_
              walk_at "Zs"
              refine w_ixQTi hfv (n := f.r) rfl ?_
              walk_at "Zs"
              refine go_Presser_formers hp (by omega) lp fun v3 H3 e3 h3 => ?_
              walk_at "Zs"
              refine go_doubt (dq_mono e3 h2) ok.ok.ok (dq_mono e3 hfv) okf (dq_mono e3 hh) (okHead_len oh) h3 (foP_ok ok (by omega)) (Nat.le_trans foP_len (by omega)) fun d u H4 e4 hd4 hu => ?_
              exact q (.dou d) _ _ (e3.trans e4) ⟨d, rfl, hd4⟩ hu
  exact F0
theorem c_Presser_hindered {W : Wd} {mg : Str → Option Value} {base : Heap} (B : Bi mg) (S : SrcM W.K (clsOf W.K "Presser") "hindered" "Presser.hindered" s_Presser_hindered) (T : Kl W.K mg) (C_Presser_formers : CalM W mg base (clsOf W.K "Presser") "formers" 1 ["self", "reach"] (sp_Presser_formers W)) (C_doubt : Cal W mg base "doubt" 6 ["shape", "form", "head", "formers"] (sp_doubt W)) (C_Presser_does_count : CalM W mg base (clsOf W.K "Presser") "does_count" 3 ["self", "form"] (sp_Presser_does_count W)) (C_Presser_is_shared : CalM W mg base (clsOf W.K "Presser") "is_shared" 3 ["self", "form"] (sp_Presser_is_shared W)) (C_Presser_is_turn_of_whole : CalM W mg base (clsOf W.K "Presser") "is_turn_of_whole" 2 ["self"] (sp_Presser_is_turn_of_whole W)) : CalM W mg base (clsOf W.K "Presser") "hindered" 7 ["self", "head", "at"] (sp_Presser_hindered W) := by
  obtain ⟨f, fd, g, F⟩ := S
  exact ⟨f, fd, g, f_Presser_hindered B F T C_Presser_formers C_doubt C_Presser_does_count C_Presser_is_shared C_Presser_is_turn_of_whole, (F.binds (ps := ["self", "head", "at"]) fun _ _ _ _ _ _ us hl => match us, hl with | [_, _, _], _ => rfl)⟩
theorem go_Presser_hindered {W : Wd} {H : Hp} {Q : VK} {E : XK} {p l : Addr} {s : PrS} {hd : List Int} {i : Nat} {f : Fm} {v : V} (hp : PrAt W H p l s) (ok : OkPr s) (hh : Dq W.K H v (headD hd)) (oh : OkHead s.P.s.fs hd) (hf : s.P.fs[i]? = some f) (q : ∀ r v H', Same H H' → HinR s hd f r → Dq W.K H' v (hinD r) → Q v H') : sp_Presser_hindered W [.ref p, v, .int (i : Int)] H Q E := ⟨p, l, s, hd, i, f, rfl, hp, ok, hh, oh, rfl, hf, q⟩
def sp_Presser_look_at (W : Wd) : Sp := fun vs H Q E => match vs with
  | [v_self, v_head] =>
  ∃ p l s d, v_self = .ref p ∧ PrAt W H p l s ∧ OkPr s ∧ Dz W.K Ever H v_head d ∧ (headB s.P.s.fs d = true → ∀ H', Same H H' → Q .non H') ∧ (headB s.P.s.fs d = false → ∀ H', Same H H' → E (.ref (clsOf W.K "NoHead")) none H')
  | _ => False
abbrev N_Presser_look_at : List Str := ["self", "head"]
theorem sc_Presser_look_at : FnScope N_Presser_look_at ["self", "head"] (defScope s_Presser_look_at) := ⟨rfl, rfl, rfl, by decide +kernel, rfl, by decide +kernel, by decide +kernel⟩
theorem f_Presser_look_at {W : Wd} {mg : Str → Option Value} {base : Heap} (B : Bi mg) {f : Addr} {fd : FuncData} (F : Fun W.K "look_at" "Presser.look_at" s_Presser_look_at f fd) (T : Kl W.K mg) (C_is_head : Cal W mg base "is_head" 4 ["shape", "thing"] (sp_is_head W)) : FnOk W.P W.w W.K mg base (L2N.CX W.P W.w) 5 f fd ["self", "head"] (sp_Presser_look_at W) := by
  obtain ⟨a_is_head, d_is_head, g_is_head, F_is_head, k_is_head, b_is_head⟩ := C_is_head
  have nd := sc_Presser_look_at.nd
  have F0 : FnOk W.P W.w W.K mg base (L2N.CX W.P W.w) 5 f fd ["self", "head"] (sp_Presser_look_at W) := by
    refine okN F sc_Presser_look_at (fun vs H Q E h => ?_) (fun cdv A outer s H vs Q E hr h => ?_)
    · match vs, h with | [_, _], _ => rfl
    · match vs, h with
      | [v_self, v_head], h =>
        change sp_Presser_look_at W [v_self, v_head] H Q E at h
        refine ⟨tIfS (tNot (tB (tCall (sp_is_head W) [] E0 (tCons (tOp (rIxU W.K) (tFd (clsOf W.K "Presser") (tVar 0) "pact") (tC (.int 0))) (tCons (tVar 1) (tNil)))))) (sRaise (clsOf W.K "NoHead") E) (tNext), pss_one (ps_if (pt_not (pt_val (pe_call F_is_head (hr.mono (by decide)) (by rfl) g_is_head k_is_head b_is_head .nil pass0 (pa_cons (pe_ix u_ix (pe_fd T.Presser.cl T.Presser_pact (pv 0) rfl) (pe_int) (fun _ _ => rfl)) (pa_cons (pv 1) (pa_nil)))))) (pss_one (ps_rais rfl (L2N.takes_of rfl rfl rfl rfl) T.x_NoHead rfl)) (pss_nil)), ?_⟩
        clear hr
        clear F_is_head g_is_head k_is_head b_is_head d_is_head a_is_head
        rw [show L2.start N_Presser_look_at [v_self, v_head] = [some v_self, some v_head] from rfl]
        obtain ⟨p, l, s, d, rfl, hp, ok, hh, q, qE⟩ := h
        walk_at "Zs"
        rename_i vP hvP
        refine w_ptS hvP fun x1 h1 => ?_
        walk_at "Zs"
        refine go_is_head h1 (by have := ok.ok.ok.l1; omega) (okShp_br ok.ok.ok) hh fun H1 e1 => ?_
        walk_at "Zs"
        refine w_bool (fun hb => ?_) (fun hb => ?_)
        · walk_at "Zs"
          exact q hb _ e1
        · exact w_raise (qE hb _ e1)
  exact F0
theorem c_Presser_look_at {W : Wd} {mg : Str → Option Value} {base : Heap} (B : Bi mg) (S : SrcM W.K (clsOf W.K "Presser") "look_at" "Presser.look_at" s_Presser_look_at) (T : Kl W.K mg) (C_is_head : Cal W mg base "is_head" 4 ["shape", "thing"] (sp_is_head W)) : CalMX W mg base (clsOf W.K "Presser") "look_at" 5 ["self", "head"] (sp_Presser_look_at W) := by
  obtain ⟨f, fd, g, F⟩ := S
  exact ⟨f, fd, g, f_Presser_look_at B F T C_is_head, (F.binds (ps := ["self", "head"]) fun _ _ _ _ _ _ us hl => match us, hl with | [_, _], _ => rfl)⟩
theorem go_Presser_look_at {W : Wd} {H : Hp} {Q : VK} {E : XK} {p l : Addr} {s : PrS} {hd : List Int} {v : V} (hp : PrAt W H p l s) (ok : OkPr s) (hh : Dq W.K H v (headD hd)) (oh : OkHead s.P.s.fs hd) (q : ∀ H', Same H H' → Q .non H') : sp_Presser_look_at W [.ref p, v] H Q E := ⟨p, l, s, headD hd, rfl, hp, ok, dz_dq hh, fun _ => q, (fun z => by rw [headB_ok oh] at z; cases z)⟩
theorem go_Presser_look_atX {W : Wd} {H : Hp} {Q : VK} {E : XK} {p l : Addr} {s : PrS} {d : PyData} {v : V} (hp : PrAt W H p l s) (ok : OkPr s) (hh : Dz W.K Ever H v d) (hb : headB s.P.s.fs d = false) (qE : ∀ H', Same H H' → E (.ref (clsOf W.K "NoHead")) none H') : sp_Presser_look_at W [.ref p, v] H Q E := ⟨p, l, s, d, rfl, hp, ok, hh, (fun z => by rw [hb] at z; cases z), fun _ => qE⟩
def sp_Presser_why_not (W : Wd) : Sp := fun vs H Q E => match vs with
  | [v_self, v_head, v_at] =>
  (∃ p l s d, v_self = .ref p ∧ PrAt W H p l s ∧ OkPr s ∧ Dz W.K Ever H v_head d ∧ headB s.P.s.fs d = false ∧ ∀ H', Same H H' → E (.ref (clsOf W.K "NoHead")) none H') ∨ ∃ p l s hd i f, v_self = .ref p ∧ PrAt W H p l s ∧ OkPr s ∧ Dq W.K H v_head (headD hd) ∧ OkHead s.P.s.fs hd ∧ v_at = .int ((i : Nat) : Int) ∧ s.P.fs[i]? = some f ∧ ∀ r v H', Same H H' → HinR s hd f r → Dq W.K H' v (hinD r) → Q v H'
  | _ => False
abbrev N_Presser_why_not : List Str := ["self", "head", "at"]
theorem sc_Presser_why_not : FnScope N_Presser_why_not ["self", "head", "at"] (defScope s_Presser_why_not) := ⟨rfl, rfl, rfl, by decide +kernel, rfl, by decide +kernel, by decide +kernel⟩
theorem f_Presser_why_not {W : Wd} {mg : Str → Option Value} {base : Heap} (B : Bi mg) {f : Addr} {fd : FuncData} (F : Fun W.K "why_not" "Presser.why_not" s_Presser_why_not f fd) (T : Kl W.K mg) (C_Presser_hindered : CalM W mg base (clsOf W.K "Presser") "hindered" 7 ["self", "head", "at"] (sp_Presser_hindered W)) (C_Presser_look_at : CalMX W mg base (clsOf W.K "Presser") "look_at" 5 ["self", "head"] (sp_Presser_look_at W)) : FnOk W.P W.w W.K mg base (L2N.CX W.P W.w) 8 f fd ["self", "head", "at"] (sp_Presser_why_not W) := by
  obtain ⟨a_Presser_hindered, d_Presser_hindered, m_Presser_hindered, F_Presser_hindered, b_Presser_hindered⟩ := C_Presser_hindered
  obtain ⟨a_Presser_look_at, d_Presser_look_at, m_Presser_look_at, F_Presser_look_at, b_Presser_look_at⟩ := C_Presser_look_at
  have nd := sc_Presser_why_not.nd
  have F0 : FnOk W.P W.w W.K mg base (L2N.CX W.P W.w) 8 f fd ["self", "head", "at"] (sp_Presser_why_not W) := by
    refine okN F sc_Presser_why_not (fun vs H Q E h => ?_) (fun cdv A outer s H vs Q E hr h => ?_)
    · match vs, h with | [_, _, _], _ => rfl
    · match vs, h with
      | [v_self, v_head, v_at], h =>
        change sp_Presser_why_not W [v_self, v_head, v_at] H Q E at h
        refine ⟨tSeq (tDrop (tMeth (clsOf W.K "Presser") "look_at" (sp_Presser_look_at W) [] E (tVar 0) (tCons (tVar 1) (tNil)))) (tRet (tMeth (clsOf W.K "Presser") "hindered" (sp_Presser_hindered W) [] E0 (tVar 0) (tCons (tVar 1) (tCons (tVar 2) (tNil))))), pss_cons (ps_expr (pe_meth (pv 0) T.Presser.cl m_Presser_look_at F_Presser_look_at (hr.mono (by decide)) b_Presser_look_at .nil (L2N.passes_call (L2N.takes_of rfl rfl rfl rfl) fun _ _ _ _ h => h) (pa_cons (pv 1) (pa_nil)))) (pss_one (ps_ret (pe_meth (pv 0) T.Presser.cl m_Presser_hindered F_Presser_hindered (hr.mono (by decide)) b_Presser_hindered .nil pass0 (pa_cons (pv 1) (pa_cons (pv 2) (pa_nil)))))), ?_⟩
        clear hr
        clear F_Presser_hindered m_Presser_hindered b_Presser_hindered d_Presser_hindered a_Presser_hindered
        clear F_Presser_look_at m_Presser_look_at b_Presser_look_at d_Presser_look_at a_Presser_look_at
        rw [show L2.start N_Presser_why_not [v_self, v_head, v_at] = [some v_self, some v_head, some v_at] from rfl]
        rcases h with ⟨p, l, s, d, rfl, hp, ok, hh, hb, qE⟩ | ⟨p, l, s, hd, i, f, rfl, hp, ok, hh, oh, rfl, hf, q⟩
        · walk_at "Zs"
          exact go_Presser_look_atX hp ok hh hb qE
        · walk_at "Zs"
          refine go_Presser_look_at hp ok hh oh fun H1 e1 => ?_
          walk_at "Zs"
          exact go_Presser_hindered (pr_same e1 hp) ok (dq_mono e1 hh) oh hf fun r v H2 e2 h1 h2 => q r v H2 (e1.trans e2) h1 h2
  exact F0
theorem c_Presser_why_not {W : Wd} {mg : Str → Option Value} {base : Heap} (B : Bi mg) (S : SrcM W.K (clsOf W.K "Presser") "why_not" "Presser.why_not" s_Presser_why_not) (T : Kl W.K mg) (C_Presser_hindered : CalM W mg base (clsOf W.K "Presser") "hindered" 7 ["self", "head", "at"] (sp_Presser_hindered W)) (C_Presser_look_at : CalMX W mg base (clsOf W.K "Presser") "look_at" 5 ["self", "head"] (sp_Presser_look_at W)) : CalMX W mg base (clsOf W.K "Presser") "why_not" 8 ["self", "head", "at"] (sp_Presser_why_not W) := by
  obtain ⟨f, fd, g, F⟩ := S
  exact ⟨f, fd, g, f_Presser_why_not B F T C_Presser_hindered C_Presser_look_at, (F.binds (ps := ["self", "head", "at"]) fun _ _ _ _ _ _ us hl => match us, hl with | [_, _, _], _ => rfl)⟩
theorem go_Presser_why_not {W : Wd} {H : Hp} {Q : VK} {E : XK} {p l : Addr} {s : PrS} {hd : List Int} {i : Nat} {f : Fm} {v : V} (hp : PrAt W H p l s) (ok : OkPr s) (hh : Dq W.K H v (headD hd)) (oh : OkHead s.P.s.fs hd) (hf : s.P.fs[i]? = some f) (q : ∀ r v H', Same H H' → HinR s hd f r → Dq W.K H' v (hinD r) → Q v H') : sp_Presser_why_not W [.ref p, v, .int (i : Int)] H Q E := .inr ⟨p, l, s, hd, i, f, rfl, hp, ok, hh, oh, rfl, hf, q⟩
theorem go_Presser_why_notX {W : Wd} {H : Hp} {Q : VK} {E : XK} {p l : Addr} {s : PrS} {d : PyData} {v u : V} (hp : PrAt W H p l s) (ok : OkPr s) (hh : Dz W.K Ever H v d) (hb : headB s.P.s.fs d = false) (qE : ∀ H', Same H H' → E (.ref (clsOf W.K "NoHead")) none H') : sp_Presser_why_not W [.ref p, v, u] H Q E := .inl ⟨p, l, s, d, rfl, hp, ok, hh, hb, qE⟩
def sp_Presser_usable (W : Wd) : Sp := fun vs H Q E => match vs with
  | [v_self, v_head] =>
  (∃ p l s d, v_self = .ref p ∧ PrAt W H p l s ∧ OkPr s ∧ Dz W.K Ever H v_head d ∧ headB s.P.s.fs d = false ∧ ∀ H', Same H H' → E (.ref (clsOf W.K "NoHead")) none H') ∨ ∃ p l s hd, v_self = .ref p ∧ PrAt W H p l s ∧ OkPr s ∧ Dq W.K H v_head (headD hd) ∧ OkHead s.P.s.fs hd ∧ ∀ us v H', Same H H' → UseR s hd us → Dq W.K H' v (.tuple (us.map fun (i : Nat) => .int (i : Int))) → Q v H'
  | _ => False
abbrev N_Presser_usable : List Str := ["self", "head", "at"]
theorem sc_Presser_usable : FnScope N_Presser_usable ["self", "head"] (defScope s_Presser_usable) := ⟨rfl, rfl, rfl, by decide +kernel, rfl, by decide +kernel, by decide +kernel⟩
theorem f_Presser_usable {W : Wd} {mg : Str → Option Value} {base : Heap} (B : Bi mg) {f : Addr} {fd : FuncData} (F : Fun W.K "usable" "Presser.usable" s_Presser_usable f fd) (T : Kl W.K mg) (C_Presser_hindered : CalM W mg base (clsOf W.K "Presser") "hindered" 7 ["self", "head", "at"] (sp_Presser_hindered W)) (C_Presser_look_at : CalMX W mg base (clsOf W.K "Presser") "look_at" 5 ["self", "head"] (sp_Presser_look_at W)) : FnOk W.P W.w W.K mg base (L2N.CX W.P W.w) 8 f fd ["self", "head"] (sp_Presser_usable W) := by
  obtain ⟨a_Presser_hindered, d_Presser_hindered, m_Presser_hindered, F_Presser_hindered, b_Presser_hindered⟩ := C_Presser_hindered
  obtain ⟨a_Presser_look_at, d_Presser_look_at, m_Presser_look_at, F_Presser_look_at, b_Presser_look_at⟩ := C_Presser_look_at
  have nd := sc_Presser_usable.nd
  have F0 : FnOk W.P W.w W.K mg base (L2N.CX W.P W.w) 8 f fd ["self", "head"] (sp_Presser_usable W) := by
    refine okN F sc_Presser_usable (fun vs H Q E h => ?_) (fun cdv A outer s H vs Q E hr h => ?_)
    · match vs, h with | [_, _], _ => rfl
    · match vs, h with
      | [v_self, v_head], h =>
        change sp_Presser_usable W [v_self, v_head] H Q E at h
        refine ⟨tSeq (tDrop (tMeth (clsOf W.K "Presser") "look_at" (sp_Presser_look_at W) [] E (tVar 0) (tCons (tVar 1) (tNil)))) (tRet (tCB (rTupleOfN W.K) (tCons (tLc (iRng1 (tCons (tCB (rLenU W.K) (tCons (tOp (rIxU W.K) (tFd (clsOf W.K "Presser") (tVar 0) "pact") (tC (.int 2))) (tNil))) (tNil))) (gName 2) (tTest (tOp (rIsU) (tMeth (clsOf W.K "Presser") "hindered" (sp_Presser_hindered W) [] E0 (tVar 0) (tCons (tVar 1) (tCons (tVar 2) (tNil)))) (tC .non))) (tVar 2) [2]) (tNil)))), pss_cons (ps_expr (pe_meth (pv 0) T.Presser.cl m_Presser_look_at F_Presser_look_at (hr.mono (by decide)) b_Presser_look_at .nil (L2N.passes_call (L2N.takes_of rfl rfl rfl rfl) fun _ _ _ _ h => h) (pa_cons (pv 1) (pa_nil)))) (pss_one (ps_ret (pe_callTy call_tuple_ofN (by rfl) B.b_tuple (by decide +kernel) (pa_cons (pe_lc (own := [("at", 2)]) rfl nd (pi_range1 (by rfl) B.b_range (pa_cons (pe_callB u_len (by rfl) B.b_len (by decide +kernel) (pa_cons (pe_ix u_ix (pe_fd T.Presser.cl T.Presser_pact (pv 0) rfl) (pe_int) (fun _ _ => rfl)) (pa_nil))) (pa_nil))) (blkOk_by (own := [("at", 2)]) (N := N_Presser_usable) (sc := defScope s_Presser_usable) (by decide +kernel)) (fun _ _ _ _ _ => pg_name (i := 2) nd rfl (by first | exact Or.inl rfl | exact Or.inr rfl)) (fun _ _ _ _ _ => pts_one (pt_cmpR u_is (pe_meth (pv 0) T.Presser.cl m_Presser_hindered F_Presser_hindered (hr.mono (by decide)) b_Presser_hindered .nil pass0 (pa_cons (pv 1) (pa_cons (pv 2) (pa_nil)))) (pe_non) (nomark _))) (fun _ _ _ _ _ => pv 2)) (pa_nil))))), ?_⟩
        clear hr
        clear F_Presser_hindered m_Presser_hindered b_Presser_hindered d_Presser_hindered a_Presser_hindered
        clear F_Presser_look_at m_Presser_look_at b_Presser_look_at d_Presser_look_at a_Presser_look_at
        rw [show L2.start N_Presser_usable [v_self, v_head] = [some v_self, some v_head, none] from rfl]
        rcases h with ⟨p, l, s, d, rfl, hp, ok, hh, hb, qE⟩ | h
        · walk_at "Zs"
          exact go_Presser_look_atX hp ok hh hb qE
        obtain ⟨p, l, s, hd, rfl, hp, ok, hh, oh, q⟩ := h
        have fl := ok.ok.fl
        walk_at "Zs"
        refine go_Presser_look_at hp ok hh oh fun H1 e1 => ?_
        have hp1 := pr_same e1 hp
        walk_at "Zs"
        rename_i vP hvP
        refine w_ptF hvP fun x1 h1 => ?_
        walk_at "Zs"
        rw [Int.toNat_natCast]
        refine lcR (n := s.P.fs.length) (fun i acc _ => ∃ g : Nat → Bool, acc = ((List.range i).filter g).map (fun (i : Nat) => V.int (i : Int)) ∧ ∀ j f, j < i → s.P.fs[j]? = some f → ∃ r, HinR s hd f r ∧ (g j = true ↔ r = .dou none)) stb_pure (by omega) (fun i acc H' h => ?_) (fun H' _ => ⟨fun _ => false, rfl, fun _ _ h => absurd h (Nat.not_lt_zero _)⟩) (fun i acc H' hi e2 ea k k' hk hk' => ?_) fun D acc H2 hD e2 hD' ea => ?_
        · obtain ⟨g, rfl, _⟩ := h
          rw [List.length_map]
          exact Nat.le_trans (List.length_filter_le _ _) (by rw [List.length_range]; exact Nat.le_refl _)
        · obtain ⟨g, ea, hg⟩ := ea
          have hf : s.P.fs[i]? = some (s.P.fs[i]) := List.getElem?_eq_getElem hi
          walk_at "Zs"
          refine go_Presser_hindered (pr_same e2 hp1) ok (dq_mono (e1.trans e2) hh) oh hf fun r v H3 e3 hr hv => ?_
          walk_at "Zs"
          have step : ∀ b : Bool, (b = true ↔ r = .dou none) → ∃ g' : Nat → Bool, acc ++ (if b = true then [V.int (i : Int)] else []) = ((List.range (i + 1)).filter g').map (fun (i : Nat) => V.int (i : Int)) ∧ ∀ j f, j < i + 1 → s.P.fs[j]? = some f → ∃ r, HinR s hd f r ∧ (g' j = true ↔ r = .dou none) := fun b hb => by
            refine ⟨fun j => if j = i then b else g j, ?_, fun j f hj hf' => ?_⟩
            · have ef : (List.range i).filter (fun j => if j = i then b else g j) = (List.range i).filter g := List.filter_congr fun j hj => by
                rw [if_neg (by have := List.mem_range.mp hj; omega)]
              rw [List.range_succ, List.filter_append, ef, List.map_append, ea]
              congr 1
              cases b
              · rw [List.filter_cons_of_neg (by simp)]
                rfl
              · rw [List.filter_cons_of_pos (by simp)]
                rfl
            · by_cases c : j = i
              · subst c
                rw [hf] at hf'
                obtain rfl := Option.some.inj hf'
                exact ⟨r, hr, by dsimp only; rw [if_pos rfl]; exact hb⟩
              · obtain ⟨r', h1, h2⟩ := hg j f (by omega) hf'
                exact ⟨r', h1, by dsimp only; rw [if_neg c]; exact h2⟩
          cases r with
          | dou d =>
            cases d with
            | none =>
              obtain rfl := dq_non hv
              walk_at "Zs"
              have z := step true ⟨fun _ => rfl, fun _ => rfl⟩
              rw [if_pos rfl] at z
              exact hk _ _ e3 z
            | some t =>
              have ne : ¬ v = .non := fun z => by
                rw [z] at hv
                cases hv
              refine w_if ne ?_
              have z := step false ⟨fun h => (by cases h), fun h => (by cases h)⟩
              rw [if_neg (by decide), List.append_nil] at z
              exact hk' _ e3 z
          | _ =>
            obtain rfl := dq_str hv
            walk_at "Zs"
            have z := step false ⟨fun h => (by cases h), fun h => (by cases h)⟩
            rw [if_neg (by decide), List.append_nil] at z
            exact hk' _ e3 z
        · obtain ⟨g, rfl, hg⟩ := ea
          walk_at "Zs"
          refine w_tupleN (SqL.of hD') fun p3 H3 n3 e3 h3 => ?_
          walk_at "Zs"
          refine q _ _ _ (e1.trans (e2.trans e3)) ⟨g, rfl, fun j f hf => hg j f (List.getElem?_eq_some_iff.mp hf).1 hf⟩ (dq_new h3 ?_)
          generalize (List.range s.P.fs.length).filter g = us
          induction us with
          | nil => exact .nil
          | cons u r ih => exact .cons (.int _) ih
  exact F0
theorem c_Presser_usable {W : Wd} {mg : Str → Option Value} {base : Heap} (B : Bi mg) (S : SrcM W.K (clsOf W.K "Presser") "usable" "Presser.usable" s_Presser_usable) (T : Kl W.K mg) (C_Presser_hindered : CalM W mg base (clsOf W.K "Presser") "hindered" 7 ["self", "head", "at"] (sp_Presser_hindered W)) (C_Presser_look_at : CalMX W mg base (clsOf W.K "Presser") "look_at" 5 ["self", "head"] (sp_Presser_look_at W)) : CalMX W mg base (clsOf W.K "Presser") "usable" 8 ["self", "head"] (sp_Presser_usable W) := by
  obtain ⟨f, fd, g, F⟩ := S
  exact ⟨f, fd, g, f_Presser_usable B F T C_Presser_hindered C_Presser_look_at, (F.binds (ps := ["self", "head"]) fun _ _ _ _ _ _ us hl => match us, hl with | [_, _], _ => rfl)⟩
theorem go_Presser_usable {W : Wd} {H : Hp} {Q : VK} {E : XK} {p l : Addr} {s : PrS} {hd : List Int} {v : V} (hp : PrAt W H p l s) (ok : OkPr s) (hh : Dq W.K H v (headD hd)) (oh : OkHead s.P.s.fs hd) (q : ∀ us v H', Same H H' → UseR s hd us → Dq W.K H' v (.tuple (us.map fun (i : Nat) => .int (i : Int))) → Q v H') : sp_Presser_usable W [.ref p, v] H Q E := .inr ⟨p, l, s, hd, rfl, hp, ok, hh, oh, q⟩
theorem go_Presser_usableX {W : Wd} {H : Hp} {Q : VK} {E : XK} {p l : Addr} {s : PrS} {d : PyData} {v : V} (hp : PrAt W H p l s) (ok : OkPr s) (hh : Dz W.K Ever H v d) (hb : headB s.P.s.fs d = false) (qE : ∀ H', Same H H' → E (.ref (clsOf W.K "NoHead")) none H') : sp_Presser_usable W [.ref p, v] H Q E := .inl ⟨p, l, s, d, rfl, hp, ok, hh, hb, qE⟩
def sp_Presser_chosen (W : Wd) : Sp := fun vs H Q _ => match vs with
  | [v_self, v_head] =>
  ∃ p l s hd, v_self = .ref p ∧ PrAt W H p l s ∧ OkPr s ∧ Dq W.K H v_head (headD hd) ∧ OkHead s.P.s.fs hd ∧ ∀ us H', Same H H' → UseR s hd us → Q (atV (cho s.P us)) H'
  | _ => False
abbrev N_Presser_chosen : List Str := ["self", "head", "found", "at"]
theorem sc_Presser_chosen : FnScope N_Presser_chosen ["self", "head"] (defScope s_Presser_chosen) := ⟨rfl, rfl, rfl, by decide +kernel, rfl, by decide +kernel, by decide +kernel⟩
theorem f_Presser_chosen {W : Wd} {mg : Str → Option Value} {base : Heap} (B : Bi mg) {f : Addr} {fd : FuncData} (F : Fun W.K "chosen" "Presser.chosen" s_Presser_chosen f fd) (T : Kl W.K mg) (C_Presser_usable : CalMX W mg base (clsOf W.K "Presser") "usable" 8 ["self", "head"] (sp_Presser_usable W)) (C_letter_size : Cal W mg base "letter_size" 4 ["pact", "at"] (sp_letter_size W)) : FnOk W.P W.w W.K mg base CX0 9 f fd ["self", "head"] (sp_Presser_chosen W) := by
  obtain ⟨a_Presser_usable, d_Presser_usable, m_Presser_usable, F_Presser_usable, b_Presser_usable⟩ := C_Presser_usable
  obtain ⟨a_letter_size, d_letter_size, g_letter_size, F_letter_size, k_letter_size, b_letter_size⟩ := C_letter_size
  have nd := sc_Presser_chosen.nd
  have F0 : FnOk W.P W.w W.K mg base CX0 9 f fd ["self", "head"] (sp_Presser_chosen W) := by
    refine F.ok sc_Presser_chosen (fun vs H Q E h => ?_) (fun cdv A outer s H vs Q E hr h => ?_)
    · match vs, h with | [_, _], _ => rfl
    · match vs, h with
      | [v_self, v_head], h =>
        change sp_Presser_chosen W [v_self, v_head] H Q E at h
        refine ⟨tSeq (tAsg (tC .non) (gName 2)) (tSeq (tFor (iAny W.K (tMeth (clsOf W.K "Presser") "usable" (sp_Presser_usable W) [] E0 (tVar 0) (tCons (tVar 1) (tNil)))) (gName 3) (tIfS (tTest (tOp (rLtU W.K) (tCall (sp_letter_size W) [] E0 (tCons (tFd (clsOf W.K "Presser") (tVar 0) "pact") (tCons (tVar 3) (tNil)))) (tCall (sp_letter_size W) [] E0 (tCons (tFd (clsOf W.K "Presser") (tVar 0) "pact") (tCons (tVar 2) (tNil)))))) (tAsg (tVar 3) (gName 2)) (tNext))) (tRet (tVar 2))), pss_cons (ps_set (i := 2) nd rfl (.inl rfl) (pe_non)) (pss_cons (ps_for PassesOwn.never rfl (pi_any (pe_meth (pv 0) T.Presser.cl m_Presser_usable F_Presser_usable (hr.mono (by decide)) b_Presser_usable .nil passN (pa_cons (pv 1) (pa_nil)))) (pg_name (i := 3) nd rfl (by first | exact Or.inl rfl | exact Or.inr rfl)) (pss_one (ps_if (pt_cmpR u_lt (pe_call F_letter_size (hr.mono (by decide)) (by rfl) g_letter_size k_letter_size b_letter_size .nil pass0 (pa_cons (pe_fd T.Presser.cl T.Presser_pact (pv 0) rfl) (pa_cons (pv 3) (pa_nil)))) (pe_call F_letter_size (hr.mono (by decide)) (by rfl) g_letter_size k_letter_size b_letter_size .nil pass0 (pa_cons (pe_fd T.Presser.cl T.Presser_pact (pv 0) rfl) (pa_cons (pv 2) (pa_nil)))) (nomark _)) (pss_one (ps_set (i := 2) nd rfl (.inl rfl) (pv 3))) (pss_nil)))) (pss_one (ps_ret (pv 2)))), ?_⟩
        clear hr
        clear F_Presser_usable m_Presser_usable b_Presser_usable d_Presser_usable a_Presser_usable
        clear F_letter_size g_letter_size k_letter_size b_letter_size d_letter_size a_letter_size
        rw [show L2.start N_Presser_chosen [v_self, v_head] = [some v_self, some v_head, none, none] from rfl]
        obtain ⟨p, l, s, hd, rfl, hp, ok, hh, oh, q⟩ := h
        walk_at "Zs"
        refine go_Presser_usable hp ok hh oh fun us v H1 e1 hu hv => ?_
        obtain ⟨a, xs, rfl, hxs, hds⟩ := dq_tt hv
        have lx := dqs_len hds
        rw [List.length_map] at lx
        refine w_goT hxs.t ?_
        refine forT (fun i σ' H' => ∃ z3, (σ' = [some (.ref p), some v_head, some (atV ((us.take i).foldl (choF s.P) none)), z3]) ∧ Same H1 H') ⟨_, rfl, Same.refl _⟩ (fun i σ' H' _ ⟨_, h⟩ => same_t h.2 hxs.t) (fun i x σ' H2 hx h => ?_) (fun σ' H2 h => ?_)
        · obtain ⟨z3, rfl, e2⟩ := h
          obtain ⟨d, hd1, hxd⟩ := dqs_get2 hds hx
          obtain ⟨j, hj, rfl⟩ := map_at hd1
          obtain rfl := dq_int hxd
          have hjl := hu.mem (List.mem_of_getElem? hj)
          have okt : AtOk s.P ((us.take i).foldl (choF s.P) none) := by
            cases c : (us.take i).foldl (choF s.P) none with
            | none => trivial
            | some t =>
              rcases cho_in _ none t c with z | z
              · exact hu.mem (List.mem_of_mem_take z)
              · cases z
          have et : (us.take (i + 1)).foldl (choF s.P) none = choF s.P ((us.take i).foldl (choF s.P) none) j := by
            rw [take_snoc hj, List.foldl_append]
            rfl
          rw [et]
          generalize (us.take i).foldl (choF s.P) none = t at okt
          have hp2 := pr_same (e1.trans e2) hp
          walk_at "Zs"
          rename_i vP hvP
          refine go_letter_size (t := some j) hvP ok.ok hjl fun H3 e3 => ?_
          walk_at "Zs"
          rename_i vP2 hvP2
          refine go_letter_size (t := t) hvP2 ok.ok okt fun H4 e4 => ?_
          walk_at "Zs"
          unfold choF
          refine w_dec (fun c => ?_) (fun c => ?_)
          · rw [if_pos c]
            walk_at "Zs"
            exact ⟨_, rfl, e2.trans (e3.trans e4)⟩
          · rw [if_neg c]
            walk_at "Zs"
            exact ⟨_, rfl, e2.trans (e3.trans e4)⟩
        · obtain ⟨z3, rfl, e2⟩ := h
          rw [List.take_of_length_le (by omega)]
          walk_at "Zs"
          exact q us _ (e1.trans e2) hu
  exact F0
theorem c_Presser_chosen {W : Wd} {mg : Str → Option Value} {base : Heap} (B : Bi mg) (S : SrcM W.K (clsOf W.K "Presser") "chosen" "Presser.chosen" s_Presser_chosen) (T : Kl W.K mg) (C_Presser_usable : CalMX W mg base (clsOf W.K "Presser") "usable" 8 ["self", "head"] (sp_Presser_usable W)) (C_letter_size : Cal W mg base "letter_size" 4 ["pact", "at"] (sp_letter_size W)) : CalM W mg base (clsOf W.K "Presser") "chosen" 9 ["self", "head"] (sp_Presser_chosen W) := by
  obtain ⟨f, fd, g, F⟩ := S
  exact ⟨f, fd, g, f_Presser_chosen B F T C_Presser_usable C_letter_size, (F.binds (ps := ["self", "head"]) fun _ _ _ _ _ _ us hl => match us, hl with | [_, _], _ => rfl)⟩
theorem go_Presser_chosen {W : Wd} {H : Hp} {Q : VK} {E : XK} {p l : Addr} {s : PrS} {hd : List Int} {v : V} (hp : PrAt W H p l s) (ok : OkPr s) (hh : Dq W.K H v (headD hd)) (oh : OkHead s.P.s.fs hd) (q : ∀ us H', Same H H' → UseR s hd us → Q (atV (cho s.P us)) H') : sp_Presser_chosen W [.ref p, v] H Q E := ⟨p, l, s, hd, rfl, hp, ok, hh, oh, q⟩
def sp_Presser_press (W : Wd) : Sp := fun vs H Q E => match vs with
  | [v_self, v_head] =>
  (∃ p l s d, v_self = .ref p ∧ PrAt W H p l s ∧ OkPr s ∧ Dz W.K Ever H v_head d ∧ headB s.P.s.fs d = false ∧ ∀ H', Same H H' → E (.ref (clsOf W.K "NoHead")) none H') ∨ (∃ p l s hd, v_self = .ref p ∧ PrAt W H p l s ∧ OkPr s ∧ Dq W.K H v_head (headD hd) ∧ OkHead s.P.s.fs hd ∧ p2 s.P.n ≤ (s.past.length : Int) ∧ ∀ H', Same H H' → E (.ref (clsOf W.K "NoMore")) none H') ∨ ∃ p l s hd, v_self = .ref p ∧ PrAt W H p l s ∧ OkPr s ∧ Dq W.K H v_head (headD hd) ∧ OkHead s.P.s.fs hd ∧ (s.past.length : Int) < p2 s.P.n ∧ ∀ us H', Mv p l H H' → PrAt W H' p l ⟨s.P, s.past ++ [hd], s.had, s.base, s.fresh⟩ → UseR s hd us → Q (.str (letT s.P (cho s.P us) s.past.length hd)) H'
  | _ => False
abbrev N_Presser_press : List Str := ["self", "head", "number", "at"]
theorem sc_Presser_press : FnScope N_Presser_press ["self", "head"] (defScope s_Presser_press) := ⟨rfl, rfl, rfl, by decide +kernel, rfl, by decide +kernel, by decide +kernel⟩
theorem f_Presser_press {W : Wd} {mg : Str → Option Value} {base : Heap} (B : Bi mg) {f : Addr} {fd : FuncData} (F : Fun W.K "press" "Presser.press" s_Presser_press f fd) (T : Kl W.K mg) (C_pressed_letter : Cal W mg base "pressed_letter" 4 ["pact", "at", "number", "head"] (sp_pressed_letter W)) (C_whole_letter : Cal W mg base "whole_letter" 4 ["pact", "number", "head"] (sp_whole_letter W)) (C_Presser_chosen : CalM W mg base (clsOf W.K "Presser") "chosen" 9 ["self", "head"] (sp_Presser_chosen W)) (C_Presser_sent : CalM W mg base (clsOf W.K "Presser") "sent" 1 ["self"] (sp_Presser_sent W)) (C_Presser_look_at : CalMX W mg base (clsOf W.K "Presser") "look_at" 5 ["self", "head"] (sp_Presser_look_at W)) : FnOk W.P W.w W.K mg base (L2N.CX W.P W.w) 10 f fd ["self", "head"] (sp_Presser_press W) := by
  obtain ⟨a_pressed_letter, d_pressed_letter, g_pressed_letter, F_pressed_letter, k_pressed_letter, b_pressed_letter⟩ := C_pressed_letter
  obtain ⟨a_whole_letter, d_whole_letter, g_whole_letter, F_whole_letter, k_whole_letter, b_whole_letter⟩ := C_whole_letter
  obtain ⟨a_Presser_chosen, d_Presser_chosen, m_Presser_chosen, F_Presser_chosen, b_Presser_chosen⟩ := C_Presser_chosen
  obtain ⟨a_Presser_sent, d_Presser_sent, m_Presser_sent, F_Presser_sent, b_Presser_sent⟩ := C_Presser_sent
  obtain ⟨a_Presser_look_at, d_Presser_look_at, m_Presser_look_at, F_Presser_look_at, b_Presser_look_at⟩ := C_Presser_look_at
  have nd := sc_Presser_press.nd
  have F0 : FnOk W.P W.w W.K mg base (L2N.CX W.P W.w) 10 f fd ["self", "head"] (sp_Presser_press W) := by
    refine okN F sc_Presser_press (fun vs H Q E h => ?_) (fun cdv A outer s H vs Q E hr h => ?_)
    · match vs, h with | [_, _], _ => rfl
    · match vs, h with
      | [v_self, v_head], h =>
        change sp_Presser_press W [v_self, v_head] H Q E at h
        refine ⟨tSeq (tDrop (tMeth (clsOf W.K "Presser") "look_at" (sp_Presser_look_at W) [] E (tVar 0) (tCons (tVar 1) (tNil)))) (tSeq (tAsg (tMeth (clsOf W.K "Presser") "sent" (sp_Presser_sent W) [] E0 (tVar 0) tNil) (gName 2)) (tSeq (tIfS (tTest (tOp (rGeU) (tVar 2) (tOp (rShlU) (tC (.int 1)) (tOp (rIxU W.K) (tFd (clsOf W.K "Presser") (tVar 0) "pact") (tC (.int 1)))))) (sRaise (clsOf W.K "NoMore") E) (tNext)) (tSeq (tAsg (tMeth (clsOf W.K "Presser") "chosen" (sp_Presser_chosen W) [] E0 (tVar 0) (tCons (tVar 1) (tNil))) (gName 3)) (tSeq (tDrop (tBM W.K "list" rAppend (tFd (clsOf W.K "Presser") (tVar 0) "past") (tCons (tVar 1) (tNil)))) (tSeq (tIfS (tTest (tOp (rIsU) (tVar 3) (tC .non))) (tRet (tCall (sp_whole_letter W) [] E0 (tCons (tFd (clsOf W.K "Presser") (tVar 0) "pact") (tCons (tVar 2) (tCons (tVar 1) (tNil)))))) (tNext)) (tRet (tCall (sp_pressed_letter W) [] E0 (tCons (tFd (clsOf W.K "Presser") (tVar 0) "pact") (tCons (tVar 3) (tCons (tVar 2) (tCons (tVar 1) (tNil)))))))))))), pss_cons (ps_expr (pe_meth (pv 0) T.Presser.cl m_Presser_look_at F_Presser_look_at (hr.mono (by decide)) b_Presser_look_at .nil (L2N.passes_call (L2N.takes_of rfl rfl rfl rfl) fun _ _ _ _ h => h) (pa_cons (pv 1) (pa_nil)))) (pss_cons (ps_set (i := 2) nd rfl (.inl rfl) (pe_meth0 (pv 0) T.Presser.cl m_Presser_sent F_Presser_sent (hr.mono (by decide)) b_Presser_sent .nil pass0)) (pss_cons (ps_if (pt_cmpR u_ge (pv 2) (pe_op u_shl (pe_int) (pe_ix u_ix (pe_fd T.Presser.cl T.Presser_pact (pv 0) rfl) (pe_int) (fun _ _ => rfl))) (nomark _)) (pss_one (ps_rais rfl (L2N.takes_of rfl rfl rfl rfl) T.x_NoMore rfl)) (pss_nil)) (pss_cons (ps_set (i := 3) nd rfl (.inl rfl) (pe_meth (pv 0) T.Presser.cl m_Presser_chosen F_Presser_chosen (hr.mono (by decide)) b_Presser_chosen .nil pass0 (pa_cons (pv 1) (pa_nil)))) (pss_cons (ps_expr (pe_bm PySem.F.plainAttrs_list PySem.F.slot_list_append PySem.F.type_list_append mt_append (pe_fd T.Presser.cl T.Presser_past (pv 0) rfl) (pa_cons (pv 1) (pa_nil)))) (pss_cons (ps_if (pt_cmpR u_is (pv 3) (pe_non) (nomark _)) (pss_one (ps_ret (pe_call F_whole_letter (hr.mono (by decide)) (by rfl) g_whole_letter k_whole_letter b_whole_letter .nil pass0 (pa_cons (pe_fd T.Presser.cl T.Presser_pact (pv 0) rfl) (pa_cons (pv 2) (pa_cons (pv 1) (pa_nil))))))) (pss_nil)) (pss_one (ps_ret (pe_call F_pressed_letter (hr.mono (by decide)) (by rfl) g_pressed_letter k_pressed_letter b_pressed_letter .nil pass0 (pa_cons (pe_fd T.Presser.cl T.Presser_pact (pv 0) rfl) (pa_cons (pv 3) (pa_cons (pv 2) (pa_cons (pv 1) (pa_nil))))))))))))), ?_⟩
        clear hr
        clear F_pressed_letter g_pressed_letter k_pressed_letter b_pressed_letter d_pressed_letter a_pressed_letter
        clear F_whole_letter g_whole_letter k_whole_letter b_whole_letter d_whole_letter a_whole_letter
        clear F_Presser_chosen m_Presser_chosen b_Presser_chosen d_Presser_chosen a_Presser_chosen
        clear F_Presser_sent m_Presser_sent b_Presser_sent d_Presser_sent a_Presser_sent
        clear F_Presser_look_at m_Presser_look_at b_Presser_look_at d_Presser_look_at a_Presser_look_at
        rw [show L2.start N_Presser_press [v_self, v_head] = [some v_self, some v_head, none, none] from rfl]
        rcases h with ⟨p, l, s, d, rfl, hp, ok, hh, hb, qE⟩ | ⟨p, l, s, hd, rfl, hp, ok, hh, oh, hn, qE⟩ | h
        · walk_at "Zs"
          exact go_Presser_look_atX hp ok hh hb qE
        · have n0 := ok.ok.n0
          have n1 := ok.ok.n1
          walk_at "Zs"
          refine go_Presser_look_at hp ok hh oh fun H1 e1 => ?_
          have hp1 := pr_same e1 hp
          walk_at "Zs"
          rename_i vP hvP
          refine w_ptN hvP ?_
          walk_at "Zs"
          exact w_raise (qE _ e1)
        obtain ⟨p, l, s, hd, rfl, hp, ok, hh, oh, hn, q⟩ := h
        have n0 := ok.ok.n0
        have n1 := ok.ok.n1
        have lp := ok.len
        have lh := okHead_len oh
        walk_at "Zs"
        refine go_Presser_look_at hp ok hh oh fun H1 e1 => ?_
        have hp1 := pr_same e1 hp
        walk_at "Zs"
        rename_i vP hvP
        refine w_ptN hvP ?_
        walk_at "Zs"
        refine go_Presser_chosen hp1 ok (dq_mono e1 hh) oh fun us H2 e2 hu => ?_
        have okt := cho_ok hu
        have hp2 := pr_same e2 hp1
        walk_at "Zs"
        refine w_prAppend hp2 (dq_mono (e1.trans e2) hh) (by omega) fun H3 e3 hp3 => ?_
        have hh3 := dqt (prm_st hp2 e3) (dq_mono (e1.trans e2) hh) (tupO_head hd)
        have ek : Mv p l H H3 := (Mv.same (e1.trans e2)).trans e3
        walk_at "Zs"
        cases c : cho s.P us with
        | none =>
          have q2 := q us
          rw [c] at q2
          dsimp only [atV]
          refine w_it rfl ?_
          walk_at "Zs"
          rename_i vP3 hvP3
          exact go_whole_letter hvP3 ok.ok hh3 oh fun H4 e4 => q2 H4 (ek.trans (Mv.same e4)) (pr_same e4 hp3) hu
        | some i =>
          have q2 := q us
          rw [c] at q2 okt
          dsimp only [atV]
          refine w_ifn ?_
          walk_at "Zs"
          rename_i vP3 hvP3
          exact go_pressed_letter hvP3 ok.ok okt hh3 lh fun H4 e4 => q2 H4 (ek.trans (Mv.same e4)) (pr_same e4 hp3) hu
  exact F0
theorem c_Presser_press {W : Wd} {mg : Str → Option Value} {base : Heap} (B : Bi mg) (S : SrcM W.K (clsOf W.K "Presser") "press" "Presser.press" s_Presser_press) (T : Kl W.K mg) (C_pressed_letter : Cal W mg base "pressed_letter" 4 ["pact", "at", "number", "head"] (sp_pressed_letter W)) (C_whole_letter : Cal W mg base "whole_letter" 4 ["pact", "number", "head"] (sp_whole_letter W)) (C_Presser_chosen : CalM W mg base (clsOf W.K "Presser") "chosen" 9 ["self", "head"] (sp_Presser_chosen W)) (C_Presser_sent : CalM W mg base (clsOf W.K "Presser") "sent" 1 ["self"] (sp_Presser_sent W)) (C_Presser_look_at : CalMX W mg base (clsOf W.K "Presser") "look_at" 5 ["self", "head"] (sp_Presser_look_at W)) : CalMX W mg base (clsOf W.K "Presser") "press" 10 ["self", "head"] (sp_Presser_press W) := by
  obtain ⟨f, fd, g, F⟩ := S
  exact ⟨f, fd, g, f_Presser_press B F T C_pressed_letter C_whole_letter C_Presser_chosen C_Presser_sent C_Presser_look_at, (F.binds (ps := ["self", "head"]) fun _ _ _ _ _ _ us hl => match us, hl with | [_, _], _ => rfl)⟩
theorem go_Presser_press {W : Wd} {H : Hp} {Q : VK} {E : XK} {p l : Addr} {s : PrS} {hd : List Int} {v : V} (hp : PrAt W H p l s) (ok : OkPr s) (hh : Dq W.K H v (headD hd)) (oh : OkHead s.P.s.fs hd) (hn : (s.past.length : Int) < p2 s.P.n) (q : ∀ us H', Mv p l H H' → PrAt W H' p l ⟨s.P, s.past ++ [hd], s.had, s.base, s.fresh⟩ → UseR s hd us → Q (.str (letT s.P (cho s.P us) s.past.length hd)) H') : sp_Presser_press W [.ref p, v] H Q E := .inr (.inr ⟨p, l, s, hd, rfl, hp, ok, hh, oh, hn, q⟩)
theorem okPr_press {s : PrS} {hd : List Int} (ok : OkPr s) (oh : OkHead s.P.s.fs hd) (hl : s.past.length < 1000) : OkPr ⟨s.P, s.past ++ [hd], s.had, s.base, s.fresh⟩ := by
  have f1 := ok.f1
  have e : (s.past ++ [hd]).length = s.past.length + 1 := List.length_append
  have mono : ∀ o : Option Int, inO s.past.length o → inO (s.past ++ [hd]).length o := fun o h => by
    cases o with
    | none => trivial
    | some x =>
      have z : 0 ≤ x ∧ x < (s.past.length : Int) := h
      show 0 ≤ x ∧ x < ((s.past ++ [hd]).length : Int)
      rw [e]
      omega
  refine ⟨ok.ok, fun h hh => ?_, ?_, ok.f0, ?_, mono _ ok.had, mono _ ok.base⟩
  · rcases List.mem_append.mp hh with z | z
    · exact ok.hds h z
    · rw [List.mem_singleton.mp z]
      exact oh
  · show (s.past ++ [hd]).length ≤ 1000
    omega
  · show s.fresh ≤ ((s.past ++ [hd]).length : Int)
    rw [e]
    omega
theorem go_Presser_pressX {W : Wd} {H : Hp} {Q : VK} {E : XK} {p l : Addr} {s : PrS} {d : PyData} {v : V} (hp : PrAt W H p l s) (ok : OkPr s) (hh : Dz W.K Ever H v d) (hb : headB s.P.s.fs d = false) (qE : ∀ H', Same H H' → E (.ref (clsOf W.K "NoHead")) none H') : sp_Presser_press W [.ref p, v] H Q E := .inl ⟨p, l, s, d, rfl, hp, ok, hh, hb, qE⟩
theorem go_Presser_pressF {W : Wd} {H : Hp} {Q : VK} {E : XK} {p l : Addr} {s : PrS} {hd : List Int} {v : V} (hp : PrAt W H p l s) (ok : OkPr s) (hh : Dq W.K H v (headD hd)) (oh : OkHead s.P.s.fs hd) (hn : p2 s.P.n ≤ (s.past.length : Int)) (qE : ∀ H', Same H H' → E (.ref (clsOf W.K "NoMore")) none H') : sp_Presser_press W [.ref p, v] H Q E := .inr (.inl ⟨p, l, s, hd, rfl, hp, ok, hh, oh, hn, qE⟩)
def sp_Presser_is_had (W : Wd) : Sp := fun vs H Q _ => match vs with
  | [v_self, v_word] =>
  ∃ (p l : Addr) (s : PrS) (z : Str) (ds : List PyData), v_self = .ref p ∧ PrAt W H p l s ∧ Dq W.K H v_word (.tuple (.str z :: ds)) ∧ Q (.bl (hadD s.past.length (.tuple (.str z :: ds)))) H
  | _ => False
abbrev N_Presser_is_had : List Str := ["self", "word"]
theorem sc_Presser_is_had : FnScope N_Presser_is_had ["self", "word"] (defScope s_Presser_is_had) := ⟨rfl, rfl, rfl, by decide +kernel, rfl, by decide +kernel, by decide +kernel⟩
theorem f_Presser_is_had {W : Wd} {mg : Str → Option Value} {base : Heap} (B : Bi mg) {f : Addr} {fd : FuncData} (F : Fun W.K "is_had" "Presser.is_had" s_Presser_is_had f fd) (T : Kl W.K mg) (C_Presser_sent : CalM W mg base (clsOf W.K "Presser") "sent" 1 ["self"] (sp_Presser_sent W)) (C_is_between : Cal W mg base "is_between" 2 ["thing", "least", "most"] (sp_is_between W)) : FnOk W.P W.w W.K mg base CX0 3 f fd ["self", "word"] (sp_Presser_is_had W) := by
  obtain ⟨a_Presser_sent, d_Presser_sent, m_Presser_sent, F_Presser_sent, b_Presser_sent⟩ := C_Presser_sent
  obtain ⟨a_is_between, d_is_between, g_is_between, F_is_between, k_is_between, b_is_between⟩ := C_is_between
  have nd := sc_Presser_is_had.nd
  have F0 : FnOk W.P W.w W.K mg base CX0 3 f fd ["self", "word"] (sp_Presser_is_had W) := by
    refine F.ok sc_Presser_is_had (fun vs H Q E h => ?_) (fun cdv A outer s H vs Q E hr h => ?_)
    · match vs, h with | [_, _], _ => rfl
    · match vs, h with
      | [v_self, v_word], h =>
        change sp_Presser_is_had W [v_self, v_word] H Q E at h
        refine ⟨tRet (tAndV (tOp (rEqU W.K) (tCB (rLenU W.K) (tCons (tVar 1) (tNil))) (tC (.int 2))) (tAndV (tOp (rEqU W.K) (tOp (rIxU W.K) (tVar 1) (tC (.int 0))) (tC (.str "have"))) (tCall (sp_is_between W) [] E0 (tCons (tOp (rIxU W.K) (tVar 1) (tC (.int 1))) (tCons (tC (.int 0)) (tCons (tOp (rSubU) (tMeth (clsOf W.K "Presser") "sent" (sp_Presser_sent W) [] E0 (tVar 0) tNil) (tC (.int 1))) (tNil))))))), pss_one (ps_ret (pe_and (pe_cmpR (u_eq hr.units) (pe_callB u_len (by rfl) B.b_len (by decide +kernel) (pa_cons (pv 1) (pa_nil))) (pe_int) (nomark _)) (pe_and (pe_cmpR (u_eq hr.units) (pe_ix u_ix (pv 1) (pe_int) (fun _ _ => rfl)) (pe_str) (nomark _)) (pe_one (pe_call F_is_between (hr.mono (by decide)) (by rfl) g_is_between k_is_between b_is_between .nil pass0 (pa_cons (pe_ix u_ix (pv 1) (pe_int) (fun _ _ => rfl)) (pa_cons (pe_int) (pa_cons (pe_op u_sub (pe_meth0 (pv 0) T.Presser.cl m_Presser_sent F_Presser_sent (hr.mono (by decide)) b_Presser_sent .nil pass0) (pe_int)) (pa_nil))))))))), ?_⟩
        clear hr
        clear F_Presser_sent m_Presser_sent b_Presser_sent d_Presser_sent a_Presser_sent
        clear F_is_between g_is_between k_is_between b_is_between d_is_between a_is_between
        rw [show L2.start N_Presser_is_had [v_self, v_word] = [some v_self, some v_word] from rfl]
        obtain ⟨p, l, s, z, ds, rfl, hp, hw, q⟩ := h
        walk_at "Zs"
        rcases ds with _ | ⟨e, _ | ⟨e2, r⟩⟩
        · walk_at "Zs"
          exact q
        · have q : Q (.bl (decide (z = "have") && betwD 0 ((s.past.length : Int) - 1) e)) H := q
          walk_at "Zs"
          refine w_ixQTs hw (z := z) rfl ?_
          walk_at "Zs"
          by_cases hz : z = "have"
          · rw [decide_eq_true hz, Bool.true_and] at q
            walk_at "Zs"
            refine w_ixQT hw (i := 1) (d := e) rfl fun x hx => ?_
            walk_at "Zs"
            have hx2 := dz_dq hx
            walk_at "Zs"
            exact q
          · rw [decide_eq_false hz, Bool.false_and] at q
            walk_at "Zs"
            exact q
        · have q : Q (.bl false) H := q
          walk_at "Zs"
          exact q
  exact F0
theorem c_Presser_is_had {W : Wd} {mg : Str → Option Value} {base : Heap} (B : Bi mg) (S : SrcM W.K (clsOf W.K "Presser") "is_had" "Presser.is_had" s_Presser_is_had) (T : Kl W.K mg) (C_Presser_sent : CalM W mg base (clsOf W.K "Presser") "sent" 1 ["self"] (sp_Presser_sent W)) (C_is_between : Cal W mg base "is_between" 2 ["thing", "least", "most"] (sp_is_between W)) : CalM W mg base (clsOf W.K "Presser") "is_had" 3 ["self", "word"] (sp_Presser_is_had W) := by
  obtain ⟨f, fd, g, F⟩ := S
  exact ⟨f, fd, g, f_Presser_is_had B F T C_Presser_sent C_is_between, (F.binds (ps := ["self", "word"]) fun _ _ _ _ _ _ us hl => match us, hl with | [_, _], _ => rfl)⟩
theorem go_Presser_is_had {W : Wd} {H : Hp} {Q : VK} {E : XK} {p l : Addr} {s : PrS} {n : Int} {v : V} (hp : PrAt W H p l s) (hw : Dq W.K H v (.tuple [.str "have", .int n])) (n0 : 0 ≤ n) (n1 : n < s.past.length) (q : Q (.bl true) H) : sp_Presser_is_had W [.ref p, v] H Q E := ⟨p, l, s, "have", [.int n], rfl, hp, hw, by
  have e : hadD s.past.length (.tuple [.str "have", .int n]) = (decide (("have" : Str) = "have") && betwD 0 ((s.past.length : Int) - 1) (.int n)) := rfl
  rw [e, decide_eq_true rfl, betw_ok n0 (by omega)]
  exact q⟩
theorem go_Presser_is_hadX {W : Wd} {H : Hp} {Q : VK} {E : XK} {p l : Addr} {s : PrS} {z : Str} {ds : List PyData} {v : V} (hp : PrAt W H p l s) (hw : Dq W.K H v (.tuple (.str z :: ds))) (q : Q (.bl (hadD s.past.length (.tuple (.str z :: ds)))) H) : sp_Presser_is_had W [.ref p, v] H Q E := ⟨p, l, s, z, ds, rfl, hp, hw, q⟩
def sp_Presser_heard (W : Wd) : Sp := fun vs H Q E => match vs with
  | [v_self, v_word] =>
  (∃ p l s d, v_self = .ref p ∧ PrAt W H p l s ∧ Dz W.K Ever H v_word d ∧ (noWd d = true ∨ (Dq W.K H v_word d ∧ SeqAt.shaped d = true ∧ PyData.eqv d (.tuple [.str "anew"]) = false ∧ hadD s.past.length d = false)) ∧ ∀ H', Same H H' → E (.ref (clsOf W.K "NoWord")) none H') ∨ ∃ p l s o, v_self = .ref p ∧ PrAt W H p l s ∧ Dq W.K H v_word (wdD o) ∧ inO s.past.length o ∧ ∀ H', Mv p l H H' → PrAt W H' p l (heaP s o) → Q .non H'
  | _ => False
abbrev N_Presser_heard : List Str := ["self", "word"]
theorem sc_Presser_heard : FnScope N_Presser_heard ["self", "word"] (defScope s_Presser_heard) := ⟨rfl, rfl, rfl, by decide +kernel, rfl, by decide +kernel, by decide +kernel⟩
theorem f_Presser_heard {W : Wd} {mg : Str → Option Value} {base : Heap} (B : Bi mg) {f : Addr} {fd : FuncData} (F : Fun W.K "heard" "Presser.heard" s_Presser_heard f fd) (T : Kl W.K mg) (C_Presser_sent : CalM W mg base (clsOf W.K "Presser") "sent" 1 ["self"] (sp_Presser_sent W)) (C_Presser_is_had : CalM W mg base (clsOf W.K "Presser") "is_had" 3 ["self", "word"] (sp_Presser_is_had W)) (C_greater : Cal W mg base "greater" 1 ["one", "other"] (sp_greater W)) : FnOk W.P W.w W.K mg base (L2N.CX W.P W.w) 4 f fd ["self", "word"] (sp_Presser_heard W) := by
  obtain ⟨a_Presser_sent, d_Presser_sent, m_Presser_sent, F_Presser_sent, b_Presser_sent⟩ := C_Presser_sent
  obtain ⟨a_Presser_is_had, d_Presser_is_had, m_Presser_is_had, F_Presser_is_had, b_Presser_is_had⟩ := C_Presser_is_had
  obtain ⟨a_greater, d_greater, g_greater, F_greater, k_greater, b_greater⟩ := C_greater
  have nd := sc_Presser_heard.nd
  have F0 : FnOk W.P W.w W.K mg base (L2N.CX W.P W.w) 4 f fd ["self", "word"] (sp_Presser_heard W) := by
    refine okN F sc_Presser_heard (fun vs H Q E h => ?_) (fun cdv A outer s H vs Q E hr h => ?_)
    · match vs, h with | [_, _], _ => rfl
    · match vs, h with
      | [v_self, v_word], h =>
        change sp_Presser_heard W [v_self, v_word] H Q E at h
        refine ⟨tSeq (tIfS (tOr (tNot (tB (tCB (rIsi W.K) (tCons (tVar 1) (tCons (tC (.ty "tuple")) tNil))))) (tOr (tTest (tOp (rEqU W.K) (tCB (rLenU W.K) (tCons (tVar 1) (tNil))) (tC (.int 0)))) (tNot (tB (tCB (rIsi W.K) (tCons (tOp (rIxU W.K) (tVar 1) (tC (.int 0))) (tCons (tC (.ty "str")) tNil))))))) (sRaise (clsOf W.K "NoWord") E) (tNext)) (tIfS (tTest (tOp (rEqU W.K) (tVar 1) (tTupN (tCons (tC (.str "anew")) (tNil))))) (tSeq (sFd (clsOf W.K "Presser") (tVar 0) (tC .non) "base_most") (sFd (clsOf W.K "Presser") (tVar 0) (tMeth (clsOf W.K "Presser") "sent" (sp_Presser_sent W) [] E0 (tVar 0) tNil) "fresh_from")) (tIfS (tB (tMeth (clsOf W.K "Presser") "is_had" (sp_Presser_is_had W) [] E0 (tVar 0) (tCons (tVar 1) (tNil)))) (tSeq (sFd (clsOf W.K "Presser") (tVar 0) (tCall (sp_greater W) [] E0 (tCons (tFd (clsOf W.K "Presser") (tVar 0) "had_most") (tCons (tOp (rIxU W.K) (tVar 1) (tC (.int 1))) (tNil)))) "had_most") (tIfS (tTest (tOp (rGeU) (tOp (rIxU W.K) (tVar 1) (tC (.int 1))) (tFd (clsOf W.K "Presser") (tVar 0) "fresh_from"))) (sFd (clsOf W.K "Presser") (tVar 0) (tCall (sp_greater W) [] E0 (tCons (tFd (clsOf W.K "Presser") (tVar 0) "base_most") (tCons (tOp (rIxU W.K) (tVar 1) (tC (.int 1))) (tNil)))) "base_most") (tNext))) (sRaise (clsOf W.K "NoWord") E))), pss_cons (ps_if (PW.pt (pw_or (pt_not (pt_val (pe_callB call_isi (by rfl) B.b_isinstance (by decide +kernel) (pa_cons (pv 1) (pa_cons (pe_bltn (v := .ty "tuple") (u := .type "tuple") (by rfl) B.b_tuple (by decide +kernel) rfl) pa_nil))))) (pw_or (pt_cmpR (u_eq hr.units) (pe_callB u_len (by rfl) B.b_len (by decide +kernel) (pa_cons (pv 1) (pa_nil))) (pe_int) (nomark _)) (pw_or1 (pt_not (pt_val (pe_callB call_isi (by rfl) B.b_isinstance (by decide +kernel) (pa_cons (pe_ix u_ix (pv 1) (pe_int) (fun _ _ => rfl)) (pa_cons (pe_bltn (v := .ty "str") (u := .type "str") (by rfl) B.b_str (by decide +kernel) rfl) pa_nil))))))))) (pss_one (ps_rais rfl (L2N.takes_of rfl rfl rfl rfl) T.x_NoWord rfl)) (pss_nil)) (pss_one (ps_if (pt_cmpR (u_eq hr.units) (pv 1) (pe_tupN (pa_cons (pe_str) (pa_nil))) (nomark _)) (pss_cons (ps_fd T.Presser.cl T.Presser_base_most (pv 0) (pe_non) rfl) (pss_one (ps_fd T.Presser.cl T.Presser_fresh_from (pv 0) (pe_meth0 (pv 0) T.Presser.cl m_Presser_sent F_Presser_sent (hr.mono (by decide)) b_Presser_sent .nil pass0) rfl))) (pss_one (ps_if (pt_val (pe_meth (pv 0) T.Presser.cl m_Presser_is_had F_Presser_is_had (hr.mono (by decide)) b_Presser_is_had .nil pass0 (pa_cons (pv 1) (pa_nil)))) (pss_cons (ps_fd T.Presser.cl T.Presser_had_most (pv 0) (pe_call F_greater (hr.mono (by decide)) (by rfl) g_greater k_greater b_greater .nil pass0 (pa_cons (pe_fd T.Presser.cl T.Presser_had_most (pv 0) rfl) (pa_cons (pe_ix u_ix (pv 1) (pe_int) (fun _ _ => rfl)) (pa_nil)))) rfl) (pss_one (ps_if (pt_cmpR u_ge (pe_ix u_ix (pv 1) (pe_int) (fun _ _ => rfl)) (pe_fd T.Presser.cl T.Presser_fresh_from (pv 0) rfl) (nomark _)) (pss_one (ps_fd T.Presser.cl T.Presser_base_most (pv 0) (pe_call F_greater (hr.mono (by decide)) (by rfl) g_greater k_greater b_greater .nil pass0 (pa_cons (pe_fd T.Presser.cl T.Presser_base_most (pv 0) rfl) (pa_cons (pe_ix u_ix (pv 1) (pe_int) (fun _ _ => rfl)) (pa_nil)))) rfl)) (pss_nil)))) (pss_one (ps_rais rfl (L2N.takes_of rfl rfl rfl rfl) T.x_NoWord rfl)))))), ?_⟩
        clear hr
        clear F_Presser_sent m_Presser_sent b_Presser_sent d_Presser_sent a_Presser_sent
        clear F_Presser_is_had m_Presser_is_had b_Presser_is_had d_Presser_is_had a_Presser_is_had
        clear F_greater g_greater k_greater b_greater d_greater a_greater
        rw [show L2.start N_Presser_heard [v_self, v_word] = [some v_self, some v_word] from rfl]
        rcases h with ⟨p, l, s, d, rfl, hp, hw, hn, qE⟩ | h
        · walk_at "Zs"
          refine w_istupz hw ?_
          by_cases hnw : noWd d = true
          · cases d with
            | tuple ds =>
              cases ds with
              | nil =>
                walk_at "Zs"
                exact w_raise (qE _ (Same.refl _))
              | cons x r =>
                walk_at "Zs"
                refine w_ixZT hw (i := 0) (d := x) (atI_nat (j := 0) rfl) fun y hy => ?_
                walk_at "Zs"
                refine w_isstrz hy ?_
                cases x with
                | str z => cases hnw
                | _ =>
                  walk_at "Zs"
                  exact w_raise (qE _ (Same.refl _))
            | _ =>
              walk_at "Zs"
              exact w_raise (qE _ (Same.refl _))
          · rcases hn with hn | ⟨hq, sh, ne, nh⟩
            · exact absurd hn hnw
            · cases d with
              | tuple ds =>
                cases ds with
                | nil => exact absurd rfl hnw
                | cons x r =>
                  cases x with
                  | str z =>
                    walk_at "Zs"
                    refine w_ixQTs hq (i := 0) (z := z) (atI_nat (j := 0) rfl) ?_
                    walk_at "Zs"
                    refine w_isstr' (Dp.str _) ?_
                    walk_at "Zs"
                    rename_i p1 H1 n1 e1 h1
                    refine w_eqD (dq_mono e1 hq) (dq_new h1 (dqs_one (.str _))) sh shp_anew ?_
                    rw [ne]
                    walk_at "Zs"
                    refine go_Presser_is_hadX (pr_same e1 hp) (dq_mono e1 hq) ?_
                    rw [nh]
                    walk_at "Zs"
                    exact w_raise (qE _ e1)
                  | _ => exact absurd rfl hnw
              | _ => exact absurd rfl hnw
        obtain ⟨p, l, s, o, rfl, hp, hw, ho, q⟩ := h
        cases o with
        | none =>
          have hw : Dq W.K H v_word (.tuple [.str "anew"]) := hw
          walk_at "Zs"
          refine w_istup' (dq_dp hw) ?_
          walk_at "Zs"
          refine w_ixQTs hw (z := "anew") rfl ?_
          walk_at "Zs"
          refine w_isstr' (Dp.str _) ?_
          walk_at "Zs"
          rename_i p1 H1 n1 e1 h1
          refine w_eqD (dq_mono e1 hw) (dq_new h1 (dqs_one (.str _))) shp_anew shp_anew ?_
          rw [show PyData.eqv (.tuple [.str "anew"]) (.tuple [.str "anew"]) = true by simp [PyData.eqv, PyData.eqvAll]]
          walk_at "Zs"
          refine w_prSetBase (b := none) (pr_same e1 hp) fun H2 e2 hp2 => ?_
          walk_at "Zs"
          refine w_prSetFresh hp2 fun H3 e3 hp3 => ?_
          exact q _ ((Mv.same e1).trans (e2.trans e3)) hp3
        | some n =>
          have hw : Dq W.K H v_word (.tuple [.str "have", .int n]) := hw
          have ho : 0 ≤ n ∧ n < (s.past.length : Int) := ho
          walk_at "Zs"
          refine w_istup' (dq_dp hw) ?_
          walk_at "Zs"
          refine w_ixQTs hw (z := "have") rfl ?_
          walk_at "Zs"
          refine w_isstr' (Dp.str _) ?_
          walk_at "Zs"
          rename_i p1 H1 n1 e1 h1
          refine w_eqD (dq_mono e1 hw) (dq_new h1 (dqs_one (.str _))) (shp_have n) shp_anew ?_
          rw [show PyData.eqv (.tuple [.str "have", .int n]) (.tuple [.str "anew"]) = false by simp [PyData.eqv, PyData.eqvAll]]
          have hp1 := pr_same e1 hp
          have hw1 := dq_mono e1 hw
          walk_at "Zs"
          refine go_Presser_is_had hp1 hw1 ho.1 ho.2 ?_
          walk_at "Zs"
          refine w_ixQTi hw1 (n := n) rfl ?_
          walk_at "Zs"
          refine go_greaterI ?_
          walk_at "Zs"
          refine w_prSetHad hp1 fun H2 e2 hp2 => ?_
          have hw2 := dqt (prm_st hp1 e2) hw1 ⟨trivial, trivial, trivial⟩
          walk_at "Zs"
          refine w_ixQTi hw2 (n := n) rfl ?_
          walk_at "Zs"
          have q2 : ∀ H', Mv p l H H' → PrAt W H' p l ⟨s.P, s.past, grt s.had (some n), if s.fresh ≤ n then grt s.base (some n) else s.base, s.fresh⟩ → Q .non H' := q
          refine w_dec (fun c => ?_) (fun c => ?_)
          · rw [if_pos c] at q2
            walk_at "Zs"
            refine w_ixQTi hw2 (n := n) rfl ?_
            walk_at "Zs"
            refine go_greaterI ?_
            walk_at "Zs"
            refine w_prSetBase hp2 fun H3 e3 hp3 => ?_
            exact q2 _ ((Mv.same e1).trans (e2.trans e3)) hp3
          · rw [if_neg c] at q2
            walk_at "Zs"
            exact q2 _ ((Mv.same e1).trans e2) hp2
  exact F0
theorem c_Presser_heard {W : Wd} {mg : Str → Option Value} {base : Heap} (B : Bi mg) (S : SrcM W.K (clsOf W.K "Presser") "heard" "Presser.heard" s_Presser_heard) (T : Kl W.K mg) (C_Presser_sent : CalM W mg base (clsOf W.K "Presser") "sent" 1 ["self"] (sp_Presser_sent W)) (C_Presser_is_had : CalM W mg base (clsOf W.K "Presser") "is_had" 3 ["self", "word"] (sp_Presser_is_had W)) (C_greater : Cal W mg base "greater" 1 ["one", "other"] (sp_greater W)) : CalMX W mg base (clsOf W.K "Presser") "heard" 4 ["self", "word"] (sp_Presser_heard W) := by
  obtain ⟨f, fd, g, F⟩ := S
  exact ⟨f, fd, g, f_Presser_heard B F T C_Presser_sent C_Presser_is_had C_greater, (F.binds (ps := ["self", "word"]) fun _ _ _ _ _ _ us hl => match us, hl with | [_, _], _ => rfl)⟩
theorem go_Presser_heard {W : Wd} {H : Hp} {Q : VK} {E : XK} {p l : Addr} {s : PrS} {o : Option Int} {v : V} (hp : PrAt W H p l s) (hw : Dq W.K H v (wdD o)) (ho : inO s.past.length o) (q : ∀ H', Mv p l H H' → PrAt W H' p l (heaP s o) → Q .non H') : sp_Presser_heard W [.ref p, v] H Q E := .inr ⟨p, l, s, o, rfl, hp, hw, ho, q⟩
theorem grt_in {n : Int} {a b : Option Int} (ha : inO n a) (hb : inO n b) : inO n (grt a b) := by
  rcases a with _ | x
  · exact hb
  · rcases b with _ | y
    · exact ha
    · show inO n (if x < y then some y else some x)
      split
      · exact hb
      · exact ha
theorem okPr_heard {s : PrS} {o : Option Int} (ok : OkPr s) (ho : inO s.past.length o) : OkPr (heaP s o) := by
  cases o with
  | none => exact ⟨ok.ok, ok.hds, ok.len, by show (0 : Int) ≤ (s.past.length : Int); omega, by show (s.past.length : Int) ≤ (s.past.length : Int); omega, ok.had, trivial⟩
  | some n =>
    refine ⟨ok.ok, ok.hds, ok.len, ok.f0, ok.f1, grt_in ok.had ho, ?_⟩
    show inO s.past.length (if s.fresh ≤ n then grt s.base (some n) else s.base)
    split
    · exact grt_in ok.base ho
    · exact ok.base
theorem go_Presser_heardX {W : Wd} {H : Hp} {Q : VK} {E : XK} {p l : Addr} {s : PrS} {d : PyData} {v : V} (hp : PrAt W H p l s) (hw : Dz W.K Ever H v d) (hn : noWd d = true ∨ (Dq W.K H v d ∧ SeqAt.shaped d = true ∧ PyData.eqv d (.tuple [.str "anew"]) = false ∧ hadD s.past.length d = false)) (qE : ∀ H', Same H H' → E (.ref (clsOf W.K "NoWord")) none H') : sp_Presser_heard W [.ref p, v] H Q E := .inl ⟨p, l, s, d, rfl, hp, hw, hn, qE⟩
def sp__law_box (W : Wd) : Sp := fun vs H Q _ => match vs with
  | [v_script] =>
  ∃ (a : Addr) (ns : List Int), v_script = .ref a ∧ SqL W.K H a (ns.map V.int) ∧ ns.length ≤ 63 ∧ ∀ v H', Same H H' → BoxAt W false 0 H' v → Q v H'
  | _ => False
def sp0__law_box (W : Wd) : Sp := fun vs H Q _ => match vs with
  | [v_script] =>
  ∃ (a : Addr) (ns : List Int), v_script = .ref a ∧ SqL W.K H a (ns.map V.int) ∧ ns.length ≤ 63 ∧ ∀ (p o : Addr) (s : Int) (ms : List Int) H', Same H H' → p ≠ o → H p = none → H o = none → H' p = some (.dK (boxKV false o 0 s 0)) → H' o = some (.lst (ms.map V.int)) → (∀ x ∈ ms, 0 ≤ x) → 0 ≤ s → s < 2305843009213693952 → Q (.ref p) H'
  | _ => False
abbrev N__law_box : List Str := ["_law_script", "_law_seed", "_law_own", "_law_far", "_law_cell"]
theorem sc__law_box : FnScope N__law_box ["_law_script"] (defScope s__law_box) := ⟨rfl, rfl, rfl, by decide +kernel, rfl, by decide +kernel, by decide +kernel⟩
theorem f__law_box {W : Wd} {mg : Str → Option Value} {base : Heap} (B : Bi mg) {f : Addr} {fd : FuncData} (F : Fun W.K "_law_box" "_law_box" s__law_box f fd) (T : Kl W.K mg)  : FnOk W.P W.w W.K mg base CX0 1 f fd ["_law_script"] (sp__law_box W) := by
  have nd := sc__law_box.nd
  have F0 : FnOk W.P W.w W.K mg base CX0 1 f fd ["_law_script"] (sp0__law_box W) := by
    refine F.ok sc__law_box (fun vs H Q E h => ?_) (fun cdv A outer s H vs Q E hr h => ?_)
    · match vs, h with | [_], _ => rfl
    · match vs, h with
      | [v_script], h =>
        change sp0__law_box W [v_script] H Q E at h
        refine ⟨tSeq (tAsg (tC (.int 41)) (gName 1)) (tSeq (tAsg (tLst (tNil)) (gName 2)) (tSeq (tAsg (tOp (rCon 1000000000000000000000000000000000000000000000000000000000000000000000000000000000000000000000000000000000000000000000000000000000000000000000000000000000000000000000000000000000000000000000000000000000000000000000000000000000000000000000000 1000000000000000000000000000000000000000000000000000000000000 1000000000000000000000000000000000000000000000000000000000000000000000000000000000000000000000000000000000000000000000000000000000000000000000000000000000000000000000000000000000000000000000000000000000000000000000000000000000000000000000000000000000000000000000000000000000000000000000000000000000000) (tOp (rCon 1000000000000000000000000000000000000000000000000000000000000000000000000000000000000000000000000000000000000000000000000000000000000000000000000000000000000000000000000000000000000 1000000000000000000000000000000000000000000000000000000000000 1000000000000000000000000000000000000000000000000000000000000000000000000000000000000000000000000000000000000000000000000000000000000000000000000000000000000000000000000000000000000000000000000000000000000000000000000000000000000000000000000) (tOp (rCon 1000000000000000000000000000000000000000000000000000000000000000000000000000000000000000000000000000000000000000000000000 1000000000000000000000000000000000000000000000000000000000000 1000000000000000000000000000000000000000000000000000000000000000000000000000000000000000000000000000000000000000000000000000000000000000000000000000000000000000000000000000000000000) (tOp (rCon 1000000000000000000000000000000000000000000000000000000000000 1000000000000000000000000000000000000000000000000000000000000 1000000000000000000000000000000000000000000000000000000000000000000000000000000000000000000000000000000000000000000000000) (tOp (rCon 10 60 1000000000000000000000000000000000000000000000000000000000000) (tC (.int 10)) (tC (.int 60))) (tOp (rCon 10 60 1000000000000000000000000000000000000000000000000000000000000) (tC (.int 10)) (tC (.int 60)))) (tOp (rCon 10 60 1000000000000000000000000000000000000000000000000000000000000) (tC (.int 10)) (tC (.int 60)))) (tOp (rCon 10 60 1000000000000000000000000000000000000000000000000000000000000) (tC (.int 10)) (tC (.int 60)))) (tOp (rCon 10 60 1000000000000000000000000000000000000000000000000000000000000) (tC (.int 10)) (tC (.int 60)))) (gName 3)) (tSeq (tFor (iAny W.K (tSl (rSlU W.K) (tVar 0) (tNoPart) (tPart (tC (.int 63))))) (gName 4) (tSeq (tAsg (tOp (rModU) (tOp (rAddN W.K) (tOp (rAddN W.K) (tOp (rMulN W.K) (tVar 1) (tC (.int 1000003))) (tOp (rModU) (tVar 4) (tOp (rCon 10 30 1000000000000000000000000000000) (tC (.int 10)) (tC (.int 30))))) (tC (.int 7))) (tC (.int 2305843009213693951))) (gName 1)) (tIfS (tTest (tOp (rGeU) (tCB (rAbs) (tCons (tVar 4) (tNil))) (tOp (rCon 10 18 1000000000000000000) (tC (.int 10)) (tC (.int 18))))) (tDrop (tBM W.K "list" rAppend (tVar 2) (tCons (tOp (rModU) (tCB (rAbs) (tCons (tVar 4) (tNil))) (tVar 3)) (tNil)))) (tNext)))) (tRet (tDisp [(tC (.str "own"), tVar 2), (tC (.str "seed"), tVar 1), (tC (.str "turn"), tC (.int 0))]))))), pss_cons (ps_set (i := 1) nd rfl (.inl rfl) (pe_int)) (pss_cons (ps_set (i := 2) nd rfl (.inl rfl) (pe_lst (pa_nil))) (pss_cons (ps_set (i := 3) nd rfl (.inl rfl) (pe_op (u_mulc (by unfold CMulW; decide +kernel) (by decide +kernel)) (pe_op (u_mulc (by unfold CMulW; decide +kernel) (by decide +kernel)) (pe_op (u_mulc (by unfold CMulW; decide +kernel) (by decide +kernel)) (pe_op (u_mulc (by unfold CMulW; decide +kernel) (by decide +kernel)) (pe_op (u_powc ⟨by decide, by decide, by decide⟩ (by decide +kernel)) pe_int pe_int) (pe_op (u_powc ⟨by decide, by decide, by decide⟩ (by decide +kernel)) pe_int pe_int)) (pe_op (u_powc ⟨by decide, by decide, by decide⟩ (by decide +kernel)) pe_int pe_int)) (pe_op (u_powc ⟨by decide, by decide, by decide⟩ (by decide +kernel)) pe_int pe_int)) (pe_op (u_powc ⟨by decide, by decide, by decide⟩ (by decide +kernel)) pe_int pe_int))) (pss_cons (ps_for PassesOwn.never rfl (pi_any (pe_slice u_sl (pv 0) (po_none) (po_some (pe_int)))) (pg_name (i := 4) nd rfl (by first | exact Or.inl rfl | exact Or.inr rfl)) (pss_cons (ps_set (i := 1) nd rfl (.inl rfl) (pe_op u_mod (pe_op u_addN (pe_op u_addN (pe_op u_mulN (pv 1) (pe_int)) (pe_op u_mod (pv 4) (pe_op (u_powc ⟨by decide, by decide, by decide⟩ (by decide +kernel)) pe_int pe_int))) (pe_int)) (pe_int))) (pss_one (ps_if (pt_cmpR u_ge (pe_callB call_abs (by rfl) B.b_abs (by decide +kernel) (pa_cons (pv 4) (pa_nil))) (pe_op (u_powc ⟨by decide, by decide, by decide⟩ (by decide +kernel)) pe_int pe_int) (nomark _)) (pss_one (ps_expr (pe_bm PySem.F.plainAttrs_list PySem.F.slot_list_append PySem.F.type_list_append mt_append (pv 2) (pa_cons (pe_op u_mod (pe_callB call_abs (by rfl) B.b_abs (by decide +kernel) (pa_cons (pv 4) (pa_nil))) (pv 3)) (pa_nil))))) (pss_nil))))) (pss_one (ps_ret (pe_disp (pps_cons (pe_str) (pv 2) (pps_cons (pe_str) (pv 1) (pps_cons (pe_str) (pe_int) (pps_nil)))) (by rfl) (by rfl) (fun z => by cases z) (by decide))))))), ?_⟩
        clear hr
        rw [show L2.start N__law_box [v_script] = [some v_script, none, none, none, none] from rfl]
        obtain ⟨a, ns, rfl, hS, hl, q⟩ := h
        walk_at "Zs"
        rename_i p1 H1 np1 e1 h1
        refine w_slLi (e1.seq hS) fun p2 H2 np2 e2 h2 => ?_
        have hcl : (cutD ns none (some 63)).length ≤ 63 := Nat.le_trans cutD_len hl
        generalize cutD ns none (some 63) = cs at h2 hcl
        refine w_goL (SqL.of h2) ?_
        have n12 : p2 ≠ p1 := fun z => by rw [z, h1] at np2; cases np2
        refine forL (fun i σ' H' => (∃ s y4, σ' = [some (.ref a), some (.int s), some (.ref p1), some (.int 1000000000000000000000000000000000000000000000000000000000000000000000000000000000000000000000000000000000000000000000000000000000000000000000000000000000000000000000000000000000000000000000000000000000000000000000000000000000000000000000000000000000000000000000000000000000000000000000000000000000000), y4] ∧ 0 ≤ s ∧ s < 2305843009213693952) ∧ Same H H' ∧ H' p2 = some (.lst (cs.map V.int)) ∧ ∃ ms : List Int, H' p1 = some (.lst (ms.map V.int)) ∧ ms.length ≤ i ∧ ∀ x ∈ ms, 0 ≤ x) ⟨⟨41, _, rfl, by decide, by decide⟩, e1.trans e2, h2, [], e2 _ _ h1, Nat.le_refl _, fun _ h => nomatch h⟩ (fun i σ' H' _ h => SqL.of h.2.2.1) (fun i x σ' H3 hx h => ?_) (fun σ' H3 h => ?_)
        · obtain ⟨⟨s, y4, rfl, s0, s1⟩, e3, h3, ms, h4, hm, hn⟩ := h
          obtain ⟨c, hc, rfl⟩ := ints_at hx
          have hi := (List.getElem?_eq_some_iff.mp hc).1
          walk_at "Zs"
          refine w_dec (fun hb => ?_) (fun hb => ?_)
          · walk_at "Zs"
            refine w_tyL h4 ?_
            walk_at "Zs"
            refine w_append h4 (by rw [List.length_map]; omega) ?_
            walk_at "Zs"
            refine ⟨⟨_, _, rfl, by omega, by omega⟩, same_mut e3 np1, ?_, ms ++ [(if c < 0 then -c else c) % 1000000000000000000000000000000000000000000000000000000000000000000000000000000000000000000000000000000000000000000000000000000000000000000000000000000000000000000000000000000000000000000000000000000000000000000000000000000000000000000000000000000000000000000000000000000000000000000000000000000000000], ?_, by rw [List.length_append, List.length_singleton]; omega, fun x hx => ?_⟩
            · rw [upd_ne n12]
              exact h3
            · rw [upd_same, List.map_append]
              rfl
            · rcases List.mem_append.mp hx with hx | hx
              · exact hn x hx
              · rw [List.mem_singleton.mp hx]
                exact Int.emod_nonneg _ (by decide)
          · walk_at "Zs"
            exact ⟨⟨_, _, rfl, by omega, by omega⟩, e3, h3, ms, h4, by omega, hn⟩
        · obtain ⟨⟨s, y4, rfl, s0, s1⟩, e3, h3, ms, h4, hm, hn⟩ := h
          walk_at "Zs"
          refine w_disp fun p np => ?_
          walk_at "Zs"
          refine w_DB3 upd_same ?_
          have npo : p ≠ p1 := fun z => by rw [z, h4] at np; cases np
          refine q p p1 s ms _ (same_mut (same_mut e3 (none_of e3 np)) (none_of e3 np)) npo (none_of e3 np) np1 upd_same ?_ hn s0 (by omega)
          rw [upd_ne (Ne.symm npo), upd_ne (Ne.symm npo)]
          exact h4
  refine fn_seal2 F0 (fun vs H Q E h => ?_) fun vs H Q E h => ?_
  · match vs, h with | [_], _ => rfl
  · match vs, h with
    | [v1], h =>
      obtain ⟨a, ns, rfl, hS, hl, q⟩ := h
      refine ⟨a, ns, rfl, hS, hl, fun p o s ms H' e hpo np no hp ho hm s0 s1 => ?_⟩
      refine ⟨p, o, BoxU false o 0, OwnU, _, _, hpo, box_flat, own_flat, ⟨0, s, 0, rfl, Int.le_refl _, s0, s1, Int.le_refl _, Int.le_refl _⟩, ⟨ms, rfl, hm⟩, hp, ho, ?_⟩
      have n1 : upd (upd H' p (vw W (BoxU false o 0) p)) o (vw W OwnU o) p = some (vw W (BoxU false o 0) p) := by rw [upd_ne hpo, upd_same]
      refine q _ _ (same_mut (same_mut e np) no) ⟨p, o, 0, rfl, hpo, Int.le_refl _, n1, upd_same⟩
theorem c__law_box {W : Wd} {mg : Str → Option Value} {base : Heap} (B : Bi mg) (S : Src W.K mg "_law_box" s__law_box) (T : Kl W.K mg)  : Cal W mg base "_law_box" 1 ["_law_script"] (sp__law_box W) := by
  obtain ⟨f, fd, g, F⟩ := S
  exact ⟨f, fd, g, f__law_box B F T , F.kp, (F.binds (ps := ["_law_script"]) fun _ _ _ _ _ _ us hl => match us, hl with | [_], _ => rfl)⟩
theorem go__law_box {W : Wd} {H : Hp} {Q : VK} {E : XK} {a : Addr} {ns : List Int} (hS : SqL W.K H a (ns.map V.int)) (hl : ns.length ≤ 63) (q : ∀ v H', Same H H' → BoxAt W false 0 H' v → Q v H') : sp__law_box W [.ref a] H Q E := ⟨a, ns, rfl, hS, hl, q⟩
def sp__law_next (W : Wd) : Sp := fun vs H Q _ => match vs with
  | [v_box_here, v_many] =>
  ∃ m n : Int, BoxAt W false n H v_box_here ∧ v_many = .int m ∧ 0 < m ∧ m < 1267650600228229401496703205376 ∧ n ≤ 1000000000 ∧ ∀ (d : Int) H', Sx H H' → 0 ≤ d → d < m → BoxAt W false (n + 1) H' v_box_here → Q (.int d) H'
  | _ => False
def sp0__law_next (W : Wd) : Sp := fun vs H Q _ => match vs with
  | [v_box_here, v_many] =>
  ∃ (p o : Addr) (ns : List Int) (l s t m : Int), v_box_here = .ref p ∧ v_many = .int m ∧ p ≠ o ∧ H p = some (.dK (boxKV false o l s t)) ∧ H o = some (.lst (ns.map V.int)) ∧ (∀ x ∈ ns, 0 ≤ x) ∧ 0 ≤ s ∧ s < 2305843009213693952 ∧ 0 ≤ t ∧ t ≤ 1000000000 ∧ 0 < m ∧ m < 1267650600228229401496703205376 ∧
    ∀ (d t' : Int) (ms : List Int) H', (∀ b u, b ≠ p → b ≠ o → H b = some u → H' b = some u) → H' p = some (.dK (boxKV false o l s t')) → H' o = some (.lst (ms.map V.int)) → (∀ x ∈ ms, 0 ≤ x) → 0 ≤ t' → t' ≤ t + 1 → 0 ≤ d → d < m → Q (.int d) H'
  | _ => False
abbrev N__law_next : List Str := ["_law_box_here", "_law_many", "_law_digit", "_law_turn", "_law_mixed"]
theorem sc__law_next : FnScope N__law_next ["_law_box_here", "_law_many"] (defScope s__law_next) := ⟨rfl, rfl, rfl, by decide +kernel, rfl, by decide +kernel, by decide +kernel⟩
theorem f__law_next {W : Wd} {mg : Str → Option Value} {base : Heap} (B : Bi mg) {f : Addr} {fd : FuncData} (F : Fun W.K "_law_next" "_law_next" s__law_next f fd) (T : Kl W.K mg)  : FnOk W.P W.w W.K mg base CX0 1 f fd ["_law_box_here", "_law_many"] (sp__law_next W) := by
  have nd := sc__law_next.nd
  have F0 : FnOk W.P W.w W.K mg base CX0 1 f fd ["_law_box_here", "_law_many"] (sp0__law_next W) := by
    refine F.ok sc__law_next (fun vs H Q E h => ?_) (fun cdv A outer s H vs Q E hr h => ?_)
    · match vs, h with | [_, _], _ => rfl
    · match vs, h with
      | [v_box_here, v_many], h =>
        change sp0__law_next W [v_box_here, v_many] H Q E at h
        refine ⟨tSeq (tWhile (tAnd (tTest (tOp (rNeU W.K) (tDGet (tVar 0) (tC (.str "own"))) (tLst (tNil)))) (tTest (tOp (rEqU W.K) (tOp (rIxU W.K) (tDGet (tVar 0) (tC (.str "own"))) (tC (.int 0))) (tC (.int 0))))) (tDrop (tBM W.K "list" rPopAt (tDGet (tVar 0) (tC (.str "own"))) (tCons (tC (.int 0)) (tNil))))) (tSeq (tIfS (tTest (tOp (rNeU W.K) (tDGet (tVar 0) (tC (.str "own"))) (tLst (tNil)))) (tSeq (tAsg (tOp (rModU) (tOp (rIxU W.K) (tDGet (tVar 0) (tC (.str "own"))) (tC (.int 0))) (tVar 1)) (gName 2)) (tSeq (tAsg (tOp (rDivU) (tOp (rIxU W.K) (tDGet (tVar 0) (tC (.str "own"))) (tC (.int 0))) (tVar 1)) (gSub (tDGet (tVar 0) (tC (.str "own"))) (tC (.int 0)) rSetU)) (tRet (tVar 2)))) (tNext)) (tSeq (tAsg (tOp (rAddN W.K) (tDGet (tVar 0) (tC (.str "turn"))) (tC (.int 1))) (gSub (tVar 0) (tC (.str "turn")) rSetU)) (tSeq (tAsg (tDGet (tVar 0) (tC (.str "turn"))) (gName 3)) (tSeq (tAsg (tOp (rAddN W.K) (tOp (rAddN W.K) (tDGet (tVar 0) (tC (.str "seed"))) (tOp (rMulN W.K) (tOp (rMulN W.K) (tVar 3) (tVar 3)) (tC (.int 7919)))) (tOp (rMulN W.K) (tVar 3) (tC (.int 104729)))) (gName 4)) (tSeq (tAsg (tOp (rModU) (tOp (rMulN W.K) (tVar 4) (tC (.int 48271))) (tC (.int 2305843009213693921))) (gName 4)) (tSeq (tAsg (tOp (rModU) (tOp (rMulN W.K) (tVar 4) (tOp (rAddN W.K) (tOp (rModU) (tVar 4) (tC (.int 1000003))) (tC (.int 69621)))) (tC (.int 2305843009213693907))) (gName 4)) (tRet (tOp (rModU) (tOp (rDivU) (tVar 4) (tC (.int 65537))) (tVar 1))))))))), pss_cons (ps_while PassesOwn.never (PW.pt (pw_and (pt_cmpR (u_ne hr.units) (pe_dgetU hr.units (pv 0) (pe_str) (fun _ _ => rfl)) (pe_lst (pa_nil)) (nomark _)) (pw_and1 (pt_cmpR (u_eq hr.units) (pe_ix u_ix (pe_dgetU hr.units (pv 0) (pe_str) (fun _ _ => rfl)) (pe_int) (fun _ _ => rfl)) (pe_int) (nomark _))))) (pss_one (ps_expr (pe_bm PySem.F.plainAttrs_list PySem.F.slot_list_pop PySem.F.type_list_pop mt_popAt (pe_dgetU hr.units (pv 0) (pe_str) (fun _ _ => rfl)) (pa_cons (pe_int) (pa_nil)))))) (pss_cons (ps_if (pt_cmpR (u_ne hr.units) (pe_dgetU hr.units (pv 0) (pe_str) (fun _ _ => rfl)) (pe_lst (pa_nil)) (nomark _)) (pss_cons (ps_set (i := 2) nd rfl (.inl rfl) (pe_op u_mod (pe_ix u_ix (pe_dgetU hr.units (pv 0) (pe_str) (fun _ _ => rfl)) (pe_int) (fun _ _ => rfl)) (pv 1))) (pss_cons (ps_asg (pe_op u_div (pe_ix u_ix (pe_dgetU hr.units (pv 0) (pe_str) (fun _ _ => rfl)) (pe_int) (fun _ _ => rfl)) (pv 1)) (pg_sub (pe_dgetU hr.units (pv 0) (pe_str) (fun _ _ => rfl)) (pe_int) (u_set hr.units))) (pss_one (ps_ret (pv 2))))) (pss_nil)) (pss_cons (ps_asg (pe_op u_addN (pe_dgetU hr.units (pv 0) (pe_str) (fun _ _ => rfl)) (pe_int)) (pg_sub (pv 0) (pe_str) (u_set hr.units))) (pss_cons (ps_set (i := 3) nd rfl (.inl rfl) (pe_dgetU hr.units (pv 0) (pe_str) (fun _ _ => rfl))) (pss_cons (ps_set (i := 4) nd rfl (.inl rfl) (pe_op u_addN (pe_op u_addN (pe_dgetU hr.units (pv 0) (pe_str) (fun _ _ => rfl)) (pe_op u_mulN (pe_op u_mulN (pv 3) (pv 3)) (pe_int))) (pe_op u_mulN (pv 3) (pe_int)))) (pss_cons (ps_set (i := 4) nd rfl (.inl rfl) (pe_op u_mod (pe_op u_mulN (pv 4) (pe_int)) (pe_int))) (pss_cons (ps_set (i := 4) nd rfl (.inl rfl) (pe_op u_mod (pe_op u_mulN (pv 4) (pe_op u_addN (pe_op u_mod (pv 4) (pe_int)) (pe_int))) (pe_int))) (pss_one (ps_ret (pe_op u_mod (pe_op u_div (pv 4) (pe_int)) (pv 1)))))))))), ?_⟩
        clear hr
        rw [show L2.start N__law_next [v_box_here, v_many] = [some v_box_here, some v_many, none, none, none] from rfl]
        obtain ⟨p, o, ns, l, s, t, m, rfl, rfl, hpo, hp, ho, hn, s0, s1, t0, t1, m0, m1, q⟩ := h
        walk_at "Zs"
        refine w_while (fun k σ' H' => (∃ y2 y3 y4, σ' = [some (.ref p), some (.int m), y2, y3, y4]) ∧ (∀ b u, b ≠ p → b ≠ o → H b = some u → H' b = some u) ∧ H' p = some (.dK (boxKV false o l s t)) ∧ ∃ ms : List Int, k = ms.length ∧ H' o = some (.lst (ms.map V.int)) ∧ ∀ x ∈ ms, 0 ≤ x) ns.length ⟨⟨_, _, _, rfl⟩, fun _ _ _ _ h => h, hp, ns, rfl, ho, hn⟩ ?_
        rintro k σ' H' ⟨⟨y2, y3, y4, rfl⟩, hk, hp', ms, rfl, ho', hn'⟩
        walk_at "Zs"
        refine w_dgs hp' rfl ?_
        walk_at "Zs"
        rename_i q1 H1 nq1 e1 h1
        refine w_neNil (ns := ms) (SqL.of (e1 _ _ ho')) (SqL.of h1) ?_
        have hk1 : ∀ b u, b ≠ p → b ≠ o → H b = some u → H1 b = some u := fun b u b1 b2 e => e1 _ _ (hk b u b1 b2 e)
        have hp1 := e1 _ _ hp'
        have ho1 := e1 _ _ ho'
        clear hp' ho' hk e1 nq1 h1
        cases ms with
        | nil =>
          walk_at "Zs"
          refine w_dgs hp1 rfl ?_
          walk_at "Zs"
          rename_i q2 H2 nq2 e2 h2
          refine w_neNil (ns := []) (SqL.of (e2 _ _ ho1)) (SqL.of h2) ?_
          have hk2 : ∀ b u, b ≠ p → b ≠ o → H b = some u → H2 b = some u := fun b u b1 b2 e => e2 _ _ (hk1 b u b1 b2 e)
          have hp2 := e2 _ _ hp1
          have ho2 := e2 _ _ ho1
          walk_at "Zs"
          refine w_dgs hp2 rfl ?_
          walk_at "Zs"
          refine w_dputs hp2 (show 3 < 1000 by decide) ?_
          have hp3 : upd H2 p (.dK (putK (boxKV false o l s t) (.inr "turn") (.int (t + 1)))) p = some (.dK (boxKV false o l s (t + 1))) := by
            rw [upd_same]
            rfl
          have ho3 : upd H2 p (.dK (putK (boxKV false o l s t) (.inr "turn") (.int (t + 1)))) o = some (.lst ([].map V.int)) := by
            rw [upd_ne (Ne.symm hpo)]
            exact ho2
          have hk3 : ∀ b u, b ≠ p → b ≠ o → H b = some u → upd H2 p (.dK (putK (boxKV false o l s t) (.inr "turn") (.int (t + 1)))) b = some u := fun b u b1 b2 e => by
            rw [upd_ne b1]
            exact hk2 b u b1 b2 e
          generalize upd H2 p (.dK (putK (boxKV false o l s t) (.inr "turn") (.int (t + 1)))) = H3 at hp3 ho3 hk3
          walk_at "Zs"
          refine w_dgs hp3 rfl ?_
          walk_at "Zs"
          refine w_dgs hp3 rfl ?_
          walk_at "Zs"
          exact q _ (t + 1) [] _ hk3 hp3 ho3 (fun _ h => nomatch h) (by omega) (by omega) (Int.emod_nonneg _ (by omega)) (Int.emod_lt_of_pos _ m0)
        | cons y r =>
          walk_at "Zs"
          refine w_dgs hp1 rfl ?_
          walk_at "Zs"
          refine w_ixl (x := .int y) (SqL.of ho1) atI_zero ?_
          walk_at "Zs"
          refine w_dec (fun hy => ?_) (fun hy => ?_)
          · refine ⟨_, fun σ' H' h => h, ?_⟩
            walk_at "Zs"
            refine w_dgs hp1 rfl ?_
            refine w_tyL ho1 ?_
            walk_at "Zs"
            refine w_pop0 ho1 ?_
            walk_at "Zs"
            refine ⟨r.length, by rw [List.length_cons]; omega, ⟨_, _, _, rfl⟩, fun b u b1 b2 e => ?_, ?_, r, rfl, upd_same, fun x hx => hn' x (List.mem_cons_of_mem _ hx)⟩
            · rw [upd_ne b2]
              exact hk1 b u b1 b2 e
            · rw [upd_ne hpo]
              exact hp1
          · walk_at "Zs"
            refine w_dgs hp1 rfl ?_
            walk_at "Zs"
            rename_i q2 H2 nq2 e2 h2
            refine w_neNil (ns := y :: r) (SqL.of (e2 _ _ ho1)) (SqL.of h2) ?_
            have hk2 : ∀ b u, b ≠ p → b ≠ o → H b = some u → H2 b = some u := fun b u b1 b2 e => e2 _ _ (hk1 b u b1 b2 e)
            have hp2 := e2 _ _ hp1
            have ho2 := e2 _ _ ho1
            walk_at "Zs"
            refine w_dgs hp2 rfl ?_
            walk_at "Zs"
            refine w_ixl (x := .int y) (SqL.of ho2) atI_zero ?_
            walk_at "Zs"
            refine w_dgs hp2 rfl ?_
            walk_at "Zs"
            refine w_ixl (x := .int y) (SqL.of ho2) atI_zero ?_
            walk_at "Zs"
            refine w_dgs hp2 rfl ?_
            walk_at "Zs"
            refine w_setl ho2 (j := 0) (by
              unfold ixN
              rw [if_pos (by decide), List.length_map, List.length_cons, if_pos (by omega)]
              rfl) ?_
            walk_at "Zs"
            have y0 := hn' y List.mem_cons_self
            refine q _ t (y / m :: r) _ (fun b u b1 b2 e => ?_) ?_ (by rw [upd_same]; rfl) (fun x hx => ?_) t0 (by omega) (Int.emod_nonneg _ (by omega)) (Int.emod_lt_of_pos _ m0)
            · rw [upd_ne b2]
              exact hk2 b u b1 b2 e
            · rw [upd_ne hpo]
              exact hp2
            · rcases List.mem_cons.mp hx with rfl | hx
              · exact Int.ediv_nonneg y0 (by omega)
              · exact hn' x (List.mem_cons_of_mem _ hx)
  refine fn_view2 F0 (fun vs H Q E h => ?_) fun vs H Q E h => ?_
  · match vs, h with | [_, _], _ => rfl
  · match vs, h with
    | [v1, v2], h =>
      obtain ⟨m, n, ⟨p, o, k, rfl, hpo, hk, hp, ho⟩, rfl, m0, m1, n1, q⟩ := h
      refine ⟨p, o, BoxU false o k, OwnU, BoxU false o (k + 1), OwnU, hpo, box_flat, own_flat, hp, ho, fun u u2 hu hu2 => ?_⟩
      obtain ⟨l, s, t, rfl, l0, s0, s1, t0, t1⟩ := hu
      obtain ⟨ns, rfl, hn⟩ := hu2
      have hp1 : upd (upd H p (.dK (boxKV false o l s t))) o (.lst (ns.map V.int)) p = some (.dK (boxKV false o l s t)) := by rw [upd_ne hpo, upd_same]
      refine ⟨p, o, ns, l, s, t, m, rfl, rfl, hpo, hp1, upd_same, hn, s0, s1, t0, by omega, m0, m1, fun d t' ms H' hkeep hp' ho' hm t0' t1' d0 d1 => ?_⟩
      refine ⟨_, _, ⟨l, s, t', rfl, l0, s0, s1, t0', by omega⟩, ⟨ms, rfl, hm⟩, hp', ho', ?_⟩
      have n1 : upd (upd H' p (vw W (BoxU false o (k + 1)) p)) o (vw W OwnU o) p = some (vw W (BoxU false o (k + 1)) p) := by rw [upd_ne hpo, upd_same]
      refine q d _ ⟨fun b u e hne => ?_, fun b u e => ?_⟩ d0 d1 ⟨p, o, k + 1, rfl, hpo, by omega, n1, upd_same⟩
      · have b1 : b ≠ p := fun z => by
          rw [z, hp] at e
          cases e
          cases hne
        have b2 : b ≠ o := fun z => by
          rw [z, ho] at e
          cases e
          cases hne
        rw [upd_ne b2, upd_ne b1]
        refine hkeep b u b1 b2 ?_
        rw [upd_ne b2, upd_ne b1]
        exact e
      · by_cases b2 : b = o
        · rw [b2]
          exact ⟨_, upd_same⟩
        · by_cases b1 : b = p
          · rw [b1]
            exact ⟨_, n1⟩
          · refine ⟨u, ?_⟩
            rw [upd_ne b2, upd_ne b1]
            refine hkeep b u b1 b2 ?_
            rw [upd_ne b2, upd_ne b1]
            exact e
theorem c__law_next {W : Wd} {mg : Str → Option Value} {base : Heap} (B : Bi mg) (S : Src W.K mg "_law_next" s__law_next) (T : Kl W.K mg)  : Cal W mg base "_law_next" 1 ["_law_box_here", "_law_many"] (sp__law_next W) := by
  obtain ⟨f, fd, g, F⟩ := S
  exact ⟨f, fd, g, f__law_next B F T , F.kp, (F.binds (ps := ["_law_box_here", "_law_many"]) fun _ _ _ _ _ _ us hl => match us, hl with | [_, _], _ => rfl)⟩
theorem go__law_next {W : Wd} {H : Hp} {Q : VK} {E : XK} {v : V} {m n : Int} (hb : BoxAt W false n H v) (m0 : 0 < m) (m1 : m < 1267650600228229401496703205376) (hn : n ≤ 1000000000) (q : ∀ (d : Int) H', Sx H H' → 0 ≤ d → d < m → BoxAt W false (n + 1) H' v → Q (.int d) H') : sp__law_next W [v, .int m] H Q E := ⟨m, n, hb, rfl, m0, m1, hn, q⟩
local macro_rules | `(tactic| walk_at "Zc") => `(tactic| ((with_reducible refine' go__law_next ?hp ?h0 ?h1 ?hn ?_); (case hp => walk_at "Zbox"); (case h0 => walk_at "Znum"); (case h1 => walk_at "Znum"); (case hn => walk_at "Znum"); intro d H' e h0 h1 hb))
def sp__law_of (W : Wd) : Sp := fun vs H Q _ => match vs with
  | [v_box_here, v_some] =>
  ∃ (n : Int) (a : Addr) (xs : List V), BoxAt W false n H v_box_here ∧ n ≤ 1000000000 ∧ v_some = .ref a ∧ (SqL W.K H a xs ∨ SqT W.K H a xs) ∧ 0 < xs.length ∧ xs.length ≤ 1000000 ∧ ∀ (i : Nat) x H', xs[i]? = some x → Sx H H' → BoxAt W false (n + 1) H' v_box_here → Q x H'
  | _ => False
abbrev N__law_of : List Str := ["_law_box_here", "_law_some"]
theorem sc__law_of : FnScope N__law_of ["_law_box_here", "_law_some"] (defScope s__law_of) := ⟨rfl, rfl, rfl, by decide +kernel, rfl, by decide +kernel, by decide +kernel⟩
theorem f__law_of {W : Wd} {mg : Str → Option Value} {base : Heap} (B : Bi mg) {f : Addr} {fd : FuncData} (F : Fun W.K "_law_of" "_law_of" s__law_of f fd) (T : Kl W.K mg) (C__law_next : Cal W mg base "_law_next" 1 ["_law_box_here", "_law_many"] (sp__law_next W)) : FnOk W.P W.w W.K mg base CX0 2 f fd ["_law_box_here", "_law_some"] (sp__law_of W) := by
  obtain ⟨a__law_next, d__law_next, g__law_next, F__law_next, k__law_next, b__law_next⟩ := C__law_next
  have nd := sc__law_of.nd
  have F0 : FnOk W.P W.w W.K mg base CX0 2 f fd ["_law_box_here", "_law_some"] (sp__law_of W) := by
    refine F.ok sc__law_of (fun vs H Q E h => ?_) (fun cdv A outer s H vs Q E hr h => ?_)
    · match vs, h with | [_, _], _ => rfl
    · match vs, h with
      | [v_box_here, v_some], h =>
        change sp__law_of W [v_box_here, v_some] H Q E at h
        refine ⟨tRet (tOp (rIxU W.K) (tVar 1) (tCall (sp__law_next W) [] E0 (tCons (tVar 0) (tCons (tCB (rLenU W.K) (tCons (tVar 1) (tNil))) (tNil))))), pss_one (ps_ret (pe_ix u_ix (pv 1) (pe_call F__law_next (hr.mono (by decide)) (by rfl) g__law_next k__law_next b__law_next .nil pass0 (pa_cons (pv 0) (pa_cons (pe_callB u_len (by rfl) B.b_len (by decide +kernel) (pa_cons (pv 1) (pa_nil))) (pa_nil)))) (fun _ _ => rfl))), ?_⟩
        clear hr
        clear F__law_next g__law_next k__law_next b__law_next d__law_next a__law_next
        rw [show L2.start N__law_of [v_box_here, v_some] = [some v_box_here, some v_some] from rfl]
        obtain ⟨n, a, xs, hb, hn, rfl, hx, l0, l1, q⟩ := h
        walk_at "Zs"
        have fin : ∀ (d : Int) (H1 : Hp), Sx H H1 → 0 ≤ d → d < xs.length → BoxAt W false (n + 1) H1 v_box_here → rIxU W.K (.ref a) (.int d) H1 Q := fun d H1 e d0 d1 hb1 => by
          obtain ⟨x, hx1, hx2⟩ := atI_get d0 d1
          rcases hx with hx | hx
          · exact w_ixl (sx_l e hx) hx2 (q _ x H1 hx1 e hb1)
          · exact w_ixt (sx_t e hx) hx2 (q _ x H1 hx1 e hb1)
        rcases hx with hx2 | hx2
        · refine w_lenL hx2 ?_
          walk_at "Zs"
          rename_i d H1 e d0 d1 hb1
          exact fin d H1 e d0 d1 hb1
        · refine w_lenT hx2 ?_
          walk_at "Zs"
          rename_i d H1 e d0 d1 hb1
          exact fin d H1 e d0 d1 hb1
  exact F0
theorem c__law_of {W : Wd} {mg : Str → Option Value} {base : Heap} (B : Bi mg) (S : Src W.K mg "_law_of" s__law_of) (T : Kl W.K mg) (C__law_next : Cal W mg base "_law_next" 1 ["_law_box_here", "_law_many"] (sp__law_next W)) : Cal W mg base "_law_of" 2 ["_law_box_here", "_law_some"] (sp__law_of W) := by
  obtain ⟨f, fd, g, F⟩ := S
  exact ⟨f, fd, g, f__law_of B F T C__law_next, F.kp, (F.binds (ps := ["_law_box_here", "_law_some"]) fun _ _ _ _ _ _ us hl => match us, hl with | [_, _], _ => rfl)⟩
theorem go__law_ofL {W : Wd} {H : Hp} {Q : VK} {E : XK} {v : V} {n : Int} {a : Addr} {xs : List V} (hb : BoxAt W false n H v) (hx : SqL W.K H a xs) (hn : n ≤ 1000000000) (l0 : 0 < xs.length) (l1 : xs.length ≤ 1000000) (q : ∀ (i : Nat) x H', xs[i]? = some x → Sx H H' → BoxAt W false (n + 1) H' v → Q x H') : sp__law_of W [v, .ref a] H Q E := ⟨n, a, xs, hb, hn, rfl, .inl hx, l0, l1, q⟩
theorem go__law_ofT {W : Wd} {H : Hp} {Q : VK} {E : XK} {v : V} {n : Int} {a : Addr} {xs : List V} (hb : BoxAt W false n H v) (hx : SqT W.K H a xs) (hn : n ≤ 1000000000) (l0 : 0 < xs.length) (l1 : xs.length ≤ 1000000) (q : ∀ (i : Nat) x H', xs[i]? = some x → Sx H H' → BoxAt W false (n + 1) H' v → Q x H') : sp__law_of W [v, .ref a] H Q E := ⟨n, a, xs, hb, hn, rfl, .inr hx, l0, l1, q⟩
theorem go__law_ofI {W : Wd} {H : Hp} {Q : VK} {E : XK} {v : V} {n : Int} {a : Addr} {xs : List V} (P : Int → Prop) (hb : BoxAt W false n H v) (hx : SqL W.K H a xs) (hn : n ≤ 1000000000) (l0 : 0 < xs.length) (l1 : xs.length ≤ 1000000) (hP : ∀ x ∈ xs, isI P x) (q : ∀ m H', P m → Sx H H' → BoxAt W false (n + 1) H' v → Q (.int m) H') : sp__law_of W [v, .ref a] H Q E := go__law_ofL hb hx hn l0 l1 fun i x H' hi e hb' => by
  obtain ⟨m, rfl, hm⟩ := hP x (List.mem_of_getElem? hi)
  exact q m H' hm e hb'
def sp__law_value (W : Wd) : Sp := fun vs H Q _ => match vs with
  | [v_box_here, v_breadth] =>
  ∃ b n : Int, BoxAt W false n H v_box_here ∧ v_breadth = .int b ∧ 0 ≤ b ∧ b ≤ 60 ∧ n ≤ 999999990 ∧ ∀ (m : Int) H', Sx H H' → 0 ≤ m → m < p2 b → BoxAt W false (n + 2) H' v_box_here → Q (.int m) H'
  | _ => False
abbrev N__law_value : List Str := ["_law_box_here", "_law_breadth", "_law_some"]
theorem sc__law_value : FnScope N__law_value ["_law_box_here", "_law_breadth"] (defScope s__law_value) := ⟨rfl, rfl, rfl, by decide +kernel, rfl, by decide +kernel, by decide +kernel⟩
theorem f__law_value {W : Wd} {mg : Str → Option Value} {base : Heap} (B : Bi mg) {f : Addr} {fd : FuncData} (F : Fun W.K "_law_value" "_law_value" s__law_value f fd) (T : Kl W.K mg) (C__law_next : Cal W mg base "_law_next" 1 ["_law_box_here", "_law_many"] (sp__law_next W)) : FnOk W.P W.w W.K mg base CX0 2 f fd ["_law_box_here", "_law_breadth"] (sp__law_value W) := by
  obtain ⟨a__law_next, d__law_next, g__law_next, F__law_next, k__law_next, b__law_next⟩ := C__law_next
  have nd := sc__law_value.nd
  have F0 : FnOk W.P W.w W.K mg base CX0 2 f fd ["_law_box_here", "_law_breadth"] (sp__law_value W) := by
    refine F.ok sc__law_value (fun vs H Q E h => ?_) (fun cdv A outer s H vs Q E hr h => ?_)
    · match vs, h with | [_, _], _ => rfl
    · match vs, h with
      | [v_box_here, v_breadth], h =>
        change sp__law_value W [v_box_here, v_breadth] H Q E at h
        refine ⟨tSeq (tAsg (tLst (tCons (tC (.int 0)) (tCons (tC (.int 1)) (tCons (tOp (rSubU) (tOp (rShlU) (tC (.int 1)) (tVar 1)) (tC (.int 1))) (tCons (tCall (sp__law_next W) [] E0 (tCons (tVar 0) (tCons (tOp (rShlU) (tC (.int 1)) (tVar 1)) (tNil)))) (tNil)))))) (gName 2)) (tRet (tOp (rModU) (tOp (rIxU W.K) (tVar 2) (tCall (sp__law_next W) [] E0 (tCons (tVar 0) (tCons (tC (.int 4)) (tNil))))) (tOp (rShlU) (tC (.int 1)) (tVar 1)))), pss_cons (ps_set (i := 2) nd rfl (.inl rfl) (pe_lst (pa_cons (pe_int) (pa_cons (pe_int) (pa_cons (pe_op u_sub (pe_op u_shl (pe_int) (pv 1)) (pe_int)) (pa_cons (pe_call F__law_next (hr.mono (by decide)) (by rfl) g__law_next k__law_next b__law_next .nil pass0 (pa_cons (pv 0) (pa_cons (pe_op u_shl (pe_int) (pv 1)) (pa_nil)))) (pa_nil))))))) (pss_one (ps_ret (pe_op u_mod (pe_ix u_ix (pv 2) (pe_call F__law_next (hr.mono (by decide)) (by rfl) g__law_next k__law_next b__law_next .nil pass0 (pa_cons (pv 0) (pa_cons (pe_int) (pa_nil)))) (fun _ _ => rfl)) (pe_op u_shl (pe_int) (pv 1))))), ?_⟩
        clear hr
        clear F__law_next g__law_next k__law_next b__law_next d__law_next a__law_next
        rw [show L2.start N__law_value [v_box_here, v_breadth] = [some v_box_here, some v_breadth, none] from rfl]
        obtain ⟨b, n, hp, rfl, hb0, hb1, hn, q⟩ := h
        have pb := p2_pos b
        have pl : p2 b < 1267650600228229401496703205376 := Int.lt_of_le_of_lt (p2_le (show b ≤ 60 by omega)) (by decide +kernel)
        walk_at "Zs"
        tbr_iter (fun _ => True)
        intro m _
        rename_i hbx _
        walk_at "Zs"
        refine q _ _ ?_ (Int.emod_nonneg _ (Int.ne_of_gt pb)) (Int.emod_lt_of_pos _ pb) (box_le (by omega) hbx)
        walk_at "Zkx"
  exact F0
theorem c__law_value {W : Wd} {mg : Str → Option Value} {base : Heap} (B : Bi mg) (S : Src W.K mg "_law_value" s__law_value) (T : Kl W.K mg) (C__law_next : Cal W mg base "_law_next" 1 ["_law_box_here", "_law_many"] (sp__law_next W)) : Cal W mg base "_law_value" 2 ["_law_box_here", "_law_breadth"] (sp__law_value W) := by
  obtain ⟨f, fd, g, F⟩ := S
  exact ⟨f, fd, g, f__law_value B F T C__law_next, F.kp, (F.binds (ps := ["_law_box_here", "_law_breadth"]) fun _ _ _ _ _ _ us hl => match us, hl with | [_, _], _ => rfl)⟩
theorem go__law_value {W : Wd} {H : Hp} {Q : VK} {E : XK} {v : V} {b n : Int} (hp : BoxAt W false n H v) (h0 : 0 ≤ b) (h1 : b ≤ 60) (hn : n ≤ 999999990) (q : ∀ (m : Int) H', Sx H H' → 0 ≤ m → m < p2 b → BoxAt W false (n + 2) H' v → Q (.int m) H') : sp__law_value W [v, .int b] H Q E := ⟨b, n, hp, rfl, h0, h1, hn, q⟩
local macro_rules | `(tactic| walk_at "Zc") => `(tactic| ((with_reducible refine' go__law_value ?hp ?h0 ?h1 ?hn ?_); (case hp => walk_at "Zbox"); (case h0 => walk_at "Znum"); (case h1 => walk_at "Znum"); (case hn => walk_at "Znum"); intro n H' e h0 h1 hb))
def sp__law_kind (W : Wd) : Sp := fun vs H Q _ => match vs with
  | [v_box_here, v_place, v_breadth] =>
  ∃ (pl : Nat) (b n : Int), BoxAt W false n H v_box_here ∧ v_place = .int pl ∧ pl ≤ 11 ∧ v_breadth = .int b ∧ 1 ≤ b ∧ b ≤ 40 ∧ n ≤ 999999900 ∧ ∀ (k : Kd) v H', Sx H H' → BoxAt W false (n + 10) H' v_box_here → Dq W.K H' v (kdD k) → OkKd pl b k → Q v H'
  | _ => False
abbrev N__law_kind : List Str := ["_law_box_here", "_law_place", "_law_breadth", "_law_way_here", "_law_many", "_law_first", "_law_step", "_law_times", "_law_k"]
theorem sc__law_kind : FnScope N__law_kind ["_law_box_here", "_law_place", "_law_breadth"] (defScope s__law_kind) := ⟨rfl, rfl, rfl, by decide +kernel, rfl, by decide +kernel, by decide +kernel⟩
theorem f__law_kind {W : Wd} {mg : Str → Option Value} {base : Heap} (B : Bi mg) {f : Addr} {fd : FuncData} (F : Fun W.K "_law_kind" "_law_kind" s__law_kind f fd) (T : Kl W.K mg) (C__law_of : Cal W mg base "_law_of" 2 ["_law_box_here", "_law_some"] (sp__law_of W)) (C__law_next : Cal W mg base "_law_next" 1 ["_law_box_here", "_law_many"] (sp__law_next W)) (C__law_value : Cal W mg base "_law_value" 2 ["_law_box_here", "_law_breadth"] (sp__law_value W)) : FnOk W.P W.w W.K mg base CX0 3 f fd ["_law_box_here", "_law_place", "_law_breadth"] (sp__law_kind W) := by
  obtain ⟨a__law_of, d__law_of, g__law_of, F__law_of, k__law_of, b__law_of⟩ := C__law_of
  obtain ⟨a__law_next, d__law_next, g__law_next, F__law_next, k__law_next, b__law_next⟩ := C__law_next
  obtain ⟨a__law_value, d__law_value, g__law_value, F__law_value, k__law_value, b__law_value⟩ := C__law_value
  have nd := sc__law_kind.nd
  have F0 : FnOk W.P W.w W.K mg base CX0 3 f fd ["_law_box_here", "_law_place", "_law_breadth"] (sp__law_kind W) := by
    refine F.ok sc__law_kind (fun vs H Q E h => ?_) (fun cdv A outer s H vs Q E hr h => ?_)
    · match vs, h with | [_, _, _], _ => rfl
    · match vs, h with
      | [v_box_here, v_place, v_breadth], h =>
        change sp__law_kind W [v_box_here, v_place, v_breadth] H Q E at h
        refine ⟨tSeq (tAsg (tCall (sp__law_next W) [] E0 (tCons (tVar 0) (tCons (tC (.int 8)) (tNil)))) (gName 3)) (tSeq (tIfS (tTest (tOp (rLtU W.K) (tVar 3) (tC (.int 2)))) (tRet (tTupN (tCons (tC (.str "still")) (tNil)))) (tNext)) (tSeq (tIfS (tTest (tOp (rLtU W.K) (tVar 3) (tC (.int 4)))) (tRet (tTupN (tCons (tC (.str "step")) (tCons (tCall (sp__law_value W) [] E0 (tCons (tVar 0) (tCons (tVar 2) (tNil)))) (tNil))))) (tNext)) (tSeq (tIfS (tTest (tOp (rEqU W.K) (tVar 3) (tC (.int 4)))) (tSeq (tAsg (tCB (rMin2) (tCons (tOp (rAddN W.K) (tC (.int 2)) (tCall (sp__law_next W) [] E0 (tCons (tVar 0) (tCons (tC (.int 11)) (tNil))))) (tCons (tOp (rShlU) (tC (.int 1)) (tVar 2)) (tNil)))) (gName 4)) (tSeq (tAsg (tTupN (tCons (tCall (sp__law_next W) [] E0 (tCons (tVar 0) (tCons (tOp (rShlU) (tC (.int 1)) (tVar 2)) (tNil)))) (tCons (tOp (rAddN W.K) (tOp (rMulN W.K) (tC (.int 2)) (tCall (sp__law_next W) [] E0 (tCons (tVar 0) (tCons (tC (.int 8)) (tNil))))) (tC (.int 1))) (tNil)))) (gTup W.K 2 (gCons (gName 5) (gCons (gName 6) (gNil))))) (tRet (tTupN (tCons (tC (.str "turn")) (tCons (tCB (rTupleOfN W.K) (tCons (tLc (iRng1 (tCons (tVar 4) (tNil))) (gName 8) (tYes) (tOp (rModU) (tOp (rAddN W.K) (tVar 5) (tOp (rMulN W.K) (tVar 6) (tVar 8))) (tOp (rShlU) (tC (.int 1)) (tVar 2))) [8]) (tNil))) (tNil))))))) (tNext)) (tSeq (tIfS (tAnd (tTest (tOp (rLtU W.K) (tVar 3) (tC (.int 7)))) (tTest (tOp (rGtU) (tVar 1) (tC (.int 0))))) (tSeq (tAsg (tLst (tCons (tC (.int 0)) (tCons (tC (.int 1)) (tCons (tUn (rU fun i => .int (-i)) (tC (.int 1))) (tCons (tC (.int 3)) (tCons (tC (.int 99)) (tCons (tUn (rU fun i => .int (-i)) (tC (.int 99))) (tCons (tOp (rSubU) (tCall (sp__law_next W) [] E0 (tCons (tVar 0) (tCons (tC (.int 199)) (tNil)))) (tC (.int 99))) (tNil))))))))) (gName 7)) (tRet (tTupN (tCons (tC (.str "with")) (tCons (tCall (sp__law_next W) [] E0 (tCons (tVar 0) (tCons (tVar 1) (tNil)))) (tCons (tCall (sp__law_of W) [] E0 (tCons (tVar 0) (tCons (tVar 7) (tNil)))) (tNil))))))) (tNext)) (tRet (tTupN (tCons (tC (.str "drawn")) (tNil)))))))), pss_cons (ps_set (i := 3) nd rfl (.inl rfl) (pe_call F__law_next (hr.mono (by decide)) (by rfl) g__law_next k__law_next b__law_next .nil pass0 (pa_cons (pv 0) (pa_cons (pe_int) (pa_nil))))) (pss_cons (ps_if (pt_cmpR u_lt (pv 3) (pe_int) (nomark _)) (pss_one (ps_ret (pe_tupN (pa_cons (pe_str) (pa_nil))))) (pss_nil)) (pss_cons (ps_if (pt_cmpR u_lt (pv 3) (pe_int) (nomark _)) (pss_one (ps_ret (pe_tupN (pa_cons (pe_str) (pa_cons (pe_call F__law_value (hr.mono (by decide)) (by rfl) g__law_value k__law_value b__law_value .nil pass0 (pa_cons (pv 0) (pa_cons (pv 2) (pa_nil)))) (pa_nil)))))) (pss_nil)) (pss_cons (ps_if (pt_cmpR (u_eq hr.units) (pv 3) (pe_int) (nomark _)) (pss_cons (ps_set (i := 4) nd rfl (.inl rfl) (pe_callB (call_min2 rfl) (by rfl) B.b_min (by decide +kernel) (pa_cons (pe_op u_addN (pe_int) (pe_call F__law_next (hr.mono (by decide)) (by rfl) g__law_next k__law_next b__law_next .nil pass0 (pa_cons (pv 0) (pa_cons (pe_int) (pa_nil))))) (pa_cons (pe_op u_shl (pe_int) (pv 2)) (pa_nil))))) (pss_cons (ps_asg (pe_tupN (pa_cons (pe_call F__law_next (hr.mono (by decide)) (by rfl) g__law_next k__law_next b__law_next .nil pass0 (pa_cons (pv 0) (pa_cons (pe_op u_shl (pe_int) (pv 2)) (pa_nil)))) (pa_cons (pe_op u_addN (pe_op u_mulN (pe_int) (pe_call F__law_next (hr.mono (by decide)) (by rfl) g__law_next k__law_next b__law_next .nil pass0 (pa_cons (pv 0) (pa_cons (pe_int) (pa_nil))))) (pe_int)) (pa_nil)))) (pg_tup rfl (pgs_cons (pg_name (i := 5) nd rfl (by first | exact Or.inl rfl | exact Or.inr rfl)) (pgs_cons (pg_name (i := 6) nd rfl (by first | exact Or.inl rfl | exact Or.inr rfl)) (pgs_nil))))) (pss_one (ps_ret (pe_tupN (pa_cons (pe_str) (pa_cons (pe_callTy call_tuple_ofN (by rfl) B.b_tuple (by decide +kernel) (pa_cons (pe_lc (own := [("_law_k", 8)]) rfl nd (pi_range1 (by rfl) B.b_range (pa_cons (pv 4) (pa_nil))) (blkOk_by (own := [("_law_k", 8)]) (N := N__law_kind) (sc := defScope s__law_kind) (by decide +kernel)) (fun _ _ _ _ _ => pg_name (i := 8) nd rfl (by first | exact Or.inl rfl | exact Or.inr rfl)) (fun _ _ _ _ _ => pts_nil) (fun _ _ _ _ _ => pe_op u_mod (pe_op u_addN (pv 5) (pe_op u_mulN (pv 6) (pv 8))) (pe_op u_shl (pe_int) (pv 2)))) (pa_nil))) (pa_nil)))))))) (pss_nil)) (pss_cons (ps_if (PW.pt (pw_and (pt_cmpR u_lt (pv 3) (pe_int) (nomark _)) (pw_and1 (pt_cmpR u_gt (pv 1) (pe_int) (nomark _))))) (pss_cons (ps_set (i := 7) nd rfl (.inl rfl) (pe_lst (pa_cons (pe_int) (pa_cons (pe_int) (pa_cons (pe_un un_neg (pe_int)) (pa_cons (pe_int) (pa_cons (pe_int) (pa_cons (pe_un un_neg (pe_int)) (pa_cons (pe_op u_sub (pe_call F__law_next (hr.mono (by decide)) (by rfl) g__law_next k__law_next b__law_next .nil pass0 (pa_cons (pv 0) (pa_cons (pe_int) (pa_nil)))) (pe_int)) (pa_nil)))))))))) (pss_one (ps_ret (pe_tupN (pa_cons (pe_str) (pa_cons (pe_call F__law_next (hr.mono (by decide)) (by rfl) g__law_next k__law_next b__law_next .nil pass0 (pa_cons (pv 0) (pa_cons (pv 1) (pa_nil)))) (pa_cons (pe_call F__law_of (hr.mono (by decide)) (by rfl) g__law_of k__law_of b__law_of .nil pass0 (pa_cons (pv 0) (pa_cons (pv 7) (pa_nil)))) (pa_nil)))))))) (pss_nil)) (pss_one (ps_ret (pe_tupN (pa_cons (pe_str) (pa_nil))))))))), ?_⟩
        clear hr
        clear F__law_of g__law_of k__law_of b__law_of d__law_of a__law_of
        clear F__law_next g__law_next k__law_next b__law_next d__law_next a__law_next
        clear F__law_value g__law_value k__law_value b__law_value d__law_value a__law_value
        rw [show L2.start N__law_kind [v_box_here, v_place, v_breadth] = [some v_box_here, some v_place, some v_breadth, none, none, none, none, none, none] from rfl]
        obtain ⟨pl, b, n, hp, rfl, hpl, rfl, hb0, hb1, hn, q⟩ := h
        have pb := p2_pos b
        have pb2 : 2 ≤ p2 b := p2_le (m := 1) hb0
        have pbl : p2 b < 1267650600228229401496703205376 := Int.lt_of_le_of_lt (p2_le (show b ≤ 40 by omega)) (by decide +kernel)
        walk_at "Zs"
        rename_i way G1 f1 w0 w1 b1
        refine w_dec (fun c1 => ?_) (fun c1 => ?_)
        · walk_at "Zs"
          rename_i p2' G2 np2 f2 h2
          exact q .still _ _ (f1.trans (Same.sx f2)) (box_mono f2 (box_le (by omega) b1)) (dq_new h2 (dqs_one (.str _))) trivial
        · walk_at "Zs"
          refine w_dec (fun c2 => ?_) (fun c2 => ?_)
          · walk_at "Zs"
            rename_i m G2 f2 m0 m1 b2 p3 G3 np3 f3 h3
            exact q (.step m) _ _ (f1.trans (f2.trans (Same.sx f3))) (box_mono f3 (box_le (by omega) b2)) (dq_new h3 (dqs_two (.str _) (.int _))) ⟨m0, m1⟩
          · walk_at "Zs"
            refine w_dec (fun c3 => ?_) (fun c3 => ?_)
            · walk_at "Zs"
              rename_i d2 G2 f2 h2 h2' b2 fst G3 f3 h3 h3' b3 d4 G4 f4 h4 h4' b4 p5 G5 n5 f5 h5
              have hm : 2 ≤ (if p2 b < 2 + d2 then p2 b else 2 + d2) ∧ (if p2 b < 2 + d2 then p2 b else 2 + d2) ≤ p2 b ∧ (if p2 b < 2 + d2 then p2 b else 2 + d2) ≤ 12 := by split <;> omega
              generalize (if p2 b < 2 + d2 then p2 b else 2 + d2) = m at hm
              walk_at "Zs"
              refine lcR (n := m.toNat) (fun i acc _ => ∃ ns : List Int, acc = ns.map V.int ∧ ns.length = i ∧ ns.Nodup ∧ ∀ n ∈ ns, ∃ j : Int, 0 ≤ j ∧ j < i ∧ n = (fst + (2 * d4 + 1) * j) % p2 b) stb_pure (by omega) (fun i acc _ h => ?_) (fun _ _ => ⟨[], rfl, rfl, .nil, fun _ h => nomatch h⟩) (fun i acc H' hi e6 ea k k' hk hk' => ?_) fun D acc H6 hD e6 hD' ea => ?_
              · obtain ⟨ns, rfl, h, _⟩ := h
                rw [List.length_map, h]
                exact Nat.le_refl _
              · obtain ⟨ns, rfl, hl, hn', hj⟩ := ea
                walk_at "Zs"
                refine hk _ _ (Same.refl _) ⟨ns ++ [_], by rw [List.map_append]; rfl, by rw [List.length_append, hl]; rfl, ?_, fun n hn2 => ?_⟩
                · rw [List.nodup_append]
                  refine ⟨hn', by simp, fun y hy w hw e => ?_⟩
                  rw [List.mem_singleton.mp hw] at e
                  obtain ⟨j, j0, j1, ej⟩ := hj y hy
                  rw [ej] at e
                  exact turn_neF (by omega) j0 j1 (by omega) e
                · rcases List.mem_append.mp hn2 with hn2 | hn2
                  · obtain ⟨j, j0, j1, ej⟩ := hj n hn2
                    exact ⟨j, j0, by omega, ej⟩
                  · rw [List.mem_singleton.mp hn2]
                    exact ⟨i, by omega, by omega, rfl⟩
              · obtain ⟨ns, rfl, hl, hn', hj⟩ := ea
                walk_at "Zs"
                refine w_tupleN (SqL.of hD') fun p H7 np e7 hT => ?_
                walk_at "Zs"
                rename_i p8 G8 np8 f8 h8
                refine q (.turn ns) _ _ (f1.trans (f2.trans (f3.trans (f4.trans (Same.sx (f5.trans (e6.trans (e7.trans f8)))))))) (box_mono (f5.trans (e6.trans (e7.trans f8))) (box_le (by omega) b4)) (dq_new h8 (dqs_two (.str _) (dq_mono f8 (dq_ofN hT)))) ⟨by omega, by omega, fun n hn2 => ?_, hn'⟩
                obtain ⟨j, _, _, rfl⟩ := hj n hn2
                exact ⟨Int.emod_nonneg _ (by omega), Int.emod_lt_of_pos _ pb⟩
            · walk_at "Zs"
              refine w_dec (fun c4 => ?_) (fun c4 => ?_)
              · walk_at "Zs"
                refine w_dec (fun c5 => ?_) (fun c5 => ?_)
                · walk_at "Zs"
                  rename_i d2 G2 f2 h2 h2' b2 p3 G3 n3 f3 h3 d4 G4 f4 h4 h4' b4
                  refine go__law_ofI (fun n => -99 ≤ n ∧ n ≤ 99) b4 (SqL.of (f4.keep _ _ h3 rfl)) (by omega) (by show 0 < 7; decide) (by show 7 ≤ 1000000; decide) (by walk_at "Zisi") fun x G5 hx f5 b5 => ?_
                  walk_at "Zs"
                  rename_i p9 G9 np9 f9 h9
                  exact q (.wth d4 x) _ _ (f1.trans (f2.trans ((Same.sx f3).trans (f4.trans (f5.trans (Same.sx f9)))))) (box_mono f9 (box_le (by omega) b5)) (dq_new h9 (.cons (.str _) (dqs_two (.int _) (.int x)))) ⟨h4, h4', hx⟩
                · walk_at "Zs"
                  rename_i p2' G2 np2 f2 h2
                  exact q .drawn _ _ (f1.trans (Same.sx f2)) (box_mono f2 (box_le (by omega) b1)) (dq_new h2 (dqs_one (.str _))) trivial
              · walk_at "Zs"
                rename_i p2' G2 np2 f2 h2
                exact q .drawn _ _ (f1.trans (Same.sx f2)) (box_mono f2 (box_le (by omega) b1)) (dq_new h2 (dqs_one (.str _))) trivial
  exact F0
theorem c__law_kind {W : Wd} {mg : Str → Option Value} {base : Heap} (B : Bi mg) (S : Src W.K mg "_law_kind" s__law_kind) (T : Kl W.K mg) (C__law_of : Cal W mg base "_law_of" 2 ["_law_box_here", "_law_some"] (sp__law_of W)) (C__law_next : Cal W mg base "_law_next" 1 ["_law_box_here", "_law_many"] (sp__law_next W)) (C__law_value : Cal W mg base "_law_value" 2 ["_law_box_here", "_law_breadth"] (sp__law_value W)) : Cal W mg base "_law_kind" 3 ["_law_box_here", "_law_place", "_law_breadth"] (sp__law_kind W) := by
  obtain ⟨f, fd, g, F⟩ := S
  exact ⟨f, fd, g, f__law_kind B F T C__law_of C__law_next C__law_value, F.kp, (F.binds (ps := ["_law_box_here", "_law_place", "_law_breadth"]) fun _ _ _ _ _ _ us hl => match us, hl with | [_, _, _], _ => rfl)⟩
theorem go__law_kind {W : Wd} {H : Hp} {Q : VK} {E : XK} {v : V} {pl : Nat} {b n : Int} (hp : BoxAt W false n H v) (hpl : pl ≤ 11) (h0 : 1 ≤ b) (h1 : b ≤ 40) (hn : n ≤ 999999900) (q : ∀ (k : Kd) u H', Sx H H' → BoxAt W false (n + 10) H' v → Dq W.K H' u (kdD k) → OkKd pl b k → Q u H') : sp__law_kind W [v, .int (pl : Int), .int b] H Q E := ⟨pl, b, n, hp, rfl, hpl, rfl, h0, h1, hn, q⟩
theorem af_at : ∀ n : Fin 26, atI (("abcdefghijklmnopqrstuvwxyz" : Str).cps.toList) ((n.val : Nat) : Int) = some (97 + n.val) := by decide +kernel
theorem nm_mul {c : Nat} {k : Int} (h0 : 97 ≤ c) (h1 : c ≤ 122) (k0 : 1 ≤ k) (k1 : k ≤ 8) : OkNm (Txt.mul ⟨#[c]⟩ k) ∧ (cz (Txt.mul ⟨#[c]⟩ k)).head? = some c := by
  have e : cz (Txt.mul ⟨#[c]⟩ k) = List.replicate k.toNat c := by
    rw [cz_mul]
    show (List.replicate k.toNat [c]).flatten = _
    induction k.toNat with
    | zero => rfl
    | succ n ih => rw [List.replicate_succ, List.flatten_cons, ih, List.replicate_succ]; rfl
  have l : (Txt.mul ⟨#[c]⟩ k).length = k.toNat := by rw [← cz_len, e, List.length_replicate]
  refine ⟨⟨by omega, by omega, fun x hx => ?_⟩, ?_⟩
  · rw [show (Txt.mul ⟨#[c]⟩ k).cps.toList = List.replicate k.toNat c from e] at hx
    rw [List.eq_of_mem_replicate hx]
    exact ⟨h0, h1⟩
  · rw [e]
    obtain ⟨m, hm⟩ : ∃ m, k.toNat = m + 1 := ⟨k.toNat - 1, by omega⟩
    rw [hm]
    rfl
def FdL (a j : Nat) (f : Fd) : Prop := OkFd j f ∧ (cz f.nm).head? = some (97 + (a + 3 * j) % 26)
theorem fdl_nodup {a0 : Nat} {fs : List Fd} (hl : fs.length ≤ 12) (h : ∀ j f, fs[j]? = some f → FdL a0 j f) : (fs.map Fd.nm).Nodup := by
  refine List.pairwise_iff_getElem.mpr fun i j hi hj hij e => ?_
  rw [List.getElem_map, List.getElem_map] at e
  rw [List.length_map] at hi hj
  have a := (h i _ (List.getElem?_eq_getElem hi)).2
  have b := (h j _ (List.getElem?_eq_getElem hj)).2
  rw [e, b] at a
  have z := Option.some.inj a
  omega
theorem fdl_snoc {a0 : Nat} {fs : List Fd} {i : Nat} {f : Fd} (h : ∀ j f, fs[j]? = some f → FdL a0 j f) (hl : fs.length = i) (hf : FdL a0 i f) : ∀ j g, (fs ++ [f])[j]? = some g → FdL a0 j g := fun j g hj => by
  by_cases hj2 : j < fs.length
  · rw [List.getElem?_append_left hj2] at hj
    exact h j g hj
  · rw [List.getElem?_append_right (by omega)] at hj
    have e : j = fs.length := by
      by_cases c : j - fs.length = 0
      · omega
      · rw [List.getElem?_eq_none (by simp; omega)] at hj
        cases hj
    subst e
    rw [Nat.sub_self] at hj
    rw [← Option.some.inj hj, hl]
    exact hf
def sp__law_shape (W : Wd) : Sp := fun vs H Q _ => match vs with
  | [v_box_here, v_most] =>
  ∃ n k : Int, BoxAt W false n H v_box_here ∧ n ≤ 999990000 ∧ v_most = .int k ∧ 1 ≤ k ∧ k ≤ 12 ∧ ∀ (s : Shp) v H', Sx H H' → BoxAt W false (n + 210) H' v_box_here → Dq W.K H' v (shD s) → OkShp s → (s.fs.length : Int) ≤ k → Q v H'
  | _ => False
abbrev N__law_shape : List Str := ["_law_box_here", "_law_most", "_law_letters", "_law_first", "_law_fields", "_law_place", "_law_breadth", "_law_name"]
theorem sc__law_shape : FnScope N__law_shape ["_law_box_here", "_law_most"] (defScope s__law_shape) := ⟨rfl, rfl, rfl, by decide +kernel, rfl, by decide +kernel, by decide +kernel⟩
theorem f__law_shape {W : Wd} {mg : Str → Option Value} {base : Heap} (B : Bi mg) {f : Addr} {fd : FuncData} (F : Fun W.K "_law_shape" "_law_shape" s__law_shape f fd) (T : Kl W.K mg) (C__law_of : Cal W mg base "_law_of" 2 ["_law_box_here", "_law_some"] (sp__law_of W)) (C__law_next : Cal W mg base "_law_next" 1 ["_law_box_here", "_law_many"] (sp__law_next W)) (C__law_kind : Cal W mg base "_law_kind" 3 ["_law_box_here", "_law_place", "_law_breadth"] (sp__law_kind W)) : FnOk W.P W.w W.K mg base CX0 4 f fd ["_law_box_here", "_law_most"] (sp__law_shape W) := by
  obtain ⟨a__law_of, d__law_of, g__law_of, F__law_of, k__law_of, b__law_of⟩ := C__law_of
  obtain ⟨a__law_next, d__law_next, g__law_next, F__law_next, k__law_next, b__law_next⟩ := C__law_next
  obtain ⟨a__law_kind, d__law_kind, g__law_kind, F__law_kind, k__law_kind, b__law_kind⟩ := C__law_kind
  have nd := sc__law_shape.nd
  have F0 : FnOk W.P W.w W.K mg base CX0 4 f fd ["_law_box_here", "_law_most"] (sp__law_shape W) := by
    refine F.ok sc__law_shape (fun vs H Q E h => ?_) (fun cdv A outer s H vs Q E hr h => ?_)
    · match vs, h with | [_, _], _ => rfl
    · match vs, h with
      | [v_box_here, v_most], h =>
        change sp__law_shape W [v_box_here, v_most] H Q E at h
        refine ⟨tSeq (tAsg (tC (.str "abcdefghijklmnopqrstuvwxyz")) (gName 2)) (tSeq (tPar 3 4 (tCons (tCall (sp__law_next W) [] E0 (tCons (tVar 0) (tCons (tC (.int 26)) (tNil)))) (tCons (tLst (tNil)) (tNil)))) (tSeq (tFor (iRng1 (tCons (tOp (rAddN W.K) (tC (.int 1)) (tCall (sp__law_next W) [] E0 (tCons (tVar 0) (tCons (tVar 1) (tNil))))) (tNil))) (gName 5) (tSeq (tAsg (tCall (sp__law_of W) [] E0 (tCons (tVar 0) (tCons (tLst (tCons (tC (.int 1)) (tCons (tC (.int 2)) (tCons (tC (.int 3)) (tCons (tC (.int 4)) (tCons (tC (.int 5)) (tCons (tC (.int 8)) (tCons (tC (.int 16)) (tCons (tC (.int 40)) (tNil)))))))))) (tNil)))) (gName 6)) (tSeq (tAsg (tOp (rMulN W.K) (tOp (rIxU W.K) (tVar 2) (tOp (rModU) (tOp (rAddN W.K) (tVar 3) (tOp (rMulN W.K) (tC (.int 3)) (tVar 5))) (tC (.int 26)))) (tOp (rAddN W.K) (tC (.int 1)) (tOp (rModU) (tOp (rAddN W.K) (tVar 3) (tVar 5)) (tC (.int 8))))) (gName 7)) (tDrop (tBM W.K "list" rAppend (tVar 4) (tCons (tTupN (tCons (tVar 7) (tCons (tVar 6) (tCons (tCall (sp__law_kind W) [] E0 (tCons (tVar 0) (tCons (tVar 5) (tCons (tVar 6) (tNil))))) (tNil))))) (tNil))))))) (tRet (tTupN (tCons (tCB (rTupleOfN W.K) (tCons (tVar 4) (tNil))) (tCons (tCall (sp__law_of W) [] E0 (tCons (tVar 0) (tCons (tLst (tCons (tC (.int 1)) (tCons (tC (.int 2)) (tCons (tC (.int 7)) (tCons (tC (.int 16)) (tCons (tC (.int 251)) (tCons (tC (.int 1000)) (tCons (tC (.int 999983)) (tCons (tOp (rCon 10 6 1000000) (tC (.int 10)) (tC (.int 6))) (tNil)))))))))) (tNil)))) (tNil))))))), pss_cons (ps_set (i := 2) nd rfl (.inl rfl) (pe_str)) (pss_cons (ps_par (by rfl) nd rfl rfl (by decide) rfl rfl (pa_cons (pe_call F__law_next (hr.mono (by decide)) (by rfl) g__law_next k__law_next b__law_next .nil pass0 (pa_cons (pv 0) (pa_cons (pe_int) (pa_nil)))) (pa_cons (pe_lst (pa_nil)) (pa_nil))) (by rfl)) (pss_cons (ps_for PassesOwn.never rfl (pi_range1 (by rfl) B.b_range (pa_cons (pe_op u_addN (pe_int) (pe_call F__law_next (hr.mono (by decide)) (by rfl) g__law_next k__law_next b__law_next .nil pass0 (pa_cons (pv 0) (pa_cons (pv 1) (pa_nil))))) (pa_nil))) (pg_name (i := 5) nd rfl (by first | exact Or.inl rfl | exact Or.inr rfl)) (pss_cons (ps_set (i := 6) nd rfl (.inl rfl) (pe_call F__law_of (hr.mono (by decide)) (by rfl) g__law_of k__law_of b__law_of .nil pass0 (pa_cons (pv 0) (pa_cons (pe_lst (pa_cons (pe_int) (pa_cons (pe_int) (pa_cons (pe_int) (pa_cons (pe_int) (pa_cons (pe_int) (pa_cons (pe_int) (pa_cons (pe_int) (pa_cons (pe_int) (pa_nil)))))))))) (pa_nil))))) (pss_cons (ps_set (i := 7) nd rfl (.inl rfl) (pe_op u_mulN (pe_ix u_ix (pv 2) (pe_op u_mod (pe_op u_addN (pv 3) (pe_op u_mulN (pe_int) (pv 5))) (pe_int)) (fun _ _ => rfl)) (pe_op u_addN (pe_int) (pe_op u_mod (pe_op u_addN (pv 3) (pv 5)) (pe_int))))) (pss_one (ps_expr (pe_bm PySem.F.plainAttrs_list PySem.F.slot_list_append PySem.F.type_list_append mt_append (pv 4) (pa_cons (pe_tupN (pa_cons (pv 7) (pa_cons (pv 6) (pa_cons (pe_call F__law_kind (hr.mono (by decide)) (by rfl) g__law_kind k__law_kind b__law_kind .nil pass0 (pa_cons (pv 0) (pa_cons (pv 5) (pa_cons (pv 6) (pa_nil))))) (pa_nil))))) (pa_nil)))))))) (pss_one (ps_ret (pe_tupN (pa_cons (pe_callTy call_tuple_ofN (by rfl) B.b_tuple (by decide +kernel) (pa_cons (pv 4) (pa_nil))) (pa_cons (pe_call F__law_of (hr.mono (by decide)) (by rfl) g__law_of k__law_of b__law_of .nil pass0 (pa_cons (pv 0) (pa_cons (pe_lst (pa_cons (pe_int) (pa_cons (pe_int) (pa_cons (pe_int) (pa_cons (pe_int) (pa_cons (pe_int) (pa_cons (pe_int) (pa_cons (pe_int) (pa_cons (pe_op (u_powc ⟨by decide, by decide, by decide⟩ (by decide +kernel)) pe_int pe_int) (pa_nil)))))))))) (pa_nil)))) (pa_nil)))))))), ?_⟩
        clear hr
        clear F__law_of g__law_of k__law_of b__law_of d__law_of a__law_of
        clear F__law_next g__law_next k__law_next b__law_next d__law_next a__law_next
        clear F__law_kind g__law_kind k__law_kind b__law_kind d__law_kind a__law_kind
        rw [show L2.start N__law_shape [v_box_here, v_most] = [some v_box_here, some v_most, none, none, none, none, none, none] from rfl]
        obtain ⟨n, k, hp, hn, rfl, k0, k1, q⟩ := h
        walk_at "Zs"
        rename_i fst G1 f1 w0 w1 b1 D G2 nD f2 hD2 d3 G3 f3 h3 h3' b3
        obtain ⟨a0, rfl⟩ : ∃ a0 : Nat, fst = a0 := ⟨fst.toNat, by omega⟩
        have HD : H D = none := none_sx f1 nD
        have S3 : Sx H G3 := f1.trans ((Same.sx f2).trans f3)
        refine forR0 (fun i σ' H' => (∃ y5 y6 y7, σ' = [some v_box_here, some (.int k), some (.str "abcdefghijklmnopqrstuvwxyz"), some (.int (a0 : Int)), some (.ref D), y5, y6, y7]) ∧ Sx H H' ∧ BoxAt W false (n + 2 + 16 * (i : Int)) H' v_box_here ∧ ∃ (fs : List Fd) (vs : List V), H' D = some (.lst vs) ∧ DqAll W.K H' vs (fs.map fdD) ∧ fs.length = i ∧ ∀ j f, fs[j]? = some f → FdL a0 j f) ⟨⟨_, _, _, rfl⟩, S3, box_le (by omega) b3, [], [], f3.keep _ _ hD2 rfl, .nil, rfl, fun j f h => by simp at h⟩ (fun i σ' H1 hi h => ?_) (fun σ' H1 h => ?_)
        · obtain ⟨⟨y5, y6, y7, rfl⟩, S1, b1, fs, vs, hD, hvs, hfl, hok⟩ := h
          walk_at "Zs"
          rename_i p4 G4 n4 f4 h4
          refine go__law_ofI (fun n => 1 ≤ n ∧ n ≤ 40) (box_mono f4 b1) (SqL.of h4) (by omega) (by show 0 < 8; decide) (by show 8 ≤ 1000000; decide) (by walk_at "Zisi") fun br G5 hbr f5 b5 => ?_
          walk_at "Zn"
          have hix : ((a0 : Int) + 3 * (i : Int)) % 26 = (((a0 + 3 * i) % 26 : Nat) : Int) := by omega
          rw [hix]
          refine w_ixs (by decide) (af_at ⟨(a0 + 3 * i) % 26, Nat.mod_lt _ (by decide)⟩) ?_
          walk_at "Zn"
          have hnm := nm_mul (c := 97 + (a0 + 3 * i) % 26) (k := 1 + ((a0 : Int) + (i : Int)) % 8) (by omega) (by omega) (by omega) (by omega)
          refine w_mulNs (mul_ok (by omega) (by omega) (show (1 : Nat) ≤ 8 by decide)) ?_
          walk_at "Zs"
          have e15 : Sx H1 G5 := (Same.sx f4).trans f5
          refine w_tyL (e15.keep _ _ hD rfl) ?_
          walk_at "Zs"
          refine go__law_kind b5 (by omega) hbr.1 hbr.2 (by omega) fun kd kv GD fD bD hkd hk => ?_
          walk_at "Zs"
          rename_i pA GA npA fA hA
          have zA : Sx H1 GA := e15.trans (fD.trans (Same.sx fA))
          have hDA := zA.keep _ _ hD rfl
          have lv := dqs_len hvs
          rw [List.length_map] at lv
          refine w_append hDA (by omega) ?_
          walk_at "Zs"
          have hf : Dq W.K GA (.ref pA) (fdD ⟨Txt.mul ⟨#[97 + (a0 + 3 * i) % 26]⟩ (1 + ((a0 : Int) + (i : Int)) % 8), br, kd⟩) := dq_new hA (.cons (.str _) (dqs_two (.int br) (dq_mono fA hkd)))
          refine ⟨⟨_, _, _, rfl⟩, sx_mut (S1.trans zA) HD, box_lst (box_mono fA (box_le (by omega) bD)) hDA, fs ++ [⟨Txt.mul ⟨#[97 + (a0 + 3 * i) % 26]⟩ (1 + ((a0 : Int) + (i : Int)) % 8), br, kd⟩], vs ++ [.ref pA], upd_same, ?_, by rw [List.length_append, hfl]; rfl, fdl_snoc hok hfl ⟨⟨hnm.1, hbr.1, hbr.2, hk⟩, hnm.2⟩⟩
          rw [List.map_append]
          refine dqs_lst hDA (dqs_app (dqsx zA hvs) (dqs_one hf)) ?_
          rw [← List.map_append]
          exact tupO_fds _
        · obtain ⟨⟨y5, y6, y7, rfl⟩, S1, b1, fs, vs, hD, hvs, hfl, hok⟩ := h
          walk_at "Zs"
          refine w_tupleN (SqL.of hD) fun p6 G6 np6 f6 h6 => ?_
          walk_at "Zs"
          rename_i p7 G7 n7 f7 h7
          refine go__law_ofI (fun n => 1 ≤ n ∧ n ≤ 1000000) (box_mono (f6.trans f7) b1) (SqL.of h7) (by omega) (by show 0 < 8; decide) (by show 8 ≤ 1000000; decide) (by walk_at "Zisi") fun m2 G8 hm2 f8 b8 => ?_
          walk_at "Zs"
          rename_i pA GA npA fA hA
          have z6 : Sx G6 GA := (Same.sx f7).trans (f8.trans (Same.sx fA))
          have lfs : fs.length ≤ 12 := by omega
          refine q ⟨fs, m2⟩ _ _ (S1.trans ((Same.sx f6).trans z6)) (box_mono fA (box_le (by omega) b8)) (dq_new hA (dqs_two (.tup (sx_n z6 (.inl h6)) (dqsx ((Same.sx f6).trans z6) hvs)) (.int m2))) ⟨?_, lfs, fun j f hj => (hok j f hj).1, fdl_nodup lfs hok, hm2.1, hm2.2⟩ ?_
          · show 1 ≤ fs.length
            omega
          · show (fs.length : Int) ≤ k
            omega
  exact F0
theorem c__law_shape {W : Wd} {mg : Str → Option Value} {base : Heap} (B : Bi mg) (S : Src W.K mg "_law_shape" s__law_shape) (T : Kl W.K mg) (C__law_of : Cal W mg base "_law_of" 2 ["_law_box_here", "_law_some"] (sp__law_of W)) (C__law_next : Cal W mg base "_law_next" 1 ["_law_box_here", "_law_many"] (sp__law_next W)) (C__law_kind : Cal W mg base "_law_kind" 3 ["_law_box_here", "_law_place", "_law_breadth"] (sp__law_kind W)) : Cal W mg base "_law_shape" 4 ["_law_box_here", "_law_most"] (sp__law_shape W) := by
  obtain ⟨f, fd, g, F⟩ := S
  exact ⟨f, fd, g, f__law_shape B F T C__law_of C__law_next C__law_kind, F.kp, (F.binds (ps := ["_law_box_here", "_law_most"]) fun _ _ _ _ _ _ us hl => match us, hl with | [_, _], _ => rfl)⟩
theorem go__law_shape {W : Wd} {H : Hp} {Q : VK} {E : XK} {v : V} {n k : Int} (hp : BoxAt W false n H v) (hn : n ≤ 999990000) (k0 : 1 ≤ k) (k1 : k ≤ 12) (q : ∀ (s : Shp) u H', Sx H H' → BoxAt W false (n + 210) H' v → Dq W.K H' u (shD s) → OkShp s → (s.fs.length : Int) ≤ k → Q u H') : sp__law_shape W [v, .int k] H Q E := ⟨n, k, hp, hn, rfl, k0, k1, q⟩
def sp__law_way (W : Wd) : Sp := fun vs H Q _ => match vs with
  | [v_box_here, v_breadth] =>
  ∃ b n : Int, BoxAt W false n H v_box_here ∧ v_breadth = .int b ∧ 1 ≤ b ∧ b ≤ 40 ∧ n ≤ 999999900 ∧ ∀ (w : Wy) v H', Sx H H' → BoxAt W false (n + 5) H' v_box_here → Dq W.K H' v (wyD w) → OkWy b w → Q v H'
  | _ => False
abbrev N__law_way : List Str := ["_law_box_here", "_law_breadth", "_law_way_here", "_law_width"]
theorem sc__law_way : FnScope N__law_way ["_law_box_here", "_law_breadth"] (defScope s__law_way) := ⟨rfl, rfl, rfl, by decide +kernel, rfl, by decide +kernel, by decide +kernel⟩
theorem f__law_way {W : Wd} {mg : Str → Option Value} {base : Heap} (B : Bi mg) {f : Addr} {fd : FuncData} (F : Fun W.K "_law_way" "_law_way" s__law_way f fd) (T : Kl W.K mg) (C__law_value : Cal W mg base "_law_value" 2 ["_law_box_here", "_law_breadth"] (sp__law_value W)) (C__law_next : Cal W mg base "_law_next" 1 ["_law_box_here", "_law_many"] (sp__law_next W)) : FnOk W.P W.w W.K mg base CX0 3 f fd ["_law_box_here", "_law_breadth"] (sp__law_way W) := by
  obtain ⟨a__law_value, d__law_value, g__law_value, F__law_value, k__law_value, b__law_value⟩ := C__law_value
  obtain ⟨a__law_next, d__law_next, g__law_next, F__law_next, k__law_next, b__law_next⟩ := C__law_next
  have nd := sc__law_way.nd
  have F0 : FnOk W.P W.w W.K mg base CX0 3 f fd ["_law_box_here", "_law_breadth"] (sp__law_way W) := by
    refine F.ok sc__law_way (fun vs H Q E h => ?_) (fun cdv A outer s H vs Q E hr h => ?_)
    · match vs, h with | [_, _], _ => rfl
    · match vs, h with
      | [v_box_here, v_breadth], h =>
        change sp__law_way W [v_box_here, v_breadth] H Q E at h
        refine ⟨tSeq (tAsg (tCall (sp__law_next W) [] E0 (tCons (tVar 0) (tCons (tC (.int 5)) (tNil)))) (gName 2)) (tSeq (tIfS (tTest (tOp (rLtU W.K) (tVar 2) (tC (.int 3)))) (tRet (tTupN (tCons (tC (.str "keep")) (tNil)))) (tNext)) (tSeq (tIfS (tTest (tOp (rEqU W.K) (tVar 2) (tC (.int 3)))) (tRet (tTupN (tCons (tC (.str "whole")) (tNil)))) (tNext)) (tSeq (tAsg (tOp (rAddN W.K) (tC (.int 1)) (tCall (sp__law_next W) [] E0 (tCons (tVar 0) (tCons (tVar 1) (tNil))))) (gName 3)) (tRet (tTupN (tCons (tC (.str "low")) (tCons (tVar 3) (tCons (tCall (sp__law_value W) [] E0 (tCons (tVar 0) (tCons (tVar 3) (tNil)))) (tNil))))))))), pss_cons (ps_set (i := 2) nd rfl (.inl rfl) (pe_call F__law_next (hr.mono (by decide)) (by rfl) g__law_next k__law_next b__law_next .nil pass0 (pa_cons (pv 0) (pa_cons (pe_int) (pa_nil))))) (pss_cons (ps_if (pt_cmpR u_lt (pv 2) (pe_int) (nomark _)) (pss_one (ps_ret (pe_tupN (pa_cons (pe_str) (pa_nil))))) (pss_nil)) (pss_cons (ps_if (pt_cmpR (u_eq hr.units) (pv 2) (pe_int) (nomark _)) (pss_one (ps_ret (pe_tupN (pa_cons (pe_str) (pa_nil))))) (pss_nil)) (pss_cons (ps_set (i := 3) nd rfl (.inl rfl) (pe_op u_addN (pe_int) (pe_call F__law_next (hr.mono (by decide)) (by rfl) g__law_next k__law_next b__law_next .nil pass0 (pa_cons (pv 0) (pa_cons (pv 1) (pa_nil)))))) (pss_one (ps_ret (pe_tupN (pa_cons (pe_str) (pa_cons (pv 3) (pa_cons (pe_call F__law_value (hr.mono (by decide)) (by rfl) g__law_value k__law_value b__law_value .nil pass0 (pa_cons (pv 0) (pa_cons (pv 3) (pa_nil)))) (pa_nil)))))))))), ?_⟩
        clear hr
        clear F__law_value g__law_value k__law_value b__law_value d__law_value a__law_value
        clear F__law_next g__law_next k__law_next b__law_next d__law_next a__law_next
        rw [show L2.start N__law_way [v_box_here, v_breadth] = [some v_box_here, some v_breadth, none, none] from rfl]
        obtain ⟨b, n, hp, rfl, hb0, hb1, hn, q⟩ := h
        walk_at "Zs"
        rename_i way G1 f1 h1 h1' b1
        refine w_dec (fun c1 => ?_) (fun c1 => ?_)
        · walk_at "Zs"
          rename_i p2' G2 np2 f2 h2
          exact q .keep _ _ (f1.trans (Same.sx f2)) (box_mono f2 (box_le (by omega) b1)) (dq_new h2 (dqs_one (.str _))) trivial
        · walk_at "Zs"
          refine w_dec (fun c2 => ?_) (fun c2 => ?_)
          · walk_at "Zs"
            rename_i p2' G2 np2 f2 h2
            exact q .whole _ _ (f1.trans (Same.sx f2)) (box_mono f2 (box_le (by omega) b1)) (dq_new h2 (dqs_one (.str _))) trivial
          · walk_at "Zs"
            rename_i d G2 f2 d0 d1 b2 m G3 f3 m0 m1 b3 p4 G4 n4 f4 h4
            exact q (.low (1 + d) m) _ _ (f1.trans (f2.trans (f3.trans (Same.sx f4)))) (box_mono f4 (box_le (by omega) b3)) (dq_new h4 (.cons (.str _) (dqs_two (.int _) (.int _)))) ⟨by omega, by omega, m0, m1⟩
  exact F0
theorem c__law_way {W : Wd} {mg : Str → Option Value} {base : Heap} (B : Bi mg) (S : Src W.K mg "_law_way" s__law_way) (T : Kl W.K mg) (C__law_value : Cal W mg base "_law_value" 2 ["_law_box_here", "_law_breadth"] (sp__law_value W)) (C__law_next : Cal W mg base "_law_next" 1 ["_law_box_here", "_law_many"] (sp__law_next W)) : Cal W mg base "_law_way" 3 ["_law_box_here", "_law_breadth"] (sp__law_way W) := by
  obtain ⟨f, fd, g, F⟩ := S
  exact ⟨f, fd, g, f__law_way B F T C__law_value C__law_next, F.kp, (F.binds (ps := ["_law_box_here", "_law_breadth"]) fun _ _ _ _ _ _ us hl => match us, hl with | [_, _], _ => rfl)⟩
theorem go__law_way {W : Wd} {H : Hp} {Q : VK} {E : XK} {v : V} {b n : Int} (hp : BoxAt W false n H v) (h0 : 1 ≤ b) (h1 : b ≤ 40) (hn : n ≤ 999999900) (q : ∀ (w : Wy) u H', Sx H H' → BoxAt W false (n + 5) H' v → Dq W.K H' u (wyD w) → OkWy b w → Q u H') : sp__law_way W [v, .int b] H Q E := ⟨b, n, hp, rfl, h0, h1, hn, q⟩
def sp__law_form (W : Wd) : Sp := fun vs H Q _ => match vs with
  | [v_box_here, v_shape_here] =>
  ∃ (n : Int) (s : Shp), BoxAt W false n H v_box_here ∧ n ≤ 999999000 ∧ Dq W.K H v_shape_here (shD s) ∧ OkShp s ∧ ∀ (f : Fm) v H', Sx H H' → BoxAt W false (n + 70) H' v_box_here → Dq W.K H' v (fmD f) → OkFm s f → Q v H'
  | _ => False
abbrev N__law_form : List Str := ["_law_box_here", "_law_shape_here", "_law_ways", "_law_field"]
theorem sc__law_form : FnScope N__law_form ["_law_box_here", "_law_shape_here"] (defScope s__law_form) := ⟨rfl, rfl, rfl, by decide +kernel, rfl, by decide +kernel, by decide +kernel⟩
theorem f__law_form {W : Wd} {mg : Str → Option Value} {base : Heap} (B : Bi mg) {f : Addr} {fd : FuncData} (F : Fun W.K "_law_form" "_law_form" s__law_form f fd) (T : Kl W.K mg) (C__law_of : Cal W mg base "_law_of" 2 ["_law_box_here", "_law_some"] (sp__law_of W)) (C__law_way : Cal W mg base "_law_way" 3 ["_law_box_here", "_law_breadth"] (sp__law_way W)) : FnOk W.P W.w W.K mg base CX0 4 f fd ["_law_box_here", "_law_shape_here"] (sp__law_form W) := by
  obtain ⟨a__law_of, d__law_of, g__law_of, F__law_of, k__law_of, b__law_of⟩ := C__law_of
  obtain ⟨a__law_way, d__law_way, g__law_way, F__law_way, k__law_way, b__law_way⟩ := C__law_way
  have nd := sc__law_form.nd
  have F0 : FnOk W.P W.w W.K mg base CX0 4 f fd ["_law_box_here", "_law_shape_here"] (sp__law_form W) := by
    refine F.ok sc__law_form (fun vs H Q E h => ?_) (fun cdv A outer s H vs Q E hr h => ?_)
    · match vs, h with | [_, _], _ => rfl
    · match vs, h with
      | [v_box_here, v_shape_here], h =>
        change sp__law_form W [v_box_here, v_shape_here] H Q E at h
        refine ⟨tSeq (tAsg (tCB (rTupleOfN W.K) (tCons (tLc (iAny W.K (tOp (rIxU W.K) (tVar 1) (tC (.int 0)))) (gName 3) (tYes) (tCall (sp__law_way W) [] E0 (tCons (tVar 0) (tCons (tOp (rIxU W.K) (tVar 3) (tC (.int 1))) (tNil)))) [3]) (tNil))) (gName 2)) (tRet (tTupN (tCons (tCall (sp__law_of W) [] E0 (tCons (tVar 0) (tCons (tLst (tCons (tC (.int 1)) (tCons (tC (.int 2)) (tCons (tC (.int 3)) (tCons (tC (.int 4)) (tCons (tC (.int 6)) (tCons (tC (.int 9)) (tCons (tC (.int 40)) (tNil))))))))) (tNil)))) (tCons (tCall (sp__law_of W) [] E0 (tCons (tVar 0) (tCons (tLst (tCons (tC (.int 1)) (tCons (tC (.int 2)) (tCons (tC (.int 3)) (tCons (tC (.int 4)) (tCons (tC (.int 5)) (tCons (tC (.int 6)) (tCons (tC (.int 8)) (tCons (tC (.int 12)) (tCons (tC (.int 40)) (tNil))))))))))) (tNil)))) (tCons (tVar 2) (tNil)))))), pss_cons (ps_set (i := 2) nd rfl (.inl rfl) (pe_callTy call_tuple_ofN (by rfl) B.b_tuple (by decide +kernel) (pa_cons (pe_lc (own := [("_law_field", 3)]) rfl nd (pi_any (pe_ix u_ix (pv 1) (pe_int) (fun _ _ => rfl))) (blkOk_by (own := [("_law_field", 3)]) (N := N__law_form) (sc := defScope s__law_form) (by decide +kernel)) (fun _ _ _ _ _ => pg_name (i := 3) nd rfl (by first | exact Or.inl rfl | exact Or.inr rfl)) (fun _ _ _ _ _ => pts_nil) (fun _ _ _ _ _ => pe_call F__law_way (hr.mono (by decide)) (by rfl) g__law_way k__law_way b__law_way .nil pass0 (pa_cons (pv 0) (pa_cons (pe_ix u_ix (pv 3) (pe_int) (fun _ _ => rfl)) (pa_nil))))) (pa_nil)))) (pss_one (ps_ret (pe_tupN (pa_cons (pe_call F__law_of (hr.mono (by decide)) (by rfl) g__law_of k__law_of b__law_of .nil pass0 (pa_cons (pv 0) (pa_cons (pe_lst (pa_cons (pe_int) (pa_cons (pe_int) (pa_cons (pe_int) (pa_cons (pe_int) (pa_cons (pe_int) (pa_cons (pe_int) (pa_cons (pe_int) (pa_nil))))))))) (pa_nil)))) (pa_cons (pe_call F__law_of (hr.mono (by decide)) (by rfl) g__law_of k__law_of b__law_of .nil pass0 (pa_cons (pv 0) (pa_cons (pe_lst (pa_cons (pe_int) (pa_cons (pe_int) (pa_cons (pe_int) (pa_cons (pe_int) (pa_cons (pe_int) (pa_cons (pe_int) (pa_cons (pe_int) (pa_cons (pe_int) (pa_cons (pe_int) (pa_nil))))))))))) (pa_nil)))) (pa_cons (pv 2) (pa_nil))))))), ?_⟩
        clear hr
        clear F__law_of g__law_of k__law_of b__law_of d__law_of a__law_of
        clear F__law_way g__law_way k__law_way b__law_way d__law_way a__law_way
        rw [show L2.start N__law_form [v_box_here, v_shape_here] = [some v_box_here, some v_shape_here, none, none] from rfl]
        obtain ⟨n, s, hp, hn, hs, ok, q⟩ := h
        have l1 := ok.l1
        walk_at "Zs"
        refine w_ixQT hs (d := .tuple (s.fs.map fdD)) rfl fun x1 h1 => ?_
        walk_at "Zs"
        obtain ⟨a, xs, rfl, hxs, hds⟩ := dq_tt h1
        have hxl := dqs_len hds
        rw [List.length_map] at hxl
        refine w_goT hxs.t ?_
        refine lcTX hxs.t (fun j acc H' => BoxAt W false (n + 5 * (j : Int)) H' v_box_here ∧ acc.length = j ∧ ∃ ws : List Wy, DqAll W.K H' acc (ws.map wyD) ∧ ws.length = j ∧ ∀ (i : Nat) w fd, ws[i]? = some w → s.fs[i]? = some fd → OkWy fd.br w) (fun j acc H' D xs ys hD h => ⟨box_lst h.1 hD, h.2.1, ?_⟩) (by omega) (fun j acc H' h => Nat.le_of_eq h.2.1) (fun H' e => ⟨box_le (by omega) (box_mono e hp), rfl, [], .nil, rfl, fun i w fd h => by simp at h⟩) (fun j x acc H' hx e1 ea k k' hk hk' => ?_) fun D acc H2 hD e2 hD' ea => ?_
        · obtain ⟨ws, h1, h2⟩ := h.2.2
          exact ⟨ws, dqs_lst hD h1 (tupO_wys _), h2⟩
        · obtain ⟨b1, la, ws, hws, lw, hok⟩ := ea
          obtain ⟨df, hdf, hxd⟩ := dqs_get2 hds hx
          obtain ⟨f, hf, rfl⟩ := map_at hdf
          have okf := ok.fd j f hf
          have hj := (List.getElem?_eq_some_iff.mp hf).1
          walk_at "Zs"
          refine w_ixQTi (dqx e1 hxd) (n := f.br) rfl ?_
          walk_at "Zs"
          refine go__law_way b1 okf.b0 okf.b1 (by omega) fun w u H3 e3 b3 hw hokw => ?_
          refine hk _ _ e3 ⟨box_le (by omega) b3, by rw [List.length_append, la]; rfl, ws ++ [w], ?_, by rw [List.length_append, lw]; rfl, fun i w2 fd h1 h2 => ?_⟩
          · rw [List.map_append]
            exact dqs_app (dqsx e3 hws) (dqs_one hw)
          · by_cases hi : i < ws.length
            · rw [List.getElem?_append_left hi] at h1
              exact hok i w2 fd h1 h2
            · rw [List.getElem?_append_right (by omega)] at h1
              have e : i = ws.length := by
                by_cases c : i - ws.length = 0
                · omega
                · rw [List.getElem?_eq_none (by simp; omega)] at h1
                  cases h1
              subst e
              rw [Nat.sub_self] at h1
              obtain rfl := Option.some.inj h1
              rw [lw, hf] at h2
              obtain rfl := Option.some.inj h2
              exact hokw
        · obtain ⟨b2, la, ws, hws, lw, hok⟩ := ea
          walk_at "Zs"
          refine w_tupleN (SqL.of hD') fun p H3 np e3 hT => ?_
          walk_at "Zs"
          rename_i p4 G4 n4 f4 h4
          refine go__law_ofI (fun n => 1 ≤ n ∧ n ≤ 40) (box_mono (e3.trans f4) b2) (SqL.of h4) (by omega) (by show 0 < 7; decide) (by show 7 ≤ 1000000; decide) (by walk_at "Zisi") fun r G5 hr f5 b5 => ?_
          walk_at "Zs"
          rename_i p6 G6 n6 f6 h6
          refine go__law_ofI (fun n => 1 ≤ n ∧ n ≤ 40) (box_mono f6 b5) (SqL.of h6) (by omega) (by show 0 < 9; decide) (by show 9 ≤ 1000000; decide) (by walk_at "Zisi") fun c G7 hc f7 b7 => ?_
          walk_at "Zs"
          rename_i p8 G8 n8 f8 h8
          have z : Sx H3 G8 := (Same.sx f4).trans (f5.trans ((Same.sx f6).trans (f7.trans (Same.sx f8))))
          exact q ⟨r, c, ws⟩ _ _ (e2.trans ((Same.sx e3).trans z)) (box_mono f8 (box_le (by omega) b7)) (dq_new h8 (.cons (.int _) (dqs_two (.int _) (.tup (sx_n z (.inl hT)) (dqsx z (dqs_mono e3 hws)))))) ⟨hr.1, hr.2, hc.1, hc.2, by show ws.length = s.fs.length; omega, hok⟩
  exact F0
theorem c__law_form {W : Wd} {mg : Str → Option Value} {base : Heap} (B : Bi mg) (S : Src W.K mg "_law_form" s__law_form) (T : Kl W.K mg) (C__law_of : Cal W mg base "_law_of" 2 ["_law_box_here", "_law_some"] (sp__law_of W)) (C__law_way : Cal W mg base "_law_way" 3 ["_law_box_here", "_law_breadth"] (sp__law_way W)) : Cal W mg base "_law_form" 4 ["_law_box_here", "_law_shape_here"] (sp__law_form W) := by
  obtain ⟨f, fd, g, F⟩ := S
  exact ⟨f, fd, g, f__law_form B F T C__law_of C__law_way, F.kp, (F.binds (ps := ["_law_box_here", "_law_shape_here"]) fun _ _ _ _ _ _ us hl => match us, hl with | [_, _], _ => rfl)⟩
theorem go__law_form {W : Wd} {H : Hp} {Q : VK} {E : XK} {v x : V} {n : Int} {s : Shp} (hp : BoxAt W false n H v) (hn : n ≤ 999999000) (hs : Dq W.K H x (shD s)) (ok : OkShp s) (q : ∀ (f : Fm) u H', Sx H H' → BoxAt W false (n + 70) H' v → Dq W.K H' u (fmD f) → OkFm s f → Q u H') : sp__law_form W [v, x] H Q E := ⟨n, s, hp, hn, hs, ok, q⟩
def sp__law_road (W : Wd) : Sp := fun vs H Q _ => match vs with
  | [v_box_here] =>
  ∃ n : Int, BoxAt W false n H v_box_here ∧ n ≤ 999999000 ∧ ∀ (a b c d : Int) v H', Sx H H' → BoxAt W false (n + 4) H' v_box_here → Dq W.K H' v (.tuple [.int a, .int b, .int c, .int d]) → 0 ≤ a → a ≤ 39 → a ≤ b → b ≤ 400 → 0 ≤ c → c ≤ 20 → 0 ≤ d → d ≤ 400 → Q v H'
  | _ => False
abbrev N__law_road : List Str := ["_law_box_here", "_law_skips", "_law_gap"]
theorem sc__law_road : FnScope N__law_road ["_law_box_here"] (defScope s__law_road) := ⟨rfl, rfl, rfl, by decide +kernel, rfl, by decide +kernel, by decide +kernel⟩
theorem f__law_road {W : Wd} {mg : Str → Option Value} {base : Heap} (B : Bi mg) {f : Addr} {fd : FuncData} (F : Fun W.K "_law_road" "_law_road" s__law_road f fd) (T : Kl W.K mg) (C__law_of : Cal W mg base "_law_of" 2 ["_law_box_here", "_law_some"] (sp__law_of W)) : FnOk W.P W.w W.K mg base CX0 3 f fd ["_law_box_here"] (sp__law_road W) := by
  obtain ⟨a__law_of, d__law_of, g__law_of, F__law_of, k__law_of, b__law_of⟩ := C__law_of
  have nd := sc__law_road.nd
  have F0 : FnOk W.P W.w W.K mg base CX0 3 f fd ["_law_box_here"] (sp__law_road W) := by
    refine F.ok sc__law_road (fun vs H Q E h => ?_) (fun cdv A outer s H vs Q E hr h => ?_)
    · match vs, h with | [_], _ => rfl
    · match vs, h with
      | [v_box_here], h =>
        change sp__law_road W [v_box_here] H Q E at h
        refine ⟨tSeq (tAsg (tCall (sp__law_of W) [] E0 (tCons (tVar 0) (tCons (tLst (tCons (tC (.int 0)) (tCons (tC (.int 0)) (tCons (tC (.int 1)) (tCons (tC (.int 2)) (tCons (tC (.int 3)) (tCons (tC (.int 5)) (tCons (tC (.int 39)) (tNil))))))))) (tNil)))) (gName 1)) (tSeq (tAsg (tOp (rAddN W.K) (tVar 1) (tCall (sp__law_of W) [] E0 (tCons (tVar 0) (tCons (tLst (tCons (tC (.int 0)) (tCons (tC (.int 1)) (tCons (tC (.int 4)) (tCons (tC (.int 30)) (tCons (tC (.int 361)) (tNil))))))) (tNil))))) (gName 2)) (tRet (tTupN (tCons (tVar 1) (tCons (tVar 2) (tCons (tCall (sp__law_of W) [] E0 (tCons (tVar 0) (tCons (tLst (tCons (tC (.int 0)) (tCons (tC (.int 0)) (tCons (tC (.int 1)) (tCons (tC (.int 2)) (tCons (tC (.int 5)) (tCons (tC (.int 20)) (tNil)))))))) (tNil)))) (tCons (tCall (sp__law_of W) [] E0 (tCons (tVar 0) (tCons (tLst (tCons (tC (.int 0)) (tCons (tC (.int 0)) (tCons (tC (.int 0)) (tCons (tC (.int 7)) (tCons (tC (.int 30)) (tCons (tC (.int 1)) (tCons (tC (.int 400)) (tNil))))))))) (tNil)))) (tNil)))))))), pss_cons (ps_set (i := 1) nd rfl (.inl rfl) (pe_call F__law_of (hr.mono (by decide)) (by rfl) g__law_of k__law_of b__law_of .nil pass0 (pa_cons (pv 0) (pa_cons (pe_lst (pa_cons (pe_int) (pa_cons (pe_int) (pa_cons (pe_int) (pa_cons (pe_int) (pa_cons (pe_int) (pa_cons (pe_int) (pa_cons (pe_int) (pa_nil))))))))) (pa_nil))))) (pss_cons (ps_set (i := 2) nd rfl (.inl rfl) (pe_op u_addN (pv 1) (pe_call F__law_of (hr.mono (by decide)) (by rfl) g__law_of k__law_of b__law_of .nil pass0 (pa_cons (pv 0) (pa_cons (pe_lst (pa_cons (pe_int) (pa_cons (pe_int) (pa_cons (pe_int) (pa_cons (pe_int) (pa_cons (pe_int) (pa_nil))))))) (pa_nil)))))) (pss_one (ps_ret (pe_tupN (pa_cons (pv 1) (pa_cons (pv 2) (pa_cons (pe_call F__law_of (hr.mono (by decide)) (by rfl) g__law_of k__law_of b__law_of .nil pass0 (pa_cons (pv 0) (pa_cons (pe_lst (pa_cons (pe_int) (pa_cons (pe_int) (pa_cons (pe_int) (pa_cons (pe_int) (pa_cons (pe_int) (pa_cons (pe_int) (pa_nil)))))))) (pa_nil)))) (pa_cons (pe_call F__law_of (hr.mono (by decide)) (by rfl) g__law_of k__law_of b__law_of .nil pass0 (pa_cons (pv 0) (pa_cons (pe_lst (pa_cons (pe_int) (pa_cons (pe_int) (pa_cons (pe_int) (pa_cons (pe_int) (pa_cons (pe_int) (pa_cons (pe_int) (pa_cons (pe_int) (pa_nil))))))))) (pa_nil)))) (pa_nil))))))))), ?_⟩
        clear hr
        clear F__law_of g__law_of k__law_of b__law_of d__law_of a__law_of
        rw [show L2.start N__law_road [v_box_here] = [some v_box_here, none, none] from rfl]
        obtain ⟨n, hp, hn, q⟩ := h
        walk_at "Zs"
        rename_i p1 G1 n1 f1 h1
        refine go__law_ofI (fun n => 0 ≤ n ∧ n ≤ 39) (box_mono f1 hp) (SqL.of h1) (by omega) (by show 0 < 7; decide) (by show 7 ≤ 1000000; decide) (by walk_at "Zisi") fun a G2 ha f2 b2 => ?_
        walk_at "Zs"
        rename_i p3 G3 n3 f3 h3
        refine go__law_ofI (fun n => 0 ≤ n ∧ n ≤ 361) (box_mono f3 b2) (SqL.of h3) (by omega) (by show 0 < 5; decide) (by show 5 ≤ 1000000; decide) (by walk_at "Zisi") fun b G4 hb f4 b4 => ?_
        walk_at "Zs"
        rename_i p5 G5 n5 f5 h5
        refine go__law_ofI (fun n => 0 ≤ n ∧ n ≤ 20) (box_mono f5 b4) (SqL.of h5) (by omega) (by show 0 < 6; decide) (by show 6 ≤ 1000000; decide) (by walk_at "Zisi") fun c G6 hc f6 b6 => ?_
        walk_at "Zs"
        rename_i p7 G7 n7 f7 h7
        refine go__law_ofI (fun n => 0 ≤ n ∧ n ≤ 400) (box_mono f7 b6) (SqL.of h7) (by omega) (by show 0 < 7; decide) (by show 7 ≤ 1000000; decide) (by walk_at "Zisi") fun d G8 hd f8 b8 => ?_
        walk_at "Zs"
        rename_i p9 G9 n9 f9 h9
        exact q a (a + b) c d _ _ ((Same.sx f1).trans (f2.trans ((Same.sx f3).trans (f4.trans ((Same.sx f5).trans (f6.trans ((Same.sx f7).trans (f8.trans (Same.sx f9))))))))) (box_mono f9 (box_le (by omega) b8)) (dq_new h9 (.cons (.int _) (.cons (.int _) (dqs_two (.int _) (.int _))))) ha.1 ha.2 (by omega) (by omega) hc.1 hc.2 hd.1 hd.2
  exact F0
theorem c__law_road {W : Wd} {mg : Str → Option Value} {base : Heap} (B : Bi mg) (S : Src W.K mg "_law_road" s__law_road) (T : Kl W.K mg) (C__law_of : Cal W mg base "_law_of" 2 ["_law_box_here", "_law_some"] (sp__law_of W)) : Cal W mg base "_law_road" 3 ["_law_box_here"] (sp__law_road W) := by
  obtain ⟨f, fd, g, F⟩ := S
  exact ⟨f, fd, g, f__law_road B F T C__law_of, F.kp, (F.binds (ps := ["_law_box_here"]) fun _ _ _ _ _ _ us hl => match us, hl with | [_], _ => rfl)⟩
theorem go__law_road {W : Wd} {H : Hp} {Q : VK} {E : XK} {v : V} {n : Int} (hp : BoxAt W false n H v) (hn : n ≤ 999999000) (q : ∀ (a b c d : Int) u H', Sx H H' → BoxAt W false (n + 4) H' v → Dq W.K H' u (.tuple [.int a, .int b, .int c, .int d]) → 0 ≤ a → a ≤ 39 → a ≤ b → b ≤ 400 → 0 ≤ c → c ≤ 20 → 0 ≤ d → d ≤ 400 → Q u H') : sp__law_road W [v] H Q E := ⟨n, hp, hn, q⟩
def sp__law_pact (W : Wd) : Sp := fun vs H Q _ => match vs with
  | [v_box_here, v_most] =>
  ∃ n k : Int, BoxAt W false n H v_box_here ∧ n ≤ 999980000 ∧ v_most = .int k ∧ 1 ≤ k ∧ k ≤ 12 ∧ ∀ (P : Pt) v H', Sx H H' → BoxAt W false (n + 1200) H' v_box_here → Dq W.K H' v (ptD P) → OkPt P → (P.s.fs.length : Int) ≤ k → 9 ≤ P.n → Q v H'
  | _ => False
abbrev N__law_pact : List Str := ["_law_box_here", "_law_most", "_law_shape_here", "_law_forms", "_law_k"]
theorem sc__law_pact : FnScope N__law_pact ["_law_box_here", "_law_most"] (defScope s__law_pact) := ⟨rfl, rfl, rfl, by decide +kernel, rfl, by decide +kernel, by decide +kernel⟩
theorem f__law_pact {W : Wd} {mg : Str → Option Value} {base : Heap} (B : Bi mg) {f : Addr} {fd : FuncData} (F : Fun W.K "_law_pact" "_law_pact" s__law_pact f fd) (T : Kl W.K mg) (C__law_road : Cal W mg base "_law_road" 3 ["_law_box_here"] (sp__law_road W)) (C__law_of : Cal W mg base "_law_of" 2 ["_law_box_here", "_law_some"] (sp__law_of W)) (C__law_form : Cal W mg base "_law_form" 4 ["_law_box_here", "_law_shape_here"] (sp__law_form W)) (C__law_shape : Cal W mg base "_law_shape" 4 ["_law_box_here", "_law_most"] (sp__law_shape W)) : FnOk W.P W.w W.K mg base CX0 5 f fd ["_law_box_here", "_law_most"] (sp__law_pact W) := by
  obtain ⟨a__law_road, d__law_road, g__law_road, F__law_road, k__law_road, b__law_road⟩ := C__law_road
  obtain ⟨a__law_of, d__law_of, g__law_of, F__law_of, k__law_of, b__law_of⟩ := C__law_of
  obtain ⟨a__law_form, d__law_form, g__law_form, F__law_form, k__law_form, b__law_form⟩ := C__law_form
  obtain ⟨a__law_shape, d__law_shape, g__law_shape, F__law_shape, k__law_shape, b__law_shape⟩ := C__law_shape
  have nd := sc__law_pact.nd
  have F0 : FnOk W.P W.w W.K mg base CX0 5 f fd ["_law_box_here", "_law_most"] (sp__law_pact W) := by
    refine F.ok sc__law_pact (fun vs H Q E h => ?_) (fun cdv A outer s H vs Q E hr h => ?_)
    · match vs, h with | [_, _], _ => rfl
    · match vs, h with
      | [v_box_here, v_most], h =>
        change sp__law_pact W [v_box_here, v_most] H Q E at h
        refine ⟨tSeq (tAsg (tCall (sp__law_shape W) [] E0 (tCons (tVar 0) (tCons (tVar 1) (tNil)))) (gName 2)) (tSeq (tAsg (tCB (rTupleOfN W.K) (tCons (tLc (iRng1 (tCons (tCall (sp__law_of W) [] E0 (tCons (tVar 0) (tCons (tLst (tCons (tC (.int 0)) (tCons (tC (.int 1)) (tCons (tC (.int 2)) (tCons (tC (.int 3)) (tCons (tC (.int 5)) (tCons (tC (.int 12)) (tNil)))))))) (tNil)))) (tNil))) (gName 4) (tYes) (tCall (sp__law_form W) [] E0 (tCons (tVar 0) (tCons (tVar 2) (tNil)))) [4]) (tNil))) (gName 3)) (tRet (tTupN (tCons (tVar 2) (tCons (tCall (sp__law_of W) [] E0 (tCons (tVar 0) (tCons (tLst (tCons (tC (.int 9)) (tCons (tC (.int 12)) (tCons (tC (.int 16)) (tCons (tC (.int 40)) (tNil)))))) (tNil)))) (tCons (tVar 3) (tCons (tCall (sp__law_road W) [] E0 (tCons (tVar 0) (tNil))) (tNil)))))))), pss_cons (ps_set (i := 2) nd rfl (.inr rfl) (pe_call F__law_shape (hr.mono (by decide)) (by rfl) g__law_shape k__law_shape b__law_shape .nil pass0 (pa_cons (pv 0) (pa_cons (pv 1) (pa_nil))))) (pss_cons (ps_set (i := 3) nd rfl (.inl rfl) (pe_callTy call_tuple_ofN (by rfl) B.b_tuple (by decide +kernel) (pa_cons (pe_lc (own := [("_law_k", 4)]) rfl nd (pi_range1 (by rfl) B.b_range (pa_cons (pe_call F__law_of (hr.mono (by decide)) (by rfl) g__law_of k__law_of b__law_of .nil pass0 (pa_cons (pv 0) (pa_cons (pe_lst (pa_cons (pe_int) (pa_cons (pe_int) (pa_cons (pe_int) (pa_cons (pe_int) (pa_cons (pe_int) (pa_cons (pe_int) (pa_nil)))))))) (pa_nil)))) (pa_nil))) (blkOk_by (own := [("_law_k", 4)]) (N := N__law_pact) (sc := defScope s__law_pact) (by decide +kernel)) (fun _ _ _ _ _ => pg_name (i := 4) nd rfl (by first | exact Or.inl rfl | exact Or.inr rfl)) (fun _ _ _ _ _ => pts_nil) (fun _ _ _ _ _ => pe_call F__law_form (hr.mono (by decide)) (by rfl) g__law_form k__law_form b__law_form .nil pass0 (pa_cons (pv 0) (pa_cons (pv 2) (pa_nil))))) (pa_nil)))) (pss_one (ps_ret (pe_tupN (pa_cons (pv 2) (pa_cons (pe_call F__law_of (hr.mono (by decide)) (by rfl) g__law_of k__law_of b__law_of .nil pass0 (pa_cons (pv 0) (pa_cons (pe_lst (pa_cons (pe_int) (pa_cons (pe_int) (pa_cons (pe_int) (pa_cons (pe_int) (pa_nil)))))) (pa_nil)))) (pa_cons (pv 3) (pa_cons (pe_call F__law_road (hr.mono (by decide)) (by rfl) g__law_road k__law_road b__law_road .nil pass0 (pa_cons (pv 0) (pa_nil))) (pa_nil))))))))), ?_⟩
        clear hr
        clear F__law_road g__law_road k__law_road b__law_road d__law_road a__law_road
        clear F__law_of g__law_of k__law_of b__law_of d__law_of a__law_of
        clear F__law_form g__law_form k__law_form b__law_form d__law_form a__law_form
        clear F__law_shape g__law_shape k__law_shape b__law_shape d__law_shape a__law_shape
        rw [show L2.start N__law_pact [v_box_here, v_most] = [some v_box_here, some v_most, none, none, none] from rfl]
        obtain ⟨n, k, hp, hn, rfl, k0, k1, q⟩ := h
        walk_at "Zs"
        refine go__law_shape hp (by omega) k0 k1 fun s sv H1 e1 b1 hs ok lk => ?_
        walk_at "Zs"
        rename_i p2' H2 n2 e2 h2
        refine go__law_ofI (fun n => 0 ≤ n ∧ n ≤ 12) (box_mono e2 b1) (SqL.of h2) (by omega) (by show 0 < 6; decide) (by show 6 ≤ 1000000; decide) (by walk_at "Zisi") fun m H3 hm e3 b3 => ?_
        have S13 : Sx H1 H3 := (Same.sx e2).trans e3
        walk_at "Zs"
        refine lcRX (n := m.toNat) (fun j acc H' => BoxAt W false (n + 220 + 70 * (j : Int)) H' v_box_here ∧ acc.length = j ∧ ∃ fs : List Fm, DqAll W.K H' acc (fs.map fmD) ∧ fs.length = j ∧ ∀ f ∈ fs, OkFm s f) (fun j acc H' D xs ys hD h => ⟨box_lst h.1 hD, h.2.1, ?_⟩) (by omega) (fun j acc H' h => Nat.le_of_eq h.2.1) (fun H' e => ⟨box_le (by omega) (box_mono e b3), rfl, [], .nil, rfl, (fun _ h => nomatch h)⟩) (fun j acc H' hj eX ea k' kk' hk1 hk2 => ?_) fun D acc H4 hD e4 hD' ea => ?_
        · obtain ⟨fs, h1, h2⟩ := h.2.2
          refine ⟨fs, dqs_lst hD h1 (tupOs_of fun d hd => ?_), h2⟩
          obtain ⟨g, _, rfl⟩ := List.mem_map.mp hd
          exact tupO_fm g
        · obtain ⟨bX, lX, fs, hfs, lf, okf⟩ := ea
          walk_at "Zs"
          refine go__law_form bX (by omega) (dqx (S13.trans eX) hs) ok fun f u H7 e7 b7 hf okf1 => ?_
          refine hk1 _ _ e7 ⟨box_le (by omega) b7, by rw [List.length_append, lX]; rfl, fs ++ [f], ?_, by rw [List.length_append, lf]; rfl, fun g hg => ?_⟩
          · rw [List.map_append]
            exact dqs_app (dqsx e7 hfs) (dqs_one hf)
          · rcases List.mem_append.mp hg with hg | hg
            · exact okf g hg
            · rw [List.mem_singleton.mp hg]
              exact okf1
        · obtain ⟨b4, l4, fs, hfs, lf, okf⟩ := ea
          walk_at "Zs"
          refine w_tupleN (SqL.of hD') fun p5 H5 n5 e5 h5 => ?_
          walk_at "Zs"
          rename_i p6 H6 n6 e6 h6
          refine go__law_ofI (fun n => 9 ≤ n ∧ n ≤ 40) (box_mono (e5.trans e6) b4) (SqL.of h6) (by omega) (by show 0 < 4; decide) (by show 4 ≤ 1000000; decide) (by walk_at "Zisi") fun wd H7 hw e7 b7 => ?_
          walk_at "Zs"
          refine go__law_road b7 (by omega) fun a b c d u H8 e8 b8 hu a0 a1 b0 b1' c0 c1 d0 d1 => ?_
          walk_at "Zs"
          rename_i p9 H9 n9 e9 h9
          have S59 : Sx H5 H9 := (Same.sx e6).trans (e7.trans (e8.trans (Same.sx e9)))
          have S19 : Sx H1 H9 := S13.trans (e4.trans ((Same.sx e5).trans S59))
          obtain ⟨sw, hsw⟩ := isW_to 4 (m := 1 + (fs.length : Int)) (by show _ ≤ (16 : Int); omega)
          obtain ⟨cw, hcw⟩ := isW_to 20 (m := s.m) (by have := ok.m1; show _ ≤ (1048576 : Int); omega)
          exact q ⟨s, wd, fs, a, b, c, d, sw, cw⟩ _ _ (e1.trans S19) (box_mono e9 (box_le (by omega) b8)) (dq_new h9 (.cons (dqx S19 hs) (.cons (.int _) (dqs_two (.tup (sx_n S59 (.inl h5)) (dqsx ((Same.sx e5).trans S59) hfs)) (dq_mono e9 hu))))) ⟨ok, by have := hw.1; show 1 ≤ wd; omega, hw.2, by show fs.length ≤ 12; omega, okf, hsw.2, hcw.2, a0, a1, b0, b1', c0, c1, d0, d1⟩ lk hw.1
  exact F0
theorem c__law_pact {W : Wd} {mg : Str → Option Value} {base : Heap} (B : Bi mg) (S : Src W.K mg "_law_pact" s__law_pact) (T : Kl W.K mg) (C__law_road : Cal W mg base "_law_road" 3 ["_law_box_here"] (sp__law_road W)) (C__law_of : Cal W mg base "_law_of" 2 ["_law_box_here", "_law_some"] (sp__law_of W)) (C__law_form : Cal W mg base "_law_form" 4 ["_law_box_here", "_law_shape_here"] (sp__law_form W)) (C__law_shape : Cal W mg base "_law_shape" 4 ["_law_box_here", "_law_most"] (sp__law_shape W)) : Cal W mg base "_law_pact" 5 ["_law_box_here", "_law_most"] (sp__law_pact W) := by
  obtain ⟨f, fd, g, F⟩ := S
  exact ⟨f, fd, g, f__law_pact B F T C__law_road C__law_of C__law_form C__law_shape, F.kp, (F.binds (ps := ["_law_box_here", "_law_most"]) fun _ _ _ _ _ _ us hl => match us, hl with | [_, _], _ => rfl)⟩
theorem go__law_pact {W : Wd} {H : Hp} {Q : VK} {E : XK} {v : V} {n k : Int} (hp : BoxAt W false n H v) (hn : n ≤ 999980000) (k0 : 1 ≤ k) (k1 : k ≤ 12) (q : ∀ (P : Pt) u H', Sx H H' → BoxAt W false (n + 1200) H' v → Dq W.K H' u (ptD P) → OkPt P → (P.s.fs.length : Int) ≤ k → Q u H') : sp__law_pact W [v, .int k] H Q E := ⟨n, k, hp, hn, rfl, k0, k1, fun P u H' a b c d e _ => q P u H' a b c d e⟩
theorem go__law_pact9 {W : Wd} {H : Hp} {Q : VK} {E : XK} {v : V} {n k : Int} (hp : BoxAt W false n H v) (hn : n ≤ 999980000) (k0 : 1 ≤ k) (k1 : k ≤ 12) (q : ∀ (P : Pt) u H', Sx H H' → BoxAt W false (n + 1200) H' v → Dq W.K H' u (ptD P) → OkPt P → (P.s.fs.length : Int) ≤ k → 9 ≤ P.n → Q u H') : sp__law_pact W [v, .int k] H Q E := ⟨n, k, hp, hn, rfl, k0, k1, q⟩
def sp__law_any_head (W : Wd) : Sp := fun vs H Q _ => match vs with
  | [v_box_here, v_shape_here] =>
  ∃ (n : Int) (s : Shp), BoxAt W false n H v_box_here ∧ n ≤ 999999000 ∧ Dq W.K H v_shape_here (shD s) ∧ OkShp s ∧ ∀ (hd : List Int) v H', Sx H H' → BoxAt W false (n + 70) H' v_box_here → Dq W.K H' v (headD hd) → OkHead s.fs hd → Q v H'
  | _ => False
abbrev N__law_any_head : List Str := ["_law_box_here", "_law_shape_here", "_law_field"]
theorem sc__law_any_head : FnScope N__law_any_head ["_law_box_here", "_law_shape_here"] (defScope s__law_any_head) := ⟨rfl, rfl, rfl, by decide +kernel, rfl, by decide +kernel, by decide +kernel⟩
theorem f__law_any_head {W : Wd} {mg : Str → Option Value} {base : Heap} (B : Bi mg) {f : Addr} {fd : FuncData} (F : Fun W.K "_law_any_head" "_law_any_head" s__law_any_head f fd) (T : Kl W.K mg) (C__law_value : Cal W mg base "_law_value" 2 ["_law_box_here", "_law_breadth"] (sp__law_value W)) : FnOk W.P W.w W.K mg base CX0 3 f fd ["_law_box_here", "_law_shape_here"] (sp__law_any_head W) := by
  obtain ⟨a__law_value, d__law_value, g__law_value, F__law_value, k__law_value, b__law_value⟩ := C__law_value
  have nd := sc__law_any_head.nd
  have F0 : FnOk W.P W.w W.K mg base CX0 3 f fd ["_law_box_here", "_law_shape_here"] (sp__law_any_head W) := by
    refine F.ok sc__law_any_head (fun vs H Q E h => ?_) (fun cdv A outer s H vs Q E hr h => ?_)
    · match vs, h with | [_, _], _ => rfl
    · match vs, h with
      | [v_box_here, v_shape_here], h =>
        change sp__law_any_head W [v_box_here, v_shape_here] H Q E at h
        refine ⟨tRet (tCB (rTupleOfN W.K) (tCons (tLc (iAny W.K (tOp (rIxU W.K) (tVar 1) (tC (.int 0)))) (gName 2) (tYes) (tCall (sp__law_value W) [] E0 (tCons (tVar 0) (tCons (tOp (rIxU W.K) (tVar 2) (tC (.int 1))) (tNil)))) [2]) (tNil))), pss_one (ps_ret (pe_callTy call_tuple_ofN (by rfl) B.b_tuple (by decide +kernel) (pa_cons (pe_lc (own := [("_law_field", 2)]) rfl nd (pi_any (pe_ix u_ix (pv 1) (pe_int) (fun _ _ => rfl))) (blkOk_by (own := [("_law_field", 2)]) (N := N__law_any_head) (sc := defScope s__law_any_head) (by decide +kernel)) (fun _ _ _ _ _ => pg_name (i := 2) nd rfl (by first | exact Or.inl rfl | exact Or.inr rfl)) (fun _ _ _ _ _ => pts_nil) (fun _ _ _ _ _ => pe_call F__law_value (hr.mono (by decide)) (by rfl) g__law_value k__law_value b__law_value .nil pass0 (pa_cons (pv 0) (pa_cons (pe_ix u_ix (pv 2) (pe_int) (fun _ _ => rfl)) (pa_nil))))) (pa_nil)))), ?_⟩
        clear hr
        clear F__law_value g__law_value k__law_value b__law_value d__law_value a__law_value
        rw [show L2.start N__law_any_head [v_box_here, v_shape_here] = [some v_box_here, some v_shape_here, none] from rfl]
        obtain ⟨n, s, hp, hn, hs, ok, q⟩ := h
        have l1 := ok.l1
        walk_at "Zs"
        refine w_ixQT hs (d := .tuple (s.fs.map fdD)) rfl fun x1 h1 => ?_
        walk_at "Zs"
        obtain ⟨a, xs, rfl, hxs, hds⟩ := dq_tt h1
        have hxl := dqs_len hds
        rw [List.length_map] at hxl
        refine w_goT hxs.t ?_
        refine lcTX hxs.t (fun j acc H' => BoxAt W false (n + 5 * (j : Int)) H' v_box_here ∧ ∃ hd : List Int, acc = hd.map V.int ∧ hd.length = j ∧ OkHead (s.fs.take j) hd) (fun j acc H' D xs ys hD h => ⟨box_lst h.1 hD, h.2⟩) (by omega) (fun j acc H' h => ?_) (fun H' e => ⟨box_le (by omega) (box_mono e hp), [], rfl, rfl, trivial⟩) (fun j x acc H' hx e1 ea k k' hk hk' => ?_) fun D acc H2 hD e2 hD' ea => ?_
        · obtain ⟨_, hd, rfl, h, _⟩ := h
          rw [List.length_map, h]
          exact Nat.le_refl _
        · obtain ⟨b1, hd, rfl, lh, oh⟩ := ea
          obtain ⟨df, hdf, hxd⟩ := dqs_get2 hds hx
          obtain ⟨f, hf, rfl⟩ := map_at hdf
          have okf := ok.fd j f hf
          have hj := (List.getElem?_eq_some_iff.mp hf).1
          walk_at "Zs"
          refine w_ixQTi (dqx e1 hxd) (n := f.br) rfl ?_
          have br0 := okf.b0
          have br1 := okf.b1
          walk_at "Zq"
          refine go__law_value b1 (by omega) (by omega) (by omega) fun m H3 e3 m0 m1 b3 => ?_
          refine hk _ _ e3 ⟨box_le (by omega) b3, hd ++ [m], by rw [List.map_append]; rfl, by rw [List.length_append, lh]; rfl, ?_⟩
          rw [List.take_add_one, hf]
          exact okHead_snoc oh m0 m1
        · obtain ⟨b2, hd, rfl, lh, oh⟩ := ea
          rw [List.take_of_length_le (by omega)] at oh
          walk_at "Zs"
          refine w_tupleN (SqL.of hD') fun p H3 np e3 hT => ?_
          exact q hd _ _ (e2.trans (Same.sx e3)) (box_mono e3 (box_le (by omega) b2)) (dq_ofN hT) oh
  exact F0
theorem c__law_any_head {W : Wd} {mg : Str → Option Value} {base : Heap} (B : Bi mg) (S : Src W.K mg "_law_any_head" s__law_any_head) (T : Kl W.K mg) (C__law_value : Cal W mg base "_law_value" 2 ["_law_box_here", "_law_breadth"] (sp__law_value W)) : Cal W mg base "_law_any_head" 3 ["_law_box_here", "_law_shape_here"] (sp__law_any_head W) := by
  obtain ⟨f, fd, g, F⟩ := S
  exact ⟨f, fd, g, f__law_any_head B F T C__law_value, F.kp, (F.binds (ps := ["_law_box_here", "_law_shape_here"]) fun _ _ _ _ _ _ us hl => match us, hl with | [_, _], _ => rfl)⟩
theorem go__law_any_head {W : Wd} {H : Hp} {Q : VK} {E : XK} {v y : V} {n : Int} {s : Shp} (hp : BoxAt W false n H v) (hn : n ≤ 999999000) (hs : Dq W.K H y (shD s)) (ok : OkShp s) (q : ∀ (hd : List Int) u H', Sx H H' → BoxAt W false (n + 70) H' v → Dq W.K H' u (headD hd) → OkHead s.fs hd → Q u H') : sp__law_any_head W [v, y] H Q E := ⟨n, s, hp, hn, hs, ok, q⟩
def sp__law_expected (W : Wd) : Sp := fun vs H Q _ => match vs with
  | [v_shape_here, v_place, v_former, v_ahead, v_more] =>
  ∃ (s : Shp) (p : Nat) (f : Fd) (fo ah : List Int) (v m : Int), Dq W.K H v_shape_here (shD s) ∧ OkShp s ∧ v_place = .int p ∧ s.fs[p]? = some f ∧ Dq W.K H v_former (.tuple (fo.map .int)) ∧ fo.length = s.fs.length ∧ fo[p]? = some v ∧ Dq W.K H v_ahead (.tuple (ah.map .int)) ∧ p ≤ ah.length ∧ v_more = .int m ∧ -1000000 ≤ m ∧ m ≤ 1000000 ∧ ∀ (r : Int), ExpK fo ah m v f.kd r → Q (.int (r % p2 f.br)) H
  | _ => False
abbrev N__law_expected : List Str := ["_law_shape_here", "_law_place", "_law_former", "_law_ahead", "_law_more", "_law_kind_here", "_law_was"]
theorem sc__law_expected : FnScope N__law_expected ["_law_shape_here", "_law_place", "_law_former", "_law_ahead", "_law_more"] (defScope s__law_expected) := ⟨rfl, rfl, rfl, by decide +kernel, rfl, by decide +kernel, by decide +kernel⟩
theorem f__law_expected {W : Wd} {mg : Str → Option Value} {base : Heap} (B : Bi mg) {f : Addr} {fd : FuncData} (F : Fun W.K "_law_expected" "_law_expected" s__law_expected f fd) (T : Kl W.K mg)  : FnOk W.P W.w W.K mg base CX0 1 f fd ["_law_shape_here", "_law_place", "_law_former", "_law_ahead", "_law_more"] (sp__law_expected W) := by
  have nd := sc__law_expected.nd
  have F0 : FnOk W.P W.w W.K mg base CX0 1 f fd ["_law_shape_here", "_law_place", "_law_former", "_law_ahead", "_law_more"] (sp__law_expected W) := by
    refine F.ok sc__law_expected (fun vs H Q E h => ?_) (fun cdv A outer s H vs Q E hr h => ?_)
    · match vs, h with | [_, _, _, _, _], _ => rfl
    · match vs, h with
      | [v_shape_here, v_place, v_former, v_ahead, v_more], h =>
        change sp__law_expected W [v_shape_here, v_place, v_former, v_ahead, v_more] H Q E at h
        refine ⟨tSeq (tPar 5 6 (tCons (tOp (rIxU W.K) (tOp (rIxU W.K) (tOp (rIxU W.K) (tVar 0) (tC (.int 0))) (tVar 1)) (tC (.int 2))) (tCons (tOp (rIxU W.K) (tVar 2) (tVar 1)) (tNil)))) (tSeq (tIfS (tTest (tOp (rEqU W.K) (tOp (rIxU W.K) (tVar 5) (tC (.int 0))) (tC (.str "step")))) (tAsg (tOp (rAddN W.K) (tVar 6) (tOp (rMulN W.K) (tOp (rIxU W.K) (tVar 5) (tC (.int 1))) (tVar 4))) (gName 6)) (tIfS (tAnd (tTest (tOp (rEqU W.K) (tOp (rIxU W.K) (tVar 5) (tC (.int 0))) (tC (.str "turn")))) (tTest (tOp (rInU W.K) (tVar 6) (tOp (rIxU W.K) (tVar 5) (tC (.int 1)))))) (tAsg (tOp (rIxU W.K) (tOp (rIxU W.K) (tVar 5) (tC (.int 1))) (tOp (rModU) (tOp (rAddN W.K) (tTM W.K (rIndexT W.K) (tOp (rIxU W.K) (tVar 5) (tC (.int 1))) (tCons (tVar 6) (tNil))) (tVar 4)) (tCB (rLenU W.K) (tCons (tOp (rIxU W.K) (tVar 5) (tC (.int 1))) (tNil))))) (gName 6)) (tIfS (tTest (tOp (rEqU W.K) (tOp (rIxU W.K) (tVar 5) (tC (.int 0))) (tC (.str "with")))) (tAsg (tOp (rAddN W.K) (tVar 6) (tOp (rMulN W.K) (tOp (rIxU W.K) (tVar 5) (tC (.int 2))) (tOp (rSubU) (tOp (rIxU W.K) (tVar 3) (tOp (rIxU W.K) (tVar 5) (tC (.int 1)))) (tOp (rIxU W.K) (tVar 2) (tOp (rIxU W.K) (tVar 5) (tC (.int 1))))))) (gName 6)) (tNext)))) (tRet (tOp (rModU) (tVar 6) (tOp (rShlU) (tC (.int 1)) (tOp (rIxU W.K) (tOp (rIxU W.K) (tOp (rIxU W.K) (tVar 0) (tC (.int 0))) (tVar 1)) (tC (.int 1))))))), pss_cons (ps_par (by rfl) nd rfl rfl (by decide) rfl rfl (pa_cons (pe_ix u_ix (pe_ix u_ix (pe_ix u_ix (pv 0) (pe_int) (fun _ _ => rfl)) (pv 1) (fun _ _ => rfl)) (pe_int) (fun _ _ => rfl)) (pa_cons (pe_ix u_ix (pv 2) (pv 1) (fun _ _ => rfl)) (pa_nil))) (by rfl)) (pss_cons (ps_if (pt_cmpR (u_eq hr.units) (pe_ix u_ix (pv 5) (pe_int) (fun _ _ => rfl)) (pe_str) (nomark _)) (pss_one (ps_set (i := 6) nd rfl (.inl rfl) (pe_op u_addN (pv 6) (pe_op u_mulN (pe_ix u_ix (pv 5) (pe_int) (fun _ _ => rfl)) (pv 4))))) (pss_one (ps_if (PW.pt (pw_and (pt_cmpR (u_eq hr.units) (pe_ix u_ix (pv 5) (pe_int) (fun _ _ => rfl)) (pe_str) (nomark _)) (pw_and1 (pt_cmpR (u_in hr.units) (pv 6) (pe_ix u_ix (pv 5) (pe_int) (fun _ _ => rfl)) (by rfl))))) (pss_one (ps_set (i := 6) nd rfl (.inl rfl) (pe_ix u_ix (pe_ix u_ix (pv 5) (pe_int) (fun _ _ => rfl)) (pe_op u_mod (pe_op u_addN (pe_tm PySem.F.slot_tuple_index PySem.F.type_tuple_index mt_indexT (pe_ix u_ix (pv 5) (pe_int) (fun _ _ => rfl)) (pa_cons (pv 6) (pa_nil))) (pv 4)) (pe_callB u_len (by rfl) B.b_len (by decide +kernel) (pa_cons (pe_ix u_ix (pv 5) (pe_int) (fun _ _ => rfl)) (pa_nil)))) (fun _ _ => rfl)))) (pss_one (ps_if (pt_cmpR (u_eq hr.units) (pe_ix u_ix (pv 5) (pe_int) (fun _ _ => rfl)) (pe_str) (nomark _)) (pss_one (ps_set (i := 6) nd rfl (.inl rfl) (pe_op u_addN (pv 6) (pe_op u_mulN (pe_ix u_ix (pv 5) (pe_int) (fun _ _ => rfl)) (pe_op u_sub (pe_ix u_ix (pv 3) (pe_ix u_ix (pv 5) (pe_int) (fun _ _ => rfl)) (fun _ _ => rfl)) (pe_ix u_ix (pv 2) (pe_ix u_ix (pv 5) (pe_int) (fun _ _ => rfl)) (fun _ _ => rfl))))))) (pss_nil)))))) (pss_one (ps_ret (pe_op u_mod (pv 6) (pe_op u_shl (pe_int) (pe_ix u_ix (pe_ix u_ix (pe_ix u_ix (pv 0) (pe_int) (fun _ _ => rfl)) (pv 1) (fun _ _ => rfl)) (pe_int) (fun _ _ => rfl))))))), ?_⟩
        clear hr
        rw [show L2.start N__law_expected [v_shape_here, v_place, v_former, v_ahead, v_more] = [some v_shape_here, some v_place, some v_former, some v_ahead, some v_more, none, none] from rfl]
        obtain ⟨s, p, f, fo, ah, v, m, hs, ok, rfl, hf, hfo, lfo, hv, hah, lah, rfl, m0, m1, q⟩ := h
        have okf := ok.fd p f hf
        have b0 := okf.b0
        have b1 := okf.b1
        have hlp := (List.getElem?_eq_some_iff.mp hf).1
        walk_at "Zp"
        refine w_ixQT hs (d := .tuple (s.fs.map fdD)) rfl fun x1 h1 => ?_
        walk_at "Zp"
        refine w_ixM h1 (by omega) (by omega) fun f' x2 hf' h2 => ?_
        rw [Int.toNat_natCast, hf] at hf'
        obtain rfl := Option.some.inj hf'
        walk_at "Zp"
        refine w_ixQT h2 (d := kdD f.kd) rfl fun xk g2 => ?_
        walk_at "Zp"
        refine w_ixMi hfo (by omega) (by omega) fun v' hv' => ?_
        rw [Int.toNat_natCast, hv] at hv'
        obtain rfl := Option.some.inj hv'
        walk_at "Zp"
        refine w_cut (fun σ' H' => ∃ r, σ' = [some v_shape_here, some (.int (p : Int)), some v_former, some v_ahead, some (.int m), some xk, some (.int r)] ∧ H' = H ∧ ExpK fo ah m v f.kd r) (fun σ' H' hP => ?_) fun nx' hnx => ?_
        · obtain ⟨r, rfl, rfl, er⟩ := hP
          walk_at "Zs"
          refine w_ixQT hs (d := .tuple (s.fs.map fdD)) rfl fun x3 h3 => ?_
          walk_at "Zs"
          refine w_ixM h3 (by omega) (by omega) fun f' x4 hf' h4 => ?_
          rw [Int.toNat_natCast, hf] at hf'
          obtain rfl := Option.some.inj hf'
          walk_at "Zs"
          refine w_ixQTi h4 (n := f.br) rfl ?_
          walk_at "Zs"
          exact q r er
        · walk_at "Zs"
          cases hkd : f.kd with
          | still =>
            rw [hkd] at g2 hnx
            refine w_ixQTs g2 rfl ?_
            walk_at "Zs"
            refine w_ixQTs g2 rfl ?_
            walk_at "Zs"
            refine w_ixQTs g2 rfl ?_
            walk_at "Zs"
            exact hnx _ _ ⟨v, rfl, rfl, rfl⟩
          | drawn =>
            rw [hkd] at g2 hnx
            refine w_ixQTs g2 rfl ?_
            walk_at "Zs"
            refine w_ixQTs g2 rfl ?_
            walk_at "Zs"
            refine w_ixQTs g2 rfl ?_
            walk_at "Zs"
            exact hnx _ _ ⟨v, rfl, rfl, rfl⟩
          | step k =>
            rw [hkd] at g2 hnx
            refine w_ixQTs g2 rfl ?_
            walk_at "Zs"
            refine w_ixQTi g2 (n := k) rfl ?_
            walk_at "Zs"
            exact hnx _ _ ⟨_, rfl, rfl, by show v + k * m = v + m * k; rw [Int.mul_comm]⟩
          | turn ns =>
            have hk := okf.kd
            rw [hkd] at g2 hk hnx
            have lns := hk.1
            refine w_ixQTs g2 rfl ?_
            walk_at "Zs"
            refine w_ixQTs g2 rfl ?_
            walk_at "Zs"
            refine w_ixQT g2 (d := .tuple (ns.map .int)) rfl fun x4 h4 => ?_
            obtain ⟨a4, rfl, ht4⟩ := dq_ti h4
            walk_at "Zs"
            refine w_inT ht4.t ?_
            walk_at "Zs"
            refine w_dec (fun hin => ?_) (fun hin => ?_)
            · walk_at "Zs"
              refine w_ixQT g2 (d := .tuple (ns.map .int)) rfl fun x5 h5 => ?_
              walk_at "Zs"
              refine w_ixQT g2 (d := .tuple (ns.map .int)) rfl fun x6 h6 => ?_
              obtain ⟨a6, rfl, ht6⟩ := dq_ti h6
              refine w_tyN ht6 ?_
              walk_at "Zs"
              refine w_indexT ht6.t hin ?_
              walk_at "Zs"
              refine w_ixQT g2 (d := .tuple (ns.map .int)) rfl fun x7 h7 => ?_
              walk_at "Zs"
              have h0' := Int.emod_nonneg (((ns.idxOf v : Nat) : Int) + m) (show ((ns.length : Nat) : Int) ≠ 0 by omega)
              have h1' := Int.emod_lt_of_pos (((ns.idxOf v : Nat) : Int) + m) (show 0 < ((ns.length : Nat) : Int) by omega)
              refine w_ixMi h5 h0' h1' fun r er => ?_
              walk_at "Zs"
              exact hnx _ _ ⟨r, rfl, rfl, ⟨fun z => absurd hin z, fun _ => er⟩⟩
            · walk_at "Zs"
              refine w_ixQTs g2 rfl ?_
              walk_at "Zs"
              exact hnx _ _ ⟨v, rfl, rfl, ⟨fun _ => rfl, fun z => absurd z hin⟩⟩
          | wth k z =>
            have hk := okf.kd
            rw [hkd] at g2 hk hnx
            obtain ⟨k0, k1, k2, k3⟩ := hk
            refine w_ixQTs g2 rfl ?_
            walk_at "Zs"
            refine w_ixQTs g2 rfl ?_
            walk_at "Zs"
            refine w_ixQTs g2 rfl ?_
            walk_at "Zs"
            refine w_ixQTi g2 (n := z) rfl ?_
            walk_at "Zs"
            refine w_ixQTi g2 (n := k) rfl ?_
            walk_at "Zs"
            refine w_ixMi hah k0 (by omega) fun x hx => ?_
            walk_at "Zs"
            refine w_ixQTi g2 (n := k) rfl ?_
            walk_at "Zs"
            refine w_ixMi hfo k0 (by omega) fun y hy => ?_
            walk_at "Zs"
            exact hnx _ _ ⟨_, rfl, rfl, ⟨x, y, hx, hy, rfl⟩⟩
  exact F0
theorem c__law_expected {W : Wd} {mg : Str → Option Value} {base : Heap} (B : Bi mg) (S : Src W.K mg "_law_expected" s__law_expected) (T : Kl W.K mg)  : Cal W mg base "_law_expected" 1 ["_law_shape_here", "_law_place", "_law_former", "_law_ahead", "_law_more"] (sp__law_expected W) := by
  obtain ⟨f, fd, g, F⟩ := S
  exact ⟨f, fd, g, f__law_expected B F T , F.kp, (F.binds (ps := ["_law_shape_here", "_law_place", "_law_former", "_law_ahead", "_law_more"]) fun _ _ _ _ _ _ us hl => match us, hl with | [_, _, _, _, _], _ => rfl)⟩
theorem go__law_expected {W : Wd} {H : Hp} {Q : VK} {E : XK} {vs vf va : V} {s : Shp} {p : Nat} {f : Fd} {fo ah : List Int} {v m : Int} (hs : Dq W.K H vs (shD s)) (ok : OkShp s) (hf : s.fs[p]? = some f) (hfo : Dq W.K H vf (.tuple (fo.map .int))) (lfo : fo.length = s.fs.length) (hv : fo[p]? = some v) (hah : Dq W.K H va (.tuple (ah.map .int))) (lah : p ≤ ah.length) (m0 : -1000000 ≤ m) (m1 : m ≤ 1000000) (q : ∀ (r : Int), ExpK fo ah m v f.kd r → Q (.int (r % p2 f.br)) H) : sp__law_expected W [vs, .int (p : Int), vf, va, .int m] H Q E :=
  ⟨s, p, f, fo, ah, v, m, hs, ok, rfl, hf, hfo, lfo, hv, hah, lah, rfl, m0, m1, q⟩
def sp__law_next_head (W : Wd) : Sp := fun vs H Q _ => match vs with
  | [v_box_here, v_shape_here, v_former, v_calm] =>
  ∃ (n c : Int) (s : Shp) (fo : List Int), BoxAt W false n H v_box_here ∧ n ≤ 999999000 ∧ Dq W.K H v_shape_here (shD s) ∧ OkShp s ∧ Dq W.K H v_former (headD fo) ∧ OkHead s.fs fo ∧ v_calm = .int c ∧ 1 ≤ c ∧ c ≤ 1000 ∧ ∀ (hd : List Int) v H', Sx H H' → BoxAt W false (n + 40) H' v_box_here → Dq W.K H' v (headD hd) → OkHead s.fs hd → Q v H'
  | _ => False
abbrev N__law_next_head : List Str := ["_law_box_here", "_law_shape_here", "_law_former", "_law_calm", "_law_head", "_law_place", "_law_field", "_law_value_here"]
theorem sc__law_next_head : FnScope N__law_next_head ["_law_box_here", "_law_shape_here", "_law_former", "_law_calm"] (defScope s__law_next_head) := ⟨rfl, rfl, rfl, by decide +kernel, rfl, by decide +kernel, by decide +kernel⟩
theorem f__law_next_head {W : Wd} {mg : Str → Option Value} {base : Heap} (B : Bi mg) {f : Addr} {fd : FuncData} (F : Fun W.K "_law_next_head" "_law_next_head" s__law_next_head f fd) (T : Kl W.K mg) (C__law_next : Cal W mg base "_law_next" 1 ["_law_box_here", "_law_many"] (sp__law_next W)) (C__law_of : Cal W mg base "_law_of" 2 ["_law_box_here", "_law_some"] (sp__law_of W)) (C__law_expected : Cal W mg base "_law_expected" 1 ["_law_shape_here", "_law_place", "_law_former", "_law_ahead", "_law_more"] (sp__law_expected W)) : FnOk W.P W.w W.K mg base CX0 3 f fd ["_law_box_here", "_law_shape_here", "_law_former", "_law_calm"] (sp__law_next_head W) := by
  obtain ⟨a__law_next, d__law_next, g__law_next, F__law_next, k__law_next, b__law_next⟩ := C__law_next
  obtain ⟨a__law_of, d__law_of, g__law_of, F__law_of, k__law_of, b__law_of⟩ := C__law_of
  obtain ⟨a__law_expected, d__law_expected, g__law_expected, F__law_expected, k__law_expected, b__law_expected⟩ := C__law_expected
  have nd := sc__law_next_head.nd
  have F0 : FnOk W.P W.w W.K mg base CX0 3 f fd ["_law_box_here", "_law_shape_here", "_law_former", "_law_calm"] (sp__law_next_head W) := by
    refine F.ok sc__law_next_head (fun vs H Q E h => ?_) (fun cdv A outer s H vs Q E hr h => ?_)
    · match vs, h with | [_, _, _, _], _ => rfl
    · match vs, h with
      | [v_box_here, v_shape_here, v_former, v_calm], h =>
        change sp__law_next_head W [v_box_here, v_shape_here, v_former, v_calm] H Q E at h
        refine ⟨tSeq (tAsg (tTupN (tNil)) (gName 4)) (tSeq (tFor (iEnumU W.K (tCons (tOp (rIxU W.K) (tVar 1) (tC (.int 0))) (tNil))) (gTup W.K 2 (gCons (gName 5) (gCons (gName 6) (gNil)))) (tSeq (tAsg (tCall (sp__law_expected W) [] E0 (tCons (tVar 1) (tCons (tVar 5) (tCons (tVar 2) (tCons (tVar 4) (tCons (tC (.int 1)) (tNil))))))) (gName 7)) (tSeq (tIfS (tTest (tOp (rEqU W.K) (tCall (sp__law_next W) [] E0 (tCons (tVar 0) (tCons (tVar 3) (tNil)))) (tC (.int 0)))) (tAsg (tOp (rModU) (tOp (rAddN W.K) (tVar 7) (tCall (sp__law_of W) [] E0 (tCons (tVar 0) (tCons (tLst (tCons (tC (.int 1)) (tCons (tUn (rU fun i => .int (-i)) (tC (.int 1))) (tCons (tC (.int 3)) (tCons (tUn (rU fun i => .int (-i)) (tC (.int 7))) (tCons (tCall (sp__law_next W) [] E0 (tCons (tVar 0) (tCons (tOp (rShlU) (tC (.int 1)) (tOp (rIxU W.K) (tVar 6) (tC (.int 1)))) (tNil)))) (tNil))))))) (tNil))))) (tOp (rShlU) (tC (.int 1)) (tOp (rIxU W.K) (tVar 6) (tC (.int 1))))) (gName 7)) (tNext)) (tAsg (tOp (rAddN W.K) (tVar 4) (tTupN (tCons (tVar 7) (tNil)))) (gName 4))))) (tRet (tVar 4))), pss_cons (ps_set (i := 4) nd rfl (.inl rfl) (pe_tupN (pa_nil))) (pss_cons (ps_for PassesOwn.never rfl (pi_enumU (by rfl) B.b_enumerate (pa_cons (pe_ix u_ix (pv 1) (pe_int) (fun _ _ => rfl)) (pa_nil))) (pg_tup rfl (pgs_cons (pg_name (i := 5) nd rfl (by first | exact Or.inl rfl | exact Or.inr rfl)) (pgs_cons (pg_name (i := 6) nd rfl (by first | exact Or.inl rfl | exact Or.inr rfl)) (pgs_nil)))) (pss_cons (ps_set (i := 7) nd rfl (.inl rfl) (pe_call F__law_expected (hr.mono (by decide)) (by rfl) g__law_expected k__law_expected b__law_expected .nil pass0 (pa_cons (pv 1) (pa_cons (pv 5) (pa_cons (pv 2) (pa_cons (pv 4) (pa_cons (pe_int) (pa_nil)))))))) (pss_cons (ps_if (pt_cmpR (u_eq hr.units) (pe_call F__law_next (hr.mono (by decide)) (by rfl) g__law_next k__law_next b__law_next .nil pass0 (pa_cons (pv 0) (pa_cons (pv 3) (pa_nil)))) (pe_int) (nomark _)) (pss_one (ps_set (i := 7) nd rfl (.inl rfl) (pe_op u_mod (pe_op u_addN (pv 7) (pe_call F__law_of (hr.mono (by decide)) (by rfl) g__law_of k__law_of b__law_of .nil pass0 (pa_cons (pv 0) (pa_cons (pe_lst (pa_cons (pe_int) (pa_cons (pe_un un_neg (pe_int)) (pa_cons (pe_int) (pa_cons (pe_un un_neg (pe_int)) (pa_cons (pe_call F__law_next (hr.mono (by decide)) (by rfl) g__law_next k__law_next b__law_next .nil pass0 (pa_cons (pv 0) (pa_cons (pe_op u_shl (pe_int) (pe_ix u_ix (pv 6) (pe_int) (fun _ _ => rfl))) (pa_nil)))) (pa_nil))))))) (pa_nil))))) (pe_op u_shl (pe_int) (pe_ix u_ix (pv 6) (pe_int) (fun _ _ => rfl)))))) (pss_nil)) (pss_one (ps_set (i := 4) nd rfl (.inl rfl) (pe_op u_addN (pv 4) (pe_tupN (pa_cons (pv 7) (pa_nil))))))))) (pss_one (ps_ret (pv 4)))), ?_⟩
        clear hr
        clear F__law_next g__law_next k__law_next b__law_next d__law_next a__law_next
        clear F__law_of g__law_of k__law_of b__law_of d__law_of a__law_of
        clear F__law_expected g__law_expected k__law_expected b__law_expected d__law_expected a__law_expected
        rw [show L2.start N__law_next_head [v_box_here, v_shape_here, v_former, v_calm] = [some v_box_here, some v_shape_here, some v_former, some v_calm, none, none, none, none] from rfl]
        obtain ⟨n, c, s, fo, hp, hn, hs, ok, hfo, ofo, rfl, c0, c1, q⟩ := h
        have l1 := ok.l1
        have lfo := okHead_len ofo
        walk_at "Zs"
        rename_i p1 H1 n1 e1 h1
        refine w_ixQT (dq_mono e1 hs) (d := .tuple (s.fs.map fdD)) rfl fun x2 h2 => ?_
        obtain ⟨a, xs, rfl, hxs, hds⟩ := dq_tt h2
        have lxs := dqs_len hds
        rw [List.length_map] at lxs
        walk_at "Zs"
        refine w_goET hxs.t ?_
        refine forET2 (fun i σ' H' => ∃ hv hd, (∃ y5 y6 y7, σ' = [some v_box_here, some v_shape_here, some v_former, some (.int c), some hv, y5, y6, y7]) ∧ Sx H1 H' ∧ BoxAt W false (n + 3 * (i : Int)) H' v_box_here ∧ Dq W.K H' hv (headD hd) ∧ hd.length = i ∧ OkHead (s.fs.take i) hd) ⟨_, [], ⟨_, _, _, rfl⟩, Sx.refl _, box_le (by omega) (box_mono e1 hp), dq_new h1 .nil, rfl, trivial⟩ (fun i σ' H' ⟨_, _, _, h, _⟩ => sx_t h hxs.t) (fun i x σ' H2 hx h H3 e3 => ?_) (fun σ' H2 h => ?_)
        · obtain ⟨hv, hd, ⟨y5, y6, y7, rfl⟩, e2, b2, hh, lh, oh⟩ := h
          obtain ⟨df, hdf, hxd⟩ := dqs_get2 hds hx
          obtain ⟨f, hf, rfl⟩ := map_at hdf
          have hi := (List.getElem?_eq_some_iff.mp hf).1
          have okf := ok.fd i f hf
          have b0 := okf.b0
          have b1 := okf.b1
          have X3 : Sx H1 H3 := e2.trans (Same.sx e3)
          have X03 : Sx H H3 := (Same.sx e1).trans X3
          have hfd3 : Dq W.K H3 x (fdD f) := dqx X3 hxd
          obtain ⟨vv, hvv⟩ : ∃ vv, fo[i]? = some vv := ⟨fo[i]'(by omega), List.getElem?_eq_getElem (by omega)⟩
          walk_at "Zs"
          refine go__law_expected (dqx X03 hs) ok hf (dqx X03 hfo) lfo hvv (dq_mono e3 hh) (by omega) (by decide) (by decide) fun r _ => ?_
          have b3 := box_mono e3 b2
          walk_at "Zp"
          have pb := p2_pos f.br
          refine w_cut (fun σ' H' => ∃ y, σ' = [some v_box_here, some v_shape_here, some v_former, some (.int c), some hv, some (.int (i : Int)), some x, some (.int y)] ∧ Sx H3 H' ∧ BoxAt W false (n + 3 * (i : Int) + 3) H' v_box_here ∧ 0 ≤ y ∧ y < p2 f.br) (fun σ' H4 hP => ?_) fun nx' hnx => ?_
          · obtain ⟨y, rfl, e4, b4, y0, y1⟩ := hP
            walk_at "Zs"
            rename_i p5 H5 n5 e5 h5
            have X35 : Sx H3 H5 := e4.trans (Same.sx e5)
            refine w_catQT (dqx X35 (dq_mono e3 hh)) (dq_new h5 (dqs_one (.int _))) (by rw [List.length_map]; exact Nat.le_trans (m := 1000) (by show _ + 1 ≤ 1000; omega) (by decide)) fun x6 H6 e6 h6 => ?_
            rw [show hd.map PyData.int ++ [.int y] = (hd ++ [y]).map PyData.int by rw [List.map_append]; rfl] at h6
            walk_at "Zs"
            refine ⟨x6, hd ++ [y], ⟨_, _, _, rfl⟩, X3.trans (X35.trans (Same.sx e6)), box_mono (e5.trans e6) (box_le (by omega) b4), h6, by rw [List.length_append, lh]; rfl, ?_⟩
            rw [List.take_add_one, hf]
            exact okHead_snoc oh y0 y1
          · walk_at "Zs"
            rename_i d H4 e4 d0 d1 b4
            refine w_dec (fun cc => ?_) (fun cc => ?_)
            · have p40 : p2 f.br ≤ 1099511627776 := p2_le (n := 40) (by omega)
              walk_at "Zs"
              refine w_ixQTi (dqx e4 hfd3) (n := f.br) rfl ?_
              walk_at "Zs"
              rename_i d2 H5 e5 d20 d21 b5 p6 H6 n6 e6 h6
              refine go__law_ofI (fun _ => True) (box_mono e6 b5) (SqL.of h6) (by omega) (by show 0 < 5; decide) (by show 5 ≤ 1000000; decide) (by walk_at "Zisi") fun z H7 _ e7 b7 => ?_
              walk_at "Zs"
              have X37 : Sx H3 H7 := e4.trans (e5.trans ((Same.sx e6).trans e7))
              refine w_ixQTi (dqx X37 hfd3) (n := f.br) rfl ?_
              walk_at "Zs"
              exact hnx _ _ ⟨_, rfl, X37, box_le (by omega) b7, Int.emod_nonneg _ (by omega), Int.emod_lt_of_pos _ pb⟩
            · walk_at "Zs"
              exact hnx _ _ ⟨_, rfl, e4, box_le (by omega) b4, Int.emod_nonneg _ (by omega), Int.emod_lt_of_pos _ pb⟩
        · obtain ⟨hv, hd, ⟨y5, y6, y7, rfl⟩, e2, b2, hh, lh, oh⟩ := h
          rw [List.take_of_length_le (by omega)] at oh
          walk_at "Zs"
          exact q hd _ _ ((Same.sx e1).trans e2) (box_le (by omega) b2) hh oh
  exact F0
theorem c__law_next_head {W : Wd} {mg : Str → Option Value} {base : Heap} (B : Bi mg) (S : Src W.K mg "_law_next_head" s__law_next_head) (T : Kl W.K mg) (C__law_next : Cal W mg base "_law_next" 1 ["_law_box_here", "_law_many"] (sp__law_next W)) (C__law_of : Cal W mg base "_law_of" 2 ["_law_box_here", "_law_some"] (sp__law_of W)) (C__law_expected : Cal W mg base "_law_expected" 1 ["_law_shape_here", "_law_place", "_law_former", "_law_ahead", "_law_more"] (sp__law_expected W)) : Cal W mg base "_law_next_head" 3 ["_law_box_here", "_law_shape_here", "_law_former", "_law_calm"] (sp__law_next_head W) := by
  obtain ⟨f, fd, g, F⟩ := S
  exact ⟨f, fd, g, f__law_next_head B F T C__law_next C__law_of C__law_expected, F.kp, (F.binds (ps := ["_law_box_here", "_law_shape_here", "_law_former", "_law_calm"]) fun _ _ _ _ _ _ us hl => match us, hl with | [_, _, _, _], _ => rfl)⟩
theorem go__law_next_head {W : Wd} {H : Hp} {Q : VK} {E : XK} {v x y : V} {n c : Int} {s : Shp} {fo : List Int} (hp : BoxAt W false n H v) (hn : n ≤ 999999000) (hs : Dq W.K H x (shD s)) (ok : OkShp s) (hfo : Dq W.K H y (headD fo)) (ofo : OkHead s.fs fo) (c0 : 1 ≤ c) (c1 : c ≤ 1000) (q : ∀ (hd : List Int) u H', Sx H H' → BoxAt W false (n + 40) H' v → Dq W.K H' u (headD hd) → OkHead s.fs hd → Q u H') : sp__law_next_head W [v, x, y, .int c] H Q E := ⟨n, c, s, fo, hp, hn, hs, ok, hfo, ofo, rfl, c0, c1, q⟩
def sp__law_word (W : Wd) : Sp := fun vs H Q _ => match vs with
  | [v_box_here, v_sent] =>
  ∃ (n : Int) (k : Nat), BoxAt W false n H v_box_here ∧ n ≤ 999999900 ∧ v_sent = .int (k : Int) ∧ k ≤ 1000 ∧ ∀ o v H', Sx H H' → BoxAt W false (n + 3) H' v_box_here → Dq W.K H' v (wdD o) → inO k o → Q v H'
  | _ => False
abbrev N__law_word : List Str := ["_law_box_here", "_law_sent"]
theorem sc__law_word : FnScope N__law_word ["_law_box_here", "_law_sent"] (defScope s__law_word) := ⟨rfl, rfl, rfl, by decide +kernel, rfl, by decide +kernel, by decide +kernel⟩
theorem f__law_word {W : Wd} {mg : Str → Option Value} {base : Heap} (B : Bi mg) {f : Addr} {fd : FuncData} (F : Fun W.K "_law_word" "_law_word" s__law_word f fd) (T : Kl W.K mg) (C__law_next : Cal W mg base "_law_next" 1 ["_law_box_here", "_law_many"] (sp__law_next W)) (C__law_of : Cal W mg base "_law_of" 2 ["_law_box_here", "_law_some"] (sp__law_of W)) : FnOk W.P W.w W.K mg base CX0 3 f fd ["_law_box_here", "_law_sent"] (sp__law_word W) := by
  obtain ⟨a__law_next, d__law_next, g__law_next, F__law_next, k__law_next, b__law_next⟩ := C__law_next
  obtain ⟨a__law_of, d__law_of, g__law_of, F__law_of, k__law_of, b__law_of⟩ := C__law_of
  have nd := sc__law_word.nd
  have F0 : FnOk W.P W.w W.K mg base CX0 3 f fd ["_law_box_here", "_law_sent"] (sp__law_word W) := by
    refine F.ok sc__law_word (fun vs H Q E h => ?_) (fun cdv A outer s H vs Q E hr h => ?_)
    · match vs, h with | [_, _], _ => rfl
    · match vs, h with
      | [v_box_here, v_sent], h =>
        change sp__law_word W [v_box_here, v_sent] H Q E at h
        refine ⟨tSeq (tIfS (tOr (tTest (tOp (rEqU W.K) (tCall (sp__law_next W) [] E0 (tCons (tVar 0) (tCons (tC (.int 5)) (tNil)))) (tC (.int 0)))) (tTest (tOp (rEqU W.K) (tVar 1) (tC (.int 0))))) (tRet (tTupN (tCons (tC (.str "anew")) (tNil)))) (tNext)) (tRet (tTupN (tCons (tC (.str "have")) (tCons (tCB (rMax2) (tCons (tC (.int 0)) (tCons (tOp (rSubU) (tOp (rSubU) (tVar 1) (tC (.int 1))) (tCall (sp__law_of W) [] E0 (tCons (tVar 0) (tCons (tLst (tCons (tC (.int 0)) (tCons (tC (.int 0)) (tCons (tC (.int 1)) (tCons (tC (.int 2)) (tCons (tC (.int 5)) (tCons (tCall (sp__law_next W) [] E0 (tCons (tVar 0) (tCons (tVar 1) (tNil)))) (tNil)))))))) (tNil))))) (tNil)))) (tNil))))), pss_cons (ps_if (PW.pt (pw_or (pt_cmpR (u_eq hr.units) (pe_call F__law_next (hr.mono (by decide)) (by rfl) g__law_next k__law_next b__law_next .nil pass0 (pa_cons (pv 0) (pa_cons (pe_int) (pa_nil)))) (pe_int) (nomark _)) (pw_or1 (pt_cmpR (u_eq hr.units) (pv 1) (pe_int) (nomark _))))) (pss_one (ps_ret (pe_tupN (pa_cons (pe_str) (pa_nil))))) (pss_nil)) (pss_one (ps_ret (pe_tupN (pa_cons (pe_str) (pa_cons (pe_callB (call_max2 rfl) (by rfl) B.b_max (by decide +kernel) (pa_cons (pe_int) (pa_cons (pe_op u_sub (pe_op u_sub (pv 1) (pe_int)) (pe_call F__law_of (hr.mono (by decide)) (by rfl) g__law_of k__law_of b__law_of .nil pass0 (pa_cons (pv 0) (pa_cons (pe_lst (pa_cons (pe_int) (pa_cons (pe_int) (pa_cons (pe_int) (pa_cons (pe_int) (pa_cons (pe_int) (pa_cons (pe_call F__law_next (hr.mono (by decide)) (by rfl) g__law_next k__law_next b__law_next .nil pass0 (pa_cons (pv 0) (pa_cons (pv 1) (pa_nil)))) (pa_nil)))))))) (pa_nil))))) (pa_nil)))) (pa_nil)))))), ?_⟩
        clear hr
        clear F__law_next g__law_next k__law_next b__law_next d__law_next a__law_next
        clear F__law_of g__law_of k__law_of b__law_of d__law_of a__law_of
        rw [show L2.start N__law_word [v_box_here, v_sent] = [some v_box_here, some v_sent] from rfl]
        obtain ⟨n, k, hp, hn, rfl, hk, q⟩ := h
        walk_at "Zp"
        refine w_cut (fun σ' H' => σ' = [some v_box_here, some (.int (k : Int))] ∧ Sx H H' ∧ BoxAt W false (n + 1) H' v_box_here ∧ 0 < k) (fun σ' H1 hP => ?_) fun nx' hnx => ?_
        · obtain ⟨rfl, e1, b1, k0⟩ := hP
          walk_at "Zs"
          rename_i d2 H2 e2 d20 d21 b2 p3 H3 n3 e3 h3
          refine go__law_ofI (fun n => 0 ≤ n) (box_mono e3 b2) (SqL.of h3) (by omega) (by show 0 < 6; decide) (by show 6 ≤ 1000000; decide) (by walk_at "Zisi") fun x H4 hx e4 b4 => ?_
          walk_at "Zs"
          rename_i p5 H5 n5 e5 h5
          refine q (some (if (k : Int) - 1 - x > 0 then (k : Int) - 1 - x else 0)) _ _ (e1.trans (e2.trans ((Same.sx e3).trans (e4.trans (Same.sx e5))))) (box_mono e5 (box_le (by omega) b4)) (dq_new h5 (dqs_two (.str _) (.int _))) ?_
          show 0 ≤ (if (k : Int) - 1 - x > 0 then (k : Int) - 1 - x else 0) ∧ (if (k : Int) - 1 - x > 0 then (k : Int) - 1 - x else 0) < (k : Int)
          split <;> omega
        · have qa : ∀ v H', Sx H H' → BoxAt W false (n + 3) H' v_box_here → Dq W.K H' v (.tuple [.str "anew"]) → Q v H' := fun v H' a b c => q none v H' a b c trivial
          walk_at "Zs"
          rename_i d H1 e1 d0 d1 b1
          refine w_dec (fun c => ?_) (fun c => ?_)
          · walk_at "Zs"
            rename_i p2 H2 n2 e2 h2
            exact qa _ _ (e1.trans (Same.sx e2)) (box_mono e2 (box_le (by omega) b1)) (dq_new h2 (dqs_one (.str _)))
          · walk_at "Zs"
            refine w_dec (fun c2 => ?_) (fun c2 => ?_)
            · walk_at "Zs"
              rename_i p2 H2 n2 e2 h2
              exact qa _ _ (e1.trans (Same.sx e2)) (box_mono e2 (box_le (by omega) b1)) (dq_new h2 (dqs_one (.str _)))
            · walk_at "Zs"
              exact hnx _ _ ⟨rfl, e1, b1, by omega⟩
  exact F0
theorem c__law_word {W : Wd} {mg : Str → Option Value} {base : Heap} (B : Bi mg) (S : Src W.K mg "_law_word" s__law_word) (T : Kl W.K mg) (C__law_next : Cal W mg base "_law_next" 1 ["_law_box_here", "_law_many"] (sp__law_next W)) (C__law_of : Cal W mg base "_law_of" 2 ["_law_box_here", "_law_some"] (sp__law_of W)) : Cal W mg base "_law_word" 3 ["_law_box_here", "_law_sent"] (sp__law_word W) := by
  obtain ⟨f, fd, g, F⟩ := S
  exact ⟨f, fd, g, f__law_word B F T C__law_next C__law_of, F.kp, (F.binds (ps := ["_law_box_here", "_law_sent"]) fun _ _ _ _ _ _ us hl => match us, hl with | [_, _], _ => rfl)⟩
theorem go__law_word {W : Wd} {H : Hp} {Q : VK} {E : XK} {v : V} {n : Int} {k : Nat} (hp : BoxAt W false n H v) (hn : n ≤ 999999900) (hk : k ≤ 1000) (q : ∀ o u H', Sx H H' → BoxAt W false (n + 3) H' v → Dq W.K H' u (wdD o) → inO k o → Q u H') : sp__law_word W [v, .int (k : Int)] H Q E := ⟨n, k, hp, hn, rfl, hk, q⟩
def wdE (D : Str) : Str := if D = "NoHead" then "head" else if D = "NoWord" then "word" else "more"
def sp__law_class (W : Wd) : Sp := fun vs H Q _ => match vs with
  | [v_e] =>
  ∃ D, ExAt W.K H v_e D ∧ (D = "NoHead" ∨ D = "NoWord" ∨ D = "NoMore") ∧ ∀ H', Same H H' → Q (.str (wdE D)) H'
  | _ => False
abbrev N__law_class : List Str := ["_law_e", "_law_some"]
theorem sc__law_class : FnScope N__law_class ["_law_e"] (defScope s__law_class) := ⟨rfl, rfl, rfl, by decide +kernel, rfl, by decide +kernel, by decide +kernel⟩
theorem f__law_class {W : Wd} {mg : Str → Option Value} {base : Heap} (B : Bi mg) {f : Addr} {fd : FuncData} (F : Fun W.K "_law_class" "_law_class" s__law_class f fd) (T : Kl W.K mg)  : FnOk W.P W.w W.K mg base CX0 1 f fd ["_law_e"] (sp__law_class W) := by
  have nd := sc__law_class.nd
  have F0 : FnOk W.P W.w W.K mg base CX0 1 f fd ["_law_e"] (sp__law_class W) := by
    refine F.ok sc__law_class (fun vs H Q E h => ?_) (fun cdv A outer s H vs Q E hr h => ?_)
    · match vs, h with | [_], _ => rfl
    · match vs, h with
      | [v_e], h =>
        change sp__law_class W [v_e] H Q E at h
        refine ⟨tSeq (tAsg (tLst (tCons (tCB (rIsV W.K) (tCons (tVar 0) (tCons (tC (.ref (clsOf W.K "NoHead"))) (tNil)))) (tCons (tCB (rIsV W.K) (tCons (tVar 0) (tCons (tC (.ref (clsOf W.K "NoWord"))) (tNil)))) (tCons (tCB (rIsV W.K) (tCons (tVar 0) (tCons (tC (.ref (clsOf W.K "NoMore"))) (tNil)))) (tCons (tCB (rIsV W.K) (tCons (tVar 0) (tCons (tC (.ref (clsOf W.K "NoLetter"))) (tNil)))) (tNil)))))) (gName 1)) (tSeq (tIfS (tOr (tTest (tOp (rNeU W.K) (tBM W.K "list" (rCntF W.K) (tVar 1) (tCons (tC (.bl true)) (tNil))) (tC (.int 1)))) (tNot (tB (tCB (rIsV W.K) (tCons (tVar 0) (tCons (tC (.ty "ValueError")) (tNil))))))) (tRet (tC (.str "other"))) (tNext)) (tRet (tOp (rIxU W.K) (tLst (tCons (tC (.str "head")) (tCons (tC (.str "word")) (tCons (tC (.str "more")) (tCons (tC (.str "letter")) (tNil)))))) (tBM W.K "list" (rIndex W.K) (tVar 1) (tCons (tC (.bl true)) (tNil)))))), pss_cons (ps_set (i := 1) nd rfl (.inl rfl) (pe_lst (pa_cons (pe_callB call_isV (by rfl) B.b_isinstance (by decide +kernel) (pa_cons (pv 0) (pa_cons (pe_glob (by rfl) T.g_NoHead rfl) (pa_nil)))) (pa_cons (pe_callB call_isV (by rfl) B.b_isinstance (by decide +kernel) (pa_cons (pv 0) (pa_cons (pe_glob (by rfl) T.g_NoWord rfl) (pa_nil)))) (pa_cons (pe_callB call_isV (by rfl) B.b_isinstance (by decide +kernel) (pa_cons (pv 0) (pa_cons (pe_glob (by rfl) T.g_NoMore rfl) (pa_nil)))) (pa_cons (pe_callB call_isV (by rfl) B.b_isinstance (by decide +kernel) (pa_cons (pv 0) (pa_cons (pe_glob (by rfl) T.g_NoLetter rfl) (pa_nil)))) (pa_nil))))))) (pss_cons (ps_if (PW.pt (pw_or (pt_cmpR (u_ne hr.units) (pe_bm PySem.F.plainAttrs_list PySem.F.slot_list_count PySem.F.type_list_count mt_cntF (pv 1) (pa_cons (pe_bl) (pa_nil))) (pe_int) (nomark _)) (pw_or1 (pt_not (pt_val (pe_callB call_isV (by rfl) B.b_isinstance (by decide +kernel) (pa_cons (pv 0) (pa_cons (pe_bltn (v := .ty "ValueError") (u := .type "ValueError") (by rfl) B.b_ValueError (by decide +kernel) rfl) (pa_nil))))))))) (pss_one (ps_ret (pe_str))) (pss_nil)) (pss_one (ps_ret (pe_ix u_ix (pe_lst (pa_cons (pe_str) (pa_cons (pe_str) (pa_cons (pe_str) (pa_cons (pe_str) (pa_nil)))))) (pe_bm PySem.F.plainAttrs_list PySem.F.slot_list_index PySem.F.type_list_index mt_index (pv 1) (pa_cons (pe_bl) (pa_nil))) (fun _ _ => rfl))))), ?_⟩
        clear hr
        rw [show L2.start N__law_class [v_e] = [some v_e, none] from rfl]
        obtain ⟨D, hx, hD, q⟩ := h
        have TV : ExvOk W.K D ["HeadError", "NoHead", "NoLetter", "NoMore", "NoWord"] := by
          rcases hD with rfl | rfl | rfl
          · exact T.v_NoHead
          · exact T.v_NoWord
          · exact T.v_NoMore
        obtain ⟨j, e1, e2, e3, e4⟩ : ∃ j : Nat, ([V.bl (decide (("NoHead" : Str) = D) || decide (("NoHead" : Str) = "HeadError")), .bl (decide (("NoWord" : Str) = D) || decide (("NoWord" : Str) = "HeadError")), .bl (decide (("NoMore" : Str) = D) || decide (("NoMore" : Str) = "HeadError")), .bl (decide (("NoLetter" : Str) = D) || decide (("NoLetter" : Str) = "HeadError"))].countP fun z => eqV z (.bl true)) = 1 ∧
            [V.bl (decide (("NoHead" : Str) = D) || decide (("NoHead" : Str) = "HeadError")), .bl (decide (("NoWord" : Str) = D) || decide (("NoWord" : Str) = "HeadError")), .bl (decide (("NoMore" : Str) = D) || decide (("NoMore" : Str) = "HeadError")), .bl (decide (("NoLetter" : Str) = D) || decide (("NoLetter" : Str) = "HeadError"))][j]? = some (.bl true) ∧
            (∀ (m : Nat) (z' : V), m < j → [V.bl (decide (("NoHead" : Str) = D) || decide (("NoHead" : Str) = "HeadError")), .bl (decide (("NoWord" : Str) = D) || decide (("NoWord" : Str) = "HeadError")), .bl (decide (("NoMore" : Str) = D) || decide (("NoMore" : Str) = "HeadError")), .bl (decide (("NoLetter" : Str) = D) || decide (("NoLetter" : Str) = "HeadError"))][m]? = some z' → eqV z' (.bl true) = false) ∧
            [V.str "head", .str "word", .str "more", .str "letter"][j]? = some (.str (wdE D)) := by
          rcases hD with rfl | rfl | rfl
          · exact ⟨0, by decide +kernel, by decide +kernel, fun m z' hm => absurd hm (Nat.not_lt_zero _), by decide +kernel⟩
          · refine ⟨1, by decide +kernel, by decide +kernel, fun m z' hm h => ?_, by decide +kernel⟩
            obtain rfl : m = 0 := by omega
            rw [← Option.some.inj h]
            decide +kernel
          · refine ⟨2, by decide +kernel, by decide +kernel, fun m z' hm h => ?_, by decide +kernel⟩
            rcases (show m = 0 ∨ m = 1 by omega) with rfl | rfl <;> (rw [← Option.some.inj h]; decide +kernel)
        walk_at "Zs"
        refine w_isV hx TV (by decide) ?_
        walk_at "Zs"
        refine w_isV hx TV (by decide) ?_
        walk_at "Zs"
        refine w_isV hx TV (by decide) ?_
        walk_at "Zs"
        refine w_isV hx TV (by decide) ?_
        walk_at "Zs"
        rename_i p1 H1 n1 f1 h1
        refine w_tyL h1 ?_
        walk_at "Zs"
        refine w_cntF (SqL.of h1) rfl rfl ?_
        rw [e1]
        walk_at "Zs"
        refine w_isVe (exAt_mono f1 hx) TV ?_
        walk_at "Zs"
        rename_i p2 H2 n2 f2 h2
        refine w_tyL (f2 _ _ h1) ?_
        walk_at "Zs"
        refine w_idxF j (SqL.of (f2 _ _ h1)) rfl rfl e2 rfl e3 ?_
        refine w_ixl (SqL.of h2) (atI_nat e4) ?_
        exact q _ (f1.trans f2)
  exact F0
theorem c__law_class {W : Wd} {mg : Str → Option Value} {base : Heap} (B : Bi mg) (S : Src W.K mg "_law_class" s__law_class) (T : Kl W.K mg)  : Cal W mg base "_law_class" 1 ["_law_e"] (sp__law_class W) := by
  obtain ⟨f, fd, g, F⟩ := S
  exact ⟨f, fd, g, f__law_class B F T , F.kp, (F.binds (ps := ["_law_e"]) fun _ _ _ _ _ _ us hl => match us, hl with | [_], _ => rfl)⟩
theorem fq__law_class {W : Wd} {mg : Str → Option Value} {base : Heap} (B : Bi mg) {f : Addr} {fd : FuncData} (F : Fun W.K "_law_class" "_law_class" s__law_class f fd) (T : Kl W.K mg) : FnQ W.P W.w W.K mg base 1 f fd ["_law_e"] (sp__law_class W) := by
  have nd := sc__law_class.nd
  refine okQ F sc__law_class (fun vs H Q E h => ?_) (fun cdv A outer s H vs Q E hr h => ?_)
  · match vs, h with | [_], _ => rfl
  · match vs, h with
    | [v_e], h =>
        change sp__law_class W [v_e] H Q E at h
        refine ⟨tSeq (tAsg (tLst (tCons (tCB (rIsV W.K) (tCons (tVar 0) (tCons (tC (.ref (clsOf W.K "NoHead"))) (tNil)))) (tCons (tCB (rIsV W.K) (tCons (tVar 0) (tCons (tC (.ref (clsOf W.K "NoWord"))) (tNil)))) (tCons (tCB (rIsV W.K) (tCons (tVar 0) (tCons (tC (.ref (clsOf W.K "NoMore"))) (tNil)))) (tCons (tCB (rIsV W.K) (tCons (tVar 0) (tCons (tC (.ref (clsOf W.K "NoLetter"))) (tNil)))) (tNil)))))) (gName 1)) (tSeq (tIfS (tOr (tTest (tOp (rNeU W.K) (tBM W.K "list" (rCntF W.K) (tVar 1) (tCons (tC (.bl true)) (tNil))) (tC (.int 1)))) (tNot (tB (tCB (rIsV W.K) (tCons (tVar 0) (tCons (tC (.ty "ValueError")) (tNil))))))) (tRet (tC (.str "other"))) (tNext)) (tRet (tOp (rIxU W.K) (tLst (tCons (tC (.str "head")) (tCons (tC (.str "word")) (tCons (tC (.str "more")) (tCons (tC (.str "letter")) (tNil)))))) (tBM W.K "list" (rIndex W.K) (tVar 1) (tCons (tC (.bl true)) (tNil)))))), pss_cons (ps_set (i := 1) nd rfl (.inl rfl) (pe_lst (pa_cons (pe_callB call_isV (by rfl) B.b_isinstance (by decide +kernel) (pa_cons (pv 0) (pa_cons (pe_glob (by rfl) T.g_NoHead rfl) (pa_nil)))) (pa_cons (pe_callB call_isV (by rfl) B.b_isinstance (by decide +kernel) (pa_cons (pv 0) (pa_cons (pe_glob (by rfl) T.g_NoWord rfl) (pa_nil)))) (pa_cons (pe_callB call_isV (by rfl) B.b_isinstance (by decide +kernel) (pa_cons (pv 0) (pa_cons (pe_glob (by rfl) T.g_NoMore rfl) (pa_nil)))) (pa_cons (pe_callB call_isV (by rfl) B.b_isinstance (by decide +kernel) (pa_cons (pv 0) (pa_cons (pe_glob (by rfl) T.g_NoLetter rfl) (pa_nil)))) (pa_nil))))))) (pss_cons (ps_if (PW.pt (pw_or (pt_cmpR (u_ne (un_of hr)) (pe_bm PySem.F.plainAttrs_list PySem.F.slot_list_count PySem.F.type_list_count mt_cntF (pv 1) (pa_cons (pe_bl) (pa_nil))) (pe_int) (nomark _)) (pw_or1 (pt_not (pt_val (pe_callB call_isV (by rfl) B.b_isinstance (by decide +kernel) (pa_cons (pv 0) (pa_cons (pe_bltn (v := .ty "ValueError") (u := .type "ValueError") (by rfl) B.b_ValueError (by decide +kernel) rfl) (pa_nil))))))))) (pss_one (ps_ret (pe_str))) (pss_nil)) (pss_one (ps_ret (pe_ix u_ix (pe_lst (pa_cons (pe_str) (pa_cons (pe_str) (pa_cons (pe_str) (pa_cons (pe_str) (pa_nil)))))) (pe_bm PySem.F.plainAttrs_list PySem.F.slot_list_index PySem.F.type_list_index mt_index (pv 1) (pa_cons (pe_bl) (pa_nil))) (fun _ _ => rfl))))), ?_⟩
        clear hr
        rw [show L2.start N__law_class [v_e] = [some v_e, none] from rfl]
        obtain ⟨D, hx, hD, q⟩ := h
        have TV : ExvOk W.K D ["HeadError", "NoHead", "NoLetter", "NoMore", "NoWord"] := by
          rcases hD with rfl | rfl | rfl
          · exact T.v_NoHead
          · exact T.v_NoWord
          · exact T.v_NoMore
        obtain ⟨j, e1, e2, e3, e4⟩ : ∃ j : Nat, ([V.bl (decide (("NoHead" : Str) = D) || decide (("NoHead" : Str) = "HeadError")), .bl (decide (("NoWord" : Str) = D) || decide (("NoWord" : Str) = "HeadError")), .bl (decide (("NoMore" : Str) = D) || decide (("NoMore" : Str) = "HeadError")), .bl (decide (("NoLetter" : Str) = D) || decide (("NoLetter" : Str) = "HeadError"))].countP fun z => eqV z (.bl true)) = 1 ∧
            [V.bl (decide (("NoHead" : Str) = D) || decide (("NoHead" : Str) = "HeadError")), .bl (decide (("NoWord" : Str) = D) || decide (("NoWord" : Str) = "HeadError")), .bl (decide (("NoMore" : Str) = D) || decide (("NoMore" : Str) = "HeadError")), .bl (decide (("NoLetter" : Str) = D) || decide (("NoLetter" : Str) = "HeadError"))][j]? = some (.bl true) ∧
            (∀ (m : Nat) (z' : V), m < j → [V.bl (decide (("NoHead" : Str) = D) || decide (("NoHead" : Str) = "HeadError")), .bl (decide (("NoWord" : Str) = D) || decide (("NoWord" : Str) = "HeadError")), .bl (decide (("NoMore" : Str) = D) || decide (("NoMore" : Str) = "HeadError")), .bl (decide (("NoLetter" : Str) = D) || decide (("NoLetter" : Str) = "HeadError"))][m]? = some z' → eqV z' (.bl true) = false) ∧
            [V.str "head", .str "word", .str "more", .str "letter"][j]? = some (.str (wdE D)) := by
          rcases hD with rfl | rfl | rfl
          · exact ⟨0, by decide +kernel, by decide +kernel, fun m z' hm => absurd hm (Nat.not_lt_zero _), by decide +kernel⟩
          · refine ⟨1, by decide +kernel, by decide +kernel, fun m z' hm h => ?_, by decide +kernel⟩
            obtain rfl : m = 0 := by omega
            rw [← Option.some.inj h]
            decide +kernel
          · refine ⟨2, by decide +kernel, by decide +kernel, fun m z' hm h => ?_, by decide +kernel⟩
            rcases (show m = 0 ∨ m = 1 by omega) with rfl | rfl <;> (rw [← Option.some.inj h]; decide +kernel)
        walk_at "Zs"
        refine w_isV hx TV (by decide) ?_
        walk_at "Zs"
        refine w_isV hx TV (by decide) ?_
        walk_at "Zs"
        refine w_isV hx TV (by decide) ?_
        walk_at "Zs"
        refine w_isV hx TV (by decide) ?_
        walk_at "Zs"
        rename_i p1 H1 n1 f1 h1
        refine w_tyL h1 ?_
        walk_at "Zs"
        refine w_cntF (SqL.of h1) rfl rfl ?_
        rw [e1]
        walk_at "Zs"
        refine w_isVe (exAt_mono f1 hx) TV ?_
        walk_at "Zs"
        rename_i p2 H2 n2 f2 h2
        refine w_tyL (f2 _ _ h1) ?_
        walk_at "Zs"
        refine w_idxF j (SqL.of (f2 _ _ h1)) rfl rfl e2 rfl e3 ?_
        refine w_ixl (SqL.of h2) (atI_nat e4) ?_
        exact q _ (f1.trans f2)
theorem cq__law_class {W : Wd} {mg : Str → Option Value} {base : Heap} (B : Bi mg) (S : Src W.K mg "_law_class" s__law_class) (T : Kl W.K mg) : CalQ W mg base "_law_class" 1 ["_law_e"] (sp__law_class W) := by
  obtain ⟨f, fd, g, F⟩ := S
  exact ⟨f, fd, g, fq__law_class B F T, F.kp, (F.binds (ps := ["_law_e"]) fun _ _ _ _ _ _ us hl => match us, hl with | [_], _ => rfl)⟩

theorem go__law_class {W : Wd} {H : Hp} {Q : VK} {E : XK} {v : V} {D : Str} (hx : ExAt W.K H v D) (hD : D = "NoHead" ∨ D = "NoWord" ∨ D = "NoMore") (q : ∀ H', Same H H' → Q (.str (wdE D)) H') : sp__law_class W [v] H Q E := ⟨D, hx, hD, q⟩
/-- what a presser refuses, and by which word it is told -/
def RefP (K : PySem.W.Frag) (H : Hp) (s : PrS) (deed : Str) (v : V) (d : PyData) (w : Str) : Prop :=
  (deed = "press" ∧ headB s.P.s.fs d = false ∧ w = "head") ∨ (deed = "use" ∧ headB s.P.s.fs d = false ∧ w = "head") ∨ (deed = "why" ∧ headB s.P.s.fs d = false ∧ w = "head") ∨
  (deed = "heard" ∧ (noWd d = true ∨ (Dq K H v d ∧ SeqAt.shaped d = true ∧ PyData.eqv d (.tuple [.str "anew"]) = false ∧ hadD s.past.length d = false)) ∧ w = "word") ∨
  (deed = "press" ∧ ∃ hd, Dq K H v (headD hd) ∧ OkHead s.P.s.fs hd ∧ p2 s.P.n ≤ (s.past.length : Int) ∧ w = "more")
def sp__law_told (W : Wd) : Sp := fun vs H Q _ => match vs with
  | [v_presser, v_deed, v_thing, v_at] =>
  ∃ (p l : Addr) (s : PrS) (d : PyData) (z w : Str) (n : Int), v_presser = .ref p ∧ v_deed = .str z ∧ v_at = .int n ∧ PrAt W H p l s ∧ OkPr s ∧ Dz W.K Ever H v_thing d ∧ RefP W.K H s z v_thing d w ∧ ∀ H', Same H H' → Q (.str w) H'
  | _ => False
abbrev N__law_told : List Str := ["_law_presser", "_law_deed", "_law_thing", "_law_at", "_law_found", "_law_e"]
theorem sc__law_told : FnScope N__law_told ["_law_presser", "_law_deed", "_law_thing", "_law_at"] (defScope s__law_told) := ⟨rfl, rfl, rfl, by decide +kernel, rfl, by decide +kernel, by decide +kernel⟩
theorem f__law_told {W : Wd} {mg : Str → Option Value} {base : Heap} (B : Bi mg) {f : Addr} {fd : FuncData} (F : Fun W.K "_law_told" "_law_told" s__law_told f fd) (T : Kl W.K mg) (C_Presser_press : CalMX W mg base (clsOf W.K "Presser") "press" 10 ["self", "head"] (sp_Presser_press W)) (C_Presser_heard : CalMX W mg base (clsOf W.K "Presser") "heard" 4 ["self", "word"] (sp_Presser_heard W)) (C_Presser_why_not : CalMX W mg base (clsOf W.K "Presser") "why_not" 8 ["self", "head", "at"] (sp_Presser_why_not W)) (C_Presser_usable : CalMX W mg base (clsOf W.K "Presser") "usable" 8 ["self", "head"] (sp_Presser_usable W)) (CQ__law_class : CalQ W mg base "_law_class" 1 ["_law_e"] (sp__law_class W)) : FnOk W.P W.w W.K mg base CX0 11 f fd ["_law_presser", "_law_deed", "_law_thing", "_law_at"] (sp__law_told W) := by
  obtain ⟨a_Presser_press, d_Presser_press, m_Presser_press, F_Presser_press, b_Presser_press⟩ := C_Presser_press
  obtain ⟨a_Presser_heard, d_Presser_heard, m_Presser_heard, F_Presser_heard, b_Presser_heard⟩ := C_Presser_heard
  obtain ⟨a_Presser_why_not, d_Presser_why_not, m_Presser_why_not, F_Presser_why_not, b_Presser_why_not⟩ := C_Presser_why_not
  obtain ⟨a_Presser_usable, d_Presser_usable, m_Presser_usable, F_Presser_usable, b_Presser_usable⟩ := C_Presser_usable
  obtain ⟨aq__law_class, dq__law_class, gq__law_class, FQ__law_class, kq__law_class, bq__law_class⟩ := CQ__law_class
  have nd := sc__law_told.nd
  have F0 : FnOk W.P W.w W.K mg base CX0 11 f fd ["_law_presser", "_law_deed", "_law_thing", "_law_at"] (sp__law_told W) := by
    refine F.ok sc__law_told (fun vs H Q E h => ?_) (fun cdv A outer s H vs Q E hr h => ?_)
    · match vs, h with | [_, _, _, _], _ => rfl
    · match vs, h with
      | [v_presser, v_deed, v_thing, v_at], h =>
        change sp__law_told W [v_presser, v_deed, v_thing, v_at] H Q E at h
        refine ⟨tSeq (tAsg (tC (.str "")) (gName 4)) (tSeq (sTryV W.K (.ref (clsOf W.K "HeadError")) 5 wNone (fun Wt => tIfS (tTest (tOp (rEqU W.K) (tVar 1) (tC (.str "press")))) (tDrop (tMethA (clsOf W.K "Presser") "press" (sp_Presser_press W) (WE Wt) (tVar 0) (tCons (tVar 2) (tNil)))) (tIfS (tTest (tOp (rEqU W.K) (tVar 1) (tC (.str "heard")))) (tDrop (tMethA (clsOf W.K "Presser") "heard" (sp_Presser_heard W) (WE Wt) (tVar 0) (tCons (tVar 2) (tNil)))) (tIfS (tTest (tOp (rEqU W.K) (tVar 1) (tC (.str "why")))) (tDrop (tMethA (clsOf W.K "Presser") "why_not" (sp_Presser_why_not W) (WE Wt) (tVar 0) (tCons (tVar 2) (tCons (tVar 3) (tNil))))) (tDrop (tMethA (clsOf W.K "Presser") "usable" (sp_Presser_usable W) (WE Wt) (tVar 0) (tCons (tVar 2) (tNil))))))) (tAsg (tCallS (sp__law_class W) (fun _ => E0) (tCons (tVar 5) (tNil))) (gName 4))) (tRet (tVar 4))), pss_cons (ps_set (i := 4) nd rfl (.inl rfl) (pe_str)) (pss_cons (ps_tryv rfl rfl rfl nd rfl rfl ⟨by rfl, by decide, .inl T.g_HeadError⟩ takesN (fun Wt pn xe tk _ => pss_one (ps_if (pt_cmpR (u_eq hr.units) (pv 1) (pe_str) (nomark _)) (pss_one (ps_expr (pe_methA (pv 0) T.Presser.cl m_Presser_press F_Presser_press (hr.mono (by decide)) b_Presser_press (fun σ => L2N.passAt tk σ) (pa_cons (pv 2) (pa_nil))))) (pss_one (ps_if (pt_cmpR (u_eq hr.units) (pv 1) (pe_str) (nomark _)) (pss_one (ps_expr (pe_methA (pv 0) T.Presser.cl m_Presser_heard F_Presser_heard (hr.mono (by decide)) b_Presser_heard (fun σ => L2N.passAt tk σ) (pa_cons (pv 2) (pa_nil))))) (pss_one (ps_if (pt_cmpR (u_eq hr.units) (pv 1) (pe_str) (nomark _)) (pss_one (ps_expr (pe_methA (pv 0) T.Presser.cl m_Presser_why_not F_Presser_why_not (hr.mono (by decide)) b_Presser_why_not (fun σ => L2N.passAt tk σ) (pa_cons (pv 2) (pa_cons (pv 3) (pa_nil)))))) (pss_one (ps_expr (pe_methA (pv 0) T.Presser.cl m_Presser_usable F_Presser_usable (hr.mono (by decide)) b_Presser_usable (fun σ => L2N.passAt tk σ) (pa_cons (pv 2) (pa_nil))))))))))) (fun a pn => pss_one (ps_set (i := 4) nd rfl (.inl rfl) (pe_callQ FQ__law_class (roomM (hr.mono (by decide))) (by rfl) gq__law_class kq__law_class bq__law_class (fun _ => passH) (pa_cons (pv 5) (pa_nil)))))) (pss_one (ps_ret (pv 4)))), ?_⟩
        clear hr
        clear F_Presser_press m_Presser_press b_Presser_press d_Presser_press a_Presser_press
        clear F_Presser_heard m_Presser_heard b_Presser_heard d_Presser_heard a_Presser_heard
        clear F_Presser_why_not m_Presser_why_not b_Presser_why_not d_Presser_why_not a_Presser_why_not
        clear F_Presser_usable m_Presser_usable b_Presser_usable d_Presser_usable a_Presser_usable
        clear FQ__law_class gq__law_class kq__law_class bq__law_class dq__law_class aq__law_class
        rw [show L2.start N__law_told [v_presser, v_deed, v_thing, v_at] = [some v_presser, some v_deed, some v_thing, some v_at, none, none] from rfl]
        obtain ⟨p, l, s, d, z, w, n, rfl, rfl, rfl, hp, ok, hd, hr, q⟩ := h
        walk_at "Zs"
        refine w_tryV ?_
        rcases hr with ⟨rfl, hb, rfl⟩ | ⟨rfl, hb, rfl⟩ | ⟨rfl, hb, rfl⟩ | ⟨rfl, hw, rfl⟩ | ⟨rfl, hd2, hh, oh, hf, rfl⟩
        · walk_at "Zs"
          refine w_methA ?_
          walk_at "Zs"
          refine go_Presser_pressX hp ok hd hb fun H1 e1 => ?_
          refine w_tookV T.v_NoHead fun a na => ?_
          have ea := same_new (o := L2N.exV (.ref (clsOf W.K "NoHead")) none a) na
          have hx : ExAt W.K (upd H1 a (L2N.exV (.ref (clsOf W.K "NoHead")) none a)) (.ref a) "NoHead" := exAt_new
          generalize upd H1 a (L2N.exV (.ref (clsOf W.K "NoHead")) none a) = H2 at ea hx
          walk_at "Zs"
          refine w_callS ?_
          walk_at "Zs"
          refine go__law_class hx (.inl rfl) fun H3 e3 => ?_
          walk_at "Zs"
          exact q _ (e1.trans (ea.trans e3))
        · walk_at "Zs"
          refine w_methA ?_
          walk_at "Zs"
          refine go_Presser_usableX hp ok hd hb fun H1 e1 => ?_
          refine w_tookV T.v_NoHead fun a na => ?_
          have ea := same_new (o := L2N.exV (.ref (clsOf W.K "NoHead")) none a) na
          have hx : ExAt W.K (upd H1 a (L2N.exV (.ref (clsOf W.K "NoHead")) none a)) (.ref a) "NoHead" := exAt_new
          generalize upd H1 a (L2N.exV (.ref (clsOf W.K "NoHead")) none a) = H2 at ea hx
          walk_at "Zs"
          refine w_callS ?_
          walk_at "Zs"
          refine go__law_class hx (.inl rfl) fun H3 e3 => ?_
          walk_at "Zs"
          exact q _ (e1.trans (ea.trans e3))
        · walk_at "Zs"
          refine w_methA ?_
          walk_at "Zs"
          refine go_Presser_why_notX hp ok hd hb fun H1 e1 => ?_
          refine w_tookV T.v_NoHead fun a na => ?_
          have ea := same_new (o := L2N.exV (.ref (clsOf W.K "NoHead")) none a) na
          have hx : ExAt W.K (upd H1 a (L2N.exV (.ref (clsOf W.K "NoHead")) none a)) (.ref a) "NoHead" := exAt_new
          generalize upd H1 a (L2N.exV (.ref (clsOf W.K "NoHead")) none a) = H2 at ea hx
          walk_at "Zs"
          refine w_callS ?_
          walk_at "Zs"
          refine go__law_class hx (.inl rfl) fun H3 e3 => ?_
          walk_at "Zs"
          exact q _ (e1.trans (ea.trans e3))
        · walk_at "Zs"
          refine w_methA ?_
          walk_at "Zs"
          refine go_Presser_heardX hp hd hw fun H1 e1 => ?_
          refine w_tookV T.v_NoWord fun a na => ?_
          have ea := same_new (o := L2N.exV (.ref (clsOf W.K "NoWord")) none a) na
          have hx : ExAt W.K (upd H1 a (L2N.exV (.ref (clsOf W.K "NoWord")) none a)) (.ref a) "NoWord" := exAt_new
          generalize upd H1 a (L2N.exV (.ref (clsOf W.K "NoWord")) none a) = H2 at ea hx
          walk_at "Zs"
          refine w_callS ?_
          walk_at "Zs"
          refine go__law_class hx (.inr (.inl rfl)) fun H3 e3 => ?_
          walk_at "Zs"
          exact q _ (e1.trans (ea.trans e3))
        · walk_at "Zs"
          refine w_methA ?_
          walk_at "Zs"
          refine go_Presser_pressF hp ok hh oh hf fun H1 e1 => ?_
          refine w_tookV T.v_NoMore fun a na => ?_
          have ea := same_new (o := L2N.exV (.ref (clsOf W.K "NoMore")) none a) na
          have hx : ExAt W.K (upd H1 a (L2N.exV (.ref (clsOf W.K "NoMore")) none a)) (.ref a) "NoMore" := exAt_new
          generalize upd H1 a (L2N.exV (.ref (clsOf W.K "NoMore")) none a) = H2 at ea hx
          walk_at "Zs"
          refine w_callS ?_
          walk_at "Zs"
          refine go__law_class hx (.inr (.inr rfl)) fun H3 e3 => ?_
          walk_at "Zs"
          exact q _ (e1.trans (ea.trans e3))
  exact F0
theorem c__law_told {W : Wd} {mg : Str → Option Value} {base : Heap} (B : Bi mg) (S : Src W.K mg "_law_told" s__law_told) (T : Kl W.K mg) (C_Presser_press : CalMX W mg base (clsOf W.K "Presser") "press" 10 ["self", "head"] (sp_Presser_press W)) (C_Presser_heard : CalMX W mg base (clsOf W.K "Presser") "heard" 4 ["self", "word"] (sp_Presser_heard W)) (C_Presser_why_not : CalMX W mg base (clsOf W.K "Presser") "why_not" 8 ["self", "head", "at"] (sp_Presser_why_not W)) (C_Presser_usable : CalMX W mg base (clsOf W.K "Presser") "usable" 8 ["self", "head"] (sp_Presser_usable W)) (CQ__law_class : CalQ W mg base "_law_class" 1 ["_law_e"] (sp__law_class W)) : Cal W mg base "_law_told" 11 ["_law_presser", "_law_deed", "_law_thing", "_law_at"] (sp__law_told W) := by
  obtain ⟨f, fd, g, F⟩ := S
  exact ⟨f, fd, g, f__law_told B F T C_Presser_press C_Presser_heard C_Presser_why_not C_Presser_usable CQ__law_class, F.kp, (F.binds (ps := ["_law_presser", "_law_deed", "_law_thing", "_law_at"]) fun _ _ _ _ _ _ us hl => match us, hl with | [_, _, _, _], _ => rfl)⟩
theorem go__law_told {W : Wd} {H : Hp} {Q : VK} {E : XK} {p l : Addr} {s : PrS} {d : PyData} {v : V} {z w : Str} {n : Int} (hp : PrAt W H p l s) (ok : OkPr s) (hd : Dz W.K Ever H v d) (hr : RefP W.K H s z v d w) (q : ∀ H', Same H H' → Q (.str w) H') : sp__law_told W [.ref p, .str z, v, .int n] H Q E := ⟨p, l, s, d, z, w, n, rfl, rfl, rfl, hp, ok, hd, hr, q⟩
/-- things that are no head -/
def NoHds (K : PySem.W.Frag) (fs : List Fd) (H : Hp) (xs : List V) : Prop := ∀ x ∈ xs, ∃ d, Dz K Ever H x d ∧ headB fs d = false
theorem noHds_sx {K : PySem.W.Frag} {fs : List Fd} {H H' : Hp} {xs : List V} (e : Sx H H') (h : NoHds K fs H xs) : NoHds K fs H' xs := fun x hx => by
  obtain ⟨d, h1, h2⟩ := h x hx
  exact ⟨d, dzx e h1, h2⟩
theorem headB_len {fs : List Fd} {ds : List PyData} (h : ds.length ≠ fs.length) : headB fs (.tuple ds) = false := by
  show (decide (ds.length = fs.length) && _) = false
  rw [decide_eq_false h, Bool.false_and]
theorem headB_at {fs : List Fd} {ds : List PyData} {i : Nat} {f : Fd} {d : PyData} (hf : fs[i]? = some f) (hd : ds[i]? = some d) (h : betwD 0 (p2 f.br - 1) d = false) : headB fs (.tuple ds) = false := by
  show (decide (ds.length = fs.length) && (fs.zip ds).all fun fd => betwD 0 (p2 fd.1.br - 1) fd.2) = false
  have e : ((fs.zip ds).all fun fd => betwD 0 (p2 fd.1.br - 1) fd.2) = false := by
    rw [List.all_eq_false]
    exact ⟨(f, d), List.mem_of_getElem? (List.getElem?_zip_eq_some.mpr ⟨hf, hd⟩), by show ¬ betwD 0 (p2 f.br - 1) d = true; rw [h]; decide⟩
  rw [e, Bool.and_false]
def sp__law_no_heads (W : Wd) : Sp := fun vs H Q _ => match vs with
  | [v_box_here, v_head, v_shape_here] =>
  ∃ (n : Int) (s : Shp) (hd : List Int), BoxAt W false n H v_box_here ∧ n ≤ 999999000 ∧ Dq W.K H v_shape_here (shD s) ∧ OkShp s ∧ Dq W.K H v_head (headD hd) ∧ OkHead s.fs hd ∧ ∀ p xs H', Sx H H' → BoxAt W false (n + 1) H' v_box_here → H' p = some (.lst xs) → xs.length ≤ 100 → NoHds W.K s.fs H' xs → Q (.ref p) H'
  | _ => False
abbrev N__law_no_heads : List Str := ["_law_box_here", "_law_head", "_law_shape_here", "_law_at", "_law_some", "_law_value_here"]
theorem sc__law_no_heads : FnScope N__law_no_heads ["_law_box_here", "_law_head", "_law_shape_here"] (defScope s__law_no_heads) := ⟨rfl, rfl, rfl, by decide +kernel, rfl, by decide +kernel, by decide +kernel⟩
theorem f__law_no_heads {W : Wd} {mg : Str → Option Value} {base : Heap} (B : Bi mg) {f : Addr} {fd : FuncData} (F : Fun W.K "_law_no_heads" "_law_no_heads" s__law_no_heads f fd) (T : Kl W.K mg) (C__law_next : Cal W mg base "_law_next" 1 ["_law_box_here", "_law_many"] (sp__law_next W)) : FnOk W.P W.w W.K mg base CX0 2 f fd ["_law_box_here", "_law_head", "_law_shape_here"] (sp__law_no_heads W) := by
  obtain ⟨a__law_next, d__law_next, g__law_next, F__law_next, k__law_next, b__law_next⟩ := C__law_next
  have nd := sc__law_no_heads.nd
  have F0 : FnOk W.P W.w W.K mg base CX0 2 f fd ["_law_box_here", "_law_head", "_law_shape_here"] (sp__law_no_heads W) := by
    refine F.ok sc__law_no_heads (fun vs H Q E h => ?_) (fun cdv A outer s H vs Q E hr h => ?_)
    · match vs, h with | [_, _, _], _ => rfl
    · match vs, h with
      | [v_box_here, v_head, v_shape_here], h =>
        change sp__law_no_heads W [v_box_here, v_head, v_shape_here] H Q E at h
        refine ⟨tSeq (tAsg (tCall (sp__law_next W) [] E0 (tCons (tVar 0) (tCons (tCB (rLenU W.K) (tCons (tVar 1) (tNil))) (tNil)))) (gName 3)) (tSeq (tAsg (tLst (tCons (tOp (rShlU) (tC (.int 1)) (tOp (rIxU W.K) (tOp (rIxU W.K) (tOp (rIxU W.K) (tVar 2) (tC (.int 0))) (tVar 3)) (tC (.int 1)))) (tCons (tUn (rU fun i => .int (-i)) (tC (.int 1))) (tCons (tC (.bl true)) (tCons (tC .non) (tCons (tC (.str "0")) (tCons (tTupN (tCons (tC (.int 0)) (tNil))) (tCons (tOp (rCon 10 20 100000000000000000000) (tC (.int 10)) (tC (.int 20))) (tNil))))))))) (gName 4)) (tSeq (tAsg (tLc (iAny W.K (tVar 4)) (gName 5) (tYes) (tOp (rAddN W.K) (tOp (rAddN W.K) (tSl (rSlU W.K) (tVar 1) (tNoPart) (tPart (tVar 3))) (tTupN (tCons (tVar 5) (tNil)))) (tSl (rSlU W.K) (tVar 1) (tPart (tOp (rAddN W.K) (tVar 3) (tC (.int 1)))) (tNoPart))) [5]) (gName 4)) (tRet (tOp (rAddN W.K) (tVar 4) (tLst (tCons (tOp (rAddN W.K) (tVar 1) (tTupN (tCons (tC (.int 0)) (tNil)))) (tCons (tSl (rSlU W.K) (tVar 1) (tPart (tC (.int 1))) (tNoPart)) (tCons (tCB (rListU W.K) (tCons (tVar 1) (tNil))) (tCons (tC .non) (tCons (tDNewK) (tCons (tC (.int 7)) (tCons (tC (.str "head")) (tCons (tLst (tCons (tVar 1) (tNil))) (tCons (tTupN (tCons (tVar 1) (tNil))) (tNil))))))))))))))), pss_cons (ps_set (i := 3) nd rfl (.inr rfl) (pe_call F__law_next (hr.mono (by decide)) (by rfl) g__law_next k__law_next b__law_next .nil pass0 (pa_cons (pv 0) (pa_cons (pe_callB u_len (by rfl) B.b_len (by decide +kernel) (pa_cons (pv 1) (pa_nil))) (pa_nil))))) (pss_cons (ps_set (i := 4) nd rfl (.inl rfl) (pe_lst (pa_cons (pe_op u_shl (pe_int) (pe_ix u_ix (pe_ix u_ix (pe_ix u_ix (pv 2) (pe_int) (fun _ _ => rfl)) (pv 3) (fun _ _ => rfl)) (pe_int) (fun _ _ => rfl))) (pa_cons (pe_un un_neg (pe_int)) (pa_cons (pe_bl) (pa_cons (pe_non) (pa_cons (pe_str) (pa_cons (pe_tupN (pa_cons (pe_int) (pa_nil))) (pa_cons (pe_op (u_powc ⟨by decide, by decide, by decide⟩ (by decide +kernel)) pe_int pe_int) (pa_nil)))))))))) (pss_cons (ps_setLc (i := 4) (own := [("_law_value_here", 5)]) rfl nd rfl rfl (sw_true rfl rfl rfl (by decide +kernel)) (pi_any (pv 4)) (blkOk_by (own := [("_law_value_here", 5)]) (N := N__law_no_heads) (sc := defScope s__law_no_heads) (by decide +kernel)) (fun _ _ _ _ _ => pg_name (i := 5) nd rfl (by first | exact Or.inl rfl | exact Or.inr rfl)) (fun _ _ _ _ _ => pts_nil) (fun _ _ _ _ _ => pe_op u_addN (pe_op u_addN (pe_slice u_sl (pv 1) (po_none) (po_some (pv 3))) (pe_tupN (pa_cons (pv 5) (pa_nil)))) (pe_slice u_sl (pv 1) (po_some (pe_op u_addN (pv 3) (pe_int))) (po_none)))) (pss_one (ps_ret (pe_op u_addN (pv 4) (pe_lst (pa_cons (pe_op u_addN (pv 1) (pe_tupN (pa_cons (pe_int) (pa_nil)))) (pa_cons (pe_slice u_sl (pv 1) (po_some (pe_int)) (po_none)) (pa_cons (pe_callTy (u_list (by rfl)) (by rfl) B.b_list (by decide +kernel) (pa_cons (pv 1) (pa_nil))) (pa_cons (pe_non) (pa_cons (pe_dnewK) (pa_cons (pe_int) (pa_cons (pe_str) (pa_cons (pe_lst (pa_cons (pv 1) (pa_nil))) (pa_cons (pe_tupN (pa_cons (pv 1) (pa_nil))) (pa_nil)))))))))))))))), ?_⟩
        clear hr
        clear F__law_next g__law_next k__law_next b__law_next d__law_next a__law_next
        rw [show L2.start N__law_no_heads [v_box_here, v_head, v_shape_here] = [some v_box_here, some v_head, some v_shape_here, none, none, none] from rfl]
        obtain ⟨n, s, hd, hb, hn, hs, ok, hh, oh, q⟩ := h
        have l0 := ok.l0
        have l1 := ok.l1
        have lh := okHead_len oh
        walk_at "Zs"
        rename_i dI H1 e1 i0 i1 b1
        obtain ⟨k, rfl⟩ : ∃ k : Nat, dI = (k : Int) := ⟨dI.toNat, by omega⟩
        obtain ⟨f, hf⟩ : ∃ f, s.fs[k]? = some f := ⟨_, List.getElem?_eq_getElem (by omega)⟩
        have okf := ok.fd k f hf
        have fb0 := okf.b0
        have fb1 := okf.b1
        have p40 : p2 f.br ≤ 1099511627776 := Int.le_trans (p2_le fb1) (by decide)
        have pp := p2_pos f.br
        have hs1 := dqx e1 hs
        have hh1 := dqx e1 hh
        refine w_shF hs1 fun x1 h1 => ?_
        walk_at "Zs"
        refine w_ixM h1 (by omega) (by omega) fun f' x3 hf' h3 => ?_
        rw [Int.toNat_natCast, hf] at hf'
        obtain rfl := Option.some.inj hf'
        walk_at "Zs"
        refine w_ixQTi h3 (n := f.br) rfl ?_
        walk_at "Zs"
        rename_i p2a H2 n2 e2 h2 p3a H3 n3 e3 h3l
        refine w_goL (SqL.of h3l) ?_
        have ex : ∃ es : List PyData, DqAll W.K H3 [V.int (p2 f.br), .int (-1), .bl true, .non, .str "0", .ref p2a, .int 100000000000000000000] es ∧ es.length = 7 ∧ (∀ e ∈ es, tupO e ∧ betwD 0 (p2 f.br - 1) e = false) := by
          refine ⟨[.int (p2 f.br), .int (-1), .bool true, .none, .str "0", .tuple [.int 0], .int 100000000000000000000], .cons (.int _) (.cons (.int _) (.cons (.bl _) (.cons .non (.cons (.str _) (.cons (dq_mono e3 (dq_new h2 (dqs_one (.int 0)))) (.cons (.int _) .nil)))))), rfl, fun e he => ?_⟩
          simp only [List.mem_cons, List.mem_nil_iff, or_false] at he
          have bi : ∀ i : Int, i < 0 ∨ p2 f.br ≤ i → betwD 0 (p2 f.br - 1) (.int i) = false := fun i h => by
            show (decide ((0 : Int) ≤ i) && decide (i ≤ p2 f.br - 1)) = false
            rcases h with h | h
            · rw [decide_eq_false (by omega), Bool.false_and]
            · rw [decide_eq_false (p := i ≤ p2 f.br - 1) (by omega), Bool.and_false]
          rcases he with rfl | rfl | rfl | rfl | rfl | rfl | rfl
          · exact ⟨trivial, bi _ (.inr (Int.le_refl _))⟩
          · exact ⟨trivial, bi _ (.inl (by decide))⟩
          · exact ⟨trivial, rfl⟩
          · exact ⟨trivial, rfl⟩
          · exact ⟨trivial, rfl⟩
          · exact ⟨⟨trivial, trivial⟩, rfl⟩
          · exact ⟨trivial, bi _ (.inr (by omega))⟩
        obtain ⟨es, hes, les, bes⟩ := ex
        have lxs : [V.int (p2 f.br), .int (-1), .bl true, .non, .str "0", .ref p2a, .int 100000000000000000000].length = 7 := rfl
        generalize [V.int (p2 f.br), .int (-1), .bl true, .non, .str "0", .ref p2a, .int 100000000000000000000] = xs7 at h3l hes lxs
        have hh3 := dq_mono (e2.trans e3) hh1
        have lhm : (hd.map PyData.int).length = s.fs.length := by rw [List.length_map, lh]
        have l100 : ∀ {m : Nat}, m ≤ 100 → m ≤ sizeLine := fun h => Nat.le_trans h (by decide)
        let G : PyData → PyData := fun e => .tuple ((hd.map PyData.int).take k ++ [e] ++ (hd.map PyData.int).drop (k + 1))
        have tG : ∀ e ∈ es, tupO (G e) := fun e he => tupOs_of fun d hd' => by
          rcases List.mem_append.mp hd' with z | z
          · rcases List.mem_append.mp z with z | z
            · obtain ⟨g, _, rfl⟩ := List.mem_map.mp (List.mem_of_mem_take z)
              exact trivial
            · rw [List.mem_singleton.mp z]
              exact (bes e he).1
          · obtain ⟨g, _, rfl⟩ := List.mem_map.mp (List.mem_of_mem_drop z)
            exact trivial
        refine lc_genF (SqL.of h3l) (fun i acc H' => DqAll W.K H' acc ((es.take i).map G)) (fun D hD i acc H' xs ys hD' h => dqs_lst hD' h (tupOs_of fun d hd' => by
          obtain ⟨e, he, rfl⟩ := List.mem_map.mp hd'
          exact tG e (List.mem_of_mem_take he))) (by omega) (fun i acc H' h => by rw [dqs_len h, List.length_map, List.length_take]; omega) (fun H' _ => .nil) (fun i x acc H4 hx e4 ea ka kb hk hkb => ?_) fun D acc H4 hD e4 hD4 ea => ?_
        · obtain ⟨e, he, hxe⟩ := dqs_get2 hes hx
          walk_at "Zs"
          refine w_slQT (dq_mono e4 hh3) fun x5 H5 e5 h5 => ?_
          rw [cutD_to (by omega) (by rw [lhm]; omega), Int.toNat_natCast] at h5
          walk_at "Zs"
          rename_i p6 H6 n6 e6 h6
          refine w_catQT (dq_mono e6 h5) (dq_new h6 (dqs_one (dq_mono (e4.trans (e5.trans e6)) hxe))) (l100 (by rw [List.length_take, lhm]; show min k s.fs.length + 1 ≤ 100; omega)) fun x7 H7 e7 h7 => ?_
          walk_at "Zs"
          have e57 := e5.trans (e6.trans e7)
          refine w_slQT (dq_mono (e4.trans e57) hh3) fun x8 H8 e8 h8 => ?_
          rw [cutD_from (by omega) (by rw [lhm]; omega), show ((k : Int) + 1).toNat = k + 1 by omega] at h8
          walk_at "Zs"
          refine w_catQT (dq_mono e8 h7) h8 (l100 (by rw [List.length_append, List.length_take, List.length_drop, lhm]; show min k s.fs.length + 1 + (s.fs.length - (k + 1)) ≤ 100; omega)) fun x9 H9 e9 h9 => ?_
          have e49 := e57.trans (e8.trans e9)
          refine hk _ _ e49 ?_
          rw [List.take_add_one, he, List.map_append]
          exact dqs_app (dqs_mono e49 ea) (dqs_one h9)
        rw [lxs, List.take_of_length_le (by omega)] at ea
        have hh4 := dq_mono e4 hh3
        have N1 : NoHds W.K s.fs H4 acc := fun x hx => by
          obtain ⟨i, hi⟩ := List.getElem?_of_mem hx
          obtain ⟨d, hd1, hd2⟩ := dqs_get2 ea hi
          obtain ⟨e, he, rfl⟩ := map_at hd1
          refine ⟨_, dz_dq hd2, headB_at hf (d := e) ?_ (bes e (List.mem_of_getElem? he)).2⟩
          have lt : ((hd.map PyData.int).take k).length = k := by rw [List.length_take, lhm]; have := (List.getElem?_eq_some_iff.mp hf).1; omega
          rw [List.append_assoc, List.getElem?_append_right (by omega), lt, Nat.sub_self]
          rfl
        have lacc : acc.length = 7 := by rw [dqs_len ea, List.length_map, les]
        walk_at "Zs"
        rename_i q1 G1 m1 f1 g1
        refine w_catQT (dq_mono f1 hh4) (dq_new g1 (dqs_one (.int 0))) (l100 (by rw [lhm]; show s.fs.length + 1 ≤ 100; omega)) fun y2 G2 f2 g2 => ?_
        walk_at "Zs"
        have F12 := f1.trans f2
        refine w_slQT (dq_mono F12 hh4) fun y3 G3 f3 g3 => ?_
        rw [cutD_from (by omega) (by rw [lhm]; omega)] at g3
        walk_at "Zs"
        have F13 := F12.trans f3
        obtain ⟨ah, hxs, rfl, hax, hds⟩ := dq_tt hh
        have hax3 := same_t F13 (same_t e4 (same_t (e2.trans e3) (sx_t e1 hax.t)))
        refine w_listUT hax3 fun q4 G4 m4 f4 g4 => ?_
        walk_at "Zs"
        rename_i q5 G5 m5 f5 g5 q6 G6 m6 f6 g6 q7 G7 m7 f7 g7 q8 G8 m8 f8 g8
        have F78 := f7.trans f8
        have F68 := f6.trans F78
        have F58 := f5.trans F68
        have F48 := f4.trans F58
        have F38 := f3.trans F48
        have F28 := f2.trans F38
        have F18 := f1.trans F28
        have lh1 : 1 ≤ s.fs.length := l0
        have hh8 := dq_mono F18 hh4
        have e18 := (e2.trans e3).trans (e4.trans F18)
        have hbN : ∀ d : PyData, (∀ ds, d ≠ .tuple ds) → headB s.fs d = false := fun d h => by
          cases d with
          | tuple ds => exact absurd rfl (h ds)
          | _ => rfl
        have N2 : NoHds W.K s.fs G8 [y2, y3, .ref q4, .non, .ref q5, .int 7, .str "head", .ref q6, .ref q7] := fun x hx => by
          simp only [List.mem_cons, List.mem_nil_iff, or_false] at hx
          rcases hx with rfl | rfl | rfl | rfl | rfl | rfl | rfl | rfl | rfl
          · exact ⟨_, dz_dq (dq_mono F38 g2), headB_len (by rw [List.length_append, lhm]; show s.fs.length + 1 ≠ _; omega)⟩
          · exact ⟨_, dz_dq (dq_mono F48 g3), headB_len (by rw [List.length_drop, lhm]; show s.fs.length - 1 ≠ _; omega)⟩
          · exact ⟨.list (hd.map PyData.int), .lst trivial (F58.seq (SqL.of g4)) (dzs_dq (dqs_mono e18 (dqsx e1 hds))), hbN _ fun _ => nofun⟩
          · exact ⟨_, .non, hbN _ fun _ => nofun⟩
          · exact ⟨_, .dic trivial (F68 _ _ g5), hbN _ fun _ => nofun⟩
          · exact ⟨_, .int 7, hbN _ fun _ => nofun⟩
          · exact ⟨_, .str _, hbN _ fun _ => nofun⟩
          · exact ⟨_, .lst trivial (F78.seq (SqL.of g6)) (.cons (dz_dq hh8) .nil), hbN _ fun _ => nofun⟩
          · exact ⟨.tuple [headD hd], dz_mono f8 (dz_new g7 (.cons (dz_dq (dq_mono (f1.trans (f2.trans (f3.trans (f4.trans (f5.trans (f6.trans f7)))))) hh4)) .nil)), by
              cases c : decide (1 = s.fs.length) with
              | false => exact headB_len (by have := of_decide_eq_false c; exact this)
              | true => exact headB_at (i := 0) (f := s.fs[0]) (List.getElem?_eq_getElem (by omega)) rfl rfl⟩
        refine w_catL (F18 _ _ hD4) g8 (by rw [lacc]; show 7 + 9 ≤ 1000000; omega) fun q9 G9 m9 f9 g9 => ?_
        exact q _ _ G9 (e1.trans (Same.sx (e18.trans f9))) (box_mono (e18.trans f9) b1) g9 (by rw [List.length_append, lacc]; show 7 + 9 ≤ 100; omega) fun x hx => by
          rcases List.mem_append.mp hx with z | z
          · exact noHds_sx (Same.sx (F18.trans f9)) N1 x z
          · exact noHds_sx (Same.sx f9) N2 x z
  exact F0
theorem c__law_no_heads {W : Wd} {mg : Str → Option Value} {base : Heap} (B : Bi mg) (S : Src W.K mg "_law_no_heads" s__law_no_heads) (T : Kl W.K mg) (C__law_next : Cal W mg base "_law_next" 1 ["_law_box_here", "_law_many"] (sp__law_next W)) : Cal W mg base "_law_no_heads" 2 ["_law_box_here", "_law_head", "_law_shape_here"] (sp__law_no_heads W) := by
  obtain ⟨f, fd, g, F⟩ := S
  exact ⟨f, fd, g, f__law_no_heads B F T C__law_next, F.kp, (F.binds (ps := ["_law_box_here", "_law_head", "_law_shape_here"]) fun _ _ _ _ _ _ us hl => match us, hl with | [_, _, _], _ => rfl)⟩
theorem go__law_no_heads {W : Wd} {H : Hp} {Q : VK} {E : XK} {v vs vh : V} {n : Int} {s : Shp} {hd : List Int} (hb : BoxAt W false n H v) (hn : n ≤ 999999000) (hs : Dq W.K H vs (shD s)) (ok : OkShp s) (hh : Dq W.K H vh (headD hd)) (oh : OkHead s.fs hd) (q : ∀ p xs H', Sx H H' → BoxAt W false (n + 1) H' v → H' p = some (.lst xs) → xs.length ≤ 100 → NoHds W.K s.fs H' xs → Q (.ref p) H') : sp__law_no_heads W [v, vh, vs] H Q E := ⟨n, s, hd, hb, hn, hs, ok, hh, oh, q⟩
/-- words that no reader sends -/
def NoWds (K : PySem.W.Frag) (n : Int) (H : Hp) (xs : List V) : Prop := ∀ x ∈ xs, ∃ d, Dz K Ever H x d ∧ (noWd d = true ∨ (Dq K H x d ∧ SeqAt.shaped d = true ∧ PyData.eqv d (.tuple [.str "anew"]) = false ∧ hadD n d = false))
theorem noWds_same {K : PySem.W.Frag} {n : Int} {H H' : Hp} {xs : List V} (e : Same H H') (h : NoWds K n H xs) : NoWds K n H' xs := fun x hx => by
  obtain ⟨d, h1, h2⟩ := h x hx
  exact ⟨d, dz_mono e h1, h2.imp id fun ⟨a, b⟩ => ⟨dq_mono e a, b⟩⟩
def NoWd1 (K : PySem.W.Frag) (n : Int) (H : Hp) (x : V) : Prop := ∃ d, Dz K Ever H x d ∧ (noWd d = true ∨ (Dq K H x d ∧ SeqAt.shaped d = true ∧ PyData.eqv d (.tuple [.str "anew"]) = false ∧ hadD n d = false))
theorem ne_ha : ¬ (("have" : Str) = "anew") := by decide +kernel
theorem nw_mono {K : PySem.W.Frag} {n : Int} {H H' : Hp} {x : V} (e : Same H H') (h : NoWd1 K n H x) : NoWd1 K n H' x := by
  obtain ⟨d, h1, h2⟩ := h
  exact ⟨d, dz_mono e h1, h2.imp id fun ⟨a, b⟩ => ⟨dq_mono e a, b⟩⟩
theorem nw_no {K : PySem.W.Frag} {n : Int} {H : Hp} {x : V} {d : PyData} (h : Dz K Ever H x d) (w : noWd d = true) : NoWd1 K n H x := ⟨d, h, .inl w⟩
theorem nw_q {K : PySem.W.Frag} {n : Int} {H : Hp} {x : V} {d : PyData} (h : Dq K H x d) (s : SeqAt.shaped d = true) (e : PyData.eqv d (.tuple [.str "anew"]) = false) (w : hadD n d = false) : NoWd1 K n H x := ⟨d, dz_dq h, .inr ⟨h, s, e, w⟩⟩
theorem hadN1 {n : Int} {z : Str} {e : PyData} (h : z ≠ "have") : hadD n (.tuple [.str z, e]) = false := by
  show (decide (z = "have") && _) = false
  rw [decide_eq_false h, Bool.false_and]
theorem hadN2 {n : Int} {z : Str} {e : PyData} (h : betwD 0 (n - 1) e = false) : hadD n (.tuple [.str z, e]) = false := by
  show (_ && betwD 0 (n - 1) e) = false
  rw [h, Bool.and_false]
def sp__law_no_words (W : Wd) : Sp := fun vs H Q _ => match vs with
  | [v_sent] =>
  ∃ n : Nat, v_sent = .int (n : Int) ∧ n ≤ 1000 ∧ ∀ p xs H', Same H H' → H' p = some (.lst xs) → xs.length ≤ 100 → NoWds W.K n H' xs → Q (.ref p) H'
  | _ => False
abbrev N__law_no_words : List Str := ["_law_sent", "_law_some"]
theorem sc__law_no_words : FnScope N__law_no_words ["_law_sent"] (defScope s__law_no_words) := ⟨rfl, rfl, rfl, by decide +kernel, rfl, by decide +kernel, by decide +kernel⟩
theorem f__law_no_words {W : Wd} {mg : Str → Option Value} {base : Heap} (B : Bi mg) {f : Addr} {fd : FuncData} (F : Fun W.K "_law_no_words" "_law_no_words" s__law_no_words f fd) (T : Kl W.K mg)  : FnOk W.P W.w W.K mg base CX0 1 f fd ["_law_sent"] (sp__law_no_words W) := by
  have nd := sc__law_no_words.nd
  have F0 : FnOk W.P W.w W.K mg base CX0 1 f fd ["_law_sent"] (sp__law_no_words W) := by
    refine F.ok sc__law_no_words (fun vs H Q E h => ?_) (fun cdv A outer s H vs Q E hr h => ?_)
    · match vs, h with | [_], _ => rfl
    · match vs, h with
      | [v_sent], h =>
        change sp__law_no_words W [v_sent] H Q E at h
        refine ⟨tSeq (tAsg (tLst (tCons (tTupN (tCons (tC (.str "have")) (tCons (tVar 0) (tNil)))) (tCons (tTupN (tCons (tC (.str "have")) (tCons (tUn (rU fun i => .int (-i)) (tC (.int 1))) (tNil)))) (tCons (tTupN (tCons (tC (.str "have")) (tCons (tC (.bl true)) (tNil)))) (tCons (tTupN (tCons (tC (.str "have")) (tNil))) (tCons (tTupN (tCons (tC (.str "have")) (tCons (tC (.int 0)) (tCons (tC (.int 0)) (tNil))))) (tCons (tTupN (tCons (tC (.str "have")) (tCons (tC .non) (tNil)))) (tCons (tTupN (tCons (tC (.str "have")) (tCons (tC (.str "0")) (tNil)))) (tNil))))))))) (gName 1)) (tSeq (tAsg (tOp (rAddN W.K) (tVar 1) (tLst (tCons (tTupN (tCons (tC (.str "anew")) (tCons (tC (.int 0)) (tNil)))) (tCons (tTupN (tCons (tC (.str "anew")) (tCons (tC .non) (tNil)))) (tCons (tLst (tCons (tC (.str "anew")) (tNil))) (tCons (tLst (tCons (tC (.str "have")) (tCons (tC (.int 0)) (tNil)))) (tCons (tC (.str "anew")) (tCons (tC (.str "have")) (tCons (tTupN (tNil)) (tCons (tC .non) (tCons (tDNewK) (tCons (tC (.int 0)) (tCons (tC (.bl true)) (tNil)))))))))))))) (gName 1)) (tRet (tOp (rAddN W.K) (tVar 1) (tLst (tCons (tTupN (tCons (tC (.str "had")) (tCons (tC (.int 0)) (tNil)))) (tCons (tTupN (tCons (tTupN (tCons (tC (.str "anew")) (tNil))) (tNil))) (tCons (tTupN (tCons (tC .non) (tNil))) (tCons (tTupN (tCons (tC (.int 0)) (tCons (tC (.str "have")) (tNil)))) (tCons (tTupN (tCons (tC (.str "have")) (tCons (tTupN (tCons (tC (.int 0)) (tNil))) (tNil)))) (tCons (tTupN (tCons (tC (.str "have")) (tCons (tOp (rCon 10 25 10000000000000000000000000) (tC (.int 10)) (tC (.int 25))) (tNil)))) (tNil))))))))))), pss_cons (ps_set (i := 1) nd rfl (.inl rfl) (pe_lst (pa_cons (pe_tupN (pa_cons (pe_str) (pa_cons (pv 0) (pa_nil)))) (pa_cons (pe_tupN (pa_cons (pe_str) (pa_cons (pe_un un_neg (pe_int)) (pa_nil)))) (pa_cons (pe_tupN (pa_cons (pe_str) (pa_cons (pe_bl) (pa_nil)))) (pa_cons (pe_tupN (pa_cons (pe_str) (pa_nil))) (pa_cons (pe_tupN (pa_cons (pe_str) (pa_cons (pe_int) (pa_cons (pe_int) (pa_nil))))) (pa_cons (pe_tupN (pa_cons (pe_str) (pa_cons (pe_non) (pa_nil)))) (pa_cons (pe_tupN (pa_cons (pe_str) (pa_cons (pe_str) (pa_nil)))) (pa_nil)))))))))) (pss_cons (ps_set (i := 1) nd rfl (.inl rfl) (pe_op u_addN (pv 1) (pe_lst (pa_cons (pe_tupN (pa_cons (pe_str) (pa_cons (pe_int) (pa_nil)))) (pa_cons (pe_tupN (pa_cons (pe_str) (pa_cons (pe_non) (pa_nil)))) (pa_cons (pe_lst (pa_cons (pe_str) (pa_nil))) (pa_cons (pe_lst (pa_cons (pe_str) (pa_cons (pe_int) (pa_nil)))) (pa_cons (pe_str) (pa_cons (pe_str) (pa_cons (pe_tupN (pa_nil)) (pa_cons (pe_non) (pa_cons (pe_dnewK) (pa_cons (pe_int) (pa_cons (pe_bl) (pa_nil))))))))))))))) (pss_one (ps_ret (pe_op u_addN (pv 1) (pe_lst (pa_cons (pe_tupN (pa_cons (pe_str) (pa_cons (pe_int) (pa_nil)))) (pa_cons (pe_tupN (pa_cons (pe_tupN (pa_cons (pe_str) (pa_nil))) (pa_nil))) (pa_cons (pe_tupN (pa_cons (pe_non) (pa_nil))) (pa_cons (pe_tupN (pa_cons (pe_int) (pa_cons (pe_str) (pa_nil)))) (pa_cons (pe_tupN (pa_cons (pe_str) (pa_cons (pe_tupN (pa_cons (pe_int) (pa_nil))) (pa_nil)))) (pa_cons (pe_tupN (pa_cons (pe_str) (pa_cons (pe_op (u_powc ⟨by decide, by decide, by decide⟩ (by decide +kernel)) pe_int pe_int) (pa_nil)))) (pa_nil)))))))))))), ?_⟩
        clear hr
        rw [show L2.start N__law_no_words [v_sent] = [some v_sent, none] from rfl]
        obtain ⟨n, rfl, hn, q⟩ := h
        walk_at "Zs"
        rename_i p1 H1 n1 e1 h1 p2 H2 n2 e2 h2 p3 H3 n3 e3 h3 p4 H4 n4 e4 h4 p5 H5 n5 e5 h5 p6 H6 n6 e6 h6 p7 H7 n7 e7 h7 p8 H8 n8 e8 h8 p9 H9 n9 e9 h9 pa Ha na ea ha pb Hb nb eb hb pc Hc nc ec hc pd Hd nD ed hd pe He ne ee he pf Hf nf ef hf
        have b1 : betwD 0 ((n : Int) - 1) (.int n) = false := by
          show (decide ((0 : Int) ≤ n) && decide ((n : Int) ≤ n - 1)) = false
          rw [decide_eq_false (p := (n : Int) ≤ n - 1) (by omega), Bool.and_false]
        have b2 : betwD 0 ((n : Int) - 1) (.int (-1)) = false := by
          show (decide ((0 : Int) ≤ -1) && decide ((-1 : Int) ≤ n - 1)) = false
          rw [decide_eq_false (by decide), Bool.false_and]
        have b3 : betwD 0 ((n : Int) - 1) (.int 10000000000000000000000000) = false := by
          show (decide ((0 : Int) ≤ 10000000000000000000000000) && decide ((10000000000000000000000000 : Int) ≤ n - 1)) = false
          rw [decide_eq_false (p := (10000000000000000000000000 : Int) ≤ n - 1) (by omega), Bool.and_false]
        have k1 : NoWd1 W.K n H1 (.ref p1) := nw_q (dq_new h1 (dqs_two (.str _) (.int n))) (shp_have n) (by simp [PyData.eqv, PyData.eqvAll, ne_ha]) (hadN2 b1)
        have k2 : NoWd1 W.K n H2 (.ref p2) := nw_q (dq_new h2 (dqs_two (.str _) (.int (-1)))) (shp_have _) (by simp [PyData.eqv, PyData.eqvAll, ne_ha]) (hadN2 b2)
        have k3 : NoWd1 W.K n H3 (.ref p3) := nw_q (dq_new h3 (dqs_two (.str _) (.bl true))) (by decide +kernel) (by simp [PyData.eqv, PyData.eqvAll, ne_ha]) (hadN2 rfl)
        have k4 : NoWd1 W.K n H4 (.ref p4) := nw_q (dq_new h4 (dqs_one (.str _))) (by decide +kernel) (by simp [PyData.eqv, PyData.eqvAll, ne_ha]) rfl
        have k5 : NoWd1 W.K n H5 (.ref p5) := nw_q (dq_new h5 (.cons (.str _) (dqs_two (.int 0) (.int 0)))) (by decide +kernel) (by simp [PyData.eqv, PyData.eqvAll, ne_ha]) rfl
        have k6 : NoWd1 W.K n H6 (.ref p6) := nw_q (dq_new h6 (dqs_two (.str _) .non)) (by decide +kernel) (by simp [PyData.eqv, PyData.eqvAll, ne_ha]) (hadN2 rfl)
        have k7 : NoWd1 W.K n H7 (.ref p7) := nw_q (dq_new h7 (dqs_two (.str _) (.str _))) (by decide +kernel) (by simp [PyData.eqv, PyData.eqvAll, ne_ha]) (hadN2 rfl)
        have k9 : NoWd1 W.K n H9 (.ref p9) := nw_q (dq_new h9 (dqs_two (.str _) (.int 0))) (by decide +kernel) (by simp [PyData.eqv, PyData.eqvAll, ne_ha]) (hadN1 (by decide +kernel))
        have ka : NoWd1 W.K n Ha (.ref pa) := nw_q (dq_new ha (dqs_two (.str _) .non)) (by decide +kernel) (by simp [PyData.eqv, PyData.eqvAll, ne_ha]) (hadN1 (by decide +kernel))
        have kb : NoWd1 W.K n Hb (.ref pb) := nw_no (dz_newl trivial hb (.cons (.str _) .nil)) rfl
        have kc : NoWd1 W.K n Hc (.ref pc) := nw_no (dz_newl trivial hc (.cons (.str _) (.cons (.int 0) .nil))) rfl
        have kd : NoWd1 W.K n Hd (.ref pd) := nw_no (dz_new hd .nil) rfl
        have ke : NoWd1 W.K n He (.ref pe) := nw_no (.dic trivial he) rfl
        have F7 := e7
        have T7 := e8
        have T6 := e7.trans T7
        have T5 := e6.trans T6
        have T4 := e5.trans T5
        have T3 := e4.trans T4
        have T2 := e3.trans T3
        have T1 := e2.trans T2
        have Ue := ef
        have Ud := ee.trans Ue
        have Uc := ed.trans Ud
        have Ub := ec.trans Uc
        have Ua := eb.trans Ub
        have U9 := ea.trans Ua
        have U8 := e9.trans U9
        have A1 : ∀ x ∈ [V.ref p1, .ref p2, .ref p3, .ref p4, .ref p5, .ref p6, .ref p7], NoWd1 W.K n Hf x := fun x hx => by
          refine nw_mono U8 ?_
          simp only [List.mem_cons, List.mem_nil_iff, or_false] at hx
          rcases hx with rfl | rfl | rfl | rfl | rfl | rfl | rfl
          · exact nw_mono T1 k1
          · exact nw_mono T2 k2
          · exact nw_mono T3 k3
          · exact nw_mono T4 k4
          · exact nw_mono T5 k5
          · exact nw_mono T6 k6
          · exact nw_mono T7 k7
        have A2 : ∀ x ∈ [V.ref p9, .ref pa, .ref pb, .ref pc, .str "anew", .str "have", .ref pd, .non, .ref pe, .int 0, .bl true], NoWd1 W.K n Hf x := fun x hx => by
          simp only [List.mem_cons, List.mem_nil_iff, or_false] at hx
          rcases hx with rfl | rfl | rfl | rfl | rfl | rfl | rfl | rfl | rfl | rfl | rfl
          · exact nw_mono U9 k9
          · exact nw_mono Ua ka
          · exact nw_mono Ub kb
          · exact nw_mono Uc kc
          · exact nw_no (.str _) rfl
          · exact nw_no (.str _) rfl
          · exact nw_mono Ud kd
          · exact nw_no .non rfl
          · exact nw_mono Ue ke
          · exact nw_no (.int 0) rfl
          · exact nw_no (.bl true) rfl
        have e1f := e1.trans (T1.trans U8)
        refine w_catL (U8 _ _ h8) hf (by show 7 + 11 ≤ 1000000; decide) fun pg Hg ng eg hg => ?_
        have A3 : ∀ x ∈ [V.ref p1, .ref p2, .ref p3, .ref p4, .ref p5, .ref p6, .ref p7] ++ [V.ref p9, .ref pa, .ref pb, .ref pc, .str "anew", .str "have", .ref pd, .non, .ref pe, .int 0, .bl true], NoWd1 W.K n Hg x := fun x hx => nw_mono eg ((List.mem_append.mp hx).elim (A1 x) (A2 x))
        have l3 : ([V.ref p1, .ref p2, .ref p3, .ref p4, .ref p5, .ref p6, .ref p7] ++ [V.ref p9, .ref pa, .ref pb, .ref pc, .str "anew", .str "have", .ref pd, .non, .ref pe, .int 0, .bl true]).length = 18 := rfl
        generalize [V.ref p1, .ref p2, .ref p3, .ref p4, .ref p5, .ref p6, .ref p7] ++ [V.ref p9, .ref pa, .ref pb, .ref pc, .str "anew", .str "have", .ref pd, .non, .ref pe, .int 0, .bl true] = l18 at hg A3 l3
        have e1g := e1f.trans eg
        clear A1 A2 k1 k2 k3 k4 k5 k6 k7 k9 ka kb kc kd ke T1 T2 T3 T4 T5 T6 T7 F7 U8 U9 Ua Ub Uc Ud Ue h1 h2 h3 h4 h5 h6 h7 h8 h9 ha hb hc hd he hf e1 e2 e3 e4 e5 e6 e7 e8 e9 ea eb ec ed ee ef eg e1f n1 n2 n3 n4 n5 n6 n7 n8 n9 na nb nc nD ne nf ng
        walk_at "Zs"
        rename_i p1 G1 n1 e1 h1 p2 G2 n2 e2 h2 p3 G3 n3 e3 h3 p4 G4 n4 e4 h4 p5 G5 n5 e5 h5 p6 G6 n6 e6 h6 p7 G7 n7 e7 h7 p8 G8 n8 e8 h8 p9 G9 n9 e9 h9
        have k1 : NoWd1 W.K n G1 (.ref p1) := nw_q (dq_new h1 (dqs_two (.str _) (.int 0))) (by decide +kernel) (by simp [PyData.eqv, PyData.eqvAll, ne_ha]) (hadN1 (by decide +kernel))
        have k3 : NoWd1 W.K n G3 (.ref p3) := nw_no (dz_new h3 (.cons (dz_mono e3 (dz_new h2 (.cons (.str _) .nil))) .nil)) rfl
        have k4 : NoWd1 W.K n G4 (.ref p4) := nw_no (dz_new h4 (.cons .non .nil)) rfl
        have k5 : NoWd1 W.K n G5 (.ref p5) := nw_no (dz_new h5 (.cons (.int 0) (.cons (.str _) .nil))) rfl
        have k7 : NoWd1 W.K n G7 (.ref p7) := nw_q (dq_new h7 (dqs_two (.str _) (dq_mono e7 (dq_new h6 (dqs_one (.int 0)))))) (by decide +kernel) (by simp [PyData.eqv, PyData.eqvAll, ne_ha]) (hadN2 rfl)
        have k8 : NoWd1 W.K n G8 (.ref p8) := nw_q (dq_new h8 (dqs_two (.str _) (.int 10000000000000000000000000))) (shp_have _) (by simp [PyData.eqv, PyData.eqvAll, ne_ha]) (hadN2 b3)
        have T8 := e9
        have T7 := e8.trans T8
        have T5 := e6.trans (e7.trans T7)
        have T4 := e5.trans T5
        have T3 := e4.trans T4
        have T1 := e2.trans (e3.trans T3)
        refine w_catL ((e1.trans T1) _ _ hg) h9 (by rw [l3]; show 18 + 6 ≤ 1000000; decide) fun pz Hz nz ez hz => ?_
        refine q _ _ Hz (e1g.trans (e1.trans (T1.trans ez))) hz (by rw [List.length_append, l3]; show 18 + 6 ≤ 100; decide) fun x hx => ?_
        refine nw_mono ez ?_
        rcases List.mem_append.mp hx with z | z
        · exact nw_mono (e1.trans T1) (A3 x z)
        · simp only [List.mem_cons, List.mem_nil_iff, or_false] at z
          rcases z with rfl | rfl | rfl | rfl | rfl | rfl
          · exact nw_mono T1 k1
          · exact nw_mono T3 k3
          · exact nw_mono T4 k4
          · exact nw_mono T5 k5
          · exact nw_mono T7 k7
          · exact nw_mono T8 k8
  exact F0
theorem c__law_no_words {W : Wd} {mg : Str → Option Value} {base : Heap} (B : Bi mg) (S : Src W.K mg "_law_no_words" s__law_no_words) (T : Kl W.K mg)  : Cal W mg base "_law_no_words" 1 ["_law_sent"] (sp__law_no_words W) := by
  obtain ⟨f, fd, g, F⟩ := S
  exact ⟨f, fd, g, f__law_no_words B F T , F.kp, (F.binds (ps := ["_law_sent"]) fun _ _ _ _ _ _ us hl => match us, hl with | [_], _ => rfl)⟩
theorem go__law_no_words {W : Wd} {H : Hp} {Q : VK} {E : XK} {n : Nat} (hn : n ≤ 1000) (q : ∀ p xs H', Same H H' → H' p = some (.lst xs) → xs.length ≤ 100 → NoWds W.K n H' xs → Q (.ref p) H') : sp__law_no_words W [.int (n : Int)] H Q E := ⟨n, rfl, hn, q⟩
def PlK (k : Nat) (d : PyData) : Prop := PyData.canLay0 d = true ∧ PyData.depth d ≤ k
theorem plK_tup {k : Nat} {ds : List PyData} (h : ∀ d ∈ ds, PlK k d) : PlK (k + 1) (.tuple ds) := by
  have a := canAll ds fun d hd => (h d hd).1
  have b := depAll ds fun d hd => (h d hd).2
  exact ⟨by simp only [PyData.canLay0]; exact a, by simp only [PyData.depth]; omega⟩
theorem plK_sh {k : Nat} {d : PyData} (hk : k ≤ 60) (h : PlK k d) : SeqAt.shaped d = true := by
  show (PyData.canLay0 d && decide (PyData.depth d ≤ 64)) = true
  rw [h.1, decide_eq_true (by have := h.2; omega)]
  rfl
theorem plK_int {k : Nat} (i : Int) : PlK k (.int i) := ⟨by simp [PyData.canLay0], by simp [PyData.depth]⟩
theorem plK_oD {k : Nat} (o : Option Int) : PlK k (oD o) := by
  cases o with
  | none => exact ⟨by simp [oD, PyData.canLay0], by simp [oD, PyData.depth]⟩
  | some i => exact plK_int i
theorem plK_fos (ps : List Fo) : PlK 3 (fosD ps) := plK_tup fun d hd => by
  obtain ⟨p, _, rfl⟩ := List.mem_map.mp hd
  refine plK_tup fun d hd => ?_
  rcases List.mem_cons.mp hd with rfl | hd
  · exact plK_int _
  · rw [List.mem_singleton.mp hd]
    refine plK_tup (k := 0) fun d hd => ?_
    obtain ⟨g, _, rfl⟩ := List.mem_map.mp hd
    exact plK_int g
theorem plK_str {k : Nat} {z : Str} (h : PyData.strOk z = true) : PlK k (.str z) := ⟨by simp only [PyData.canLay0]; exact h, by simp [PyData.depth]⟩
theorem plK_wy (w : Wy) : PlK 1 (wyD w) := by
  cases w with
  | keep => exact plK_tup fun d hd => by rw [List.mem_singleton.mp hd]; exact plK_str (by decide +kernel)
  | whole => exact plK_tup fun d hd => by rw [List.mem_singleton.mp hd]; exact plK_str (by decide +kernel)
  | low a b =>
    refine plK_tup fun d hd => ?_
    simp only [List.mem_cons, List.mem_nil_iff, or_false] at hd
    rcases hd with rfl | rfl | rfl
    · exact plK_str (by decide +kernel)
    · exact plK_int _
    · exact plK_int _
theorem plK_fms (fs : List Fm) : PlK 4 (.tuple (fs.map fmD)) := plK_tup fun d hd => by
  obtain ⟨f, _, rfl⟩ := List.mem_map.mp hd
  refine plK_tup fun d hd => ?_
  simp only [List.mem_cons, List.mem_nil_iff, or_false] at hd
  rcases hd with rfl | rfl | rfl
  · exact plK_int _
  · exact plK_int _
  · refine plK_tup fun d hd => ?_
    obtain ⟨w, _, rfl⟩ := List.mem_map.mp hd
    exact plK_wy w
def befD (s : PrS) : PyData := .tuple [.int s.past.length, .tuple [oD s.had, oD s.base, .int s.fresh], fosD (foP s.past 40)]
theorem shp_bef (s : PrS) : SeqAt.shaped (befD s) = true := plK_sh (k := 4) (by decide) (plK_tup fun d hd => by
  simp only [List.mem_cons, List.mem_nil_iff, or_false] at hd
  rcases hd with rfl | rfl | rfl
  · exact plK_int _
  · refine plK_tup fun d hd => ?_
    simp only [List.mem_cons, List.mem_nil_iff, or_false] at hd
    rcases hd with rfl | rfl | rfl
    · exact plK_oD _
    · exact plK_oD _
    · exact plK_int _
  · exact plK_fos _)
def sp__law_refuses (W : Wd) : Sp := fun vs H Q _ => match vs with
  | [v_box_here, v_presser, v_pact_here, v_head] =>
  ∃ (n : Int) (p l : Addr) (s : PrS) (hd : List Int), BoxAt W false n H v_box_here ∧ n ≤ 999990000 ∧ v_presser = .ref p ∧ PrAt W H p l s ∧ OkPr s ∧ s.past.length ≤ 100 ∧ Dq W.K H v_pact_here (ptD s.P) ∧ Dq W.K H v_head (headD hd) ∧ OkHead s.P.s.fs hd ∧ ∀ H', Sx H H' → BoxAt W false (n + 200) H' v_box_here → Q (.bl true) H'
  | _ => False
abbrev N__law_refuses : List Str := ["_law_box_here", "_law_presser", "_law_pact_here", "_law_head", "_law_before", "_law_thing", "_law_at", "_law_deed"]
theorem sc__law_refuses : FnScope N__law_refuses ["_law_box_here", "_law_presser", "_law_pact_here", "_law_head"] (defScope s__law_refuses) := ⟨rfl, rfl, rfl, by decide +kernel, rfl, by decide +kernel, by decide +kernel⟩
theorem f__law_refuses {W : Wd} {mg : Str → Option Value} {base : Heap} (B : Bi mg) {f : Addr} {fd : FuncData} (F : Fun W.K "_law_refuses" "_law_refuses" s__law_refuses f fd) (T : Kl W.K mg) (C_Presser_formers : CalM W mg base (clsOf W.K "Presser") "formers" 1 ["self", "reach"] (sp_Presser_formers W)) (C_Presser_known : CalM W mg base (clsOf W.K "Presser") "known" 1 ["self"] (sp_Presser_known W)) (C_Presser_sent : CalM W mg base (clsOf W.K "Presser") "sent" 1 ["self"] (sp_Presser_sent W)) (C__law_no_words : Cal W mg base "_law_no_words" 1 ["_law_sent"] (sp__law_no_words W)) (C__law_told : Cal W mg base "_law_told" 11 ["_law_presser", "_law_deed", "_law_thing", "_law_at"] (sp__law_told W)) (C__law_no_heads : Cal W mg base "_law_no_heads" 2 ["_law_box_here", "_law_head", "_law_shape_here"] (sp__law_no_heads W)) (C__law_next : Cal W mg base "_law_next" 1 ["_law_box_here", "_law_many"] (sp__law_next W)) : FnOk W.P W.w W.K mg base CX0 12 f fd ["_law_box_here", "_law_presser", "_law_pact_here", "_law_head"] (sp__law_refuses W) := by
  obtain ⟨a_Presser_formers, d_Presser_formers, m_Presser_formers, F_Presser_formers, b_Presser_formers⟩ := C_Presser_formers
  obtain ⟨a_Presser_known, d_Presser_known, m_Presser_known, F_Presser_known, b_Presser_known⟩ := C_Presser_known
  obtain ⟨a_Presser_sent, d_Presser_sent, m_Presser_sent, F_Presser_sent, b_Presser_sent⟩ := C_Presser_sent
  obtain ⟨a__law_no_words, d__law_no_words, g__law_no_words, F__law_no_words, k__law_no_words, b__law_no_words⟩ := C__law_no_words
  obtain ⟨a__law_told, d__law_told, g__law_told, F__law_told, k__law_told, b__law_told⟩ := C__law_told
  obtain ⟨a__law_no_heads, d__law_no_heads, g__law_no_heads, F__law_no_heads, k__law_no_heads, b__law_no_heads⟩ := C__law_no_heads
  obtain ⟨a__law_next, d__law_next, g__law_next, F__law_next, k__law_next, b__law_next⟩ := C__law_next
  have nd := sc__law_refuses.nd
  have F0 : FnOk W.P W.w W.K mg base CX0 12 f fd ["_law_box_here", "_law_presser", "_law_pact_here", "_law_head"] (sp__law_refuses W) := by
    refine F.ok sc__law_refuses (fun vs H Q E h => ?_) (fun cdv A outer s H vs Q E hr h => ?_)
    · match vs, h with | [_, _, _, _], _ => rfl
    · match vs, h with
      | [v_box_here, v_presser, v_pact_here, v_head], h =>
        change sp__law_refuses W [v_box_here, v_presser, v_pact_here, v_head] H Q E at h
        refine ⟨tSeq (tAsg (tTupN (tCons (tMeth (clsOf W.K "Presser") "sent" (sp_Presser_sent W) [] E0 (tVar 1) tNil) (tCons (tMeth (clsOf W.K "Presser") "known" (sp_Presser_known W) [] E0 (tVar 1) tNil) (tCons (tMeth (clsOf W.K "Presser") "formers" (sp_Presser_formers W) [] E0 (tVar 1) (tCons (tC (.int 40)) (tNil))) (tNil))))) (gName 4)) (tSeq (tFor (iAny W.K (tCall (sp__law_no_heads W) [] E0 (tCons (tVar 0) (tCons (tVar 3) (tCons (tOp (rIxU W.K) (tVar 2) (tC (.int 0))) (tNil)))))) (gName 5) (tSeq (tIfS (tTest (tOp (rNeU W.K) (tLc (iAny W.K (tTupN (tCons (tC (.str "press")) (tCons (tC (.str "use")) (tNil))))) (gName 7) (tYes) (tCall (sp__law_told W) [] E0 (tCons (tVar 1) (tCons (tVar 7) (tCons (tVar 5) (tCons (tC (.int 0)) (tNil)))))) [7]) (tLst (tCons (tC (.str "head")) (tCons (tC (.str "head")) (tNil)))))) (tRet (tC (.bl false))) (tNext)) (tSeq (tAsg (tCall (sp__law_next W) [] E0 (tCons (tVar 0) (tCons (tCB (rMax2) (tCons (tC (.int 1)) (tCons (tCB (rLenU W.K) (tCons (tOp (rIxU W.K) (tVar 2) (tC (.int 2))) (tNil))) (tNil)))) (tNil)))) (gName 6)) (tIfS (tAnd (tTest (tOp (rNeU W.K) (tOp (rIxU W.K) (tVar 2) (tC (.int 2))) (tTupN (tNil)))) (tTest (tOp (rNeU W.K) (tCall (sp__law_told W) [] E0 (tCons (tVar 1) (tCons (tC (.str "why")) (tCons (tVar 5) (tCons (tVar 6) (tNil)))))) (tC (.str "head"))))) (tRet (tC (.bl false))) (tNext))))) (tSeq (tFor (iAny W.K (tCall (sp__law_no_words W) [] E0 (tCons (tMeth (clsOf W.K "Presser") "sent" (sp_Presser_sent W) [] E0 (tVar 1) tNil) (tNil)))) (gName 5) (tIfS (tTest (tOp (rNeU W.K) (tCall (sp__law_told W) [] E0 (tCons (tVar 1) (tCons (tC (.str "heard")) (tCons (tVar 5) (tCons (tC (.int 0)) (tNil)))))) (tC (.str "word")))) (tRet (tC (.bl false))) (tNext))) (tRet (tOp (rEqU W.K) (tTupN (tCons (tMeth (clsOf W.K "Presser") "sent" (sp_Presser_sent W) [] E0 (tVar 1) tNil) (tCons (tMeth (clsOf W.K "Presser") "known" (sp_Presser_known W) [] E0 (tVar 1) tNil) (tCons (tMeth (clsOf W.K "Presser") "formers" (sp_Presser_formers W) [] E0 (tVar 1) (tCons (tC (.int 40)) (tNil))) (tNil))))) (tVar 4))))), pss_cons (ps_set (i := 4) nd rfl (.inl rfl) (pe_tupN (pa_cons (pe_meth0 (pv 1) T.Presser.cl m_Presser_sent F_Presser_sent (hr.mono (by decide)) b_Presser_sent .nil pass0) (pa_cons (pe_meth0 (pv 1) T.Presser.cl m_Presser_known F_Presser_known (hr.mono (by decide)) b_Presser_known .nil pass0) (pa_cons (pe_meth (pv 1) T.Presser.cl m_Presser_formers F_Presser_formers (hr.mono (by decide)) b_Presser_formers .nil pass0 (pa_cons (pe_int) (pa_nil))) (pa_nil)))))) (pss_cons (ps_for PassesOwn.never rfl (pi_any (pe_call F__law_no_heads (hr.mono (by decide)) (by rfl) g__law_no_heads k__law_no_heads b__law_no_heads .nil pass0 (pa_cons (pv 0) (pa_cons (pv 3) (pa_cons (pe_ix u_ix (pv 2) (pe_int) (fun _ _ => rfl)) (pa_nil)))))) (pg_name (i := 5) nd rfl (by first | exact Or.inl rfl | exact Or.inr rfl)) (pss_cons (ps_if (pt_cmpR (u_ne hr.units) (pe_lc (own := [("_law_deed", 7)]) rfl nd (pi_any (pe_tupN (pa_cons (pe_str) (pa_cons (pe_str) (pa_nil))))) (blkOk_by (own := [("_law_deed", 7)]) (N := N__law_refuses) (sc := defScope s__law_refuses) (by decide +kernel)) (fun _ _ _ _ _ => pg_name (i := 7) nd rfl (by first | exact Or.inl rfl | exact Or.inr rfl)) (fun _ _ _ _ _ => pts_nil) (fun _ _ _ _ _ => pe_call F__law_told (hr.mono (by decide)) (by rfl) g__law_told k__law_told b__law_told .nil pass0 (pa_cons (pv 1) (pa_cons (pv 7) (pa_cons (pv 5) (pa_cons (pe_int) (pa_nil))))))) (pe_lst (pa_cons (pe_str) (pa_cons (pe_str) (pa_nil)))) (nomark _)) (pss_one (ps_ret (pe_bl))) (pss_nil)) (pss_cons (ps_set (i := 6) nd rfl (.inl rfl) (pe_call F__law_next (hr.mono (by decide)) (by rfl) g__law_next k__law_next b__law_next .nil pass0 (pa_cons (pv 0) (pa_cons (pe_callB (call_max2 rfl) (by rfl) B.b_max (by decide +kernel) (pa_cons (pe_int) (pa_cons (pe_callB u_len (by rfl) B.b_len (by decide +kernel) (pa_cons (pe_ix u_ix (pv 2) (pe_int) (fun _ _ => rfl)) (pa_nil))) (pa_nil)))) (pa_nil))))) (pss_one (ps_if (PW.pt (pw_and (pt_cmpR (u_ne hr.units) (pe_ix u_ix (pv 2) (pe_int) (fun _ _ => rfl)) (pe_tupN (pa_nil)) (nomark _)) (pw_and1 (pt_cmpR (u_ne hr.units) (pe_call F__law_told (hr.mono (by decide)) (by rfl) g__law_told k__law_told b__law_told .nil pass0 (pa_cons (pv 1) (pa_cons (pe_str) (pa_cons (pv 5) (pa_cons (pv 6) (pa_nil)))))) (pe_str) (nomark _))))) (pss_one (ps_ret (pe_bl))) (pss_nil)))))) (pss_cons (ps_for PassesOwn.never rfl (pi_any (pe_call F__law_no_words (hr.mono (by decide)) (by rfl) g__law_no_words k__law_no_words b__law_no_words .nil pass0 (pa_cons (pe_meth0 (pv 1) T.Presser.cl m_Presser_sent F_Presser_sent (hr.mono (by decide)) b_Presser_sent .nil pass0) (pa_nil)))) (pg_name (i := 5) nd rfl (by first | exact Or.inl rfl | exact Or.inr rfl)) (pss_one (ps_if (pt_cmpR (u_ne hr.units) (pe_call F__law_told (hr.mono (by decide)) (by rfl) g__law_told k__law_told b__law_told .nil pass0 (pa_cons (pv 1) (pa_cons (pe_str) (pa_cons (pv 5) (pa_cons (pe_int) (pa_nil)))))) (pe_str) (nomark _)) (pss_one (ps_ret (pe_bl))) (pss_nil)))) (pss_one (ps_ret (pe_cmpR (u_eq hr.units) (pe_tupN (pa_cons (pe_meth0 (pv 1) T.Presser.cl m_Presser_sent F_Presser_sent (hr.mono (by decide)) b_Presser_sent .nil pass0) (pa_cons (pe_meth0 (pv 1) T.Presser.cl m_Presser_known F_Presser_known (hr.mono (by decide)) b_Presser_known .nil pass0) (pa_cons (pe_meth (pv 1) T.Presser.cl m_Presser_formers F_Presser_formers (hr.mono (by decide)) b_Presser_formers .nil pass0 (pa_cons (pe_int) (pa_nil))) (pa_nil))))) (pv 4) (nomark _)))))), ?_⟩
        clear hr
        clear F_Presser_formers m_Presser_formers b_Presser_formers d_Presser_formers a_Presser_formers
        clear F_Presser_known m_Presser_known b_Presser_known d_Presser_known a_Presser_known
        clear F_Presser_sent m_Presser_sent b_Presser_sent d_Presser_sent a_Presser_sent
        clear F__law_no_words g__law_no_words k__law_no_words b__law_no_words d__law_no_words a__law_no_words
        clear F__law_told g__law_told k__law_told b__law_told d__law_told a__law_told
        clear F__law_no_heads g__law_no_heads k__law_no_heads b__law_no_heads d__law_no_heads a__law_no_heads
        clear F__law_next g__law_next k__law_next b__law_next d__law_next a__law_next
        rw [show L2.start N__law_refuses [v_box_here, v_presser, v_pact_here, v_head] = [some v_box_here, some v_presser, some v_pact_here, some v_head, none, none, none, none] from rfl]
        obtain ⟨n, p, l, s, hd, hb, hn, rfl, hp, ok, lp, hP, hh, oh, q⟩ := h
        have okP := ok.ok
        walk_at "Zs"
        refine go_Presser_known hp fun v1 H1 e1 h1 => ?_
        walk_at "Zs"
        refine go_Presser_formers (pr_same e1 hp) (by decide) ok.len fun v2 H2 e2 h2 => ?_
        walk_at "Zs"
        rename_i p3 H3 n3 e3 h3
        have hbef : Dq W.K H3 (.ref p3) (befD s) := dq_new h3 (.cons (.int _) (dqs_two (dq_mono (e2.trans e3) h1) (dq_mono e3 h2)))
        have e03 := e1.trans (e2.trans e3)
        have hp3 := pr_same e03 hp
        have hP3 := dq_mono e03 hP
        have hh3 := dq_mono e03 hh
        refine w_ptS hP3 fun xs hs => ?_
        walk_at "Zs"
        refine go__law_no_heads (box_mono e03 hb) (by omega) hs okP.ok hh3 oh fun pl ls H4 e4 b4 hl ll hN => ?_
        walk_at "Zs"
        refine w_goL (SqL.of hl) ?_
        refine forL (fun i σ' H' => (∃ y5 y6 y7, σ' = [some v_box_here, some (.ref p), some v_pact_here, some v_head, some (.ref p3), y5, y6, y7]) ∧ Sx H4 H' ∧ BoxAt W false (n + 1 + (i : Int)) H' v_box_here) ⟨⟨_, _, _, rfl⟩, Sx.refl _, box_le (by omega) b4⟩ (fun i σ' H' _ h => sx_l h.2.1 (SqL.of hl)) (fun i x σ' H5 hx h => ?_) (fun σ' H5 h => ?_)
        · obtain ⟨⟨y5, y6, y7, rfl⟩, e5, b5⟩ := h
          have hi := (List.getElem?_eq_some_iff.mp hx).1
          obtain ⟨d, hd1, hd2⟩ := noHds_sx e5 hN x (List.mem_of_getElem? hx)
          have hp5 := pr_sx (e4.trans e5) hp3
          have hP5 := dqx (e4.trans e5) hP3
          walk_at "Zs"
          rename_i p6 H6 n6 e6 h6
          refine w_goT (SqN.t (SqN.of h6)) ?_
          refine lcT (SqN.t (SqN.of h6)) (fun j acc _ => acc = List.replicate j (V.str "head")) stb_pure (by show 2 ≤ 1000000; decide) (fun j acc H' e => by rw [e, List.length_replicate]; exact Nat.le_refl _) (fun H' _ => rfl) (fun j y acc H' hy e7 ea k k' hk hk' => ?_) fun D acc H7 hD e7 hD7 ea => ?_
          · have e57 := e6.trans e7
            have go : ∀ z : Str, RefP W.K H' s z x d "head" → _ := fun z hr => go__law_told (E := E0) (n := 0) (pr_same e57 hp5) ok (dz_mono e57 hd1) hr fun H8 e8 => hk _ _ e8 (by rw [ea, List.replicate_succ'])
            match j, hy with
            | 0, hy =>
              obtain rfl := Option.some.inj hy
              walk_at "Zs"
              exact go "press" (.inl ⟨rfl, hd2, rfl⟩)
            | 1, hy =>
              obtain rfl := Option.some.inj hy
              walk_at "Zs"
              exact go "use" (.inr (.inl ⟨rfl, hd2, rfl⟩))
            | m + 2, hy => exact nomatch (show (none : Option V) = some y from hy)
          walk_at "Zs"
          rename_i p8 H8 n8 e8 h8
          have hD8 : Dq W.K H8 (.ref D) (.list [.str "head", .str "head"]) := dq_newl (e8 _ _ hD7) (by rw [ea]; exact dqs_two (.str _) (.str _))
          refine w_neD hD8 (dq_newl h8 (dqs_two (.str _) (.str _))) (by decide +kernel) (by decide +kernel) ?_
          rw [show PyData.eqv (.list [.str "head", .str "head"]) (.list [.str "head", .str "head"]) = true from SeqAt.eqv_refl _ (SeqAt.canLay_of_shaped (by decide +kernel))]
          have E58 := e6.trans (e7.trans e8)
          have hP8 := dq_mono E58 hP5
          walk_at "Zs"
          refine w_ptF hP8 fun xf hxf => ?_
          walk_at "Zs"
          have fl := okP.fl
          refine go__law_next (E := E0) (box_mono E58 b5) (by split <;> omega) (by split <;> omega) (by omega) fun dn H9 e9 _ _ b9 => ?_
          walk_at "Zs"
          have hP9 := dqx e9 hP8
          refine w_ptF hP9 fun xg hxg => ?_
          walk_at "Zs"
          rename_i pA HA nA eA hA
          refine w_neD (dq_mono eA hxg) (dq_new hA .nil) (plK_sh (by decide) (plK_fms _)) (by decide +kernel) ?_
          have X5A : Sx H5 HA := (Same.sx E58).trans (e9.trans (Same.sx eA))
          have XX := e5.trans X5A
          cases PyData.eqv (.tuple (s.P.fs.map fmD)) (.tuple []) with
          | true =>
            walk_at "Zs"
            exact ⟨⟨_, _, _, rfl⟩, XX, box_le (by omega) (box_mono eA b9)⟩
          | false =>
            walk_at "Zs"
            refine go__law_told (pr_sx X5A hp5) ok (dzx X5A hd1) (.inr (.inr (.inl ⟨rfl, hd2, rfl⟩))) fun HB eB => ?_
            walk_at "Zs"
            exact ⟨⟨_, _, _, rfl⟩, XX.trans (Same.sx eB), box_le (by omega) (box_mono (eA.trans eB) b9)⟩
        · obtain ⟨⟨y5, y6, y7, rfl⟩, e5, b5⟩ := h
          have hp5 := pr_sx (e4.trans e5) hp3
          walk_at "Zs"
          refine go__law_no_words (by omega) fun pw ws H6 e6 hw lw hW => ?_
          walk_at "Zs"
          refine w_goL (SqL.of hw) ?_
          refine forL (fun i σ' H' => (∃ y5 y6 y7, σ' = [some v_box_here, some (.ref p), some v_pact_here, some v_head, some (.ref p3), y5, y6, y7]) ∧ Same H6 H') ⟨⟨_, _, _, rfl⟩, Same.refl _⟩ (fun i σ' H' _ h => SqL.of (h.2 _ _ hw)) (fun i x σ' H7 hx h => ?_) (fun σ' H7 h => ?_)
          · obtain ⟨⟨y5, y6, y7, rfl⟩, e7⟩ := h
            obtain ⟨d, hd1, hd2⟩ := noWds_same e7 hW x (List.mem_of_getElem? hx)
            walk_at "Zs"
            refine go__law_told (pr_same (e6.trans e7) hp5) ok hd1 (.inr (.inr (.inr (.inl ⟨rfl, hd2, rfl⟩)))) fun H8 e8 => ?_
            walk_at "Zs"
            exact ⟨⟨_, _, _, rfl⟩, e7.trans e8⟩
          · obtain ⟨⟨y5, y6, y7, rfl⟩, e7⟩ := h
            have hp7 := pr_same (e6.trans e7) hp5
            walk_at "Zs"
            refine go_Presser_known hp7 fun v1 H8 e8 h8 => ?_
            walk_at "Zs"
            refine go_Presser_formers (pr_same e8 hp7) (by decide) ok.len fun v2 H9 e9 h9 => ?_
            walk_at "Zs"
            rename_i pA HA nA eA hA
            have hnow : Dq W.K HA (.ref pA) (befD s) := dq_new hA (.cons (.int _) (dqs_two (dq_mono (e9.trans eA) h8) (dq_mono eA h9)))
            have E5A := e6.trans (e7.trans (e8.trans (e9.trans eA)))
            have X3A : Sx H3 HA := e4.trans (e5.trans (Same.sx E5A))
            refine w_eqD hnow (dqx X3A hbef) (shp_bef s) (shp_bef s) ?_
            rw [SeqAt.eqv_refl _ (SeqAt.canLay_of_shaped (shp_bef s))]
            exact q _ ((Same.sx e03).trans X3A) (box_le (by omega) (box_mono E5A b5))
  exact F0
theorem c__law_refuses {W : Wd} {mg : Str → Option Value} {base : Heap} (B : Bi mg) (S : Src W.K mg "_law_refuses" s__law_refuses) (T : Kl W.K mg) (C_Presser_formers : CalM W mg base (clsOf W.K "Presser") "formers" 1 ["self", "reach"] (sp_Presser_formers W)) (C_Presser_known : CalM W mg base (clsOf W.K "Presser") "known" 1 ["self"] (sp_Presser_known W)) (C_Presser_sent : CalM W mg base (clsOf W.K "Presser") "sent" 1 ["self"] (sp_Presser_sent W)) (C__law_no_words : Cal W mg base "_law_no_words" 1 ["_law_sent"] (sp__law_no_words W)) (C__law_told : Cal W mg base "_law_told" 11 ["_law_presser", "_law_deed", "_law_thing", "_law_at"] (sp__law_told W)) (C__law_no_heads : Cal W mg base "_law_no_heads" 2 ["_law_box_here", "_law_head", "_law_shape_here"] (sp__law_no_heads W)) (C__law_next : Cal W mg base "_law_next" 1 ["_law_box_here", "_law_many"] (sp__law_next W)) : Cal W mg base "_law_refuses" 12 ["_law_box_here", "_law_presser", "_law_pact_here", "_law_head"] (sp__law_refuses W) := by
  obtain ⟨f, fd, g, F⟩ := S
  exact ⟨f, fd, g, f__law_refuses B F T C_Presser_formers C_Presser_known C_Presser_sent C__law_no_words C__law_told C__law_no_heads C__law_next, F.kp, (F.binds (ps := ["_law_box_here", "_law_presser", "_law_pact_here", "_law_head"]) fun _ _ _ _ _ _ us hl => match us, hl with | [_, _, _, _], _ => rfl)⟩
theorem go__law_refuses {W : Wd} {H : Hp} {Q : VK} {E : XK} {v vP vh : V} {n : Int} {p l : Addr} {s : PrS} {hd : List Int} (hb : BoxAt W false n H v) (hn : n ≤ 999990000) (hp : PrAt W H p l s) (ok : OkPr s) (lp : s.past.length ≤ 100) (hP : Dq W.K H vP (ptD s.P)) (hh : Dq W.K H vh (headD hd)) (oh : OkHead s.P.s.fs hd) (q : ∀ H', Sx H H' → BoxAt W false (n + 200) H' v → Q (.bl true) H') : sp__law_refuses W [v, .ref p, vP, vh] H Q E := ⟨n, p, l, s, hd, hb, hn, rfl, hp, ok, lp, hP, hh, oh, q⟩
theorem dq_pt {K : PySem.W.Frag} {H : Hp} {v : V} {P : Pt} (h : Dq K H v (ptD P)) : ∃ a x0 xf r, v = .ref a ∧ SqN K H a [x0, .int P.n, xf, .ref r] ∧ Dq K H x0 (shD P.s) ∧ Dq K H xf (.tuple (P.fs.map fmD)) ∧ SqN K H r [.int P.sk, .int P.gp, .int P.lt, .int P.an] ∧ Dq K H (.ref r) (.tuple [.int P.sk, .int P.gp, .int P.lt, .int P.an]) := by
  obtain ⟨a, xs, rfl, hxs, hds⟩ := dq_tt h
  cases hds with
  | cons a0 r => cases r with
    | cons a1 r => cases r with
      | cons a2 r => cases r with
        | cons a3 r =>
          cases r
          obtain rfl := dq_int a1
          obtain ⟨r, rfl, hr⟩ := dq_i4 a3
          exact ⟨_, _, _, _, rfl, hxs, a0, a2, hr, a3⟩
theorem okPt_cutn {P : Pt} (ok : OkPt P) (lo hi : Option Int) {n : Int} (n0 : 1 ≤ n) (n1 : n ≤ 40) : ∃ sw, OkPt ⟨P.s, n, cutD P.fs lo hi, P.sk, P.gp, P.lt, P.an, sw, P.cw⟩ := by
  have l1 : (cutD P.fs lo hi).length ≤ 12 := Nat.le_trans cutD_len ok.fl
  obtain ⟨sw, _, hsw⟩ := isW_to 4 (m := 1 + ((cutD P.fs lo hi).length : Int)) (by show _ ≤ (16 : Int); omega)
  exact ⟨sw, ok.ok, n0, n1, l1, fun f hf => ok.fk f (cutD_mem hf), hsw, ok.cw, ok.sk0, ok.sk1, ok.gp0, ok.gp1, ok.lt0, ok.lt1, ok.an0, ok.an1⟩
theorem use_one {s : PrS} {hd : List Int} {us us' : List Nat} (ok : OkPr s) (h : UseR s hd us) (h' : UseR s hd us') : us = us' := by
  obtain ⟨g, rfl, hg⟩ := h
  obtain ⟨g', rfl, hg'⟩ := h'
  refine List.filter_congr fun i hi => ?_
  have hil := List.mem_range.mp hi
  have hf := List.getElem?_eq_getElem hil
  obtain ⟨r, hr, e⟩ := hg i _ hf
  obtain ⟨r', hr', e'⟩ := hg' i _ hf
  obtain rfl := HinR.one ok (ok.ok.fk _ (List.getElem_mem hil)) hr hr'
  rw [Bool.eq_iff_iff, e, e']
def sp_law (W : Wd) : Sp := fun vs H Q _ => match vs with
  | [v_script] =>
  ∃ (a : Addr) (ns : List Int), v_script = .ref a ∧ SqL W.K H a (ns.map V.int) ∧ ns.length ≤ 63 ∧ (∀ z ∈ ns, Builtin.Int.intBits z ≤ 1048576) ∧ ∀ H', Q (.bl true) H'
  | _ => False
abbrev N_law : List Str := ["_law_script", "_law_box_here", "_law_turn", "_law_shape_here", "_law_wide", "_law_forms", "_law_road_here", "_law_pact_here", "_law_presser", "_law_head", "_law_number", "_law_usable"]
theorem sc_law : FnScope N_law ["_law_script"] (defScope s_law) := ⟨rfl, rfl, rfl, by decide +kernel, rfl, by decide +kernel, by decide +kernel⟩
theorem f_law {W : Wd} {mg : Str → Option Value} {base : Heap} (B : Bi mg) {f : Addr} {fd : FuncData} (F : Fun W.K "law" "law" s_law f fd) (T : Kl W.K mg) (C_Presser_usable : CalMX W mg base (clsOf W.K "Presser") "usable" 8 ["self", "head"] (sp_Presser_usable W)) (C_Presser_sent : CalM W mg base (clsOf W.K "Presser") "sent" 1 ["self"] (sp_Presser_sent W)) (C__law_refuses : Cal W mg base "_law_refuses" 12 ["_law_box_here", "_law_presser", "_law_pact_here", "_law_head"] (sp__law_refuses W)) (C__law_told : Cal W mg base "_law_told" 11 ["_law_presser", "_law_deed", "_law_thing", "_law_at"] (sp__law_told W)) (C__law_next_head : Cal W mg base "_law_next_head" 3 ["_law_box_here", "_law_shape_here", "_law_former", "_law_calm"] (sp__law_next_head W)) (C_Presser_press : CalMX W mg base (clsOf W.K "Presser") "press" 10 ["self", "head"] (sp_Presser_press W)) (C__law_next : Cal W mg base "_law_next" 1 ["_law_box_here", "_law_many"] (sp__law_next W)) (C__law_word : Cal W mg base "_law_word" 3 ["_law_box_here", "_law_sent"] (sp__law_word W)) (C_Presser_heard : CalMX W mg base (clsOf W.K "Presser") "heard" 4 ["self", "word"] (sp_Presser_heard W)) (C__law_any_head : Cal W mg base "_law_any_head" 3 ["_law_box_here", "_law_shape_here"] (sp__law_any_head W)) (C_Presser___init__ : CalI W mg base (clsOf W.K "Presser") 1 ["self", "pact"] (sp_Presser___init__ W)) (C__law_pact : Cal W mg base "_law_pact" 5 ["_law_box_here", "_law_most"] (sp__law_pact W)) (C__law_box : Cal W mg base "_law_box" 1 ["_law_script"] (sp__law_box W)) : FnOk W.P W.w W.K mg base CX0 13 f fd ["_law_script"] (sp_law W) := by
  obtain ⟨a_Presser_usable, d_Presser_usable, m_Presser_usable, F_Presser_usable, b_Presser_usable⟩ := C_Presser_usable
  obtain ⟨a_Presser_sent, d_Presser_sent, m_Presser_sent, F_Presser_sent, b_Presser_sent⟩ := C_Presser_sent
  obtain ⟨a__law_refuses, d__law_refuses, g__law_refuses, F__law_refuses, k__law_refuses, b__law_refuses⟩ := C__law_refuses
  obtain ⟨a__law_told, d__law_told, g__law_told, F__law_told, k__law_told, b__law_told⟩ := C__law_told
  obtain ⟨a__law_next_head, d__law_next_head, g__law_next_head, F__law_next_head, k__law_next_head, b__law_next_head⟩ := C__law_next_head
  obtain ⟨a_Presser_press, d_Presser_press, m_Presser_press, F_Presser_press, b_Presser_press⟩ := C_Presser_press
  obtain ⟨a__law_next, d__law_next, g__law_next, F__law_next, k__law_next, b__law_next⟩ := C__law_next
  obtain ⟨a__law_word, d__law_word, g__law_word, F__law_word, k__law_word, b__law_word⟩ := C__law_word
  obtain ⟨a_Presser_heard, d_Presser_heard, m_Presser_heard, F_Presser_heard, b_Presser_heard⟩ := C_Presser_heard
  obtain ⟨a__law_any_head, d__law_any_head, g__law_any_head, F__law_any_head, k__law_any_head, b__law_any_head⟩ := C__law_any_head
  obtain ⟨a_Presser___init__, d_Presser___init__, m_Presser___init__, F_Presser___init__, b_Presser___init__⟩ := C_Presser___init__
  obtain ⟨a__law_pact, d__law_pact, g__law_pact, F__law_pact, k__law_pact, b__law_pact⟩ := C__law_pact
  obtain ⟨a__law_box, d__law_box, g__law_box, F__law_box, k__law_box, b__law_box⟩ := C__law_box
  have nd := sc_law.nd
  have F0 : FnOk W.P W.w W.K mg base CX0 13 f fd ["_law_script"] (sp_law W) := by
    refine F.ok sc_law (fun vs H Q E h => ?_) (fun cdv A outer s H vs Q E hr h => ?_)
    · match vs, h with | [_], _ => rfl
    · match vs, h with
      | [v_script], h =>
        change sp_law W [v_script] H Q E at h
        refine ⟨tSeq (tAsg (tCall (sp__law_box W) [] E0 (tCons (tVar 0) (tNil))) (gName 1)) (tSeq (tFor (iRng1 (tCons (tC (.int 4)) (tNil))) (gName 2) (tSeq (tAsg (tCall (sp__law_pact W) [] E0 (tCons (tVar 1) (tCons (tC (.int 3)) (tNil)))) (gTup W.K 4 (gCons (gName 3) (gCons (gName 4) (gCons (gName 5) (gCons (gName 6) (gNil))))))) (tSeq (tAsg (tTupN (tCons (tVar 3) (tCons (tOp (rAddN W.K) (tC (.int 1)) (tCall (sp__law_next W) [] E0 (tCons (tVar 1) (tCons (tC (.int 5)) (tNil))))) (tCons (tSl (rSlU W.K) (tVar 5) (tNoPart) (tPart (tC (.int 3)))) (tCons (tVar 6) (tNil)))))) (gName 7)) (tSeq (tPar 8 9 (tCons (tMake (clsOf W.K "Presser") (sp_Presser___init__ W) [] E0 (tCons (tVar 7) (tNil))) (tCons (tCall (sp__law_any_head W) [] E0 (tCons (tVar 1) (tCons (tVar 3) (tNil)))) (tNil)))) (tSeq (tFor (iRng1 (tCons (tOp (rShlU) (tC (.int 1)) (tOp (rIxU W.K) (tVar 7) (tC (.int 1)))) (tNil))) (gName 10) (tSeq (tIfS (tTest (tOp (rEqU W.K) (tCall (sp__law_next W) [] E0 (tCons (tVar 1) (tCons (tC (.int 4)) (tNil)))) (tC (.int 0)))) (tDrop (tMeth (clsOf W.K "Presser") "heard" (sp_Presser_heard W) [] E0 (tVar 8) (tCons (tCall (sp__law_word W) [] E0 (tCons (tVar 1) (tCons (tVar 10) (tNil)))) (tNil)))) (tNext)) (tSeq (tIfS (tAnd (tTest (tOp (rEqU W.K) (tOp (rModU) (tVar 10) (tC (.int 7))) (tC (.int 0)))) (tNot (tB (tCall (sp__law_refuses W) [] E0 (tCons (tVar 1) (tCons (tVar 8) (tCons (tVar 7) (tCons (tVar 9) (tNil))))))))) (tRet (tC (.bl false))) (tNext)) (tSeq (tDrop (tMeth (clsOf W.K "Presser") "press" (sp_Presser_press W) [] E0 (tVar 8) (tCons (tVar 9) (tNil)))) (tAsg (tCall (sp__law_next_head W) [] E0 (tCons (tVar 1) (tCons (tVar 3) (tCons (tVar 9) (tCons (tC (.int 5)) (tNil)))))) (gName 9)))))) (tSeq (tAsg (tMeth (clsOf W.K "Presser") "usable" (sp_Presser_usable W) [] E0 (tVar 8) (tCons (tVar 9) (tNil))) (gName 11)) (tSeq (tIfS (tTest (tOp (rNeU W.K) (tCall (sp__law_told W) [] E0 (tCons (tVar 8) (tCons (tC (.str "press")) (tCons (tVar 9) (tCons (tC (.int 0)) (tNil)))))) (tC (.str "more")))) (tRet (tC (.bl false))) (tNext)) (tSeq (tIfS (tNot (tB (tCall (sp__law_refuses W) [] E0 (tCons (tVar 1) (tCons (tVar 8) (tCons (tVar 7) (tCons (tVar 9) (tNil)))))))) (tRet (tC (.bl false))) (tNext)) (tIfS (tOr (tTest (tOp (rNeU W.K) (tMeth (clsOf W.K "Presser") "usable" (sp_Presser_usable W) [] E0 (tVar 8) (tCons (tVar 9) (tNil))) (tVar 11))) (tTest (tOp (rNeU W.K) (tMeth (clsOf W.K "Presser") "sent" (sp_Presser_sent W) [] E0 (tVar 8) tNil) (tOp (rShlU) (tC (.int 1)) (tOp (rIxU W.K) (tVar 7) (tC (.int 1))))))) (tRet (tC (.bl false))) (tNext)))))))))) (tRet (tC (.bl true)))), pss_cons (ps_set (i := 1) nd rfl (.inl rfl) (pe_call F__law_box (hr.mono (by decide)) (by rfl) g__law_box k__law_box b__law_box .nil pass0 (pa_cons (pv 0) (pa_nil)))) (pss_cons (ps_for PassesOwn.never rfl (pi_range1 (by rfl) B.b_range (pa_cons (pe_int) (pa_nil))) (pg_name (i := 2) nd rfl (by first | exact Or.inl rfl | exact Or.inr rfl)) (pss_cons (ps_asg (pe_call F__law_pact (hr.mono (by decide)) (by rfl) g__law_pact k__law_pact b__law_pact .nil pass0 (pa_cons (pv 1) (pa_cons (pe_int) (pa_nil)))) (pg_tup rfl (pgs_cons (pg_name (i := 3) nd rfl (by first | exact Or.inl rfl | exact Or.inr rfl)) (pgs_cons (pg_name (i := 4) nd rfl (by first | exact Or.inl rfl | exact Or.inr rfl)) (pgs_cons (pg_name (i := 5) nd rfl (by first | exact Or.inl rfl | exact Or.inr rfl)) (pgs_cons (pg_name (i := 6) nd rfl (by first | exact Or.inl rfl | exact Or.inr rfl)) (pgs_nil))))))) (pss_cons (ps_set (i := 7) nd rfl (.inl rfl) (pe_tupN (pa_cons (pv 3) (pa_cons (pe_op u_addN (pe_int) (pe_call F__law_next (hr.mono (by decide)) (by rfl) g__law_next k__law_next b__law_next .nil pass0 (pa_cons (pv 1) (pa_cons (pe_int) (pa_nil))))) (pa_cons (pe_slice u_sl (pv 5) (po_none) (po_some (pe_int))) (pa_cons (pv 6) (pa_nil))))))) (pss_cons (ps_par (by rfl) nd rfl rfl (by decide) rfl rfl (pa_cons (pe_make m_Presser___init__ F_Presser___init__ (hr.mono (by decide)) (by rfl) T.Presser.mg b_Presser___init__ .nil pass0 (pa_cons (pv 7) (pa_nil))) (pa_cons (pe_call F__law_any_head (hr.mono (by decide)) (by rfl) g__law_any_head k__law_any_head b__law_any_head .nil pass0 (pa_cons (pv 1) (pa_cons (pv 3) (pa_nil)))) (pa_nil))) (by rfl)) (pss_cons (ps_for PassesOwn.never rfl (pi_range1 (by rfl) B.b_range (pa_cons (pe_op u_shl (pe_int) (pe_ix u_ix (pv 7) (pe_int) (fun _ _ => rfl))) (pa_nil))) (pg_name (i := 10) nd rfl (by first | exact Or.inl rfl | exact Or.inr rfl)) (pss_cons (ps_if (pt_cmpR (u_eq hr.units) (pe_call F__law_next (hr.mono (by decide)) (by rfl) g__law_next k__law_next b__law_next .nil pass0 (pa_cons (pv 1) (pa_cons (pe_int) (pa_nil)))) (pe_int) (nomark _)) (pss_one (ps_expr (pe_meth (pv 8) T.Presser.cl m_Presser_heard F_Presser_heard (hr.mono (by decide)) b_Presser_heard .nil passN (pa_cons (pe_call F__law_word (hr.mono (by decide)) (by rfl) g__law_word k__law_word b__law_word .nil pass0 (pa_cons (pv 1) (pa_cons (pv 10) (pa_nil)))) (pa_nil))))) (pss_nil)) (pss_cons (ps_if (PW.pt (pw_and (pt_cmpR (u_eq hr.units) (pe_op u_mod (pv 10) (pe_int)) (pe_int) (nomark _)) (pw_and1 (pt_not (pt_val (pe_call F__law_refuses (hr.mono (by decide)) (by rfl) g__law_refuses k__law_refuses b__law_refuses .nil pass0 (pa_cons (pv 1) (pa_cons (pv 8) (pa_cons (pv 7) (pa_cons (pv 9) (pa_nil))))))))))) (pss_one (ps_ret (pe_bl))) (pss_nil)) (pss_cons (ps_expr (pe_meth (pv 8) T.Presser.cl m_Presser_press F_Presser_press (hr.mono (by decide)) b_Presser_press .nil passN (pa_cons (pv 9) (pa_nil)))) (pss_one (ps_set (i := 9) nd rfl (.inl rfl) (pe_call F__law_next_head (hr.mono (by decide)) (by rfl) g__law_next_head k__law_next_head b__law_next_head .nil pass0 (pa_cons (pv 1) (pa_cons (pv 3) (pa_cons (pv 9) (pa_cons (pe_int) (pa_nil)))))))))))) (pss_cons (ps_set (i := 11) nd rfl (.inl rfl) (pe_meth (pv 8) T.Presser.cl m_Presser_usable F_Presser_usable (hr.mono (by decide)) b_Presser_usable .nil passN (pa_cons (pv 9) (pa_nil)))) (pss_cons (ps_if (pt_cmpR (u_ne hr.units) (pe_call F__law_told (hr.mono (by decide)) (by rfl) g__law_told k__law_told b__law_told .nil pass0 (pa_cons (pv 8) (pa_cons (pe_str) (pa_cons (pv 9) (pa_cons (pe_int) (pa_nil)))))) (pe_str) (nomark _)) (pss_one (ps_ret (pe_bl))) (pss_nil)) (pss_cons (ps_if (pt_not (pt_val (pe_call F__law_refuses (hr.mono (by decide)) (by rfl) g__law_refuses k__law_refuses b__law_refuses .nil pass0 (pa_cons (pv 1) (pa_cons (pv 8) (pa_cons (pv 7) (pa_cons (pv 9) (pa_nil)))))))) (pss_one (ps_ret (pe_bl))) (pss_nil)) (pss_one (ps_if (PW.pt (pw_or (pt_cmpR (u_ne hr.units) (pe_meth (pv 8) T.Presser.cl m_Presser_usable F_Presser_usable (hr.mono (by decide)) b_Presser_usable .nil passN (pa_cons (pv 9) (pa_nil))) (pv 11) (nomark _)) (pw_or1 (pt_cmpR (u_ne hr.units) (pe_meth0 (pv 8) T.Presser.cl m_Presser_sent F_Presser_sent (hr.mono (by decide)) b_Presser_sent .nil pass0) (pe_op u_shl (pe_int) (pe_ix u_ix (pv 7) (pe_int) (fun _ _ => rfl))) (nomark _))))) (pss_one (ps_ret (pe_bl))) (pss_nil))))))))))) (pss_one (ps_ret (pe_bl)))), ?_⟩
        clear hr
        clear F_Presser_usable m_Presser_usable b_Presser_usable d_Presser_usable a_Presser_usable
        clear F_Presser_sent m_Presser_sent b_Presser_sent d_Presser_sent a_Presser_sent
        clear F__law_refuses g__law_refuses k__law_refuses b__law_refuses d__law_refuses a__law_refuses
        clear F__law_told g__law_told k__law_told b__law_told d__law_told a__law_told
        clear F__law_next_head g__law_next_head k__law_next_head b__law_next_head d__law_next_head a__law_next_head
        clear F_Presser_press m_Presser_press b_Presser_press d_Presser_press a_Presser_press
        clear F__law_next g__law_next k__law_next b__law_next d__law_next a__law_next
        clear F__law_word g__law_word k__law_word b__law_word d__law_word a__law_word
        clear F_Presser_heard m_Presser_heard b_Presser_heard d_Presser_heard a_Presser_heard
        clear F__law_any_head g__law_any_head k__law_any_head b__law_any_head d__law_any_head a__law_any_head
        clear F_Presser___init__ m_Presser___init__ b_Presser___init__ d_Presser___init__ a_Presser___init__
        clear F__law_pact g__law_pact k__law_pact b__law_pact d__law_pact a__law_pact
        clear F__law_box g__law_box k__law_box b__law_box d__law_box a__law_box
        rw [show L2.start N_law [v_script] = [some v_script, none, none, none, none, none, none, none, none, none, none, none] from rfl]
        obtain ⟨a, ns, rfl, hS, hlen, hb, q⟩ := h
        walk_at "Zs"
        refine go__law_box hS hlen fun v H1 e1 hb1 => ?_
        walk_at "Zs"
        refine forR0 (fun i σ' H' => (∃ y2 y3 y4 y5 y6 y7 y8 y9 y10 y11, σ' = [some (.ref a), some v, y2, y3, y4, y5, y6, y7, y8, y9, y10, y11]) ∧ Sx H H' ∧ BoxAt W false (20000 * (i : Int)) H' v) ⟨⟨_, _, _, _, _, _, _, _, _, _, rfl⟩, Same.sx e1, box_le (by omega) hb1⟩ (fun i σ' H3 hi h => ?_) (fun σ' H3 h => ?_)
        · obtain ⟨⟨y2, y3, y4, y5, y6, y7, y8, y9, y10, y11, rfl⟩, e3, hb3⟩ := h
          walk_at "Zs"
          refine go__law_pact hb3 (by omega) (by decide) (by decide) fun P pv H4 e4 b4 hpt ok lk => ?_
          obtain ⟨ap, x0, xf, r, rfl, hap, hs0, hf0, hr0, hrd0⟩ := dq_pt hpt
          walk_at "Zs"
          rename_i dn H5 e5 dn0 dn1 b5
          refine w_slM (dqx e5 hf0) fun xc H6 e6 hc => ?_
          obtain ⟨sw, ok'⟩ := okPt_cutn ok none (some 3) (n := 1 + dn) (by omega) (by omega)
          generalize hP' : (⟨P.s, 1 + dn, cutD P.fs none (some 3), P.sk, P.gp, P.lt, P.an, sw, P.cw⟩ : Pt) = P' at ok'
          have eS : P'.s = P.s := by rw [← hP']
          have eN : P'.n = 1 + dn := by rw [← hP']
          have pn5 : p2 P'.n ≤ 64 := p2_le (n := 6) (by omega)
          have pn0 := p2_pos P'.n
          walk_at "Zs"
          rename_i p7 H7 n7 e7 h7
          have X47 : Sx H4 H7 := e5.trans (Same.sx (e6.trans e7))
          have hs7 : Dq W.K H7 x0 (shD P'.s) := by rw [eS]; exact dqx X47 hs0
          have hpt7 : Dq W.K H7 (.ref p7) (ptD P') := by
            rw [← hP']
            exact dq_new h7 (.cons (dqx X47 hs0) (.cons (.int _) (dqs_two (dq_mono e7 hc) (dqx X47 hrd0))))
          walk_at "Zs"
          refine go_Presser___init__ hpt7 fun p l H8 np nl e8 hp8 => ?_
          walk_at "Zs"
          refine go__law_any_head (box_mono (e6.trans (e7.trans e8)) b5) (by omega) (dq_mono e8 hs7) ok'.ok fun hd0 hv0 H9 e9 b9 hh9 oh9 => ?_
          walk_at "Zs"
          have X79 : Sx H7 H9 := (Same.sx e8).trans e9
          refine w_ptN (dqx X79 hpt7) ?_
          have n0' : 0 ≤ P'.n := by omega
          walk_at "Zs"
          refine forR0 (fun j σ' H' => ∃ (s : PrS) (hd : List Int) (hv : V), (∃ y10 y11, σ' = [some (.ref a), some v, some (.int (i : Int)), some x0, some (.int P.n), some xf, some (.ref r), some (.ref p7), some (.ref p), some hv, y10, y11]) ∧ Sx H7 H' ∧ BoxAt W false (20000 * (i : Int) + 1271 + 250 * (j : Int)) H' v ∧ PrAt W H' p l s ∧ OkPr s ∧ s.P = P' ∧ s.past.length = j ∧ Dq W.K H' hv (headD hd) ∧ OkHead P'.s.fs hd) ⟨⟨P', [], none, none, 0⟩, hd0, hv0, ⟨_, _, rfl⟩, X79, box_le (by omega) b9, pr_sx e9 hp8, ⟨ok', (fun _ h => nomatch h), by show 0 ≤ 1000; decide, by show (0 : Int) ≤ 0; decide, by show (0 : Int) ≤ 0; decide, trivial, trivial⟩, rfl, rfl, hh9, oh9⟩ (fun j σ' H11 hj h => ?_) (fun σ' H11 h => ?_)
          · obtain ⟨s, hd, hv, ⟨y10, y11, rfl⟩, e11, b11, hp11, oks, eP, hl, hh11, oh⟩ := h
            have j64 : j < 64 := by omega
            walk_at "Zp"
            refine w_cut (fun σ' H' => ∃ (s' : PrS), (∃ y11, σ' = [some (.ref a), some v, some (.int (i : Int)), some x0, some (.int P.n), some xf, some (.ref r), some (.ref p7), some (.ref p), some hv, some (.int (j : Int)), y11]) ∧ Sx H7 H' ∧ BoxAt W false (20000 * (i : Int) + 1275 + 250 * (j : Int)) H' v ∧ PrAt W H' p l s' ∧ OkPr s' ∧ s'.P = P' ∧ s'.past.length = j ∧ Dq W.K H' hv (headD hd)) (fun σ' H12 hP => ?_) fun nx' hnx => ?_
            · obtain ⟨s', ⟨y11, rfl⟩, e12, b12, hp12, oks', eP', hl', hh12⟩ := hP
              have oh' : OkHead s'.P.s.fs hd := by rw [eP']; exact oh
              walk_at "Zp"
              refine w_cut (fun σ' H' => (∃ y11, σ' = [some (.ref a), some v, some (.int (i : Int)), some x0, some (.int P.n), some xf, some (.ref r), some (.ref p7), some (.ref p), some hv, some (.int (j : Int)), y11]) ∧ Sx H12 H' ∧ BoxAt W false (20000 * (i : Int) + 1475 + 250 * (j : Int)) H' v) (fun σ' H13 hP => ?_) fun nx' hnx => ?_
              · obtain ⟨⟨y11, rfl⟩, e13, b13⟩ := hP
                have hp13 := pr_sx e13 hp12
                have hh13 := dqx e13 hh12
                walk_at "Zs"
                refine go_Presser_press hp13 oks' hh13 oh' (by rw [eP', hl']; omega) fun us H14 e14 hp14 hu => ?_
                have hh14 := dqt (prm_st hp13 e14) hh13 (tupO_head hd)
                have X14 := mv_sx (e12.trans e13) np nl e14
                have b14 := prm_box hp13 e14 b13
                have hs14 := dqx X14 hs7
                walk_at "Zs"
                refine go__law_next_head b14 (by omega) hs14 ok'.ok hh14 oh (by decide) (by decide) fun hd2 hv2 H16 e16 b16 hh16 oh16 => ?_
                walk_at "Zs"
                exact ⟨⟨s'.P, s'.past ++ [hd], s'.had, s'.base, s'.fresh⟩, hd2, hv2, ⟨_, _, rfl⟩, X14.trans e16, box_le (by omega) b16, pr_sx e16 hp14, okPr_press oks' oh' (by omega), eP', by show (s'.past ++ [hd]).length = _; rw [List.length_append, hl']; rfl, hh16, oh16⟩
              · walk_at "Zs"
                refine w_dec (fun c => ?_) (fun c => ?_)
                · walk_at "Zs"
                  refine go__law_refuses b12 (by omega) hp12 oks' (by omega) (by rw [eP']; exact dqx e12 hpt7) hh12 oh' fun H13 e13 b13 => ?_
                  walk_at "Zs"
                  exact hnx _ _ ⟨⟨_, rfl⟩, e13, box_le (by omega) b13⟩
                · walk_at "Zs"
                  exact hnx _ _ ⟨⟨_, rfl⟩, Sx.refl _, box_le (by omega) b12⟩
            · walk_at "Zs"
              rename_i d H12 e12 d0 d1 b12
              refine w_dec (fun c => ?_) (fun c => ?_)
              · walk_at "Zs"
                refine go__law_word b12 (by omega) (by omega) fun o u H13 e13 b13 hu ho => ?_
                have X1113 := e12.trans e13
                have hp13 := pr_sx X1113 hp11
                walk_at "Zs"
                have ho' : inO s.past.length o := by rw [hl]; exact ho
                refine go_Presser_heard hp13 hu ho' fun H14 e14 hp14 => ?_
                walk_at "Zs"
                refine hnx _ _ ⟨heaP s o, ⟨_, rfl⟩, mv_sx (e11.trans X1113) np nl e14, prm_box hp13 e14 (box_le (by omega) b13), hp14, okPr_heard oks ho', ?_, ?_, dqt (prm_st hp13 e14) (dqx X1113 hh11) (tupO_head hd)⟩
                · cases o <;> exact eP
                · cases o <;> exact hl
              · walk_at "Zs"
                exact hnx _ _ ⟨s, ⟨_, rfl⟩, e11.trans e12, box_le (by omega) b12, pr_sx e12 hp11, oks, eP, hl, dqx e12 hh11⟩
          · obtain ⟨s, hd, hv, ⟨y10, y11, rfl⟩, e11, b11, hp11, oks, eP, hl, hh11, oh⟩ := h
            have oh' : OkHead s.P.s.fs hd := by rw [eP]; exact oh
            walk_at "Zs"
            refine go_Presser_usable hp11 oks hh11 oh' fun us v12 H12 e12 hu hv12 => ?_
            have hp12 := pr_same e12 hp11
            have hh12 := dq_mono e12 hh11
            walk_at "Zs"
            refine go__law_told hp12 oks (dz_dq hh12) (.inr (.inr (.inr (.inr ⟨rfl, hd, hh12, oh', by rw [eP, hl]; omega, rfl⟩)))) fun H13 e13 => ?_
            walk_at "Zs"
            have e113 := e12.trans e13
            refine go__law_refuses (box_mono e113 b11) (by omega) (pr_same e113 hp11) oks (by omega) (by rw [eP]; exact dqx (e11.trans (Same.sx e113)) hpt7) (dq_mono e113 hh11) oh' fun H14 e14 b14 => ?_
            walk_at "Zs"
            have X14 := (Same.sx e113).trans e14
            have hp14 := pr_sx X14 hp11
            refine go_Presser_usable hp14 oks (dqx X14 hh11) oh' fun us' v15 H15 e15 hu' hv15 => ?_
            obtain rfl := use_one oks hu hu'
            walk_at "Zs"
            have em : us.map (fun (i : Nat) => PyData.int (i : Int)) = (us.map fun (i : Nat) => (i : Int)).map PyData.int := by rw [List.map_map]; rfl
            refine w_neD hv15 (dqx ((Same.sx e13).trans (e14.trans (Same.sx e15))) hv12) (by rw [em]; exact shaped_tints _) (by rw [em]; exact shaped_tints _) ?_
            rw [SeqAt.eqv_refl _ (SeqAt.canLay_of_shaped (by rw [em]; exact shaped_tints _))]
            walk_at "Zs"
            refine w_ptN (dqx (e11.trans (X14.trans (Same.sx e15))) hpt7) ?_
            have n0' : 0 ≤ P'.n := by omega
            walk_at "Zs"
            exact ⟨⟨_, _, _, _, _, _, _, _, _, _, rfl⟩, e3.trans (e4.trans (X47.trans (e11.trans (X14.trans (Same.sx e15))))), box_le (by omega) (box_mono e15 b14)⟩
        · obtain ⟨⟨y2, y3, y4, y5, y6, y7, y8, y9, y10, y11, rfl⟩, e3, hb3⟩ := h
          walk_at "Zs"
          exact q _
  exact F0
theorem c_law {W : Wd} {mg : Str → Option Value} {base : Heap} (B : Bi mg) (S : Src W.K mg "law" s_law) (T : Kl W.K mg) (C_Presser_usable : CalMX W mg base (clsOf W.K "Presser") "usable" 8 ["self", "head"] (sp_Presser_usable W)) (C_Presser_sent : CalM W mg base (clsOf W.K "Presser") "sent" 1 ["self"] (sp_Presser_sent W)) (C__law_refuses : Cal W mg base "_law_refuses" 12 ["_law_box_here", "_law_presser", "_law_pact_here", "_law_head"] (sp__law_refuses W)) (C__law_told : Cal W mg base "_law_told" 11 ["_law_presser", "_law_deed", "_law_thing", "_law_at"] (sp__law_told W)) (C__law_next_head : Cal W mg base "_law_next_head" 3 ["_law_box_here", "_law_shape_here", "_law_former", "_law_calm"] (sp__law_next_head W)) (C_Presser_press : CalMX W mg base (clsOf W.K "Presser") "press" 10 ["self", "head"] (sp_Presser_press W)) (C__law_next : Cal W mg base "_law_next" 1 ["_law_box_here", "_law_many"] (sp__law_next W)) (C__law_word : Cal W mg base "_law_word" 3 ["_law_box_here", "_law_sent"] (sp__law_word W)) (C_Presser_heard : CalMX W mg base (clsOf W.K "Presser") "heard" 4 ["self", "word"] (sp_Presser_heard W)) (C__law_any_head : Cal W mg base "_law_any_head" 3 ["_law_box_here", "_law_shape_here"] (sp__law_any_head W)) (C_Presser___init__ : CalI W mg base (clsOf W.K "Presser") 1 ["self", "pact"] (sp_Presser___init__ W)) (C__law_pact : Cal W mg base "_law_pact" 5 ["_law_box_here", "_law_most"] (sp__law_pact W)) (C__law_box : Cal W mg base "_law_box" 1 ["_law_script"] (sp__law_box W)) : Cal W mg base "law" 13 ["_law_script"] (sp_law W) := by
  obtain ⟨f, fd, g, F⟩ := S
  exact ⟨f, fd, g, f_law B F T C_Presser_usable C_Presser_sent C__law_refuses C__law_told C__law_next_head C_Presser_press C__law_next C__law_word C_Presser_heard C__law_any_head C_Presser___init__ C__law_pact C__law_box, F.kp, (F.binds (ps := ["_law_script"]) fun _ _ _ _ _ _ us hl => match us, hl with | [_], _ => rfl)⟩
theorem all_ok {W : Wd} {mg : Str → Option Value} {base : Heap} (B : Bi mg) (T : Kl W.K mg) (S_bits_of : Src W.K mg "bits_of" s_bits_of) (S_number_of : Src W.K mg "number_of" s_number_of) (S_width_for : Src W.K mg "width_for" s_width_for) (S_rest_of : Src W.K mg "rest_of" s_rest_of) (S_windowed : Src W.K mg "windowed" s_windowed) (S_around : Src W.K mg "around" s_around) (S_is_whole : Src W.K mg "is_whole" s_is_whole) (S_is_between : Src W.K mg "is_between" s_is_between) (S_is_value : Src W.K mg "is_value" s_is_value) (S_is_head : Src W.K mg "is_head" s_is_head) (S_gone_round : Src W.K mg "gone_round" s_gone_round) (S_expected : Src W.K mg "expected" s_expected) (S_check_of : Src W.K mg "check_of" s_check_of) (S_width_of : Src W.K mg "width_of" s_width_of) (S_pieces : Src W.K mg "pieces" s_pieces) (S_size_of : Src W.K mg "size_of" s_size_of) (S_value_opened : Src W.K mg "value_opened" s_value_opened) (S_opened : Src W.K mg "opened" s_opened) (S_first_unlike : Src W.K mg "first_unlike" s_first_unlike) (S_doubt : Src W.K mg "doubt" s_doubt) (S_sort_width : Src W.K mg "sort_width" s_sort_width) (S_check_width : Src W.K mg "check_width" s_check_width) (S_number_width : Src W.K mg "number_width" s_number_width) (S_pieces_size : Src W.K mg "pieces_size" s_pieces_size) (S_letter_size : Src W.K mg "letter_size" s_letter_size) (S_bits_ahead : Src W.K mg "bits_ahead" s_bits_ahead) (S_check_bits : Src W.K mg "check_bits" s_check_bits) (S_whole_pieces : Src W.K mg "whole_pieces" s_whole_pieces) (S_whole_letter : Src W.K mg "whole_letter" s_whole_letter) (S_pressed_letter : Src W.K mg "pressed_letter" s_pressed_letter) (S_greater : Src W.K mg "greater" s_greater) (S_Presser___init__ : SrcI W.K (clsOf W.K "Presser") "Presser.__init__" s_Presser___init__) (S_Presser_sent : SrcM W.K (clsOf W.K "Presser") "sent" "Presser.sent" s_Presser_sent) (S_Presser_known : SrcM W.K (clsOf W.K "Presser") "known" "Presser.known" s_Presser_known) (S_Presser_formers : SrcM W.K (clsOf W.K "Presser") "formers" "Presser.formers" s_Presser_formers) (S_Presser_shared_most : SrcM W.K (clsOf W.K "Presser") "shared_most" "Presser.shared_most" s_Presser_shared_most) (S_Presser_is_shared : SrcM W.K (clsOf W.K "Presser") "is_shared" "Presser.is_shared" s_Presser_is_shared) (S_Presser_least_top : SrcM W.K (clsOf W.K "Presser") "least_top" "Presser.least_top" s_Presser_least_top) (S_Presser_does_count : SrcM W.K (clsOf W.K "Presser") "does_count" "Presser.does_count" s_Presser_does_count) (S_Presser_is_turn_of_whole : SrcM W.K (clsOf W.K "Presser") "is_turn_of_whole" "Presser.is_turn_of_whole" s_Presser_is_turn_of_whole) (S_Presser_hindered : SrcM W.K (clsOf W.K "Presser") "hindered" "Presser.hindered" s_Presser_hindered) (S_Presser_look_at : SrcM W.K (clsOf W.K "Presser") "look_at" "Presser.look_at" s_Presser_look_at) (S_Presser_why_not : SrcM W.K (clsOf W.K "Presser") "why_not" "Presser.why_not" s_Presser_why_not) (S_Presser_usable : SrcM W.K (clsOf W.K "Presser") "usable" "Presser.usable" s_Presser_usable) (S_Presser_chosen : SrcM W.K (clsOf W.K "Presser") "chosen" "Presser.chosen" s_Presser_chosen) (S_Presser_press : SrcM W.K (clsOf W.K "Presser") "press" "Presser.press" s_Presser_press) (S_Presser_is_had : SrcM W.K (clsOf W.K "Presser") "is_had" "Presser.is_had" s_Presser_is_had) (S_Presser_heard : SrcM W.K (clsOf W.K "Presser") "heard" "Presser.heard" s_Presser_heard) (S__law_box : Src W.K mg "_law_box" s__law_box) (S__law_next : Src W.K mg "_law_next" s__law_next) (S__law_of : Src W.K mg "_law_of" s__law_of) (S__law_value : Src W.K mg "_law_value" s__law_value) (S__law_kind : Src W.K mg "_law_kind" s__law_kind) (S__law_shape : Src W.K mg "_law_shape" s__law_shape) (S__law_way : Src W.K mg "_law_way" s__law_way) (S__law_form : Src W.K mg "_law_form" s__law_form) (S__law_road : Src W.K mg "_law_road" s__law_road) (S__law_pact : Src W.K mg "_law_pact" s__law_pact) (S__law_any_head : Src W.K mg "_law_any_head" s__law_any_head) (S__law_expected : Src W.K mg "_law_expected" s__law_expected) (S__law_next_head : Src W.K mg "_law_next_head" s__law_next_head) (S__law_word : Src W.K mg "_law_word" s__law_word) (S__law_class : Src W.K mg "_law_class" s__law_class) (S__law_told : Src W.K mg "_law_told" s__law_told) (S__law_no_heads : Src W.K mg "_law_no_heads" s__law_no_heads) (S__law_no_words : Src W.K mg "_law_no_words" s__law_no_words) (S__law_refuses : Src W.K mg "_law_refuses" s__law_refuses) {f : Addr} {fd : FuncData} (F : Fun W.K "law" "law" s_law f fd) : FnOk W.P W.w W.K mg base CX0 13 f fd ["_law_script"] (sp_law W) := by
  have C_bits_of := c_bits_of (base := base) B S_bits_of T 
  have C_number_of := c_number_of (base := base) B S_number_of T 
  have C_width_for := c_width_for (base := base) B S_width_for T 
  have C_rest_of := c_rest_of (base := base) B S_rest_of T 
  have C_windowed := c_windowed (base := base) B S_windowed T C_rest_of
  have C_around := c_around (base := base) B S_around T C_windowed C_rest_of
  have C_is_whole := c_is_whole (base := base) B S_is_whole T 
  have C_is_between := c_is_between (base := base) B S_is_between T C_is_whole
  have C_is_value := c_is_value (base := base) B S_is_value T C_is_between
  have C_is_head := c_is_head (base := base) B S_is_head T C_is_value
  have C_gone_round := c_gone_round (base := base) B S_gone_round T 
  have C_expected := c_expected (base := base) B S_expected T C_rest_of C_gone_round
  have C_check_of := c_check_of (base := base) B S_check_of T 
  have C_width_of := c_width_of (base := base) B S_width_of T 
  have C_pieces := c_pieces (base := base) B S_pieces T C_rest_of C_bits_of C_width_of
  have C_size_of := c_size_of (base := base) B S_size_of T C_width_of
  have C_value_opened := c_value_opened (base := base) B S_value_opened T C_number_of C_around C_expected
  have C_opened := c_opened (base := base) B S_opened T C_value_opened C_width_of
  have C_first_unlike := c_first_unlike (base := base) B S_first_unlike T 
  have C_doubt := c_doubt (base := base) B S_doubt T C_first_unlike C_opened C_pieces
  have C_sort_width := c_sort_width (base := base) B S_sort_width T C_width_for
  have C_check_width := c_check_width (base := base) B S_check_width T C_width_for
  have C_number_width := c_number_width (base := base) B S_number_width T 
  have C_pieces_size := c_pieces_size (base := base) B S_pieces_size T C_size_of
  have C_letter_size := c_letter_size (base := base) B S_letter_size T C_sort_width C_number_width C_pieces_size C_check_width
  have C_bits_ahead := c_bits_ahead (base := base) B S_bits_ahead T C_sort_width C_bits_of C_number_width
  have C_check_bits := c_check_bits (base := base) B S_check_bits T C_check_width C_check_of C_bits_of
  have C_whole_pieces := c_whole_pieces (base := base) B S_whole_pieces T C_bits_of
  have C_whole_letter := c_whole_letter (base := base) B S_whole_letter T C_bits_ahead C_whole_pieces C_check_bits
  have C_pressed_letter := c_pressed_letter (base := base) B S_pressed_letter T C_check_bits C_rest_of C_bits_ahead C_pieces
  have C_greater := c_greater (base := base) B S_greater T 
  have C_Presser___init__ := c_Presser___init__ (base := base) B S_Presser___init__ T 
  have C_Presser_sent := c_Presser_sent (base := base) B S_Presser_sent T 
  have C_Presser_known := c_Presser_known (base := base) B S_Presser_known T 
  have C_Presser_formers := c_Presser_formers (base := base) B S_Presser_formers T 
  have C_Presser_shared_most := c_Presser_shared_most (base := base) B S_Presser_shared_most T C_greater C_Presser_sent
  have C_Presser_is_shared := c_Presser_is_shared (base := base) B S_Presser_is_shared T C_Presser_sent C_Presser_shared_most
  have C_Presser_least_top := c_Presser_least_top (base := base) B S_Presser_least_top T C_Presser_sent
  have C_Presser_does_count := c_Presser_does_count (base := base) B S_Presser_does_count T C_Presser_sent C_Presser_least_top
  have C_Presser_is_turn_of_whole := c_Presser_is_turn_of_whole (base := base) B S_Presser_is_turn_of_whole T C_Presser_sent
  have C_Presser_hindered := c_Presser_hindered (base := base) B S_Presser_hindered T C_Presser_formers C_doubt C_Presser_does_count C_Presser_is_shared C_Presser_is_turn_of_whole
  have C_Presser_look_at := c_Presser_look_at (base := base) B S_Presser_look_at T C_is_head
  have C_Presser_why_not := c_Presser_why_not (base := base) B S_Presser_why_not T C_Presser_hindered C_Presser_look_at
  have C_Presser_usable := c_Presser_usable (base := base) B S_Presser_usable T C_Presser_hindered C_Presser_look_at
  have C_Presser_chosen := c_Presser_chosen (base := base) B S_Presser_chosen T C_Presser_usable C_letter_size
  have C_Presser_press := c_Presser_press (base := base) B S_Presser_press T C_pressed_letter C_whole_letter C_Presser_chosen C_Presser_sent C_Presser_look_at
  have C_Presser_is_had := c_Presser_is_had (base := base) B S_Presser_is_had T C_Presser_sent C_is_between
  have C_Presser_heard := c_Presser_heard (base := base) B S_Presser_heard T C_Presser_sent C_Presser_is_had C_greater
  have C__law_box := c__law_box (base := base) B S__law_box T 
  have C__law_next := c__law_next (base := base) B S__law_next T 
  have C__law_of := c__law_of (base := base) B S__law_of T C__law_next
  have C__law_value := c__law_value (base := base) B S__law_value T C__law_next
  have C__law_kind := c__law_kind (base := base) B S__law_kind T C__law_of C__law_next C__law_value
  have C__law_shape := c__law_shape (base := base) B S__law_shape T C__law_of C__law_next C__law_kind
  have C__law_way := c__law_way (base := base) B S__law_way T C__law_value C__law_next
  have C__law_form := c__law_form (base := base) B S__law_form T C__law_of C__law_way
  have C__law_road := c__law_road (base := base) B S__law_road T C__law_of
  have C__law_pact := c__law_pact (base := base) B S__law_pact T C__law_road C__law_of C__law_form C__law_shape
  have C__law_any_head := c__law_any_head (base := base) B S__law_any_head T C__law_value
  have C__law_expected := c__law_expected (base := base) B S__law_expected T 
  have C__law_next_head := c__law_next_head (base := base) B S__law_next_head T C__law_next C__law_of C__law_expected
  have C__law_word := c__law_word (base := base) B S__law_word T C__law_next C__law_of
  have C__law_class := c__law_class (base := base) B S__law_class T 
  have CQ__law_class := cq__law_class (base := base) B S__law_class T 
  have C__law_told := c__law_told (base := base) B S__law_told T C_Presser_press C_Presser_heard C_Presser_why_not C_Presser_usable CQ__law_class
  have C__law_no_heads := c__law_no_heads (base := base) B S__law_no_heads T C__law_next
  have C__law_no_words := c__law_no_words (base := base) B S__law_no_words T 
  have C__law_refuses := c__law_refuses (base := base) B S__law_refuses T C_Presser_formers C_Presser_known C_Presser_sent C__law_no_words C__law_told C__law_no_heads C__law_next
  exact f_law B F T C_Presser_usable C_Presser_sent C__law_refuses C__law_told C__law_next_head C_Presser_press C__law_next C__law_word C_Presser_heard C__law_any_head C_Presser___init__ C__law_pact C__law_box
theorem all_mk {P : Program} {w : World} {K : PySem.W.Frag} {mg : Str → Option Value} {fa : Addr} (hfa : mg "law" = some (.ref fa)) (B : Bi mg) (T : Kl K mg) (S_bits_of : Src K mg "bits_of" s_bits_of) (S_number_of : Src K mg "number_of" s_number_of) (S_width_for : Src K mg "width_for" s_width_for) (S_rest_of : Src K mg "rest_of" s_rest_of) (S_windowed : Src K mg "windowed" s_windowed) (S_around : Src K mg "around" s_around) (S_is_whole : Src K mg "is_whole" s_is_whole) (S_is_between : Src K mg "is_between" s_is_between) (S_is_value : Src K mg "is_value" s_is_value) (S_is_head : Src K mg "is_head" s_is_head) (S_gone_round : Src K mg "gone_round" s_gone_round) (S_expected : Src K mg "expected" s_expected) (S_check_of : Src K mg "check_of" s_check_of) (S_width_of : Src K mg "width_of" s_width_of) (S_pieces : Src K mg "pieces" s_pieces) (S_size_of : Src K mg "size_of" s_size_of) (S_value_opened : Src K mg "value_opened" s_value_opened) (S_opened : Src K mg "opened" s_opened) (S_first_unlike : Src K mg "first_unlike" s_first_unlike) (S_doubt : Src K mg "doubt" s_doubt) (S_sort_width : Src K mg "sort_width" s_sort_width) (S_check_width : Src K mg "check_width" s_check_width) (S_number_width : Src K mg "number_width" s_number_width) (S_pieces_size : Src K mg "pieces_size" s_pieces_size) (S_letter_size : Src K mg "letter_size" s_letter_size) (S_bits_ahead : Src K mg "bits_ahead" s_bits_ahead) (S_check_bits : Src K mg "check_bits" s_check_bits) (S_whole_pieces : Src K mg "whole_pieces" s_whole_pieces) (S_whole_letter : Src K mg "whole_letter" s_whole_letter) (S_pressed_letter : Src K mg "pressed_letter" s_pressed_letter) (S_greater : Src K mg "greater" s_greater) (S_Presser___init__ : SrcI K (clsOf K "Presser") "Presser.__init__" s_Presser___init__) (S_Presser_sent : SrcM K (clsOf K "Presser") "sent" "Presser.sent" s_Presser_sent) (S_Presser_known : SrcM K (clsOf K "Presser") "known" "Presser.known" s_Presser_known) (S_Presser_formers : SrcM K (clsOf K "Presser") "formers" "Presser.formers" s_Presser_formers) (S_Presser_shared_most : SrcM K (clsOf K "Presser") "shared_most" "Presser.shared_most" s_Presser_shared_most) (S_Presser_is_shared : SrcM K (clsOf K "Presser") "is_shared" "Presser.is_shared" s_Presser_is_shared) (S_Presser_least_top : SrcM K (clsOf K "Presser") "least_top" "Presser.least_top" s_Presser_least_top) (S_Presser_does_count : SrcM K (clsOf K "Presser") "does_count" "Presser.does_count" s_Presser_does_count) (S_Presser_is_turn_of_whole : SrcM K (clsOf K "Presser") "is_turn_of_whole" "Presser.is_turn_of_whole" s_Presser_is_turn_of_whole) (S_Presser_hindered : SrcM K (clsOf K "Presser") "hindered" "Presser.hindered" s_Presser_hindered) (S_Presser_look_at : SrcM K (clsOf K "Presser") "look_at" "Presser.look_at" s_Presser_look_at) (S_Presser_why_not : SrcM K (clsOf K "Presser") "why_not" "Presser.why_not" s_Presser_why_not) (S_Presser_usable : SrcM K (clsOf K "Presser") "usable" "Presser.usable" s_Presser_usable) (S_Presser_chosen : SrcM K (clsOf K "Presser") "chosen" "Presser.chosen" s_Presser_chosen) (S_Presser_press : SrcM K (clsOf K "Presser") "press" "Presser.press" s_Presser_press) (S_Presser_is_had : SrcM K (clsOf K "Presser") "is_had" "Presser.is_had" s_Presser_is_had) (S_Presser_heard : SrcM K (clsOf K "Presser") "heard" "Presser.heard" s_Presser_heard) (S__law_box : Src K mg "_law_box" s__law_box) (S__law_next : Src K mg "_law_next" s__law_next) (S__law_of : Src K mg "_law_of" s__law_of) (S__law_value : Src K mg "_law_value" s__law_value) (S__law_kind : Src K mg "_law_kind" s__law_kind) (S__law_shape : Src K mg "_law_shape" s__law_shape) (S__law_way : Src K mg "_law_way" s__law_way) (S__law_form : Src K mg "_law_form" s__law_form) (S__law_road : Src K mg "_law_road" s__law_road) (S__law_pact : Src K mg "_law_pact" s__law_pact) (S__law_any_head : Src K mg "_law_any_head" s__law_any_head) (S__law_expected : Src K mg "_law_expected" s__law_expected) (S__law_next_head : Src K mg "_law_next_head" s__law_next_head) (S__law_word : Src K mg "_law_word" s__law_word) (S__law_class : Src K mg "_law_class" s__law_class) (S__law_told : Src K mg "_law_told" s__law_told) (S__law_no_heads : Src K mg "_law_no_heads" s__law_no_heads) (S__law_no_words : Src K mg "_law_no_words" s__law_no_words) (S__law_refuses : Src K mg "_law_refuses" s__law_refuses) (S_law : Src K mg "law" s_law) :
    ∃ fd : FuncData, (∀ (s : Shared) (v : Value), BindsTo s fd ⟨[v], []⟩ [("_law_script", v)]) ∧ ∀ base : Heap, K.In base → base.Ns mainGlobals mg → FnOk P w K mg base CX0 13 fa fd ["_law_script"] (sp_law ⟨P, w, K⟩) := by
  obtain ⟨f, fd, g, F⟩ := S_law
  have e := hfa.symm.trans g
  cases e
  refine ⟨fd, fun s v => ?_, fun base _ _ => all_ok (W := ⟨P, w, K⟩) B T S_bits_of S_number_of S_width_for S_rest_of S_windowed S_around S_is_whole S_is_between S_is_value S_is_head S_gone_round S_expected S_check_of S_width_of S_pieces S_size_of S_value_opened S_opened S_first_unlike S_doubt S_sort_width S_check_width S_number_width S_pieces_size S_letter_size S_bits_ahead S_check_bits S_whole_pieces S_whole_letter S_pressed_letter S_greater S_Presser___init__ S_Presser_sent S_Presser_known S_Presser_formers S_Presser_shared_most S_Presser_is_shared S_Presser_least_top S_Presser_does_count S_Presser_is_turn_of_whole S_Presser_hindered S_Presser_look_at S_Presser_why_not S_Presser_usable S_Presser_chosen S_Presser_press S_Presser_is_had S_Presser_heard S__law_box S__law_next S__law_of S__law_value S__law_kind S__law_shape S__law_way S__law_form S__law_road S__law_pact S__law_any_head S__law_expected S__law_next_head S__law_word S__law_class S__law_told S__law_no_heads S__law_no_words S__law_refuses F⟩
  obtain ⟨oc, od, kV, doc, pm, an, cdv, ct, osl, rfl, lk, hcd⟩ := F.ex
  exact .of_eq rfl
def zts : List (Str × List Str) := [("", ["NoHead", "HeadError", "NoHead", "NoLetter", "NoMore", "NoWord"]), ("", ["NoMore", "HeadError", "NoHead", "NoLetter", "NoMore", "NoWord"]), ("", ["NoWord", "HeadError", "NoHead", "NoLetter", "NoMore", "NoWord"])]
def zfa_0 : List He.Fa := [.free "ValueError", .free "abs", .free "all", .free "bool", .free "divmod", .free "enumerate", .free "int", .free "isinstance", .free "len", .free "list", .free "max", .free "min", .free "range", .free "reversed", .free "str", .free "sum", .free "tuple", .free "zip", .str "SIGNS" "01", .glo "Presser", .cls "Presser", .noat "Presser" "fresh_from", .noat "Presser" "base_most", .noat "Presser" "had_most", .noat "Presser" "past", .noat "Presser" "pact", .glo "NoHead", .exc "NoHead", .exm "NoHead" "NoHead" true, .glo "NoMore", .exc "NoMore", .exm "NoMore" "NoMore" true, .glo "NoWord", .exc "NoWord", .exm "NoWord" "NoWord" true, .glo "HeadError", .glo "NoHead", .glo "NoLetter", .glo "NoMore", .glo "NoWord", .glo "bits_of", .keep "bits_of", .glo "number_of", .keep "number_of", .glo "width_for", .keep "width_for", .glo "rest_of", .keep "rest_of", .glo "windowed", .keep "windowed", .glo "around", .keep "around", .glo "is_whole", .keep "is_whole", .glo "is_between", .keep "is_between", .glo "is_value", .keep "is_value", .glo "is_head", .keep "is_head", .glo "gone_round", .keep "gone_round", .glo "expected", .keep "expected", .glo "check_of", .keep "check_of", .glo "width_of", .keep "width_of", .glo "pieces", .keep "pieces", .glo "size_of", .keep "size_of", .glo "value_opened", .keep "value_opened", .glo "opened", .keep "opened", .glo "first_unlike", .keep "first_unlike", .glo "doubt", .keep "doubt", .glo "sort_width", .keep "sort_width", .glo "check_width", .keep "check_width", .glo "number_width", .keep "number_width", .glo "pieces_size", .keep "pieces_size", .glo "letter_size", .keep "letter_size", .glo "bits_ahead", .keep "bits_ahead", .glo "check_bits", .keep "check_bits", .glo "whole_pieces", .keep "whole_pieces", .glo "whole_letter", .keep "whole_letter", .glo "pressed_letter", .keep "pressed_letter", .glo "greater", .keep "greater", .meth "Presser" "__init__", .mkr "Presser", .meth "Presser" "sent", .meth "Presser" "known", .meth "Presser" "formers", .meth "Presser" "shared_most", .meth "Presser" "is_shared", .meth "Presser" "least_top", .meth "Presser" "does_count", .meth "Presser" "is_turn_of_whole", .meth "Presser" "hindered", .meth "Presser" "look_at", .meth "Presser" "why_not", .meth "Presser" "usable", .meth "Presser" "chosen", .meth "Presser" "press", .meth "Presser" "is_had", .meth "Presser" "heard", .glo "_law_box", .keep "_law_box", .glo "_law_next", .keep "_law_next", .glo "_law_of", .keep "_law_of", .glo "_law_value", .keep "_law_value", .glo "_law_kind", .keep "_law_kind", .glo "_law_shape", .keep "_law_shape", .glo "_law_way", .keep "_law_way", .glo "_law_form", .keep "_law_form", .glo "_law_road", .keep "_law_road", .glo "_law_pact", .keep "_law_pact", .glo "_law_any_head", .keep "_law_any_head", .glo "_law_expected", .keep "_law_expected", .glo "_law_next_head", .keep "_law_next_head", .glo "_law_word", .keep "_law_word", .glo "_law_class", .keep "_law_class", .glo "_law_told", .keep "_law_told", .glo "_law_no_heads", .keep "_law_no_heads", .glo "_law_no_words", .keep "_law_no_words", .glo "_law_refuses", .keep "_law_refuses", .glo "law", .keep "law"]
def zfn_0 : List He.FnD := [⟨("bits_of", none), "bits_of", "bits_of", defArgs s_bits_of, defBody s_bits_of, defScope s_bits_of⟩, ⟨("number_of", none), "number_of", "number_of", defArgs s_number_of, defBody s_number_of, defScope s_number_of⟩, ⟨("width_for", none), "width_for", "width_for", defArgs s_width_for, defBody s_width_for, defScope s_width_for⟩, ⟨("rest_of", none), "rest_of", "rest_of", defArgs s_rest_of, defBody s_rest_of, defScope s_rest_of⟩, ⟨("windowed", none), "windowed", "windowed", defArgs s_windowed, defBody s_windowed, defScope s_windowed⟩, ⟨("around", none), "around", "around", defArgs s_around, defBody s_around, defScope s_around⟩, ⟨("is_whole", none), "is_whole", "is_whole", defArgs s_is_whole, defBody s_is_whole, defScope s_is_whole⟩, ⟨("is_between", none), "is_between", "is_between", defArgs s_is_between, defBody s_is_between, defScope s_is_between⟩, ⟨("is_value", none), "is_value", "is_value", defArgs s_is_value, defBody s_is_value, defScope s_is_value⟩, ⟨("is_head", none), "is_head", "is_head", defArgs s_is_head, defBody s_is_head, defScope s_is_head⟩, ⟨("gone_round", none), "gone_round", "gone_round", defArgs s_gone_round, defBody s_gone_round, defScope s_gone_round⟩, ⟨("expected", none), "expected", "expected", defArgs s_expected, defBody s_expected, defScope s_expected⟩, ⟨("check_of", none), "check_of", "check_of", defArgs s_check_of, defBody s_check_of, defScope s_check_of⟩, ⟨("width_of", none), "width_of", "width_of", defArgs s_width_of, defBody s_width_of, defScope s_width_of⟩, ⟨("pieces", none), "pieces", "pieces", defArgs s_pieces, defBody s_pieces, defScope s_pieces⟩, ⟨("size_of", none), "size_of", "size_of", defArgs s_size_of, defBody s_size_of, defScope s_size_of⟩, ⟨("value_opened", none), "value_opened", "value_opened", defArgs s_value_opened, defBody s_value_opened, defScope s_value_opened⟩, ⟨("opened", none), "opened", "opened", defArgs s_opened, defBody s_opened, defScope s_opened⟩, ⟨("first_unlike", none), "first_unlike", "first_unlike", defArgs s_first_unlike, defBody s_first_unlike, defScope s_first_unlike⟩, ⟨("doubt", none), "doubt", "doubt", defArgs s_doubt, defBody s_doubt, defScope s_doubt⟩, ⟨("sort_width", none), "sort_width", "sort_width", defArgs s_sort_width, defBody s_sort_width, defScope s_sort_width⟩, ⟨("check_width", none), "check_width", "check_width", defArgs s_check_width, defBody s_check_width, defScope s_check_width⟩, ⟨("number_width", none), "number_width", "number_width", defArgs s_number_width, defBody s_number_width, defScope s_number_width⟩, ⟨("pieces_size", none), "pieces_size", "pieces_size", defArgs s_pieces_size, defBody s_pieces_size, defScope s_pieces_size⟩, ⟨("letter_size", none), "letter_size", "letter_size", defArgs s_letter_size, defBody s_letter_size, defScope s_letter_size⟩, ⟨("bits_ahead", none), "bits_ahead", "bits_ahead", defArgs s_bits_ahead, defBody s_bits_ahead, defScope s_bits_ahead⟩, ⟨("check_bits", none), "check_bits", "check_bits", defArgs s_check_bits, defBody s_check_bits, defScope s_check_bits⟩, ⟨("whole_pieces", none), "whole_pieces", "whole_pieces", defArgs s_whole_pieces, defBody s_whole_pieces, defScope s_whole_pieces⟩, ⟨("whole_letter", none), "whole_letter", "whole_letter", defArgs s_whole_letter, defBody s_whole_letter, defScope s_whole_letter⟩, ⟨("pressed_letter", none), "pressed_letter", "pressed_letter", defArgs s_pressed_letter, defBody s_pressed_letter, defScope s_pressed_letter⟩, ⟨("greater", none), "greater", "greater", defArgs s_greater, defBody s_greater, defScope s_greater⟩, ⟨("Presser", some "__init__"), "__init__", "Presser.__init__", defArgs s_Presser___init__, defBody s_Presser___init__, defScope s_Presser___init__⟩, ⟨("Presser", some "sent"), "sent", "Presser.sent", defArgs s_Presser_sent, defBody s_Presser_sent, defScope s_Presser_sent⟩, ⟨("Presser", some "known"), "known", "Presser.known", defArgs s_Presser_known, defBody s_Presser_known, defScope s_Presser_known⟩, ⟨("Presser", some "formers"), "formers", "Presser.formers", defArgs s_Presser_formers, defBody s_Presser_formers, defScope s_Presser_formers⟩, ⟨("Presser", some "shared_most"), "shared_most", "Presser.shared_most", defArgs s_Presser_shared_most, defBody s_Presser_shared_most, defScope s_Presser_shared_most⟩, ⟨("Presser", some "is_shared"), "is_shared", "Presser.is_shared", defArgs s_Presser_is_shared, defBody s_Presser_is_shared, defScope s_Presser_is_shared⟩, ⟨("Presser", some "least_top"), "least_top", "Presser.least_top", defArgs s_Presser_least_top, defBody s_Presser_least_top, defScope s_Presser_least_top⟩, ⟨("Presser", some "does_count"), "does_count", "Presser.does_count", defArgs s_Presser_does_count, defBody s_Presser_does_count, defScope s_Presser_does_count⟩, ⟨("Presser", some "is_turn_of_whole"), "is_turn_of_whole", "Presser.is_turn_of_whole", defArgs s_Presser_is_turn_of_whole, defBody s_Presser_is_turn_of_whole, defScope s_Presser_is_turn_of_whole⟩, ⟨("Presser", some "hindered"), "hindered", "Presser.hindered", defArgs s_Presser_hindered, defBody s_Presser_hindered, defScope s_Presser_hindered⟩, ⟨("Presser", some "look_at"), "look_at", "Presser.look_at", defArgs s_Presser_look_at, defBody s_Presser_look_at, defScope s_Presser_look_at⟩, ⟨("Presser", some "why_not"), "why_not", "Presser.why_not", defArgs s_Presser_why_not, defBody s_Presser_why_not, defScope s_Presser_why_not⟩, ⟨("Presser", some "usable"), "usable", "Presser.usable", defArgs s_Presser_usable, defBody s_Presser_usable, defScope s_Presser_usable⟩, ⟨("Presser", some "chosen"), "chosen", "Presser.chosen", defArgs s_Presser_chosen, defBody s_Presser_chosen, defScope s_Presser_chosen⟩]
def zfa_1 : List He.Fa := []
def zfn_1 : List He.FnD := [⟨("Presser", some "press"), "press", "Presser.press", defArgs s_Presser_press, defBody s_Presser_press, defScope s_Presser_press⟩, ⟨("Presser", some "is_had"), "is_had", "Presser.is_had", defArgs s_Presser_is_had, defBody s_Presser_is_had, defScope s_Presser_is_had⟩, ⟨("Presser", some "heard"), "heard", "Presser.heard", defArgs s_Presser_heard, defBody s_Presser_heard, defScope s_Presser_heard⟩, ⟨("_law_box", none), "_law_box", "_law_box", defArgs s__law_box, defBody s__law_box, defScope s__law_box⟩, ⟨("_law_next", none), "_law_next", "_law_next", defArgs s__law_next, defBody s__law_next, defScope s__law_next⟩, ⟨("_law_of", none), "_law_of", "_law_of", defArgs s__law_of, defBody s__law_of, defScope s__law_of⟩, ⟨("_law_value", none), "_law_value", "_law_value", defArgs s__law_value, defBody s__law_value, defScope s__law_value⟩, ⟨("_law_kind", none), "_law_kind", "_law_kind", defArgs s__law_kind, defBody s__law_kind, defScope s__law_kind⟩, ⟨("_law_shape", none), "_law_shape", "_law_shape", defArgs s__law_shape, defBody s__law_shape, defScope s__law_shape⟩, ⟨("_law_way", none), "_law_way", "_law_way", defArgs s__law_way, defBody s__law_way, defScope s__law_way⟩, ⟨("_law_form", none), "_law_form", "_law_form", defArgs s__law_form, defBody s__law_form, defScope s__law_form⟩, ⟨("_law_road", none), "_law_road", "_law_road", defArgs s__law_road, defBody s__law_road, defScope s__law_road⟩, ⟨("_law_pact", none), "_law_pact", "_law_pact", defArgs s__law_pact, defBody s__law_pact, defScope s__law_pact⟩, ⟨("_law_any_head", none), "_law_any_head", "_law_any_head", defArgs s__law_any_head, defBody s__law_any_head, defScope s__law_any_head⟩, ⟨("_law_expected", none), "_law_expected", "_law_expected", defArgs s__law_expected, defBody s__law_expected, defScope s__law_expected⟩, ⟨("_law_next_head", none), "_law_next_head", "_law_next_head", defArgs s__law_next_head, defBody s__law_next_head, defScope s__law_next_head⟩, ⟨("_law_word", none), "_law_word", "_law_word", defArgs s__law_word, defBody s__law_word, defScope s__law_word⟩, ⟨("_law_class", none), "_law_class", "_law_class", defArgs s__law_class, defBody s__law_class, defScope s__law_class⟩, ⟨("_law_told", none), "_law_told", "_law_told", defArgs s__law_told, defBody s__law_told, defScope s__law_told⟩, ⟨("_law_no_heads", none), "_law_no_heads", "_law_no_heads", defArgs s__law_no_heads, defBody s__law_no_heads, defScope s__law_no_heads⟩, ⟨("_law_no_words", none), "_law_no_words", "_law_no_words", defArgs s__law_no_words, defBody s__law_no_words, defScope s__law_no_words⟩, ⟨("_law_refuses", none), "_law_refuses", "_law_refuses", defArgs s__law_refuses, defBody s__law_refuses, defScope s__law_refuses⟩, ⟨("law", none), "law", "law", defArgs s_law, defBody s_law, defScope s_law⟩]
def zfa : List He.Fa := (zfa_0 ++ zfa_1)
def zfn : List He.FnD := (zfn_0 ++ zfn_1)
def ztt : List (Str × List Str) := (zts ++ [])
def znames_0 : List Str := ["SIGNS", "bits_of", "number_of", "width_for", "rest_of", "windowed", "around", "is_whole", "is_between", "is_value", "is_head", "gone_round", "expected", "check_of", "width_of", "pieces", "size_of", "value_opened", "opened", "first_unlike", "doubt", "HeadError", "NoHead", "NoLetter", "NoWord", "NoMore", "sort_width", "check_width", "number_width", "pieces_size"]
def znames_1 : List Str := ["letter_size", "bits_ahead", "check_bits", "whole_pieces", "whole_letter", "pressed_letter", "greater", "Presser", "_law_box", "_law_next", "_law_of", "_law_value", "_law_kind", "_law_shape", "_law_way", "_law_form", "_law_road", "_law_pact", "_law_any_head", "_law_expected", "_law_next_head", "_law_word", "_law_class", "_law_told", "_law_no_heads", "_law_no_words", "_law_refuses"]
def znames : List Str := znames_0 ++ znames_1
abbrev zR : PySem.W.OpenRow := PySem.W.OpenLaw.row PySem.Challenge.rw_shorthead_k32_presser_refuses
abbrev zhk : PySem.W.Hook := hookZ zfa zfn ztt
def zob (s : PySem.W.SharedT) : AlZ := obsZG zfa zfn ztt (HandSHeadRun.getT s)
theorem zob_eq (s : PySem.W.SharedT) : zob s = zhk.obs s.abs := obsZG_eq (HandSHeadRun.getT_eq s)
theorem zrun_0 (w : World) : HandSHeadRun.RunEq zR (PySem.W.view zR.prog [66]) (hookZ zfa_0 zfn_0 zts) (fun s => obsZG zfa_0 zfn_0 zts (HandSHeadRun.getT s)) 20000 znames w := by
  intro os
  kernel_rfl
theorem zrun_1 (w : World) : HandSHeadRun.RunEq zR (PySem.W.view zR.prog [66]) (hookZ zfa_1 zfn_1 []) (fun s => obsZG zfa_1 zfn_1 [] (HandSHeadRun.getT s)) 20000 znames w := by
  intro os
  kernel_rfl
theorem zrun (w : World) : HandSHeadRun.RunEq zR (PySem.W.view zR.prog [66]) zhk zob 20000 znames w := zrun_app (zrun_0 w) (zrun_1 w)
theorem zfacts {P : Program} {w : World} {K : PySem.W.Frag} {h : Heap} {mg : Str → Option Value} {f : Addr} (X : K.In h) (G : h.Ns mainGlobals mg) (hfa : mg ("law" : Str) = some (.ref f)) (cz : SaysZ zfa zfn ztt K) :
    ∃ fd : FuncData, (∀ (s : Shared) (v : Value), BindsTo s fd ⟨[v], []⟩ [("_law_script", v)]) ∧ ∀ base : Heap, K.In base → base.Ns mainGlobals mg → FnOk P w K mg base CX0 13 f fd ["_law_script"] (sp_law ⟨P, w, K⟩) := by
  obtain ⟨c, ct⟩ := cz
  have B : Bi mg := ⟨He.free_ok X G (c.fact 0 rfl), He.free_ok X G (c.fact 1 rfl), He.free_ok X G (c.fact 2 rfl), He.free_ok X G (c.fact 3 rfl), He.free_ok X G (c.fact 4 rfl), He.free_ok X G (c.fact 5 rfl), He.free_ok X G (c.fact 6 rfl), He.free_ok X G (c.fact 7 rfl), He.free_ok X G (c.fact 8 rfl), He.free_ok X G (c.fact 9 rfl), He.free_ok X G (c.fact 10 rfl), He.free_ok X G (c.fact 11 rfl), He.free_ok X G (c.fact 12 rfl), He.free_ok X G (c.fact 13 rfl), He.free_ok X G (c.fact 14 rfl), He.free_ok X G (c.fact 15 rfl), He.free_ok X G (c.fact 16 rfl), He.free_ok X G (c.fact 17 rfl), (by obtain ⟨t, e⟩ := He.str_ok X G (c.fact 18 rfl); exact ⟨_, e, ⟨_, rfl⟩⟩)⟩
  have T : Kl K mg := ⟨z_kls X G c 19 rfl rfl, z_no c 21 rfl, z_no c 22 rfl, z_no c 23 rfl, z_no c 24 rfl, z_no c 25 rfl, z_ex X G c 26 rfl rfl rfl, z_ex X G c 29 rfl rfl rfl, z_ex X G c 32 rfl rfl rfl, z_cls X G c 35 rfl, z_cls X G c 36 rfl, z_cls X G c 37 rfl, z_cls X G c 38 rfl, z_cls X G c 39 rfl, exvB_ok (tz_ex (ct _ (List.mem_of_getElem? (i := 0) rfl))), exvB_ok (tz_ex (ct _ (List.mem_of_getElem? (i := 1) rfl))), exvB_ok (tz_ex (ct _ (List.mem_of_getElem? (i := 2) rfl)))⟩
  have S_bits_of : Src K mg "bits_of" s_bits_of := z_src X G c 0 40 rfl rfl rfl
  have S_number_of : Src K mg "number_of" s_number_of := z_src X G c 1 42 rfl rfl rfl
  have S_width_for : Src K mg "width_for" s_width_for := z_src X G c 2 44 rfl rfl rfl
  have S_rest_of : Src K mg "rest_of" s_rest_of := z_src X G c 3 46 rfl rfl rfl
  have S_windowed : Src K mg "windowed" s_windowed := z_src X G c 4 48 rfl rfl rfl
  have S_around : Src K mg "around" s_around := z_src X G c 5 50 rfl rfl rfl
  have S_is_whole : Src K mg "is_whole" s_is_whole := z_src X G c 6 52 rfl rfl rfl
  have S_is_between : Src K mg "is_between" s_is_between := z_src X G c 7 54 rfl rfl rfl
  have S_is_value : Src K mg "is_value" s_is_value := z_src X G c 8 56 rfl rfl rfl
  have S_is_head : Src K mg "is_head" s_is_head := z_src X G c 9 58 rfl rfl rfl
  have S_gone_round : Src K mg "gone_round" s_gone_round := z_src X G c 10 60 rfl rfl rfl
  have S_expected : Src K mg "expected" s_expected := z_src X G c 11 62 rfl rfl rfl
  have S_check_of : Src K mg "check_of" s_check_of := z_src X G c 12 64 rfl rfl rfl
  have S_width_of : Src K mg "width_of" s_width_of := z_src X G c 13 66 rfl rfl rfl
  have S_pieces : Src K mg "pieces" s_pieces := z_src X G c 14 68 rfl rfl rfl
  have S_size_of : Src K mg "size_of" s_size_of := z_src X G c 15 70 rfl rfl rfl
  have S_value_opened : Src K mg "value_opened" s_value_opened := z_src X G c 16 72 rfl rfl rfl
  have S_opened : Src K mg "opened" s_opened := z_src X G c 17 74 rfl rfl rfl
  have S_first_unlike : Src K mg "first_unlike" s_first_unlike := z_src X G c 18 76 rfl rfl rfl
  have S_doubt : Src K mg "doubt" s_doubt := z_src X G c 19 78 rfl rfl rfl
  have S_sort_width : Src K mg "sort_width" s_sort_width := z_src X G c 20 80 rfl rfl rfl
  have S_check_width : Src K mg "check_width" s_check_width := z_src X G c 21 82 rfl rfl rfl
  have S_number_width : Src K mg "number_width" s_number_width := z_src X G c 22 84 rfl rfl rfl
  have S_pieces_size : Src K mg "pieces_size" s_pieces_size := z_src X G c 23 86 rfl rfl rfl
  have S_letter_size : Src K mg "letter_size" s_letter_size := z_src X G c 24 88 rfl rfl rfl
  have S_bits_ahead : Src K mg "bits_ahead" s_bits_ahead := z_src X G c 25 90 rfl rfl rfl
  have S_check_bits : Src K mg "check_bits" s_check_bits := z_src X G c 26 92 rfl rfl rfl
  have S_whole_pieces : Src K mg "whole_pieces" s_whole_pieces := z_src X G c 27 94 rfl rfl rfl
  have S_whole_letter : Src K mg "whole_letter" s_whole_letter := z_src X G c 28 96 rfl rfl rfl
  have S_pressed_letter : Src K mg "pressed_letter" s_pressed_letter := z_src X G c 29 98 rfl rfl rfl
  have S_greater : Src K mg "greater" s_greater := z_src X G c 30 100 rfl rfl rfl
  have S_Presser___init__ : SrcI K (clsOf K "Presser") "Presser.__init__" s_Presser___init__ := z_srcI c 31 102 rfl rfl rfl
  have S_Presser_sent : SrcM K (clsOf K "Presser") "sent" "Presser.sent" s_Presser_sent := z_srcM c 32 104 rfl rfl
  have S_Presser_known : SrcM K (clsOf K "Presser") "known" "Presser.known" s_Presser_known := z_srcM c 33 105 rfl rfl
  have S_Presser_formers : SrcM K (clsOf K "Presser") "formers" "Presser.formers" s_Presser_formers := z_srcM c 34 106 rfl rfl
  have S_Presser_shared_most : SrcM K (clsOf K "Presser") "shared_most" "Presser.shared_most" s_Presser_shared_most := z_srcM c 35 107 rfl rfl
  have S_Presser_is_shared : SrcM K (clsOf K "Presser") "is_shared" "Presser.is_shared" s_Presser_is_shared := z_srcM c 36 108 rfl rfl
  have S_Presser_least_top : SrcM K (clsOf K "Presser") "least_top" "Presser.least_top" s_Presser_least_top := z_srcM c 37 109 rfl rfl
  have S_Presser_does_count : SrcM K (clsOf K "Presser") "does_count" "Presser.does_count" s_Presser_does_count := z_srcM c 38 110 rfl rfl
  have S_Presser_is_turn_of_whole : SrcM K (clsOf K "Presser") "is_turn_of_whole" "Presser.is_turn_of_whole" s_Presser_is_turn_of_whole := z_srcM c 39 111 rfl rfl
  have S_Presser_hindered : SrcM K (clsOf K "Presser") "hindered" "Presser.hindered" s_Presser_hindered := z_srcM c 40 112 rfl rfl
  have S_Presser_look_at : SrcM K (clsOf K "Presser") "look_at" "Presser.look_at" s_Presser_look_at := z_srcM c 41 113 rfl rfl
  have S_Presser_why_not : SrcM K (clsOf K "Presser") "why_not" "Presser.why_not" s_Presser_why_not := z_srcM c 42 114 rfl rfl
  have S_Presser_usable : SrcM K (clsOf K "Presser") "usable" "Presser.usable" s_Presser_usable := z_srcM c 43 115 rfl rfl
  have S_Presser_chosen : SrcM K (clsOf K "Presser") "chosen" "Presser.chosen" s_Presser_chosen := z_srcM c 44 116 rfl rfl
  have S_Presser_press : SrcM K (clsOf K "Presser") "press" "Presser.press" s_Presser_press := z_srcM c 45 117 rfl rfl
  have S_Presser_is_had : SrcM K (clsOf K "Presser") "is_had" "Presser.is_had" s_Presser_is_had := z_srcM c 46 118 rfl rfl
  have S_Presser_heard : SrcM K (clsOf K "Presser") "heard" "Presser.heard" s_Presser_heard := z_srcM c 47 119 rfl rfl
  have S__law_box : Src K mg "_law_box" s__law_box := z_src X G c 48 120 rfl rfl rfl
  have S__law_next : Src K mg "_law_next" s__law_next := z_src X G c 49 122 rfl rfl rfl
  have S__law_of : Src K mg "_law_of" s__law_of := z_src X G c 50 124 rfl rfl rfl
  have S__law_value : Src K mg "_law_value" s__law_value := z_src X G c 51 126 rfl rfl rfl
  have S__law_kind : Src K mg "_law_kind" s__law_kind := z_src X G c 52 128 rfl rfl rfl
  have S__law_shape : Src K mg "_law_shape" s__law_shape := z_src X G c 53 130 rfl rfl rfl
  have S__law_way : Src K mg "_law_way" s__law_way := z_src X G c 54 132 rfl rfl rfl
  have S__law_form : Src K mg "_law_form" s__law_form := z_src X G c 55 134 rfl rfl rfl
  have S__law_road : Src K mg "_law_road" s__law_road := z_src X G c 56 136 rfl rfl rfl
  have S__law_pact : Src K mg "_law_pact" s__law_pact := z_src X G c 57 138 rfl rfl rfl
  have S__law_any_head : Src K mg "_law_any_head" s__law_any_head := z_src X G c 58 140 rfl rfl rfl
  have S__law_expected : Src K mg "_law_expected" s__law_expected := z_src X G c 59 142 rfl rfl rfl
  have S__law_next_head : Src K mg "_law_next_head" s__law_next_head := z_src X G c 60 144 rfl rfl rfl
  have S__law_word : Src K mg "_law_word" s__law_word := z_src X G c 61 146 rfl rfl rfl
  have S__law_class : Src K mg "_law_class" s__law_class := z_src X G c 62 148 rfl rfl rfl
  have S__law_told : Src K mg "_law_told" s__law_told := z_src X G c 63 150 rfl rfl rfl
  have S__law_no_heads : Src K mg "_law_no_heads" s__law_no_heads := z_src X G c 64 152 rfl rfl rfl
  have S__law_no_words : Src K mg "_law_no_words" s__law_no_words := z_src X G c 65 154 rfl rfl rfl
  have S__law_refuses : Src K mg "_law_refuses" s__law_refuses := z_src X G c 66 156 rfl rfl rfl
  have S_law : Src K mg "law" s_law := z_src X G c 67 158 rfl rfl rfl
  exact all_mk hfa B T S_bits_of S_number_of S_width_for S_rest_of S_windowed S_around S_is_whole S_is_between S_is_value S_is_head S_gone_round S_expected S_check_of S_width_of S_pieces S_size_of S_value_opened S_opened S_first_unlike S_doubt S_sort_width S_check_width S_number_width S_pieces_size S_letter_size S_bits_ahead S_check_bits S_whole_pieces S_whole_letter S_pressed_letter S_greater S_Presser___init__ S_Presser_sent S_Presser_known S_Presser_formers S_Presser_shared_most S_Presser_is_shared S_Presser_least_top S_Presser_does_count S_Presser_is_turn_of_whole S_Presser_hindered S_Presser_look_at S_Presser_why_not S_Presser_usable S_Presser_chosen S_Presser_press S_Presser_is_had S_Presser_heard S__law_box S__law_next S__law_of S__law_value S__law_kind S__law_shape S__law_way S__law_form S__law_road S__law_pact S__law_any_head S__law_expected S__law_next_head S__law_word S__law_class S__law_told S__law_no_heads S__law_no_words S__law_refuses S_law
end Sh
open PySem PySem.W PySem.Calls PyProof.Rows in
set_option maxRecDepth 100000 in
set_option maxHeartbeats 0 in
theorem PySem.Challenge.cw_shorthead_k32_presser_refuses_holds : PySem.Challenge.rw_shorthead_k32_presser_refuses.Holds := by
  w_on; o_law
  refine HandSHeadRun.head_any (r := OpenLaw.row PySem.Challenge.rw_shorthead_k32_presser_refuses) (q := view (OpenLaw.row PySem.Challenge.rw_shorthead_k32_presser_refuses).prog [66]) (H := Sh.zhk) (ob := Sh.zob) (M := 20000) (loose := Sh.znames) (d := HandSHeadRun.topDef (OpenLaw.row PySem.Challenge.rw_shorthead_k32_presser_refuses).prog 66) (kwd := []) Sh.zob_eq
    (by kernel_rfl) (fun s => by kernel_rfl) Sh.zrun (by kernel_rfl) (by kernel_rfl) (by kernel_rfl) (by rfl) (by first | assumption | decide +kernel) (by decide +kernel) ⟨rfl, rfl, rfl, rfl, rfl, by decide +kernel⟩ ?hw ?hc
  case hw => w_witness2
  case hc =>
    refine Sh.walk_ofZ (l := PySem.Challenge.rw_shorthead_k32_presser_refuses) (n := 63) (k := 13) (x := "_law_script") (CX := L2.CX0) rfl (by decide) (by kernel_rfl) ⟨rfl, by decide, by decide⟩ ?F (fun _ _ _ _ z => z)
    intro w mg fa h Y G hmg0
    obtain ⟨K, KX, c⟩ := Y
    have hmg : mg ("law" : PySem.Str) = some (.ref fa) := by
      have e : (HandSHeadRun.topDef (OpenLaw.row PySem.Challenge.rw_shorthead_k32_presser_refuses).prog 66).name = ("law" : PySem.Str) := by kernel_rfl
      rw [← e]
      exact hmg0
    obtain ⟨fd, hb, hF⟩ := Sh.zfacts (P := (PySem.Challenge.rw_shorthead_k32_presser_refuses).prog) (w := w) KX G hmg c
    exact ⟨K, fd, Sh.sp_law ⟨(PySem.Challenge.rw_shorthead_k32_presser_refuses).prog, w, K⟩, KX, hb, fun H a ns hl hbt _ hS => ⟨a, ns, rfl, hS, hl, hbt, fun _ => rfl⟩, hF⟩
