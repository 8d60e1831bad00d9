import PyProof.Rows.All
import Wide.All
import OpenK.AllK
import Wide.FinOn
import HandS.ForMost
import HandS.EndBits
import HandS.Wide
import HandS.IsInst
import HandS.TupAny
import HandS.Small
import HandS.TupMul
import HandS.WideBits
import KE.IntTextLaws
import PySem.Challenge.RW_shorthead_k06_narrowest
set_option Elab.async false
set_option linter.all false
set_option maxRecDepth 100000
set_option maxHeartbeats 4000000
/-! heaps, data -/
namespace Sh
open PySem PySem.Spec PyProof.Rows L2

theorem same_new {H : Hp} {p : Addr} {o : HO} (h : H p = none) : Same H (upd H p o) := fun a u e => by
  rw [upd_ne (ne_of_none e h)]
  exact e
theorem same_mut {H H' : Hp} {p : Addr} {o : HO} (e : Same H H') (h : H p = none) : Same H (upd H' p o) := fun a u ha => by
  rw [upd_ne (ne_of_none ha h)]
  exact e a u ha
theorem same_t {K : PySem.W.Frag} {H H' : Hp} {a : Addr} {xs : List V} (e : Same H H') (h : SqT K H a xs) : SqT K H' a xs := by
  rcases h with (h | ⟨o, h⟩) | h
  · exact .inl (.inl (e _ _ h))
  · exact .inl (.inr ⟨o, e _ _ h⟩)
  · exact .inr h
mutual
theorem dp_mono {K : PySem.W.Frag} {H H' : Hp} (e : Same H H') : ∀ {v : V} {d : PyData}, Dp K H v d → Dp K H' v d
  | _, _, .non => .non
  | _, _, .bl b => .bl b
  | _, _, .int i => .int i
  | _, _, .str x => .str x
  | _, _, .lst h r => .lst (e.seq h) (dps_mono e r)
  | _, _, .tup h r => .tup (same_t e h) (dps_mono e r)
theorem dps_mono {K : PySem.W.Frag} {H H' : Hp} (e : Same H H') : ∀ {vs : List V} {ds : List PyData}, DpAll K H vs ds → DpAll K H' vs ds
  | _, _, .nil => .nil
  | _, _, .cons h r => .cons (dp_mono e h) (dps_mono e r)
end
theorem dps_len {K : PySem.W.Frag} {H : Hp} : ∀ {vs : List V} {ds : List PyData}, DpAll K H vs ds → vs.length = ds.length
  | _, _, .nil => rfl
  | _, _, .cons _ r => congrArg (· + 1) (dps_len r)
theorem dps_get {K : PySem.W.Frag} {H : Hp} : ∀ {vs : List V} {ds : List PyData} {i : Nat} {d : PyData}, DpAll K H vs ds → ds[i]? = some d → ∃ v, vs[i]? = some v ∧ Dp K H v d
  | _, _, _, _, .nil, e => by simp at e
  | _, _, 0, _, .cons (v := v) h _, e => by
    simp at e
    subst e
    exact ⟨v, rfl, h⟩
  | _, _, i + 1, d, .cons _ r, e => by
    obtain ⟨v, h1, h2⟩ := dps_get (i := i) (d := d) r (by simpa using e)
    exact ⟨v, by simpa using h1, h2⟩
theorem dps_get2 {K : PySem.W.Frag} {H : Hp} {vs : List V} {ds : List PyData} {i : Nat} {v : V} (r : DpAll K H vs ds) (e : vs[i]? = some v) : ∃ d, ds[i]? = some d ∧ Dp K H v d := by
  have hl := dps_len r
  have hi := (List.getElem?_eq_some_iff.mp e).1
  have e2 : ds[i]? = some (ds[i]'(hl ▸ hi)) := List.getElem?_eq_getElem _
  obtain ⟨v2, h1, h2⟩ := dps_get r e2
  rw [e] at h1
  cases h1
  exact ⟨_, e2, h2⟩
theorem dps_app {K : PySem.W.Frag} {H : Hp} : ∀ {vs ws : List V} {ds es : List PyData}, DpAll K H vs ds → DpAll K H ws es → DpAll K H (vs ++ ws) (ds ++ es)
  | _, _, _, _, .nil, s => s
  | _, _, _, _, .cons h r, s => .cons h (dps_app r s)
theorem dps_ints {K : PySem.W.Frag} {H : Hp} : ∀ ns : List Int, DpAll K H (ns.map V.int) (ns.map PyData.int)
  | [] => .nil
  | n :: r => .cons (.int n) (dps_ints r)
theorem atI_map {α β : Type} (f : α → β) (xs : List α) (i : Int) : atI (xs.map f) i = (atI xs i).map f := by
  unfold atI
  rw [List.length_map]
  cases ixN xs.length i with
  | none => rfl
  | some j => simp
theorem dps_at {K : PySem.W.Frag} {H : Hp} {vs : List V} {ds : List PyData} {i : Int} {d : PyData} (r : DpAll K H vs ds) (e : atI ds i = some d) : ∃ v, atI vs i = some v ∧ Dp K H v d := by
  unfold atI at e ⊢
  rw [dps_len r]
  cases q : ixN ds.length i with
  | none => rw [q] at e; cases e
  | some j =>
    rw [q] at e
    exact dps_get r e

/-! ### rules that join -/
section
variable {X : Cx}
theorem opor {f : Value → Value → Sem Value} {r r' : R2} (h : OpR X f r) (h' : OpR X f r') : OpR X f (fun x y H Q => r x y H Q ∨ r' x y H Q) := by
  intro pins s σ H x y v u Q I rx ry q
  rcases q with q | q
  · exact h pins s σ H x y v u Q I rx ry q
  · exact h' pins s σ H x y v u Q I rx ry q
def rAddU (K : PySem.W.Frag) : R2 := fun x y H Q => rI0 (fun i j => .int (i + j)) x y H Q ∨ (∃ i j, x = .str i ∧ y = .str j ∧ i.length + j.length ≤ sizeLine ∧ Q (.str (i ++ j)) H) ∨ rCat x y H Q ∨ rCatA K x y H Q
theorem u_add : OpR X (binaryOp .Add) (rAddU X.K) := opor op_add (opor op_add_str (opor op_cat op_catA))
def rSubU : R2 := rI0 fun i j => .int (i - j)
theorem u_sub : OpR X (binaryOp .Sub) rSubU := op_sub
/-- x * n of a text -/
def rMulS : R2 := fun x y H Q => ∃ a n, x = .str a ∧ y = .int n ∧ MulOk a n ∧ Q (.str (Txt.mul a n)) H
theorem op_mulS {X : Cx} : OpR X (binaryOp .Mult) rMulS := by
  intro pins s σ H x y v u Q I rx ry q
  obtain ⟨a, n, rfl, rfl, hm, q⟩ := q
  obtain ⟨t, rfl⟩ := rx
  obtain ⟨t2, rfl⟩ := ry
  exact SB.mul hm fun t' k => ⟨.str (Txt.mul a n), H, I.tok _, ⟨_, rfl⟩, q⟩
def rMulU (K : PySem.W.Frag) : R2 := fun x y H Q => rI CMul (fun i j => .int (i * j)) x y H Q ∨ rI CMulW (fun i j => .int (i * j)) x y H Q ∨ rMulS x y H Q ∨ rRep x y H Q ∨ rRepT K x y H Q
theorem u_mul : OpR X (binaryOp .Mult) (rMulU X.K) := opor op_mul (opor op_mulW (opor op_mulS (opor op_rep op_repT)))
def rDivU : R2 := rI CDivW fun i j => .int (i / j)
theorem u_div : OpR X (binaryOp .FloorDiv) rDivU := op_fdivW
def rModU : R2 := rI (fun _ j => 0 < j) fun i j => .int (i % j)
theorem u_mod : OpR X (binaryOp .Mod) rModU := op_mod
def rShlU : R2 := rI CPow fun i j => .int (i * 2 ^ j.toNat)
theorem u_shl : OpR X (binaryOp .LShift) rShlU := op_shl
def rPowU : R2 := rI CPow fun i j => .int (i ^ j.toNat)
theorem u_pow : OpR X (binaryOp .Pow) rPowU := op_pow
def rEqU (K : PySem.W.Frag) : R2 := fun x y H Q => rEq x y H Q ∨ rEqD K x y H Q
theorem u_eq (hu : X.A.units + 64 < cLine) : OpR X (compareOp .Eq) (rEqU X.K) := opor op_eq (op_eqD hu)
def rNeU (K : PySem.W.Frag) : R2 := fun x y H Q => rNe x y H Q ∨ rNeD K x y H Q
theorem u_ne (hu : X.A.units + 64 < cLine) : OpR X (compareOp .NotEq) (rNeU X.K) := opor op_ne (op_neD hu)
def rLtU (K : PySem.W.Frag) : R2 := rI0 fun i j => .bl (decide (i < j))
theorem u_lt : OpR X (compareOp .Lt) (rLtU X.K) := op_lt
def rLeU : R2 := fun x y H Q => rI0 (fun i j => .bl (decide (i ≤ j))) x y H Q ∨ (∃ i j, x = .str i ∧ y = .str j ∧ Q (.bl (!decide (j.cps.toList < i.cps.toList))) H)
theorem u_le : OpR X (compareOp .LtE) rLeU := opor op_le op_le_str
def rGtU : R2 := rI0 fun i j => .bl (decide (j < i))
theorem u_gt : OpR X (compareOp .Gt) rGtU := op_gt
def rGeU : R2 := rI0 fun i j => .bl (decide (j ≤ i))
theorem u_ge : OpR X (compareOp .GtE) rGeU := op_ge
end
/-! ### readings, step by step -/
section
variable {K : PySem.W.Frag} {σ : L2.St} {H : Hp} {Q : VK} {R : Bool → Hp → Prop} {te ta tb tc : TE} {t u : TT} {tA tr : TA} {ts tz : TS} {nx bk ct : L2.St → Hp → Prop} {rt : VK} {x y v : V} {i j : Int} {r r' : R2} {g : TG} {n : Nat} {D : Ends}
theorem w_seq (h : ts ⟨tz ⟨nx, rt, bk, ct⟩, rt, bk, ct⟩ σ H) : tSeq ts tz ⟨nx, rt, bk, ct⟩ σ H := h
theorem w_next (h : nx σ H) : tNext ⟨nx, rt, bk, ct⟩ σ H := h
theorem w_asg (h : te σ H fun x H1 => g x σ H1 nx) : tAsg te g ⟨nx, rt, bk, ct⟩ σ H := h
theorem w_gname {k : L2.St → Hp → Prop} (h : k (σ.set n (some v)) H) : gName n v σ H k := h
theorem w_drop (h : te σ H fun _ H1 => nx σ H1) : tDrop te ⟨nx, rt, bk, ct⟩ σ H := h
theorem w_ret (h : te σ H rt) : tRet te ⟨nx, rt, bk, ct⟩ σ H := h
theorem w_retn (h : rt .non H) : tRetN ⟨nx, rt, bk, ct⟩ σ H := h
theorem w_ifs (h : t σ H fun b H1 => if b = true then ts ⟨nx, rt, bk, ct⟩ σ H1 else tz ⟨nx, rt, bk, ct⟩ σ H1) : tIfS t ts tz ⟨nx, rt, bk, ct⟩ σ H := h
theorem w_aug {ti : TIp} (hx : σ[n]? = some (some x)) (h : te σ H fun y H1 => ti x y H1 fun z H2 => nx (σ.set n (some z)) H2) : tAug n te ti ⟨nx, rt, bk, ct⟩ σ H := ⟨x, hx, h⟩
theorem w_ip {f : Int → Int → Int} (h : Q (.int (f i j)) H) : ipI f (.int i) (.int j) H Q := ⟨i, j, rfl, rfl, h⟩
theorem w_par {m : Nat} (h : tA σ H fun vs H1 => ∃ v w, vs = [v, w] ∧ nx ((σ.set n (some v)).set m (some w)) H1) : tPar n m tA ⟨nx, rt, bk, ct⟩ σ H := h
theorem w_two {k : V → V → Prop} (h : k x y) : ∃ v w, [x, y] = [v, w] ∧ k v w := ⟨x, y, rfl, h⟩
theorem w_var (h : σ[n]? = some (some v)) (q : Q v H) : tVar n σ H Q := ⟨v, h, q⟩
theorem w_c (q : Q v H) : tC v σ H Q := q
theorem w_op (h : ta σ H fun x H1 => tb σ H1 fun y H2 => r x y H2 Q) : tOp r ta tb σ H Q := h
theorem w_un {r : V → Hp → VK → Prop} (h : ta σ H fun x H1 => r x H1 Q) : tUn r ta σ H Q := h
theorem w_rU {g : Int → V} (h : Q (g i) H) : rU g (.int i) H Q := ⟨i, rfl, h⟩
theorem w_nil {k : List V → Hp → Prop} (q : k [] H) : tNil σ H k := q
theorem w_cons {k : List V → Hp → Prop} (h : ta σ H fun x H1 => tr σ H1 fun xs H2 => k (x :: xs) H2) : tCons ta tr σ H k := h
theorem w_cb {r : List V → Hp → VK → Prop} (h : tA σ H fun vs H1 => r vs H1 Q) : tCB r tA σ H Q := h
theorem w_call {sp : Sp} {E : XK} (h : tA σ H fun vs H1 => sp vs H1 Q E) : tCall sp [] E tA σ H Q := by
  show tA σ H fun vs H1 => sp (vs ++ []) H1 Q E
  have e : (fun vs H1 => sp (vs ++ []) H1 Q E) = fun vs H1 => sp vs H1 Q E := by
    funext vs H1
    rw [List.append_nil]
  rw [e]
  exact h
theorem w_test (h : te σ H fun x H1 => ∃ k, x = .bl k ∧ R k H1) : tTest te σ H R := h
theorem w_tB (h : te σ H fun x H1 => ∃ k, x = .bl k ∧ R k H1) : tB te σ H R := h
theorem w_bl {b : Bool} {k : Bool → Prop} (h : k b) : ∃ c, V.bl b = .bl c ∧ k c := ⟨b, rfl, h⟩
theorem w_and (h : t σ H fun c H1 => if c = true then u σ H1 R else R false H1) : tAnd t u σ H R := h
theorem w_or (h : t σ H fun c H1 => if c = true then R true H1 else u σ H1 R) : tOr t u σ H R := h
theorem w_not (h : t σ H fun c H1 => R (!c) H1) : tNot t σ H R := h
theorem w_andv (h : ta σ H fun x H1 => ∃ c, x = .bl c ∧ if c = true then tb σ H1 Q else Q (.bl false) H1) : tAndV ta tb σ H Q := h
theorem w_orv (h : ta σ H fun x H1 => ∃ c, x = .bl c ∧ if c = true then Q (.bl true) H1 else tb σ H1 Q) : tOrV ta tb σ H Q := h
theorem w_notv (h : ta σ H fun x H1 => ∃ c, x = .bl c ∧ Q (.bl (!c)) H1) : tNotV ta σ H Q := h
theorem w_ife (h : t σ H fun c H1 => if c = true then ta σ H1 Q else tb σ H1 Q) : tIf t ta tb σ H Q := h
theorem w_chain (h : ta σ H fun x H1 => tb σ H1 fun y H2 => r x y H2 fun z H3 => ∃ k, z = .bl k ∧ if k = true then tc σ H3 fun w H4 => r' y w H4 Q else Q (.bl false) H3) : tChain r r' ta tb tc σ H Q := h
/-- a new object is laid -/
def NewT (xs : List V) (o : HO) (Q : VK) (H : Hp) : Prop := xs.length ≤ sizeLine ∧ ∀ p, H p = none → Q (.ref p) (upd H p o)
theorem w_tup (h : tA σ H fun xs H1 => NewT xs (.tup xs) Q H1) : tTup tA σ H Q := h
theorem w_lst (h : tA σ H fun xs H1 => NewT xs (.lst xs) Q H1) : tLst tA σ H Q := h
/-- a new object: it is there, all else is kept -/
theorem w_new {xs : List V} {o : HO} (hl : xs.length ≤ sizeLine) (h : ∀ p H', H p = none → Same H H' → H' p = some o → Q (.ref p) H') : NewT xs o Q H :=
  ⟨hl, fun p hp => h p _ hp (same_new hp) upd_same⟩
theorem w_dec {p : Prop} [Decidable p] {A B : Prop} (h1 : p → A) (h2 : ¬ p → B) : if decide p = true then A else B := by
  by_cases h : p
  · rw [decide_eq_true h]
    exact iteT (h1 h)
  · rw [decide_eq_false h]
    exact iteF (h2 h)
theorem w_ndec {p : Prop} [Decidable p] {A B : Prop} (h1 : ¬ p → A) (h2 : p → B) : if (!decide p) = true then A else B := by
  by_cases h : p
  · rw [decide_eq_true h]
    exact iteF (h2 h)
  · rw [decide_eq_false h]
    exact iteT (h1 h)
theorem w_itet {b : Bool} {A B : Prop} (h : b = true) (q : A) : if b = true then A else B := by
  rw [h]
  exact iteT q
theorem w_itef {b : Bool} {A B : Prop} (h : b = false) (q : B) : if b = true then A else B := by
  rw [h]
  exact iteF q
theorem w_nn {b : Bool} {A B : Prop} (h : if b = true then B else A) : if (!b) = true then A else B := by
  cases b
  · exact h
  · exact h
theorem w_bool {b : Bool} {A B : Prop} (h1 : b = true → A) (h2 : b = false → B) : if b = true then A else B := by
  cases b
  · exact iteF (h2 rfl)
  · exact iteT (h1 rfl)
theorem w_add (h : Q (.int (i + j)) H) : rAddU K (.int i) (.int j) H Q := .inl ⟨i, j, rfl, rfl, h⟩
theorem w_adds {a b : Str} (hl : a.length + b.length ≤ sizeLine) (h : Q (.str (a ++ b)) H) : rAddU K (.str a) (.str b) H Q := .inr (.inl ⟨a, b, rfl, rfl, hl, h⟩)
theorem w_sub (h : Q (.int (i - j)) H) : rSubU (.int i) (.int j) H Q := ⟨i, j, rfl, rfl, h⟩
theorem w_mul (hc : CMul i j) (h : Q (.int (i * j)) H) : rMulU K (.int i) (.int j) H Q := .inl ⟨i, j, rfl, rfl, hc, h⟩
theorem w_mulw (hc : CMulW i j) (h : Q (.int (i * j)) H) : rMulU K (.int i) (.int j) H Q := .inr (.inl ⟨i, j, rfl, rfl, hc, h⟩)
theorem w_div (h0 : 0 < j) (hc : j.natAbs.log2 < 9000) (h : Q (.int (i / j)) H) : rDivU (.int i) (.int j) H Q := ⟨i, j, rfl, rfl, ⟨h0, hc⟩, h⟩
theorem w_mod (h0 : 0 < j) (h : Q (.int (i % j)) H) : rModU (.int i) (.int j) H Q := ⟨i, j, rfl, rfl, h0, h⟩
theorem w_shl (hc : CPow i j) (h : Q (.int (i * 2 ^ j.toNat)) H) : rShlU (.int i) (.int j) H Q := ⟨i, j, rfl, rfl, hc, h⟩
theorem w_pow (hc : CPow i j) (h : Q (.int (i ^ j.toNat)) H) : rPowU (.int i) (.int j) H Q := ⟨i, j, rfl, rfl, hc, h⟩
theorem w_lt (h : Q (.bl (decide (i < j))) H) : rLtU K (.int i) (.int j) H Q := ⟨i, j, rfl, rfl, h⟩
theorem w_le (h : Q (.bl (decide (i ≤ j))) H) : rLeU (.int i) (.int j) H Q := .inl ⟨i, j, rfl, rfl, h⟩
theorem w_gt (h : Q (.bl (decide (j < i))) H) : rGtU (.int i) (.int j) H Q := ⟨i, j, rfl, rfl, h⟩
theorem w_ge (h : Q (.bl (decide (j ≤ i))) H) : rGeU (.int i) (.int j) H Q := ⟨i, j, rfl, rfl, h⟩
theorem dec_ii : decide (V.int i = V.int j) = decide (i = j) := by
  by_cases h : i = j
  · subst h; simp
  · simp [h]
theorem dec_ss {a b : Str} : decide (V.str a = V.str b) = decide (a = b) := by
  by_cases h : a = b
  · subst h; simp
  · simp [h]
theorem w_eqi (h : Q (.bl (decide (i = j))) H) : rEqU K (.int i) (.int j) H Q := .inl ⟨rfl, by rw [dec_ii]; exact h⟩
theorem w_eqs {a b : Str} (h : Q (.bl (decide (a = b))) H) : rEqU K (.str a) (.str b) H Q := .inl ⟨rfl, by rw [dec_ss]; exact h⟩
theorem w_nei (h : Q (.bl (!decide (i = j))) H) : rNeU K (.int i) (.int j) H Q := .inl ⟨rfl, by rw [dec_ii]; exact h⟩
theorem w_nes {a b : Str} (h : Q (.bl (!decide (a = b))) H) : rNeU K (.str a) (.str b) H Q := .inl ⟨rfl, by rw [dec_ss]; exact h⟩
theorem w_div1 (h0 : 0 < j) (hb : j < 1267650600228229401496703205376) (h : Q (.int (i / j)) H) : rDivU (.int i) (.int j) H Q := by
  refine ⟨i, j, rfl, rfl, ⟨h0, ?_⟩, h⟩
  have hn : j.natAbs < 2 ^ 100 := by omega
  exact Nat.lt_of_lt_of_le (PySem.Flt.log2_lt_of (by decide) hn) (by decide)
def p2 (n : Int) : Int := 2 ^ n.toNat
theorem p2_pos (n : Int) : 0 < p2 n := Int.pow_pos (by decide)
theorem ipow_le {a : Nat} (ha : 0 < a) {m n : Nat} (h : m ≤ n) : (a : Int) ^ m ≤ (a : Int) ^ n := by
  rw [← Int.natCast_pow, ← Int.natCast_pow]
  exact Int.ofNat_le.mpr (Nat.pow_le_pow_right ha h)
theorem p2_le {m n : Int} (h : m ≤ n) : p2 m ≤ p2 n := by
  have h1 : m.toNat ≤ n.toNat := by omega
  have h2 : (2 : Nat) ^ m.toNat ≤ 2 ^ n.toNat := Nat.pow_le_pow_right (by decide) h1
  have e1 : ((2 ^ m.toNat : Nat) : Int) = (2 : Int) ^ m.toNat := by simp
  have e2 : ((2 ^ n.toNat : Nat) : Int) = (2 : Int) ^ n.toNat := by simp
  show (2 : Int) ^ m.toNat ≤ 2 ^ n.toNat
  omega
theorem w_shl1 (h0 : 0 ≤ j) (h1 : j ≤ 1000000) (h : Q (.int (p2 j)) H) : rShlU (.int 1) (.int j) H Q := ⟨1, j, rfl, rfl, ⟨h0, h1, by decide⟩, by
  show Q (V.int (1 * 2 ^ j.toNat)) H
  rw [Int.one_mul]
  exact h⟩
abbrev rMin2 : List V → Hp → VK → Prop := fun xs H Q => ∃ i j, xs = [V.int i, V.int j] ∧ Q (.int (if j < i then j else i)) H
abbrev rMax2 : List V → Hp → VK → Prop := fun xs H Q => ∃ i j, xs = [V.int i, V.int j] ∧ Q (.int (if j > i then j else i)) H
abbrev rAbs : List V → Hp → VK → Prop := fun xs H Q => ∃ i, xs = [V.int i] ∧ Q (.int (if i < 0 then -i else i)) H
theorem w_min2 (h : Q (.int (if j < i then j else i)) H) : rMin2 [.int i, .int j] H Q := ⟨i, j, rfl, h⟩
theorem w_max2 (h : Q (.int (if j > i then j else i)) H) : rMax2 [.int i, .int j] H Q := ⟨i, j, rfl, h⟩
theorem w_abs (h : Q (.int (if i < 0 then -i else i)) H) : rAbs [.int i] H Q := ⟨i, rfl, h⟩
abbrev rIntU : List V → Hp → VK → Prop := fun xs H Q => (∃ i, xs = [V.int i] ∧ Q (.int i) H) ∨ ∃ k, xs = [V.bl k] ∧ Q (.int (if k then 1 else 0)) H
theorem u_int {X : Cx} : CallR X (.type "int") rIntU := call_int1
theorem w_inti (h : Q (.int i) H) : rIntU [.int i] H Q := .inl ⟨i, rfl, h⟩
theorem w_intb {b : Bool} (h : Q (.int (if b = true then 1 else 0)) H) : rIntU [.bl b] H Q := .inr ⟨b, rfl, h⟩
def ipAddU (K : PySem.W.Frag) : TIp := ipI fun i j => i + j
theorem w_ipadd (h : Q (.int (i + j)) H) : ipAddU K (.int i) (.int j) H Q := ⟨i, j, rfl, rfl, h⟩
theorem u_ipadd {X : Cx} : PIp X .Add (ipAddU X.K) := ip_add
end
/-! ### what the law's text is made of -/
/-- a def of the text -/
def Src (K : PySem.W.Frag) (mg : Str → Option Value) (x : Str) (st : Stmt) : Prop := ∃ f fd, mg x = some (.ref f) ∧ Fun K x x st f fd
/-- the program, the world, the written part -/
structure Wd where
  P : Program
  w : World
  K : PySem.W.Frag
/-- a def that keeps a promise -/
def Cal (W : Wd) (mg : Str → Option Value) (base : Heap) (x : Str) (k : Nat) (ps : List Str) (sp : Sp) : Prop :=
  ∃ f fd, mg x = some (.ref f) ∧ FnOk W.P W.w W.K mg base CX0 k f fd ps sp ∧ PySem.W.keepIn W.K (.ref f) = true ∧ Binds W.K fd ps []
/-- an object of which no more is said than that it is one of U -/
def flatO : HO → Prop
  | .lst _ => True
  | .dK _ => True
  | _ => False
theorem ok_flat {P : Program} {w : World} {H H' : Hp} {h : Heap} {a : Addr} {u : HO} (hf : flatO u) (x : ObjOk P w H h a u) : ObjOk P w H' h a u := by
  cases u with
  | lst xs =>
    obtain ⟨z, its, n, r, e⟩ := x
    exact ⟨z, its, n, r, e⟩
  | dK kvs =>
    obtain ⟨z, y, vs, r, m⟩ := x
    exact ⟨z, y, vs, r, m⟩
  | _ => exact hf.elim
theorem flat_there {P : Program} {w : World} {H : Hp} {h : Heap} {a : Addr} {u : HO} (hf : flatO u) (x : ObjOk P w H h a u) : ∃ o, h.get? a = some o := by
  cases u with
  | lst xs =>
    obtain ⟨z, its, n, r, e⟩ := x
    exact ⟨_, e⟩
  | dK kvs =>
    obtain ⟨z, y, vs, r, o, es, ep, e, _⟩ := x
    exact ⟨_, e⟩
  | _ => exact hf.elim
def vw (W : Wd) (U : HO → Prop) (a : Addr) : HO := .ext fun h => ∃ u, U u ∧ flatO u ∧ ObjOk W.P W.w (fun _ => none) h a u
theorem vw_ok {W : Wd} {U : HO → Prop} {H H' : Hp} {h : Heap} {a : Addr} {u : HO} (hu : U u) (hf : flatO u) (x : ObjOk W.P W.w H h a u) : ObjOk W.P W.w H' h a (vw W U a) := by
  have x0 : ObjOk W.P W.w (fun _ => none) h a u := ok_flat hf x
  refine ⟨⟨u, hu, hf, x0⟩, flat_there hf x, fun h1 h2 ⟨u1, a1, a2, a3⟩ k => ⟨u1, a1, a2, ?_⟩⟩
  refine a3.stay (fun b o hb e => ?_) (fun _ q => q) fun _ _ q => q
  rcases hb with rfl | hb
  · exact k _ e
  · cases hb
theorem flat_cases {u : HO} (h : flatO u) : (∃ x, u = .lst x) ∨ ∃ k, u = .dK k := by
  cases u <;> first | exact .inl ⟨_, rfl⟩ | exact .inr ⟨_, rfl⟩ | exact h.elim
/-- p's object shown as one of U: all else is as it was -/
theorem hok_seal {W : Wd} {U : HO → Prop} {H : Hp} {h : Heap} {p : Addr} {u : HO} (x : HOk W.P W.w H h) (hp : H p = some u) (hu : U u) (hf : flatO u) : HOk W.P W.w (upd H p (vw W U p)) h := fun a o e => by
  by_cases ha : a = p
  · subst ha
    rw [upd_same] at e
    cases e
    exact vw_ok hu hf (x a u hp)
  · rw [upd_ne ha] at e
    refine (x a o e).stay (fun _ _ _ q => q) (fun b q => ?_) fun b xs q => ?_
    · have nb : b ≠ p := fun z => by
        rw [z, hp] at q
        cases q
        exact hf
      rw [upd_ne nb]
      exact q
    · have nb : b ≠ p := fun z => by
        rw [z, hp] at q
        cases q
        exact hf
      rw [upd_ne nb]
      exact q
theorem hok_open {W : Wd} {U : HO → Prop} {H : Hp} {h : Heap} {p : Addr} (x : HOk W.P W.w H h) (hp : H p = some (vw W U p)) : ∃ u, U u ∧ flatO u ∧ HOk W.P W.w (upd H p u) h := by
  obtain ⟨⟨u, hu, hf, o⟩, _, _⟩ := (show ObjOk W.P W.w H h p (vw W U p) from x p _ hp)
  refine ⟨u, hu, hf, fun a ob e => ?_⟩
  by_cases ha : a = p
  · subst ha
    rw [upd_same] at e
    cases e
    exact ok_flat hf o
  · rw [upd_ne ha] at e
    refine (x a ob e).stay (fun _ _ _ q => q) (fun b q => ?_) fun b xs q => ?_
    · have nb : b ≠ p := fun z => by
        rw [z, hp] at q
        cases q
      rw [upd_ne nb]
      exact q
    · have nb : b ≠ p := fun z => by
        rw [z, hp] at q
        cases q
      rw [upd_ne nb]
      exact q
theorem un_seal {W : Wd} {U : HO → Prop} {fs ex : List Addr} {H H' : Hp} {h h' : Heap} {p : Addr} {u : HO} (x : Un fs ex H H' h h') (hp : H' p = some u) (hf : flatO u) : Un fs ex H (upd H' p (vw W U p)) h h' where
  keep := x.keep
  slot := x.slot
  free := fun b o q n he => by
    have e := x.free b o q n he
    have nb : b ≠ p := fun z => by
      rw [z, hp] at e
      cases e
    rw [upd_ne nb]
    exact e
  there := x.there
  tups := fun b xs q => by
    have e := x.tups b xs q
    have nb : b ≠ p := fun z => by
      rw [z, hp] at e
      cases e
      exact hf
    rw [upd_ne nb]
    exact e
  frzs := fun b o v q => by
    have e := x.frzs b o v q
    have nb : b ≠ p := fun z => by
      rw [z, hp] at e
      cases e
      exact hf
    rw [upd_ne nb]
    exact e
  tbls := fun b ps q => by
    obtain ⟨m, e⟩ := x.tbls b ps q
    have nb : b ≠ p := fun z => by
      rw [z, hp] at e
      cases e
      exact hf
    exact ⟨m, by rw [upd_ne nb]; exact e⟩
theorem un_open {W : Wd} {U : HO → Prop} {fs ex : List Addr} {H H' : Hp} {h h' : Heap} {p : Addr} {u : HO} (x : Un fs ex (upd H p u) H' h h') (hp : H p = some (vw W U p)) : Un fs ex H H' h h' := by
  have nb : ∀ b, H b = none → b ≠ p := fun b e z => by
    rw [z, hp] at e
    cases e
  have up : ∀ b, b ≠ p → upd H p u b = H b := fun b z => upd_ne z
  have no : ∀ b o, H b = some o → (∀ φ, o ≠ .ext φ) → b ≠ p := fun b o e z q => by
    rw [q, hp] at e
    exact z _ (Option.some.inj e).symm
  refine ⟨fun b o q n => x.keep b o q (by rw [up b (nb b n)]; exact n), fun b o q n => x.slot b o q (by rw [up b (nb b n)]; exact n), fun b o q n => x.free b o q (by rw [up b (nb b n)]; exact n), x.there,
    fun b xs q => x.tups b xs ?_, fun b o v q => x.frzs b o v ?_, fun b ps q => x.tbls b ps ?_⟩
  · rw [up b (no b _ q fun φ z => by cases z)]
    exact q
  · rw [up b (no b _ q fun φ z => by cases z)]
    exact q
  · rw [up b (no b _ q fun φ z => by cases z)]
    exact q
/-- a def that has a promise by the object itself has one by its view -/
theorem fn_view {W : Wd} {mg : Str → Option Value} {base : Heap} {k : Nat} {f : Addr} {fd : FuncData} {ps : List Str} {sp sp' : Sp} {U : HO → Prop} (hU : ∀ u, U u → flatO u) (F : FnOk W.P W.w W.K mg base CX0 k f fd ps sp)
    (hl : ∀ vs H Q E, sp' vs H Q E → vs.length = ps.length)
    (h : ∀ vs H Q E, sp' vs H Q E → ∃ p, H p = some (vw W U p) ∧ ∀ u, U u → sp vs (upd H p u) (fun v H' => ∃ u', U u' ∧ H' p = some u' ∧ Q v (upd H' p (vw W U p))) E) :
    FnOk W.P W.w W.K mg base CX0 k f fd ps sp' := by
  refine ⟨hl, fun A outer s H args us vs Q E hr e0 hb hv hs => ?_⟩
  obtain ⟨p, hp, k⟩ := h _ _ _ _ hs
  obtain ⟨u, hu, hf, hok⟩ := hok_open e0.hok hp
  have np : ∀ b, H b = none → upd H p u b = none := fun b e => by
    have nb : b ≠ p := fun z => by
      rw [z, hp] at e
      cases e
    rw [upd_ne nb]
    exact e
  have e1 : Env0 W.P W.w W.K mg base A outer s (upd H p u) := ⟨e0.frames, e0.mod, fun b o q => ⟨(e0.bs b o q).1, np b (e0.bs b o q).2⟩, e0.bsz, e0.funs, fun b q => np b (e0.frf b q), hok, e0.bare⟩
  refine codeAny_mono (F.run A outer s (upd H p u) args us vs _ E hr e1 hb hv (k u hu)) fun r s' q => ?_
  cases r with
  | error e => exact q
  | ok fl =>
    cases fl with
    | ret v =>
      obtain ⟨v1, H', q1, q2, q3, q4, q5, u', hu', hp', q6⟩ := q
      exact ⟨v1, _, q1, q2, un_open (un_seal q3 hp' (hU _ hu')) hp, hok_seal q4 hp' hu' (hU _ hu'), q5, q6⟩
    | next => exact q
    | brk => exact q
    | cont => exact q
theorem fn_seal {W : Wd} {mg : Str → Option Value} {base : Heap} {k : Nat} {f : Addr} {fd : FuncData} {ps : List Str} {sp sp' : Sp} {U : HO → Prop} (hU : ∀ u, U u → flatO u) (F : FnOk W.P W.w W.K mg base CX0 k f fd ps sp)
    (hl : ∀ vs H Q E, sp' vs H Q E → vs.length = ps.length)
    (h : ∀ vs H Q E, sp' vs H Q E → sp vs H (fun v H' => ∃ p u', U u' ∧ H' p = some u' ∧ Q v (upd H' p (vw W U p))) E) :
    FnOk W.P W.w W.K mg base CX0 k f fd ps sp' := by
  refine ⟨hl, fun A outer s H args us vs Q E hr e0 hb hv hs => ?_⟩
  refine codeAny_mono (F.run A outer s H args us vs _ E hr e0 hb hv (h _ _ _ _ hs)) fun r s' q => ?_
  cases r with
  | error e => exact q
  | ok fl =>
    cases fl with
    | ret v =>
      obtain ⟨v1, H', q1, q2, q3, q4, q5, p, u', hu', hp', q6⟩ := q
      exact ⟨v1, _, q1, q2, un_seal q3 hp' (hU _ hu'), hok_seal q4 hp' hu' (hU _ hu'), q5, q6⟩
    | next => exact q
    | brk => exact q
    | cont => exact q
theorem src_mk {K : PySem.W.Frag} {mg : Str → Option Value} {h : Heap} {x : Str} {st : Stmt} {f : Addr} {oc : Value} {od an : Option Addr} {osl : Array (Option Value)} {kV doc pm cdv ct : Value} (X : K.In h) (G : h.Ns mainGlobals mg)
    (a : PySem.W.nsIn K mainGlobals x = some (some (.ref f))) (l : K.lookup f = some ⟨oc, od, .func (PySem.W.fnOf x x (defArgs st) (defBody st) (defScope st) .none kV doc pm an cdv ct), osl⟩)
    (c : PySem.W.codeIn K cdv x = true) (k : PySem.W.keepIn K (.ref f) = true) : Src K mg x st := ⟨f, _, PySem.W.mg_of X G a, fun_mk l c k⟩
/-! ### loops -/
section
variable {K : PySem.W.Frag} {σ : L2.St} {H : Hp} {Q : VK} {te : TE} {tA : TA} {tb : TS} {nx bk ct : L2.St → Hp → Prop} {rt : VK} {g : TG} {n : Nat} {wi : TI} {c : TT}
/-- what a for asks once its iterator has come -/
def ForOk (J : It) (g : TG) (tb : TS) (nx : L2.St → Hp → Prop) (rt : VK) (σ : L2.St) (H1 : Hp) : Prop := ∃ W : Nat → Nat → L2.St → Hp → Prop, (∃ m, W 0 m σ H1) ∧ ∀ i m σ H, W i m σ H →
  (J.stop i H ∧ nx σ H) ∨ (J.go i H ∧ ∃ N : L2.St → Hp → Prop, (∀ σ' H', N σ' H' → ∃ m', m' < m ∧ W (i + 1) m' σ' H') ∧ ∀ x H', J.yld i H x H' → g x σ H' fun σ2 H2 => tb ⟨N, rt, nx, N⟩ σ2 H2)
theorem w_for (h : wi σ H fun J H1 => ForOk J g tb nx rt σ H1) : tFor wi g tb ⟨nx, rt, bk, ct⟩ σ H := h
def Rg1 (R : It → Hp → Prop) (vs : List V) (H : Hp) : Prop := ∃ j : Int, vs = [.int j] ∧ -(2 ^ 62) ≤ j ∧ j < 2 ^ 62 ∧ R (Itr 0 j.toNat) H
def Rg2 (R : It → Hp → Prop) (vs : List V) (H : Hp) : Prop := ∃ i j : Int, vs = [.int i, .int j] ∧ (-(2 ^ 62) ≤ i ∧ i < 2 ^ 62 ∧ -(2 ^ 62) ≤ j ∧ j < 2 ^ 62) ∧ R (Itr i (j - i).toNat) H
theorem w_irng1 {R : It → Hp → Prop} (h : tA σ H fun vs H1 => Rg1 R vs H1) : iRng1 tA σ H R := h
theorem w_irng2 {R : It → Hp → Prop} (h : tA σ H fun vs H1 => Rg2 R vs H1) : iRng2 tA σ H R := h
theorem w_rg1 {R : It → Hp → Prop} {j : Int} (h0 : -(2 ^ 62) ≤ j) (h1 : j < 2 ^ 62) (h : R (Itr 0 j.toNat) H) : Rg1 R [.int j] H := ⟨j, rfl, h0, h1, h⟩
theorem w_rg2 {R : It → Hp → Prop} {i j : Int} (h0 : -(2 ^ 62) ≤ i ∧ i < 2 ^ 62 ∧ -(2 ^ 62) ≤ j ∧ j < 2 ^ 62) (h : R (Itr i (j - i).toNat) H) : Rg2 R [.int i, .int j] H := ⟨i, j, rfl, h0, h⟩
theorem forR {lo : Int} (I : Nat → L2.St → Hp → Prop) (h0 : I 0 σ H) (hs : ∀ i σ H, i < n → I i σ H → g (.int (lo + i)) σ H fun σ2 H2 => tb ⟨I (i + 1), rt, nx, I (i + 1)⟩ σ2 H2) (hd : ∀ σ H, I n σ H → nx σ H) : ForOk (Itr lo n) g tb nx rt σ H :=
  for_range (D := ⟨nx, rt, fun _ _ => False, fun _ _ => False⟩) I h0 hs hd
theorem forR0 (I : Nat → L2.St → Hp → Prop) (h0 : I 0 σ H) (hs : ∀ (i : Nat) σ H, i < n → I i σ H → g (.int (i : Int)) σ H fun σ2 H2 => tb ⟨I (i + 1), rt, nx, I (i + 1)⟩ σ2 H2) (hd : ∀ σ H, I n σ H → nx σ H) : ForOk (Itr 0 n) g tb nx rt σ H :=
  forR I h0 (fun i σ H hi q => by
    rw [Int.zero_add]
    exact hs i σ H hi q) hd
theorem w_while (I : Nat → L2.St → Hp → Prop) (m0 : Nat) (h0 : I m0 σ H) (hs : ∀ m σ H, I m σ H → c σ H fun b H1 => if b = true then ∃ N : L2.St → Hp → Prop, (∀ σ' H', N σ' H' → ∃ m', m' < m ∧ I m' σ' H') ∧ tb ⟨N, rt, nx, N⟩ σ H1 else nx σ H1) :
    tWhile c tb ⟨nx, rt, bk, ct⟩ σ H := ⟨I, ⟨m0, h0⟩, hs⟩
theorem w_N {P : (L2.St → Hp → Prop) → Prop} {J : L2.St → Hp → Prop} (h : P J) : ∃ N : L2.St → Hp → Prop, (∀ σ' H', N σ' H' → J σ' H') ∧ P N := ⟨J, fun _ _ h => h, h⟩
def GoAny (K : PySem.W.Frag) (R : It → Hp → Prop) (x : V) (H1 : Hp) : Prop := (∃ a, x = .ref a ∧ ((∃ xs, SqL K H1 a xs) ∧ R (Itl K a) H1 ∨ (∃ xs, SqT K H1 a xs) ∧ R (Itt K a) H1)) ∨ ∃ s, x = .str s ∧ R (Its s) H1
def iAny (K : PySem.W.Frag) (te : TE) : TI := fun σ H R => te σ H fun x H1 => GoAny K R x H1
theorem w_iany {R : It → Hp → Prop} (h : te σ H fun x H1 => GoAny K R x H1) : iAny K te σ H R := h
theorem w_goL {R : It → Hp → Prop} {a : Addr} {xs : List V} (h : SqL K H a xs) (q : R (Itl K a) H) : GoAny K R (.ref a) H := .inl ⟨a, rfl, .inl ⟨⟨xs, h⟩, q⟩⟩
theorem w_goT {R : It → Hp → Prop} {a : Addr} {xs : List V} (h : SqT K H a xs) (q : R (Itt K a) H) : GoAny K R (.ref a) H := .inl ⟨a, rfl, .inr ⟨⟨xs, h⟩, q⟩⟩
theorem w_goS {R : It → Hp → Prop} {z : Str} (q : R (Its z) H) : GoAny K R (.str z) H := .inr ⟨z, rfl, q⟩
theorem pi_any {X : Cx} {tg l : Expr} {tl : TE} (hl : PE X l tl) : PI X tg l (iAny X.K tl) := ⟨fun pins s σ H R I h => thn (hl.run pins s σ H _ I h) fun v s1 z => by
  obtain ⟨x, H1, J, rx, z⟩ := z
  have fp : ∀ b ∈ [s1.heap.objs.size], FpOk X pins H1 b := fun b hb => by
    rw [List.mem_singleton.mp hb]
    exact J.fpOk (Nat.le_refl _) (J.hok.fresh (Nat.le_refl _))
  rcases z with ⟨a, rfl, z⟩ | ⟨z, rfl, q⟩
  · obtain rfl : v = Value.ref a := rx
    rcases z with ⟨⟨xs, hs⟩, q⟩ | ⟨⟨xs, hs⟩, q⟩
    · obtain ⟨_, _, pl, _⟩ := J.list hs
      exact wpAny_pyIter_list pl.isList
        ⟨_, _, _, _, H1, rfl, J.kept (t' := s1.toks) (fun _ _ e => Heap.get?_push_of_some _ e), turn_list a _, ⟨_, Heap.get?_push_size _ rfl, rfl, rfl⟩, fp, q⟩
    · obtain ⟨_, _, pl, _⟩ := J.tuple hs
      exact wpAny_pyIter_tuple pl
        ⟨_, _, _, _, H1, rfl, J.kept (t' := s1.toks) (fun _ _ e => Heap.get?_push_of_some _ e), turn_tuple a _, ⟨_, Heap.get?_push_size _ rfl, rfl, rfl⟩, fp, q⟩
  · obtain ⟨t, rfl⟩ := rx
    cases ha : z.cps.all (· < 128) with
    | false => exact wpAny_pyIter_wide ha (pi_one (tk := s1.toks) J _ (turn_str _ z t "str_iterator" (.inr rfl)) ⟨_, Heap.get?_push_size _ rfl, rfl, rfl⟩ q)
    | true => exact wpAny_pyIter_ascii ha (pi_one (tk := s1.toks) J _ (turn_str _ z t "str_ascii_iterator" (.inl rfl)) ⟨_, Heap.get?_push_size _ rfl, rfl, rfl⟩ q)⟩
theorem forL {a : Addr} {xs : List V} (I : Nat → L2.St → Hp → Prop) (h0 : I 0 σ H) (hl : ∀ i σ H, i ≤ xs.length → I i σ H → SqL K H a xs)
    (hs : ∀ i x σ H, xs[i]? = some x → I i σ H → g x σ H fun σ2 H2 => tb ⟨I (i + 1), rt, nx, I (i + 1)⟩ σ2 H2) (hd : ∀ σ H, I xs.length σ H → nx σ H) : ForOk (Itl K a) g tb nx rt σ H :=
  for_list (D := ⟨nx, rt, fun _ _ => False, fun _ _ => False⟩) I h0 hl hs hd
theorem forT {a : Addr} {xs : List V} (I : Nat → L2.St → Hp → Prop) (h0 : I 0 σ H) (hl : ∀ i σ H, i ≤ xs.length → I i σ H → SqT K H a xs)
    (hs : ∀ i x σ H, xs[i]? = some x → I i σ H → g x σ H fun σ2 H2 => tb ⟨I (i + 1), rt, nx, I (i + 1)⟩ σ2 H2) (hd : ∀ σ H, I xs.length σ H → nx σ H) : ForOk (Itt K a) g tb nx rt σ H :=
  for_tup (D := ⟨nx, rt, fun _ _ => False, fun _ _ => False⟩) I h0 hl hs hd
end
/-! ### types, lengths, items -/
def tyD : PyData → String
  | .none => "NoneType"
  | .bool _ => "bool"
  | .int _ => "int"
  | .str _ => "str"
  | .list _ => "list"
  | .tuple _ => "tuple"
  | .dict _ => "dict"
theorem ty_of {K : PySem.W.Frag} {H : Hp} {v : V} {d : PyData} (h : Dp K H v d) : TyX K H v (.type (tyD d)) := by
  cases h with
  | non => exact .base .non
  | bl b => exact .base (.bl b)
  | int i => exact .base (.int i)
  | str x => exact .base (.str x)
  | lst h r =>
    rcases h with (h | ⟨o, h⟩) | ⟨o, its, n, h, c, _⟩
    · exact .base (.lst h)
    · exact .base (.frz h)
    · exact .kList h c
  | tup h r =>
    rcases h with (h | ⟨o, h⟩) | ⟨o, its, n, h, c, _⟩
    · exact .base (.tup h)
    · exact .fTuple h
    · exact .kTuple h c
def isIntD : PyData → Bool
  | .int _ => true
  | _ => false
def isIntB : PyData → Bool
  | .int _ => true
  | .bool _ => true
  | _ => false
def isBoolD : PyData → Bool
  | .bool _ => true
  | _ => false
def isStrD : PyData → Bool
  | .str _ => true
  | _ => false
def isTupD : PyData → Bool
  | .tuple _ => true
  | _ => false
def isListD : PyData → Bool
  | .list _ => true
  | _ => false
section
variable {K : PySem.W.Frag} {H : Hp} {Q : VK} {v : V} {d : PyData}
theorem w_isi {b : String} {r : Bool} (h : Dp K H v d) (hk : kitB (tyD d) b = some r) (q : Q (.bl r) H) : rIsi K [v, .ty b] H Q := ⟨v, .ty b, _, _, r, rfl, .ty b, ty_of h, kit_ty hk, q⟩
theorem w_isint (h : Dp K H v d) (hd : tyD d ≠ "dict") (q : Q (.bl (isIntB d)) H) : rIsi K [v, .ty "int"] H Q := w_isi h (by cases d <;> first | exact (hd rfl).elim | (simp only [tyD, isIntB]; decide +kernel)) q
theorem w_isbool (h : Dp K H v d) (hd : tyD d ≠ "dict") (q : Q (.bl (isBoolD d)) H) : rIsi K [v, .ty "bool"] H Q := w_isi h (by cases d <;> first | exact (hd rfl).elim | (simp only [tyD, isBoolD]; decide +kernel)) q
theorem w_isstr (h : Dp K H v d) (hd : tyD d ≠ "dict") (q : Q (.bl (isStrD d)) H) : rIsi K [v, .ty "str"] H Q := w_isi h (by cases d <;> first | exact (hd rfl).elim | (simp only [tyD, isStrD]; decide +kernel)) q
theorem w_istup (h : Dp K H v d) (hd : tyD d ≠ "dict") (q : Q (.bl (isTupD d)) H) : rIsi K [v, .ty "tuple"] H Q := w_isi h (by cases d <;> first | exact (hd rfl).elim | (simp only [tyD, isTupD]; decide +kernel)) q
theorem dp_nodict (h : Dp K H v d) : tyD d ≠ "dict" := by
  cases h <;> (intro z; simp [tyD] at z)
theorem w_isint' (h : Dp K H v d) (q : Q (.bl (isIntB d)) H) : rIsi K [v, .ty "int"] H Q := w_isint h (dp_nodict h) q
theorem w_isbool' (h : Dp K H v d) (q : Q (.bl (isBoolD d)) H) : rIsi K [v, .ty "bool"] H Q := w_isbool h (dp_nodict h) q
theorem w_isstr' (h : Dp K H v d) (q : Q (.bl (isStrD d)) H) : rIsi K [v, .ty "str"] H Q := w_isstr h (dp_nodict h) q
theorem w_istup' (h : Dp K H v d) (q : Q (.bl (isTupD d)) H) : rIsi K [v, .ty "tuple"] H Q := w_istup h (dp_nodict h) q
abbrev rLenU (K : PySem.W.Frag) : List V → Hp → VK → Prop := fun xs H Q => ∃ x n, xs = [x] ∧ LenV K x H n ∧ Q (.int n) H
theorem u_len {X : Cx} : CallR X (.builtin "len") (rLenU X.K) := call_len
theorem w_lenL {a : Addr} {xs : List V} (h : SqL K H a xs) (q : Q (.int xs.length) H) : rLenU K [.ref a] H Q := ⟨_, _, rfl, .inl ⟨xs, h, rfl⟩, q⟩
theorem w_lenT {a : Addr} {xs : List V} (h : SqT K H a xs) (q : Q (.int xs.length) H) : rLenU K [.ref a] H Q := ⟨_, _, rfl, .inr ⟨xs, h, rfl⟩, q⟩
theorem w_lenS {z : Str} (h : z.length ≤ sizeLine) (q : Q (.int z.length) H) : rLenU K [.str z] H Q := ⟨_, _, rfl, ⟨h, rfl⟩, q⟩
theorem w_lenDL {ds : List PyData} (h : Dp K H v (.list ds)) (q : Q (.int ds.length) H) : rLenU K [v] H Q := by
  cases h with
  | lst h r => exact w_lenL h (by rw [dps_len r]; exact q)
theorem w_lenDT {ds : List PyData} (h : Dp K H v (.tuple ds)) (q : Q (.int ds.length) H) : rLenU K [v] H Q := by
  cases h with
  | tup h r => exact w_lenT h (by rw [dps_len r]; exact q)
abbrev rIxU (K : PySem.W.Frag) : R2 := rIx K
theorem u_ix {X : Cx} : IxR X (rIxU X.K) := ix_seq
theorem w_ixl {a : Addr} {xs : List V} {i : Int} {x : V} (h : SqL K H a xs) (e : atI xs i = some x) (q : Q x H) : rIxU K (.ref a) (.int i) H Q := .inl ⟨a, xs, i, x, rfl, rfl, h, e, q⟩
theorem w_ixt {a : Addr} {xs : List V} {i : Int} {x : V} (h : SqT K H a xs) (e : atI xs i = some x) (q : Q x H) : rIxU K (.ref a) (.int i) H Q := .inr (.inl ⟨a, xs, i, x, rfl, rfl, h, e, q⟩)
theorem w_ixP {a : Addr} {xs : List V} {i : Int} (P : V → Prop) (h : SqL K H a xs) (h0 : 0 ≤ i) (h1 : i < xs.length) (hx : ∀ x ∈ xs, P x) (q : ∀ x, P x → Q x H) : rIxU K (.ref a) (.int i) H Q := by
  have hn : i.toNat < xs.length := by omega
  refine w_ixl h (x := xs[i.toNat]) ?_ (q _ (hx _ (List.getElem_mem hn)))
  unfold atI ixN
  rw [if_pos h0, if_pos (by omega)]
  simp [List.getElem?_eq_getElem hn]
def isI (P : Int → Prop) (x : V) : Prop := ∃ n, x = .int n ∧ P n
theorem w_ixI {a : Addr} {xs : List V} {i : Int} (P : Int → Prop) (h : SqL K H a xs) (h0 : 0 ≤ i) (h1 : i < xs.length) (hx : ∀ x ∈ xs, isI P x) (q : ∀ n, P n → Q (.int n) H) : rIxU K (.ref a) (.int i) H Q :=
  w_ixP (isI P) h h0 h1 hx fun x ⟨n, e, hn⟩ => by
    rw [e]
    exact q n hn
theorem isI_at {P : Int → Prop} {xs : List V} {i : Nat} {x : V} (h : ∀ x ∈ xs, isI P x) (e : xs[i]? = some x) : ∃ n, x = .int n ∧ P n := h x (List.mem_of_getElem? e)
theorem isI_nil {P : Int → Prop} : ∀ x ∈ ([] : List V), isI P x := fun x hx => nomatch hx
theorem isI_cons {P : Int → Prop} {n : Int} {r : List V} (h : P n) (hr : ∀ x ∈ r, isI P x) : ∀ x ∈ V.int n :: r, isI P x := fun x hx => by
  rcases List.mem_cons.mp hx with rfl | hx
  · exact ⟨n, rfl, h⟩
  · exact hr x hx
theorem w_ixs {z : Str} {i : Int} {c : Nat} (h : z.length ≤ sizeLine) (e : atI z.cps.toList i = some c) (q : Q (.str ⟨#[c]⟩) H) : rIxU K (.str z) (.int i) H Q := .inr (.inr ⟨z, i, c, rfl, rfl, h, e, q⟩)
theorem w_ixDL {ds : List PyData} {i : Int} (h : Dp K H v (.list ds)) (e : atI ds i = some d) (q : ∀ x, Dp K H x d → Q x H) : rIxU K v (.int i) H Q := by
  cases h with
  | lst h r =>
    obtain ⟨x, e1, e2⟩ := dps_at r e
    exact w_ixl h e1 (q x e2)
theorem w_ixDT {ds : List PyData} {i : Int} (h : Dp K H v (.tuple ds)) (e : atI ds i = some d) (q : ∀ x, Dp K H x d → Q x H) : rIxU K v (.int i) H Q := by
  cases h with
  | tup h r =>
    obtain ⟨x, e1, e2⟩ := dps_at r e
    exact w_ixt h e1 (q x e2)
theorem dp_int {i : Int} (h : Dp K H v (.int i)) : v = .int i := by cases h; rfl
theorem dp_str {x : Str} (h : Dp K H v (.str x)) : v = .str x := by cases h; rfl
theorem dp_bl {b : Bool} (h : Dp K H v (.bool b)) : v = .bl b := by cases h; rfl
theorem dp_non (h : Dp K H v .none) : v = .non := by cases h; rfl
theorem w_ixDLi {ds : List PyData} {i n : Int} (h : Dp K H v (.list ds)) (e : atI ds i = some (.int n)) (q : Q (.int n) H) : rIxU K v (.int i) H Q := w_ixDL h e fun x hx => by
  rw [dp_int hx]
  exact q
theorem w_ixDTi {ds : List PyData} {i n : Int} (h : Dp K H v (.tuple ds)) (e : atI ds i = some (.int n)) (q : Q (.int n) H) : rIxU K v (.int i) H Q := w_ixDT h e fun x hx => by
  rw [dp_int hx]
  exact q
theorem atI_of {α : Type} {xs : List α} {i : Int} (h0 : 0 ≤ i) (h1 : i < xs.length) : ∃ x, atI xs i = some x ∧ x ∈ xs := by
  have hn : i.toNat < xs.length := by omega
  refine ⟨xs[i.toNat], ?_, List.getElem_mem hn⟩
  unfold atI ixN
  rw [if_pos h0, if_pos (by omega)]
  simp [List.getElem?_eq_getElem hn]
end
def rSetU : TSet := fun o i v H Q => rSetL o i v H Q ∨ rSetD o i v H Q
theorem u_set {X : Cx} (hu : X.A.units + 64 < cLine) : PSet X rSetU := by
  intro pins s σ H o i v ov iv u Q I r1 r2 r3 q
  rcases q with q | q
  · exact set_list pins s σ H o i v ov iv u Q I r1 r2 r3 q
  · exact set_dict (Nat.lt_of_le_of_lt (Nat.add_le_add_left (by decide) _) hu) pins s σ H o i v ov iv u Q I r1 r2 r3 q
theorem w_gsub {to ti : TE} {t : TSet} {v : V} {σ : L2.St} {H : Hp} {k : L2.St → Hp → Prop} (h : to σ H fun o H1 => ti σ H1 fun i H2 => t o i v H2 fun H3 => k σ H3) : gSub to ti t v σ H k := h
theorem w_gnil {σ : L2.St} {H : Hp} {k : L2.St → Hp → Prop} (h : k σ H) : gNil [] σ H k := ⟨rfl, h⟩
theorem w_gcons {t : TG} {u : TGs} {v : V} {r : List V} {σ : L2.St} {H : Hp} {k : L2.St → Hp → Prop} (h : t v σ H fun σ' H' => u r σ' H' k) : gCons t u (v :: r) σ H k := ⟨v, r, rfl, h⟩
theorem w_gtup {K : PySem.W.Frag} {n : Nat} {t : TGs} {a : Addr} {xs : List V} {σ : L2.St} {H : Hp} {k : L2.St → Hp → Prop} (h : SqT K H a xs) (hl : xs.length = n) (q : t xs σ H k) : gTup K n t (.ref a) σ H k := ⟨a, xs, rfl, h, hl, q⟩
theorem w_setl {a : Addr} {xs : List V} {i : Int} {j : Nat} {v : V} {H : Hp} {k : Hp → Prop} (h : H a = some (.lst xs)) (e : ixN xs.length i = some j) (q : k (upd H a (.lst (xs.set j v)))) : rSetU (.ref a) (.int i) v H k := .inl ⟨a, xs, i, j, rfl, rfl, h, e, q⟩
/-! ### comprehensions -/
section
variable {K : PySem.W.Frag} {σ : L2.St} {H : Hp} {Q : VK} {te : TE} {tt : TT} {g : TG} {wi : TI} {vs : List Nat} {n : Nat}
def LcOk (J : It) (g : TG) (tt : TT) (te : TE) (vs : List Nat) (σ : L2.St) (Q : VK) (H1 : Hp) : Prop := ∀ D, H1 D = none → ∃ W : Nat → Nat → Hp → Prop, (∃ m, W 0 m (upd H1 D (.lst []))) ∧ ∀ i m H, W i m H →
  (J.stop i H ∧ Q (.ref D) H) ∨ (J.go i H ∧ ∃ Nx : Hp → Prop, (∀ H', Nx H' → ∃ m', m' < m ∧ W (i + 1) m' H') ∧ ∀ x H', J.yld i H x H' → g x (wipe σ vs) H' fun σ2 H2 => wipe σ2 vs = wipe σ vs ∧ tt σ2 H2 fun b H3 =>
    if b = true then te σ2 H3 fun y H4 => ∃ acc, H4 D = some (.lst acc) ∧ acc.length < sizeLine ∧ Nx (upd H4 D (.lst (acc ++ [y]))) else Nx H3)
theorem w_lc (h : wi σ H fun J H1 => LcOk J g tt te vs σ Q H1) : tLc wi g tt te vs σ H Q := h
theorem w_wp {σ2 : L2.St} {R : Prop} (e : wipe σ2 vs = wipe σ vs) (h : R) : wipe σ2 vs = wipe σ vs ∧ R := ⟨e, h⟩
theorem w_yes {R : Bool → Hp → Prop} (h : R true H) : tYes σ H R := h
/-- a word about a comprehension's list and the heap is not hurt by a list's change -/
def Stb (I : Nat → List V → Hp → Prop) : Prop := ∀ i acc H' D xs ys, H' D = some (.lst xs) → I i acc H' → I i acc (upd H' D (.lst ys))
theorem lc_gen {J : It} (I : Nat → List V → Hp → Prop) (hst : Stb I) (hn : n ≤ 1000000) (hI : ∀ i acc H', I i acc H' → acc.length ≤ i) (h0 : ∀ H', Same H H' → I 0 [] H')
    (hgo : ∀ i acc H', i < n → Same H H' → I i acc H' → J.go i H') (hstop : ∀ acc H', Same H H' → I n acc H' → J.stop n H')
    (hs : ∀ i acc x H' H'', i < n → Same H H' → I i acc H' → J.yld i H' x H'' → ∀ (k : VK) (k' : Hp → Prop), (∀ y H4, Same H' H4 → I (i + 1) (acc ++ [y]) H4 → k y H4) → (∀ H3, Same H' H3 → I (i + 1) acc H3 → k' H3) →
      g x (wipe σ vs) H'' fun σ2 H2 => wipe σ2 vs = wipe σ vs ∧ tt σ2 H2 fun b H3 => if b = true then te σ2 H3 k else k' H3)
    (hd : ∀ D acc H', H D = none → Same H H' → H' D = some (.lst acc) → I n acc H' → Q (.ref D) H') : LcOk J g tt te vs σ Q H := fun D hD => by
  refine ⟨fun i m H' => m = n - i ∧ i ≤ n ∧ ∃ acc, Same H H' ∧ H' D = some (.lst acc) ∧ I i acc H', ⟨n, by omega, by omega, [], same_new hD, upd_same, h0 _ (same_new hD)⟩, fun i m H1 ⟨em, hi, acc, s1, hD1, w1⟩ => ?_⟩
  by_cases hlt : i < n
  · refine .inr ⟨hgo i acc H1 hlt s1 w1, fun H' => i + 1 ≤ n ∧ ∃ acc, Same H H' ∧ H' D = some (.lst acc) ∧ I (i + 1) acc H', fun H' ⟨a, b⟩ => ⟨n - (i + 1), by omega, rfl, a, b⟩, fun x H' y => ?_⟩
    refine hs i acc x H1 H' hlt s1 w1 y _ _ (fun y H4 s4 w4 => ⟨acc, s4 _ _ hD1, ?_, hlt, _, same_mut (s1.trans s4) hD, upd_same, hst _ _ _ _ _ _ (s4 _ _ hD1) w4⟩) fun H3 s3 w3 => ⟨hlt, acc, s1.trans s3, s3 _ _ hD1, w3⟩
    have l1 := hI i acc H1 w1
    exact Nat.lt_of_le_of_lt (m := 1000000) (by omega) (by decide)
  · have e : i = n := by omega
    subst e
    exact .inl ⟨hstop acc H1 s1 w1, hd D acc H1 hD s1 hD1 w1⟩
theorem lcR (I : Nat → List V → Hp → Prop) (hst : Stb I) (hn : n ≤ 1000000) (hI : ∀ i acc H', I i acc H' → acc.length ≤ i) (h0 : ∀ H', Same H H' → I 0 [] H')
    (hs : ∀ (i : Nat) acc H', i < n → Same H H' → I i acc H' → ∀ (k : VK) (k' : Hp → Prop), (∀ y H4, Same H' H4 → I (i + 1) (acc ++ [y]) H4 → k y H4) → (∀ H3, Same H' H3 → I (i + 1) acc H3 → k' H3) →
      g (.int (i : Int)) (wipe σ vs) H' fun σ2 H2 => wipe σ2 vs = wipe σ vs ∧ tt σ2 H2 fun b H3 => if b = true then te σ2 H3 k else k' H3)
    (hd : ∀ D acc H', H D = none → Same H H' → H' D = some (.lst acc) → I n acc H' → Q (.ref D) H') : LcOk (Itr 0 n) g tt te vs σ Q H :=
  lc_gen I hst hn hI h0 (fun _ _ _ h _ _ => h) (fun _ _ _ _ => Nat.le_refl _) (fun i acc x H' H'' hi s1 w1 y => by
    obtain ⟨e1, e2⟩ := y
    rw [Int.zero_add] at e2
    subst e1
    subst e2
    exact hs i acc _ hi s1 w1) hd
theorem lcL {a : Addr} {xs : List V} (hx : SqL K H a xs) (I : Nat → List V → Hp → Prop) (hst : Stb I) (hn : xs.length ≤ 1000000) (hI : ∀ i acc H', I i acc H' → acc.length ≤ i) (h0 : ∀ H', Same H H' → I 0 [] H')
    (hs : ∀ i x acc H', xs[i]? = some x → Same H H' → I i acc H' → ∀ (k : VK) (k' : Hp → Prop), (∀ y H4, Same H' H4 → I (i + 1) (acc ++ [y]) H4 → k y H4) → (∀ H3, Same H' H3 → I (i + 1) acc H3 → k' H3) →
      g x (wipe σ vs) H' fun σ2 H2 => wipe σ2 vs = wipe σ vs ∧ tt σ2 H2 fun b H3 => if b = true then te σ2 H3 k else k' H3)
    (hd : ∀ D acc H', H D = none → Same H H' → H' D = some (.lst acc) → I xs.length acc H' → Q (.ref D) H') : LcOk (Itl K a) g tt te vs σ Q H :=
  lc_gen I hst hn hI h0 (fun i acc H' hi s1 _ => ⟨xs, xs[i], s1.seq hx, List.getElem?_eq_getElem hi⟩) (fun _ _ s1 _ => ⟨xs, s1.seq hx, Nat.le_refl _⟩) (fun i acc x H' H'' hi s1 w1 y => by
    obtain ⟨e1, e2⟩ := y
    subst e1
    exact hs i x acc _ (e2 xs (s1.seq hx)) s1 w1) hd
theorem lcT {a : Addr} {xs : List V} (hx : SqT K H a xs) (I : Nat → List V → Hp → Prop) (hst : Stb I) (hn : xs.length ≤ 1000000) (hI : ∀ i acc H', I i acc H' → acc.length ≤ i) (h0 : ∀ H', Same H H' → I 0 [] H')
    (hs : ∀ i x acc H', xs[i]? = some x → Same H H' → I i acc H' → ∀ (k : VK) (k' : Hp → Prop), (∀ y H4, Same H' H4 → I (i + 1) (acc ++ [y]) H4 → k y H4) → (∀ H3, Same H' H3 → I (i + 1) acc H3 → k' H3) →
      g x (wipe σ vs) H' fun σ2 H2 => wipe σ2 vs = wipe σ vs ∧ tt σ2 H2 fun b H3 => if b = true then te σ2 H3 k else k' H3)
    (hd : ∀ D acc H', H D = none → Same H H' → H' D = some (.lst acc) → I xs.length acc H' → Q (.ref D) H') : LcOk (Itt K a) g tt te vs σ Q H :=
  lc_gen I hst hn hI h0 (fun i acc H' hi s1 _ => ⟨xs, xs[i], same_t s1 hx, List.getElem?_eq_getElem hi⟩) (fun _ _ s1 _ => ⟨xs, same_t s1 hx, Nat.le_refl _⟩) (fun i acc x H' H'' hi s1 w1 y => by
    obtain ⟨e1, e2⟩ := y
    subst e1
    exact hs i x acc _ (e2 xs (same_t s1 hx)) s1 w1) hd
/-- words that do not speak of the heap -/
theorem stb_pure {P : Nat → List V → Prop} : Stb fun i acc _ => P i acc := fun _ _ _ _ _ _ _ h => h
abbrev rTupleOf (K : PySem.W.Frag) : List V → Hp → VK → Prop := fun xs H Q => ∃ p ys, xs = [.ref p] ∧ ((SqL K H p ys ∧ ∀ l, H l = none → Q (.ref l) (upd H l (.tup ys))) ∨ (SqT K H p ys ∧ Q (.ref p) H))
abbrev rListOf (K : PySem.W.Frag) : List V → Hp → VK → Prop := fun xs H Q => ∃ p ys, xs = [.ref p] ∧ (SqL K H p ys ∨ SqT K H p ys) ∧ ∀ l, H l = none → Q (.ref l) (upd H l (.lst ys))
theorem w_tupleL {a : Addr} {xs : List V} (h : SqL K H a xs) (q : ∀ p H', H p = none → Same H H' → H' p = some (.tup xs) → Q (.ref p) H') : rTupleOf K [.ref a] H Q := ⟨a, xs, rfl, .inl ⟨h, fun p hp => q p _ hp (same_new hp) upd_same⟩⟩
theorem w_listL {a : Addr} {xs : List V} (h : SqL K H a xs) (q : ∀ p H', H p = none → Same H H' → H' p = some (.lst xs) → Q (.ref p) H') : rListOf K [.ref a] H Q := ⟨a, xs, rfl, .inl h, fun p hp => q p _ hp (same_new hp) upd_same⟩
theorem w_listT {a : Addr} {xs : List V} (h : SqT K H a xs) (q : ∀ p H', H p = none → Same H H' → H' p = some (.lst xs) → Q (.ref p) H') : rListOf K [.ref a] H Q := ⟨a, xs, rfl, .inr h, fun p hp => q p _ hp (same_new hp) upd_same⟩
theorem w_all {a : Addr} {bs : List Bool} (h : SqL K H a (bs.map V.bl)) (q : Q (.bl (bs.all id)) H) : rAll K [.ref a] H Q := ⟨a, bs, rfl, h, q⟩
theorem w_any {a : Addr} {bs : List Bool} (h : SqL K H a (bs.map V.bl)) (q : Q (.bl (bs.any id)) H) : rAny K [.ref a] H Q := ⟨a, bs, rfl, h, q⟩
/-- ints of a list of values -/
theorem ints_of {P : Int → Prop} : ∀ {xs : List V}, (∀ x ∈ xs, isI P x) → ∃ ns : List Int, xs = ns.map V.int ∧ ∀ n ∈ ns, P n
  | [], _ => ⟨[], rfl, fun _ h => nomatch h⟩
  | x :: r, h => by
    obtain ⟨ns, e, hn⟩ := ints_of (xs := r) fun y hy => h y (List.mem_cons_of_mem _ hy)
    obtain ⟨n, rfl, h1⟩ := h x List.mem_cons_self
    refine ⟨n :: ns, by rw [e]; rfl, fun m hm => ?_⟩
    rcases List.mem_cons.mp hm with rfl | hm
    · exact h1
    · exact hn m hm
theorem isI_app {P : Int → Prop} {xs : List V} {n : Int} (h : ∀ x ∈ xs, isI P x) (hn : P n) : ∀ x ∈ xs ++ [V.int n], isI P x := fun x hx => by
  rcases List.mem_append.mp hx with hx | hx
  · exact h x hx
  · rw [List.mem_singleton.mp hx]
    exact ⟨n, rfl, hn⟩
end
/-! ### the pot -/
def PotU : HO → Prop := fun u => ∃ g s : Int, u = .lst [.int g, .int s] ∧ 0 ≤ g ∧ 0 ≤ s ∧ s < 2305843009213693951
theorem pot_flat : ∀ u, PotU u → flatO u := fun u ⟨_, _, e, _⟩ => by
  rw [e]
  trivial
def PotAt (W : Wd) (H : Hp) (v : V) : Prop := ∃ p, v = .ref p ∧ H p = some (vw W PotU p)
theorem pot_mono {W : Wd} {H H' : Hp} {v : V} (e : Same H H') (h : PotAt W H v) : PotAt W H' v := by
  obtain ⟨p, rfl, h⟩ := h
  exact ⟨p, rfl, e _ _ h⟩
/-! ### const operations -/
def rCon (a b c : Int) : R2 := fun x y H Q => x = .int a ∧ y = .int b ∧ Q (.int c) H
theorem u_powc {X : Cx} {a b c : Int} (hc : CPow a b) (h : a ^ b.toNat = c) : OpR X (binaryOp .Pow) (rCon a b c) := by
  intro pins s σ H x y v u Q I rx ry q
  obtain ⟨rfl, rfl, q⟩ := q
  exact op_pow pins s σ H _ _ v u Q I rx ry ⟨a, b, rfl, rfl, hc, by show Q (V.int (a ^ b.toNat)) H; rw [h]; exact q⟩
theorem u_shlc {X : Cx} {a b c : Int} (hc : CPow a b) (h : a * 2 ^ b.toNat = c) : OpR X (binaryOp .LShift) (rCon a b c) := by
  intro pins s σ H x y v u Q I rx ry q
  obtain ⟨rfl, rfl, q⟩ := q
  exact op_shl pins s σ H _ _ v u Q I rx ry ⟨a, b, rfl, rfl, hc, by show Q (V.int (a * 2 ^ b.toNat)) H; rw [h]; exact q⟩
theorem w_con {H : Hp} {Q : VK} {a b c : Int} (h : Q (.int c) H) : rCon a b c (.int a) (.int b) H Q := ⟨rfl, rfl, h⟩
/-- int('1' + '0' * 300) -/
def farN : Int := 10 ^ 300
theorem far_rep : ∀ (n : Nat) (acc : Array Nat), ((List.replicate n (#[48] : Array Nat)).foldl (· ++ ·) acc).toList = acc.toList ++ List.replicate n 48
  | 0, acc => by simp
  | n + 1, acc => by
    rw [List.replicate_succ, List.foldl_cons, far_rep n, Array.toList_append, List.replicate_succ]
    simp
theorem far_a : (("1" : Str) ++ Txt.mul ("0" : Str) 300).cps.toList = 49 :: List.replicate 300 48 := by
  have e : Txt.mul ("0" : Str) 300 = ⟨(List.replicate 300 (#[48] : Array Nat)).foldl (· ++ ·) #[]⟩ := by
    unfold Txt.mul
    rw [if_neg (by decide), if_neg (by decide +kernel)]
    rfl
  rw [e]
  show (("1" : Str).cps ++ _).toList = _
  rw [Array.toList_append, far_rep]
  rfl
theorem far_val : ∀ (n v : Nat), (List.replicate n 48).foldl (fun acc c => acc * 10 + (c - 48)) v = v * 10 ^ n
  | 0, v => by simp
  | n + 1, v => by
    rw [List.replicate_succ, List.foldl_cons, far_val n, Nat.pow_succ, Nat.mul_comm (10 ^ n) 10, ← Nat.mul_assoc]
    rfl
theorem far_len : (("1" : Str) ++ Txt.mul ("0" : Str) 300).length = 301 := by
  have h : (("1" : Str) ++ Txt.mul ("0" : Str) 300).cps.toList.length = 301 := by
    rw [far_a, List.length_cons, List.length_replicate]
  rw [Array.length_toList] at h
  exact h
theorem far_txt : PySem.intText? (("1" : Str) ++ Txt.mul ("0" : Str) 300) = some farN := by
  have hd : NumText.AllDigits (("1" : Str) ++ Txt.mul ("0" : Str) 300).cps.toList := by
    rw [far_a]
    intro c hc
    rcases List.mem_cons.mp hc with rfl | hc
    · exact ⟨by decide, by decide⟩
    · have e := List.eq_of_mem_replicate hc
      subst e
      exact ⟨by decide, by decide⟩
  rw [PySem.intText_digits hd (by rw [far_a]; simp) (by rw [far_len]; decide), far_a]
  have e : NumText.digitsVal (49 :: List.replicate 300 48) = 1 * 10 ^ 300 := by
    unfold NumText.digitsVal
    rw [List.foldl_cons]
    exact far_val 300 1
  rw [e]
  decide +kernel
theorem far_pos : 0 < farN := by decide +kernel
theorem far_mul : MulOk ("0" : Str) 300 := ⟨by decide +kernel, by decide +kernel, by decide +kernel⟩
theorem far_len2 : (("1" : Str) ++ Txt.mul ("0" : Str) 300).length ≤ 640 := by
  rw [far_len]
  decide
theorem far_sz : ("1" : Str).length + (Txt.mul ("0" : Str) 300).length ≤ sizeLine := by decide +kernel
theorem pe_far {X : Cx} {p p1 p2 p3 p4 pos : Pos} {k1 k2 k3 : Nat} (hg : Gl X "int") (hm : X.mg "int" = none) (hs : starEach [.BinOp (.Constant (.str "1") k1 p1) .Add (.BinOp (.Constant (.str "0") k2 p2) .Mult (.Constant (.int 300) k3 p3) p4) pos] X.env = [(false, eval (.BinOp (.Constant (.str "1") k1 p1) .Add (.BinOp (.Constant (.str "0") k2 p2) .Mult (.Constant (.int 300) k3 p3) p4) pos) X.env)] := by rfl)
    {ps : Pos} : PE X (.Call (.Name "int" p) [.BinOp (.Constant (.str "1") k1 p1) .Add (.BinOp (.Constant (.str "0") k2 p2) .Mult (.Constant (.int 300) k3 p3) p4) pos] [] ps) (tC (.int farN)) := by
  have h : PE X (.Call (.Name "int" p) [.BinOp (.Constant (.str "1") k1 p1) .Add (.BinOp (.Constant (.str "0") k2 p2) .Mult (.Constant (.int 300) k3 p3) p4) pos] [] ps) (tCB _ _) := pe_callTy call_int_str hg hm (by decide +kernel) (pa_cons (pe_op op_add_str pe_str (pe_op op_mulS pe_str pe_int)) pa_nil)
  refine ⟨fun pins s σ H Q I q => h.run pins s σ H Q I ?_⟩
  exact ⟨_, _, rfl, rfl, far_mul, _, _, rfl, rfl, far_sz, _, _, rfl, far_txt, far_len2, q⟩
end Sh
namespace Sh
open PySem PySem.Spec PyProof.Rows L2
local macro_rules | `(tactic| walk_at "Zkt") => `(tactic| first | assumption | exact Same.refl _ | ((refine' Same.trans ?a ?b); (case b => assumption); walk_at "Zkt"))
local macro_rules | `(tactic| walk_at "Znum") => `(tactic| first | omega | decide +kernel | assumption | exact p2_pos _)
local macro_rules | `(tactic| walk_at "Zcmul") => `(tactic| first | exact .inr ⟨by decide, by decide⟩ | exact .inl ⟨by decide, by decide⟩ | exact .inl ⟨by omega, by omega⟩ | exact .inr ⟨by omega, by omega⟩)
local macro_rules | `(tactic| walk_at "Zs1") => `(tactic| first
  | with_reducible refine' w_seq ?_
  | with_reducible refine' w_asg ?_
  | ((with_reducible refine' w_var ?vv ?_); (case vv => exact rfl))
  | with_reducible refine' w_c ?_
  | with_reducible refine' w_gname ?_
  | with_reducible refine' w_op ?_
  | with_reducible refine' w_cons ?_
  | with_reducible refine' w_nil ?_
  | with_reducible refine' w_call ?_
  | with_reducible refine' w_cb ?_
  | with_reducible refine' w_test ?_
  | with_reducible refine' w_tB ?_
  | with_reducible refine' w_bl ?_
  | with_reducible refine' w_ifs ?_
  | with_reducible refine' w_ret ?_
  | with_reducible refine' w_not ?_
  | with_reducible refine' w_and ?_
  | with_reducible refine' w_or ?_
  | with_reducible refine' w_ife ?_
  | with_reducible refine' w_andv ?_
  | with_reducible refine' w_orv ?_
  | with_reducible refine' w_notv ?_
  | with_reducible refine' w_chain ?_
  | with_reducible refine' w_tup ?_
  | with_reducible refine' w_lst ?_
  | with_reducible refine' w_un ?_
  | with_reducible refine' w_rU ?_
  | with_reducible refine' w_drop ?_
  | with_reducible refine' w_par ?_
  | with_reducible refine' w_two ?_
  | with_reducible refine' w_next ?_
  | with_reducible refine' w_retn ?_
  | ((with_reducible refine' w_aug ?vv ?_); (case vv => exact rfl))
  | with_reducible refine' w_nn ?_)
local macro_rules | `(tactic| walk_at "Zs2") => `(tactic| first
  | with_reducible refine' w_add ?_
  | with_reducible refine' w_sub ?_
  | with_reducible refine' w_con ?_
  | with_reducible refine' w_lt ?_
  | with_reducible refine' w_le ?_
  | with_reducible refine' w_gt ?_
  | with_reducible refine' w_ge ?_
  | with_reducible refine' w_eqi ?_
  | with_reducible refine' w_nei ?_
  | with_reducible refine' w_eqs ?_
  | with_reducible refine' w_nes ?_
  | with_reducible refine' w_min2 ?_
  | with_reducible refine' w_max2 ?_
  | with_reducible refine' w_abs ?_
  | with_reducible refine' w_ipadd ?_
  | ((with_reducible refine' w_mod ?a ?_); (case a => walk_at "Znum"))
  | ((with_reducible refine' w_mul ?a ?_); (case a => walk_at "Zcmul"))
  | ((with_reducible refine' w_div1 ?a ?b ?_); (case a => walk_at "Znum"); (case b => walk_at "Znum"))
  | ((with_reducible refine' w_shl1 ?a ?b ?_); (case a => walk_at "Znum"); (case b => walk_at "Znum"))
  | with_reducible refine' w_intb ?_
  | with_reducible refine' w_inti ?_)
local macro_rules | `(tactic| walk_at "Zs3") => `(tactic| first
  | with_reducible refine' w_for ?_
  | with_reducible refine' w_irng1 ?_
  | with_reducible refine' w_irng2 ?_
  | ((with_reducible refine' w_rg1 ?a ?b ?_); (case a => walk_at "Znum"); (case b => walk_at "Znum"))
  | with_reducible refine' w_iany ?_
  | with_reducible refine' w_N ?_
  | with_reducible refine' w_lc ?_
  | ((with_reducible refine' w_wp ?e ?_); (case e => exact rfl))
  | with_reducible refine' w_yes ?_
  | with_reducible refine' w_gsub ?_
  | ((with_reducible refine' w_new ?l ?_); (case l => (simp only [List.length_cons, List.length_nil]; decide)); intro p H' np e hp)
  | with_reducible refine' w_gnil ?_
  | with_reducible refine' w_gcons ?_)
local macro_rules | `(tactic| walk_at "Zix") => `(tactic| first
  | ((with_reducible refine' w_ixl ?h ?e ?_); (case h => first | assumption | exact SqL.of (by assumption)); (case e => exact rfl))
  | ((with_reducible refine' w_ixt ?h ?e ?_); (case h => first | assumption | exact SqT.of (by assumption)); (case e => exact rfl)))
local macro_rules | `(tactic| walk_at "Zite") => `(tactic| first
  | ((with_reducible refine' w_itet ?h ?_); (case h => first | exact rfl | exact decide_eq_true (by omega)))
  | ((with_reducible refine' w_itef ?h ?_); (case h => first | exact rfl | exact decide_eq_false (by omega))))
local macro_rules | `(tactic| walk_at "Zpot") => `(tactic| first | assumption | ((refine' pot_mono ?e ?h); (case h => assumption); (case e => walk_at "Zkt")))
local macro_rules | `(tactic| walk_at "Zdp") => `(tactic| first | assumption | exact Dp.int _ | exact Dp.str _ | exact Dp.bl _ | exact Dp.non | ((refine' dp_mono ?e ?h); (case h => assumption); (case e => walk_at "Zkt")))
local macro_rules | `(tactic| walk_at "Zsql") => `(tactic| first | assumption | exact SqL.of (by assumption) | ((refine' Same.seq ?e (SqL.of ?h)); (case h => assumption); (case e => walk_at "Zkt")) | ((refine' Same.seq ?e ?h); (case h => assumption); (case e => walk_at "Zkt")))
local macro_rules | `(tactic| walk_at "Zisi") => `(tactic| first | exact isI_nil | ((refine' isI_cons ?a ?b); (case a => first | exact trivial | omega | (dsimp only; omega)); (case b => walk_at "Zisi")))
local macro_rules | `(tactic| walk_at "Zlen") => `(tactic| (simp only [List.length_cons, List.length_nil]; omega))
local macro_rules | `(tactic| tbr_iter $P) => `(tactic| ((refine' w_ixI $P ?h ?h0 ?h1 ?hx ?_); (case h => walk_at "Zsql"); (case h0 => omega); (case h1 => walk_at "Zlen"); (case hx => walk_at "Zisi")))
local macro_rules | `(tactic| walk_at "Zc") => `(tactic| fail "no call")
local macro_rules | `(tactic| walk_at "Zs") => `(tactic| repeat (first | walk_at "Zs1" | walk_at "Zs2" | walk_at "Zs3" | walk_at "Zix" | walk_at "Zite" | walk_at "Zc"))
def topS (i : Nat) : Stmt := PySem.Challenge.pw_shorthead_k06_narrowest.main.body.getD i (.Pass ⟨0, 0, 0, 0⟩)
abbrev s_rest_of : Stmt := topS 1
abbrev s_windowed : Stmt := topS 2
abbrev s_around : Stmt := topS 3
abbrev s_is_told : Stmt := topS 4
abbrev s_narrowest : Stmt := topS 5
abbrev s__law_pot : Stmt := topS 7
abbrev s__law_draw : Stmt := topS 8
abbrev s__law_value : Stmt := topS 9
abbrev s__law_whole : Stmt := topS 10
abbrev s__law_base : Stmt := topS 11
abbrev s__law_due : Stmt := topS 12
abbrev s_law : Stmt := topS 13
structure Bi (mg : Str → Option Value) : Prop where
  b_abs : mg "abs" = none
  b_all : mg "all" = none
  b_bool : mg "bool" = none
  b_int : mg "int" = none
  b_isinstance : mg "isinstance" = none
  b_len : mg "len" = none
  b_min : mg "min" = none
  b_range : mg "range" = none
  b_tuple : mg "tuple" = none
theorem mod_rest (n P : Int) : (n - n % P) % P = 0 := by
  have e : n - n % P = P * (n / P) := by
    have := Int.mul_ediv_add_emod n P
    omega
  rw [e]
  exact Int.mul_emod_right P _
def sp_rest_of (W : Wd) : Sp := fun vs H Q _ => match vs with
  | [v_number, v_width] =>
  ∃ n w : Int, v_number = .int n ∧ v_width = .int w ∧ 0 ≤ w ∧ w ≤ 1000000 ∧ Q (.int (n % p2 w)) H
  | _ => False
abbrev N_rest_of : List Str := ["number", "width"]
theorem sc_rest_of : FnScope N_rest_of ["number", "width"] (defScope s_rest_of) := ⟨rfl, rfl, rfl, by decide +kernel, rfl, by decide +kernel, by decide +kernel⟩
theorem f_rest_of {W : Wd} {mg : Str → Option Value} {base : Heap} (B : Bi mg) {f : Addr} {fd : FuncData} (F : Fun W.K "rest_of" "rest_of" s_rest_of f fd)  : FnOk W.P W.w W.K mg base CX0 1 f fd ["number", "width"] (sp_rest_of W) := by
  have nd := sc_rest_of.nd
  have F0 : FnOk W.P W.w W.K mg base CX0 1 f fd ["number", "width"] (sp_rest_of W) := by
    refine F.ok sc_rest_of (fun vs H Q E h => ?_) (fun cdv A outer s H vs Q E hr h => ?_)
    · match vs, h with | [_, _], _ => rfl
    · match vs, h with
      | [v_number, v_width], h =>
        change sp_rest_of W [v_number, v_width] H Q E at h
        refine ⟨tRet (tOp (rModU) (tVar 0) (tOp (rShlU) (tC (.int 1)) (tVar 1))), pss_one (ps_ret (pe_op u_mod (pv 0) (pe_op u_shl (pe_int) (pv 1)))), ?_⟩
        clear hr
        rw [show L2.start N_rest_of [v_number, v_width] = [some v_number, some v_width] from rfl]
        obtain ⟨n, w, rfl, rfl, h0, h1, q⟩ := h
        walk_at "Zs"
        exact q
  exact F0
theorem c_rest_of {W : Wd} {mg : Str → Option Value} {base : Heap} (B : Bi mg) (S : Src W.K mg "rest_of" s_rest_of)  : Cal W mg base "rest_of" 1 ["number", "width"] (sp_rest_of W) := by
  obtain ⟨f, fd, g, F⟩ := S
  exact ⟨f, fd, g, f_rest_of B F , F.kp, (F.binds (ps := ["number", "width"]) fun _ _ _ _ _ _ us hl => match us, hl with | [_, _], _ => rfl)⟩
theorem go_rest_of {W : Wd} {H : Hp} {Q : VK} {E : XK} {n w : Int} (h0 : 0 ≤ w) (h1 : w ≤ 1000000) (q : ∀ r, r = n % p2 w → 0 ≤ r → r < p2 w → (n - r) % p2 w = 0 → Q (.int r) H) : sp_rest_of W [.int n, .int w] H Q E :=
  ⟨n, w, rfl, rfl, h0, h1, q _ rfl (Int.emod_nonneg _ (Int.ne_of_gt (p2_pos w))) (Int.emod_lt_of_pos _ (p2_pos w)) (mod_rest _ _)⟩
local macro_rules | `(tactic| walk_at "Zc") => `(tactic| ((with_reducible refine' go_rest_of ?h0 ?h1 ?_); (case h0 => walk_at "Znum"); (case h1 => walk_at "Znum"); intro r e h0 h1 h2))
theorem win_rest (l r P : Int) : (l + (r - l) % P - r) % P = 0 := by
  have e : l + (r - l) % P - r = P * (-((r - l) / P)) := by
    have := Int.mul_ediv_add_emod (r - l) P
    rw [Int.mul_neg]
    omega
  rw [e]
  exact Int.mul_emod_right P _
def sp_windowed (W : Wd) : Sp := fun vs H Q _ => match vs with
  | [v_least, v_rest, v_width] =>
  ∃ l r w : Int, v_least = .int l ∧ v_rest = .int r ∧ v_width = .int w ∧ 0 ≤ w ∧ w ≤ 1000000 ∧ Q (.int (l + (r - l) % p2 w)) H
  | _ => False
abbrev N_windowed : List Str := ["least", "rest", "width"]
theorem sc_windowed : FnScope N_windowed ["least", "rest", "width"] (defScope s_windowed) := ⟨rfl, rfl, rfl, by decide +kernel, rfl, by decide +kernel, by decide +kernel⟩
theorem f_windowed {W : Wd} {mg : Str → Option Value} {base : Heap} (B : Bi mg) {f : Addr} {fd : FuncData} (F : Fun W.K "windowed" "windowed" s_windowed f fd) (C_rest_of : Cal W mg base "rest_of" 1 ["number", "width"] (sp_rest_of W)) : FnOk W.P W.w W.K mg base CX0 2 f fd ["least", "rest", "width"] (sp_windowed W) := by
  obtain ⟨a_rest_of, d_rest_of, g_rest_of, F_rest_of, k_rest_of, b_rest_of⟩ := C_rest_of
  have nd := sc_windowed.nd
  have F0 : FnOk W.P W.w W.K mg base CX0 2 f fd ["least", "rest", "width"] (sp_windowed W) := by
    refine F.ok sc_windowed (fun vs H Q E h => ?_) (fun cdv A outer s H vs Q E hr h => ?_)
    · match vs, h with | [_, _, _], _ => rfl
    · match vs, h with
      | [v_least, v_rest, v_width], h =>
        change sp_windowed W [v_least, v_rest, v_width] H Q E at h
        refine ⟨tRet (tOp (rAddU W.K) (tVar 0) (tCall (sp_rest_of W) [] E0 (tCons (tOp (rSubU) (tVar 1) (tVar 0)) (tCons (tVar 2) (tNil))))), pss_one (ps_ret (pe_op u_add (pv 0) (pe_call F_rest_of (hr.mono (by decide)) (by rfl) g_rest_of k_rest_of b_rest_of .nil pass0 (pa_cons (pe_op u_sub (pv 1) (pv 0)) (pa_cons (pv 2) (pa_nil)))))), ?_⟩
        clear hr
        clear F_rest_of g_rest_of k_rest_of b_rest_of d_rest_of a_rest_of
        rw [show L2.start N_windowed [v_least, v_rest, v_width] = [some v_least, some v_rest, some v_width] from rfl]
        obtain ⟨l, r, w, rfl, rfl, rfl, h0, h1, q⟩ := h
        walk_at "Zs"
        rename_i m e m0 m1 m2
        subst e
        exact q
  exact F0
theorem c_windowed {W : Wd} {mg : Str → Option Value} {base : Heap} (B : Bi mg) (S : Src W.K mg "windowed" s_windowed) (C_rest_of : Cal W mg base "rest_of" 1 ["number", "width"] (sp_rest_of W)) : Cal W mg base "windowed" 2 ["least", "rest", "width"] (sp_windowed W) := by
  obtain ⟨f, fd, g, F⟩ := S
  exact ⟨f, fd, g, f_windowed B F C_rest_of, F.kp, (F.binds (ps := ["least", "rest", "width"]) fun _ _ _ _ _ _ us hl => match us, hl with | [_, _, _], _ => rfl)⟩
theorem go_windowed {W : Wd} {H : Hp} {Q : VK} {E : XK} {l r w : Int} (h0 : 0 ≤ w) (h1 : w ≤ 1000000) (q : ∀ f, f = l + (r - l) % p2 w → l ≤ f → f < l + p2 w → (f - r) % p2 w = 0 → Q (.int f) H) : sp_windowed W [.int l, .int r, .int w] H Q E := by
  have a := Int.emod_nonneg (r - l) (Int.ne_of_gt (p2_pos w))
  have b := Int.emod_lt_of_pos (r - l) (p2_pos w)
  exact ⟨l, r, w, rfl, rfl, rfl, h0, h1, q _ rfl (by omega) (by omega) (win_rest _ _ _)⟩
local macro_rules | `(tactic| walk_at "Zc") => `(tactic| ((with_reducible refine' go_windowed ?h0 ?h1 ?_); (case h0 => walk_at "Znum"); (case h1 => walk_at "Znum"); intro f e h0 h1 h2))
theorem p2_add {a b : Int} (ha : 0 ≤ a) (hb : 0 ≤ b) : p2 (a + b) = p2 a * p2 b := by
  have e : (a + b).toNat = a.toNat + b.toNat := by omega
  show (2 : Int) ^ (a + b).toNat = 2 ^ a.toNat * 2 ^ b.toNat
  rw [e, Int.pow_add]
theorem p2_dvd {a b : Int} (ha : 0 ≤ a) (hb : a ≤ b) : p2 a ∣ p2 b := by
  have e : p2 b = p2 a * p2 (b - a) := by
    rw [← p2_add ha (by omega)]
    congr 1
    omega
  exact ⟨_, e⟩
/-- what a base tells by a window that begins below ahead of it -/
def arnd (w base below rest wd : Int) : Int := (base - below + (rest - (base - below)) % p2 wd) % p2 w
theorem arnd_bd (w base below rest wd : Int) : 0 ≤ arnd w base below rest wd ∧ arnd w base below rest wd < p2 w :=
  ⟨Int.emod_nonneg _ (Int.ne_of_gt (p2_pos w)), Int.emod_lt_of_pos _ (p2_pos w)⟩
theorem arnd_rest {w base below rest wd : Int} (h0 : 0 ≤ wd) (h1 : wd ≤ w) : (arnd w base below rest wd - rest) % p2 wd = 0 := by
  obtain ⟨c, hc⟩ := p2_dvd h0 h1
  have a := Int.mul_ediv_add_emod (base - below + (rest - (base - below)) % p2 wd) (p2 w)
  have b := Int.mul_ediv_add_emod (rest - (base - below)) (p2 wd)
  have e : arnd w base below rest wd - rest = p2 wd * (-((rest - (base - below)) / p2 wd) - c * ((base - below + (rest - (base - below)) % p2 wd) / p2 w)) := by
    have z : p2 w * ((base - below + (rest - (base - below)) % p2 wd) / p2 w) = p2 wd * (c * ((base - below + (rest - (base - below)) % p2 wd) / p2 w)) := by rw [hc, Int.mul_assoc]
    show (base - below + (rest - (base - below)) % p2 wd) % p2 w - rest = _
    rw [Int.mul_sub, Int.mul_neg]
    omega
  rw [e]
  exact Int.mul_emod_right _ _
theorem p2_mono {a b : Int} (h1 : a ≤ b) : p2 a ≤ p2 b := p2_le h1
theorem arnd_win {w base below rest wd : Int} (h1 : wd ≤ w) : (arnd w base below rest wd - base + below) % p2 w = (rest - (base - below)) % p2 wd := by
  have a := Int.mul_ediv_add_emod (base - below + (rest - (base - below)) % p2 wd) (p2 w)
  have b0 := Int.emod_nonneg (rest - (base - below)) (Int.ne_of_gt (p2_pos wd))
  have b1 := Int.emod_lt_of_pos (rest - (base - below)) (p2_pos wd)
  have b2 := p2_mono h1
  have e : arnd w base below rest wd - base + below = (rest - (base - below)) % p2 wd + p2 w * (-((base - below + (rest - (base - below)) % p2 wd) / p2 w)) := by
    show (base - below + (rest - (base - below)) % p2 wd) % p2 w - base + below = _
    rw [Int.mul_neg]
    omega
  rw [e, Int.add_mul_emod_self_left]
  exact Int.emod_eq_of_lt b0 (by omega)
theorem arnd_self {w base below rest wd : Int} (hr : rest = base % p2 wd) (h0 : 0 ≤ below) (h1 : below < p2 wd) (h2 : 0 ≤ base) (h3 : base < p2 w) : arnd w base below rest wd = base := by
  have b := Int.mul_ediv_add_emod base (p2 wd)
  have e : rest - (base - below) = below + p2 wd * (-(base / p2 wd)) := by
    rw [Int.mul_neg]
    omega
  have e2 : (rest - (base - below)) % p2 wd = below := by
    rw [e, Int.add_mul_emod_self_left]
    exact Int.emod_eq_of_lt h0 h1
  unfold arnd
  rw [e2]
  have e3 : base - below + below = base := by omega
  rw [e3]
  exact Int.emod_eq_of_lt h2 h3
def sp_around (W : Wd) : Sp := fun vs H Q _ => match vs with
  | [v_w, v_base, v_below, v_rest, v_width] =>
  ∃ w base below rest wd : Int, v_w = .int w ∧ v_base = .int base ∧ v_below = .int below ∧ v_rest = .int rest ∧ v_width = .int wd ∧ 0 ≤ wd ∧ 0 ≤ w ∧ wd ≤ 1000000 ∧ w ≤ 1000000 ∧ Q (.int (arnd w base below rest wd)) H
  | _ => False
abbrev N_around : List Str := ["w", "base", "below", "rest", "width"]
theorem sc_around : FnScope N_around ["w", "base", "below", "rest", "width"] (defScope s_around) := ⟨rfl, rfl, rfl, by decide +kernel, rfl, by decide +kernel, by decide +kernel⟩
theorem f_around {W : Wd} {mg : Str → Option Value} {base : Heap} (B : Bi mg) {f : Addr} {fd : FuncData} (F : Fun W.K "around" "around" s_around f fd) (C_rest_of : Cal W mg base "rest_of" 1 ["number", "width"] (sp_rest_of W)) (C_windowed : Cal W mg base "windowed" 2 ["least", "rest", "width"] (sp_windowed W)) : FnOk W.P W.w W.K mg base CX0 3 f fd ["w", "base", "below", "rest", "width"] (sp_around W) := by
  obtain ⟨a_rest_of, d_rest_of, g_rest_of, F_rest_of, k_rest_of, b_rest_of⟩ := C_rest_of
  obtain ⟨a_windowed, d_windowed, g_windowed, F_windowed, k_windowed, b_windowed⟩ := C_windowed
  have nd := sc_around.nd
  have F0 : FnOk W.P W.w W.K mg base CX0 3 f fd ["w", "base", "below", "rest", "width"] (sp_around W) := by
    refine F.ok sc_around (fun vs H Q E h => ?_) (fun cdv A outer s H vs Q E hr h => ?_)
    · match vs, h with | [_, _, _, _, _], _ => rfl
    · match vs, h with
      | [v_w, v_base, v_below, v_rest, v_width], h =>
        change sp_around W [v_w, v_base, v_below, v_rest, v_width] H Q E at h
        refine ⟨tRet (tCall (sp_rest_of W) [] E0 (tCons (tCall (sp_windowed W) [] E0 (tCons (tOp (rSubU) (tVar 1) (tVar 2)) (tCons (tVar 3) (tCons (tVar 4) (tNil))))) (tCons (tVar 0) (tNil)))), pss_one (ps_ret (pe_call F_rest_of (hr.mono (by decide)) (by rfl) g_rest_of k_rest_of b_rest_of .nil pass0 (pa_cons (pe_call F_windowed (hr.mono (by decide)) (by rfl) g_windowed k_windowed b_windowed .nil pass0 (pa_cons (pe_op u_sub (pv 1) (pv 2)) (pa_cons (pv 3) (pa_cons (pv 4) (pa_nil))))) (pa_cons (pv 0) (pa_nil))))), ?_⟩
        clear hr
        clear F_rest_of g_rest_of k_rest_of b_rest_of d_rest_of a_rest_of
        clear F_windowed g_windowed k_windowed b_windowed d_windowed a_windowed
        rw [show L2.start N_around [v_w, v_base, v_below, v_rest, v_width] = [some v_w, some v_base, some v_below, some v_rest, some v_width] from rfl]
        obtain ⟨w, base, below, rest, wd, rfl, rfl, rfl, rfl, rfl, h0, h1, h2, h3, q⟩ := h
        walk_at "Zs"
        rename_i f e _ _ _ r e2 _ _ _
        subst e
        subst e2
        exact q
  exact F0
theorem c_around {W : Wd} {mg : Str → Option Value} {base : Heap} (B : Bi mg) (S : Src W.K mg "around" s_around) (C_rest_of : Cal W mg base "rest_of" 1 ["number", "width"] (sp_rest_of W)) (C_windowed : Cal W mg base "windowed" 2 ["least", "rest", "width"] (sp_windowed W)) : Cal W mg base "around" 3 ["w", "base", "below", "rest", "width"] (sp_around W) := by
  obtain ⟨f, fd, g, F⟩ := S
  exact ⟨f, fd, g, f_around B F C_rest_of C_windowed, F.kp, (F.binds (ps := ["w", "base", "below", "rest", "width"]) fun _ _ _ _ _ _ us hl => match us, hl with | [_, _, _, _, _], _ => rfl)⟩
theorem go_around {W : Wd} {H : Hp} {Q : VK} {E : XK} {w base below rest wd : Int} (h0 : 0 ≤ wd) (h1 : 0 ≤ w) (h2 : wd ≤ 1000000) (h3 : w ≤ 1000000) (q : ∀ f, f = arnd w base below rest wd → 0 ≤ f → f < p2 w → Q (.int f) H) : sp_around W [.int w, .int base, .int below, .int rest, .int wd] H Q E :=
  ⟨w, base, below, rest, wd, rfl, rfl, rfl, rfl, rfl, h0, h1, h2, h3, q _ rfl (arnd_bd _ _ _ _ _).1 (arnd_bd _ _ _ _ _).2⟩
local macro_rules | `(tactic| walk_at "Zc") => `(tactic| ((with_reducible refine' go_around ?h0 ?h1 ?h2 ?h3 ?_); (case h0 => walk_at "Znum"); (case h1 => walk_at "Znum"); (case h2 => walk_at "Znum"); (case h3 => walk_at "Znum"); intro f e h0 h1))
def toldB (w below value : Int) (wd : Int) (b : Int) : Bool := decide (arnd w b below (value % p2 wd) wd = value)
def sp_is_told (W : Wd) : Sp := fun vs H Q _ => match vs with
  | [v_w, v_below, v_bases, v_value, v_width] =>
  ∃ (w below value wd : Int) (a : Addr) (bs : List Int), v_w = .int w ∧ v_below = .int below ∧ v_bases = .ref a ∧ v_value = .int value ∧ v_width = .int wd ∧ SqT W.K H a (bs.map V.int) ∧ bs.length ≤ 1000 ∧ 0 ≤ wd ∧ 0 ≤ w ∧ wd ≤ 1000000 ∧ w ≤ 1000000 ∧ ∀ H', Same H H' → Q (.bl (bs.all (toldB w below value wd))) H'
  | _ => False
abbrev N_is_told : List Str := ["w", "below", "bases", "value", "width", "rest", "base"]
theorem sc_is_told : FnScope N_is_told ["w", "below", "bases", "value", "width"] (defScope s_is_told) := ⟨rfl, rfl, rfl, by decide +kernel, rfl, by decide +kernel, by decide +kernel⟩
theorem f_is_told {W : Wd} {mg : Str → Option Value} {base : Heap} (B : Bi mg) {f : Addr} {fd : FuncData} (F : Fun W.K "is_told" "is_told" s_is_told f fd) (C_around : Cal W mg base "around" 3 ["w", "base", "below", "rest", "width"] (sp_around W)) (C_rest_of : Cal W mg base "rest_of" 1 ["number", "width"] (sp_rest_of W)) : FnOk W.P W.w W.K mg base CX0 4 f fd ["w", "below", "bases", "value", "width"] (sp_is_told W) := by
  obtain ⟨a_around, d_around, g_around, F_around, k_around, b_around⟩ := C_around
  obtain ⟨a_rest_of, d_rest_of, g_rest_of, F_rest_of, k_rest_of, b_rest_of⟩ := C_rest_of
  have nd := sc_is_told.nd
  have F0 : FnOk W.P W.w W.K mg base CX0 4 f fd ["w", "below", "bases", "value", "width"] (sp_is_told W) := by
    refine F.ok sc_is_told (fun vs H Q E h => ?_) (fun cdv A outer s H vs Q E hr h => ?_)
    · match vs, h with | [_, _, _, _, _], _ => rfl
    · match vs, h with
      | [v_w, v_below, v_bases, v_value, v_width], h =>
        change sp_is_told W [v_w, v_below, v_bases, v_value, v_width] H Q E at h
        refine ⟨tSeq (tAsg (tCall (sp_rest_of W) [] E0 (tCons (tVar 3) (tCons (tVar 4) (tNil)))) (gName 5)) (tRet (tCB (rAll W.K) (tCons (tLc (iAny W.K (tVar 2)) (gName 6) (tYes) (tOp (rEqU W.K) (tCall (sp_around W) [] E0 (tCons (tVar 0) (tCons (tVar 6) (tCons (tVar 1) (tCons (tVar 5) (tCons (tVar 4) (tNil))))))) (tVar 3)) [6]) (tNil)))), pss_cons (ps_set (i := 5) nd rfl (.inr rfl) (pe_call F_rest_of (hr.mono (by decide)) (by rfl) g_rest_of k_rest_of b_rest_of .nil pass0 (pa_cons (pv 3) (pa_cons (pv 4) (pa_nil))))) (pss_one (ps_ret (pe_callB (cr_all rfl) (by rfl) B.b_all (by decide +kernel) (pa_cons (pe_lc (own := [("base", 6)]) rfl nd (pi_any (pv 2)) (blkOk_by (own := [("base", 6)]) (N := N_is_told) (sc := defScope s_is_told) (by decide +kernel)) (fun _ _ _ _ _ => pg_name (i := 6) nd rfl (by first | exact Or.inl rfl | exact Or.inr rfl)) (fun _ _ _ _ _ => pts_nil) (fun _ _ _ _ _ => pe_cmpR (u_eq hr.units) (pe_call F_around (hr.mono (by decide)) (by rfl) g_around k_around b_around .nil pass0 (pa_cons (pv 0) (pa_cons (pv 6) (pa_cons (pv 1) (pa_cons (pv 5) (pa_cons (pv 4) (pa_nil))))))) (pv 3) (nomark _))) (pa_nil))))), ?_⟩
        clear hr
        clear F_around g_around k_around b_around d_around a_around
        clear F_rest_of g_rest_of k_rest_of b_rest_of d_rest_of a_rest_of
        rw [show L2.start N_is_told [v_w, v_below, v_bases, v_value, v_width] = [some v_w, some v_below, some v_bases, some v_value, some v_width, none, none] from rfl]
        obtain ⟨w, below, value, wd, a, bs, rfl, rfl, rfl, rfl, rfl, hS, hl, h0, h1, h2, h3, q⟩ := h
        walk_at "Zs"
        rename_i r er r0 r1 r2
        refine w_goT hS ?_
        refine lcT hS (fun i acc _ => acc = (bs.take i).map fun b => V.bl (toldB w below value wd b)) stb_pure (by rw [List.length_map]; omega) (fun i acc H' e => by rw [e, List.length_map, List.length_take]; omega) (fun H' _ => rfl) (fun i x acc H' hx e1 ea k k' hk hk' => ?_) fun D acc H' hD e1 hD' ea => ?_
        · obtain ⟨b, eb, rfl⟩ : ∃ b, bs[i]? = some b ∧ V.int b = x := by
            rw [List.getElem?_map] at hx
            cases e : bs[i]? with
            | none => rw [e] at hx; cases hx
            | some b => rw [e] at hx; exact ⟨b, rfl, Option.some.inj hx⟩
          walk_at "Zs"
          rename_i f ef f0 f1
          refine hk _ _ (Same.refl _) ?_
          rw [List.take_add_one, eb, List.map_append, ea, ef, er]
          rfl
        · rw [List.length_map, List.take_length] at ea
          refine w_all (bs := bs.map (toldB w below value wd)) ?_ ?_
          · refine SqL.of ?_
            rw [hD', ea, List.map_map]
            rfl
          · have e : (bs.map (toldB w below value wd)).all id = bs.all (toldB w below value wd) := by
              rw [List.all_map]
              rfl
            rw [e]
            exact q H' e1
  exact F0
theorem c_is_told {W : Wd} {mg : Str → Option Value} {base : Heap} (B : Bi mg) (S : Src W.K mg "is_told" s_is_told) (C_around : Cal W mg base "around" 3 ["w", "base", "below", "rest", "width"] (sp_around W)) (C_rest_of : Cal W mg base "rest_of" 1 ["number", "width"] (sp_rest_of W)) : Cal W mg base "is_told" 4 ["w", "below", "bases", "value", "width"] (sp_is_told W) := by
  obtain ⟨f, fd, g, F⟩ := S
  exact ⟨f, fd, g, f_is_told B F C_around C_rest_of, F.kp, (F.binds (ps := ["w", "below", "bases", "value", "width"]) fun _ _ _ _ _ _ us hl => match us, hl with | [_, _, _, _, _], _ => rfl)⟩
theorem go_is_told {W : Wd} {H : Hp} {Q : VK} {E : XK} {w below value wd : Int} {a : Addr} {bs : List Int} (hS : SqT W.K H a (bs.map V.int)) (hl : bs.length ≤ 1000) (h0 : 0 ≤ wd) (h1 : 0 ≤ w) (h2 : wd ≤ 1000000) (h3 : w ≤ 1000000)
    (q : ∀ H', Same H H' → Q (.bl (bs.all (toldB w below value wd))) H') : sp_is_told W [.int w, .int below, .ref a, .int value, .int wd] H Q E :=
  ⟨w, below, value, wd, a, bs, rfl, rfl, rfl, rfl, rfl, hS, hl, h0, h1, h2, h3, q⟩
theorem told_win {w below value wd b : Int} (h0 : 0 ≤ wd) (h1 : wd ≤ w) (v0 : 0 ≤ value) (v1 : value < p2 w) : toldB w below value wd b = decide ((value - b + below) % p2 w < p2 wd) := by
  have pw := p2_pos w
  have pd := p2_pos wd
  unfold toldB
  rw [decide_eq_decide]
  refine ⟨fun e => ?_, fun hlt => ?_⟩
  · have z := arnd_win (w := w) (base := b) (below := below) (rest := value % p2 wd) h1
    rw [e] at z
    rw [z]
    exact Int.emod_lt_of_pos _ pd
  · obtain ⟨c, hc⟩ := p2_dvd h0 h1
    have t0 := Int.emod_nonneg (value - b + below) (Int.ne_of_gt pw)
    have a1 := Int.mul_ediv_add_emod (value - b + below) (p2 w)
    have a2 := Int.mul_ediv_add_emod value (p2 wd)
    have e1 : value % p2 wd - (b - below) = (value - b + below) % p2 w + p2 wd * (c * ((value - b + below) / p2 w) - value / p2 wd) := by
      have z : p2 w * ((value - b + below) / p2 w) = p2 wd * (c * ((value - b + below) / p2 w)) := by rw [hc, Int.mul_assoc]
      rw [Int.mul_sub]
      omega
    have e2 : (value % p2 wd - (b - below)) % p2 wd = (value - b + below) % p2 w := by
      rw [e1, Int.add_mul_emod_self_left]
      exact Int.emod_eq_of_lt t0 hlt
    unfold arnd
    rw [e2]
    have e3 : b - below + (value - b + below) % p2 w = value + p2 w * (-((value - b + below) / p2 w)) := by
      rw [Int.mul_neg]
      omega
    rw [e3, Int.add_mul_emod_self_left]
    exact Int.emod_eq_of_lt v0 v1
def sp_narrowest (W : Wd) : Sp := fun vs H Q _ => match vs with
  | [v_w, v_below, v_bases, v_value] =>
  ∃ (w below value : Int) (a : Addr) (bs : List Int), v_w = .int w ∧ v_below = .int below ∧ v_bases = .ref a ∧ v_value = .int value ∧ SqT W.K H a (bs.map V.int) ∧ bs.length ≤ 1000 ∧ 0 ≤ w ∧ w ≤ 1000 ∧ 0 ≤ value ∧ value < p2 w ∧
    ∀ (n : Nat) H', Same H H' → (n : Int) ≤ w → bs.all (toldB w below value n) = true → (∀ u : Nat, u < n → bs.all (toldB w below value u) = false) → Q (.int n) H'
  | _ => False
abbrev N_narrowest : List Str := ["w", "below", "bases", "value", "width"]
theorem sc_narrowest : FnScope N_narrowest ["w", "below", "bases", "value"] (defScope s_narrowest) := ⟨rfl, rfl, rfl, by decide +kernel, rfl, by decide +kernel, by decide +kernel⟩
theorem f_narrowest {W : Wd} {mg : Str → Option Value} {base : Heap} (B : Bi mg) {f : Addr} {fd : FuncData} (F : Fun W.K "narrowest" "narrowest" s_narrowest f fd) (C_is_told : Cal W mg base "is_told" 4 ["w", "below", "bases", "value", "width"] (sp_is_told W)) : FnOk W.P W.w W.K mg base CX0 5 f fd ["w", "below", "bases", "value"] (sp_narrowest W) := by
  obtain ⟨a_is_told, d_is_told, g_is_told, F_is_told, k_is_told, b_is_told⟩ := C_is_told
  have nd := sc_narrowest.nd
  have F0 : FnOk W.P W.w W.K mg base CX0 5 f fd ["w", "below", "bases", "value"] (sp_narrowest W) := by
    refine F.ok sc_narrowest (fun vs H Q E h => ?_) (fun cdv A outer s H vs Q E hr h => ?_)
    · match vs, h with | [_, _, _, _], _ => rfl
    · match vs, h with
      | [v_w, v_below, v_bases, v_value], h =>
        change sp_narrowest W [v_w, v_below, v_bases, v_value] H Q E at h
        refine ⟨tSeq (tAsg (tC (.int 0)) (gName 4)) (tSeq (tWhile (tNot (tB (tCall (sp_is_told W) [] E0 (tCons (tVar 0) (tCons (tVar 1) (tCons (tVar 2) (tCons (tVar 3) (tCons (tVar 4) (tNil))))))))) (tAug 4 (tC (.int 1)) (ipAddU W.K))) (tRet (tVar 4))), pss_cons (ps_set (i := 4) nd rfl (.inl rfl) (pe_int)) (pss_cons (ps_while PassesOwn.never (pt_not (pt_val (pe_call F_is_told (hr.mono (by decide)) (by rfl) g_is_told k_is_told b_is_told .nil pass0 (pa_cons (pv 0) (pa_cons (pv 1) (pa_cons (pv 2) (pa_cons (pv 3) (pa_cons (pv 4) (pa_nil))))))))) (pss_one (ps_aug (i := 4) nd rfl (.inl rfl) (pe_int) u_ipadd))) (pss_one (ps_ret (pv 4)))), ?_⟩
        clear hr
        clear F_is_told g_is_told k_is_told b_is_told d_is_told a_is_told
        rw [show L2.start N_narrowest [v_w, v_below, v_bases, v_value] = [some v_w, some v_below, some v_bases, some v_value, none] from rfl]
        obtain ⟨w, below, value, a, bs, rfl, rfl, rfl, rfl, hS, hl, h0, h1, v0, v1, q⟩ := h
        walk_at "Zs"
        refine w_while (fun k σ' H' => ∃ n : Nat, σ' = [some (.int w), some (.int below), some (.ref a), some (.int value), some (.int n)] ∧ Same H H' ∧ (n : Int) ≤ w ∧ (k : Int) = w - n ∧ ∀ u : Nat, u < n → bs.all (toldB w below value u) = false) w.toNat ⟨0, rfl, Same.refl _, by omega, by omega, fun u hu => by omega⟩ ?_
        rintro k σ' H' ⟨n, rfl, e1, hn, hk, hu⟩
        walk_at "Zs"
        refine go_is_told (same_t e1 hS) hl (by omega) h0 (by omega) (by omega) fun H2 e2 => ?_
        cases hb : bs.all (toldB w below value n) with
        | true =>
          walk_at "Zs"
          exact q n H2 (e1.trans e2) hn hb hu
        | false =>
          walk_at "Zs"
          have hlt : (n : Int) < w := by
            by_cases hlt : (n : Int) < w
            · exact hlt
            · have e : (n : Int) = w := by omega
              have ha : bs.all (toldB w below value n) = true := by
                rw [List.all_eq_true]
                intro b _
                rw [e, told_win h0 (Int.le_refl _) v0 v1]
                exact decide_eq_true (Int.emod_lt_of_pos _ (p2_pos w))
              rw [ha] at hb
              cases hb
          refine ⟨k - 1, by omega, n + 1, rfl, e1.trans e2, by omega, by omega, fun u h1 => ?_⟩
          by_cases e : u = n
          · subst e
            exact hb
          · exact hu u (by omega)
  exact F0
theorem c_narrowest {W : Wd} {mg : Str → Option Value} {base : Heap} (B : Bi mg) (S : Src W.K mg "narrowest" s_narrowest) (C_is_told : Cal W mg base "is_told" 4 ["w", "below", "bases", "value", "width"] (sp_is_told W)) : Cal W mg base "narrowest" 5 ["w", "below", "bases", "value"] (sp_narrowest W) := by
  obtain ⟨f, fd, g, F⟩ := S
  exact ⟨f, fd, g, f_narrowest B F C_is_told, F.kp, (F.binds (ps := ["w", "below", "bases", "value"]) fun _ _ _ _ _ _ us hl => match us, hl with | [_, _, _, _], _ => rfl)⟩
theorem go_narrowest {W : Wd} {H : Hp} {Q : VK} {E : XK} {w below value : Int} {a : Addr} {bs : List Int} (hS : SqT W.K H a (bs.map V.int)) (hl : bs.length ≤ 1000) (h0 : 0 ≤ w) (h1 : w ≤ 1000) (v0 : 0 ≤ value) (v1 : value < p2 w)
    (q : ∀ (n : Nat) H', Same H H' → (n : Int) ≤ w → bs.all (toldB w below value n) = true → (∀ u : Nat, u < n → bs.all (toldB w below value u) = false) → Q (.int n) H') : sp_narrowest W [.int w, .int below, .ref a, .int value] H Q E :=
  ⟨w, below, value, a, bs, rfl, rfl, rfl, rfl, hS, hl, h0, h1, v0, v1, q⟩
def sp__law_pot (W : Wd) : Sp := fun vs H Q _ => match vs with
  | [v_script, v_k] =>
  ∃ (a : Addr) (ns : List Int) (k : Int), v_script = .ref a ∧ v_k = .int k ∧ SqL W.K H a (ns.map V.int) ∧ 0 ≤ k ∧ ∀ v H', Same H H' → PotAt W H' v → Q v H'
  | _ => False
def sp0__law_pot (W : Wd) : Sp := fun vs H Q _ => match vs with
  | [v_script, v_k] =>
  ∃ (a : Addr) (ns : List Int) (k : Int), v_script = .ref a ∧ v_k = .int k ∧ SqL W.K H a (ns.map V.int) ∧ 0 ≤ k ∧ ∀ (p : Addr) (g s : Int) H', Same H H' → H p = none → H' p = some (.lst [.int g, .int s]) → 0 ≤ g → 0 ≤ s → s < 2305843009213693951 → Q (.ref p) H'
  | _ => False
abbrev N__law_pot : List Str := ["_law_script", "_law_k", "_law_cell", "_law_great"]
theorem sc__law_pot : FnScope N__law_pot ["_law_script", "_law_k"] (defScope s__law_pot) := ⟨rfl, rfl, rfl, by decide +kernel, rfl, by decide +kernel, by decide +kernel⟩
theorem f__law_pot {W : Wd} {mg : Str → Option Value} {base : Heap} (B : Bi mg) {f : Addr} {fd : FuncData} (F : Fun W.K "_law_pot" "_law_pot" s__law_pot f fd)  : FnOk W.P W.w W.K mg base CX0 1 f fd ["_law_script", "_law_k"] (sp__law_pot W) := by
  have nd := sc__law_pot.nd
  have F0 : FnOk W.P W.w W.K mg base CX0 1 f fd ["_law_script", "_law_k"] (sp0__law_pot W) := by
    refine F.ok sc__law_pot (fun vs H Q E h => ?_) (fun cdv A outer s H vs Q E hr h => ?_)
    · match vs, h with | [_, _], _ => rfl
    · match vs, h with
      | [v_script, v_k], h =>
        change sp0__law_pot W [v_script, v_k] H Q E at h
        refine ⟨tSeq (tAsg (tIf (tTest (tOp (rLtU W.K) (tVar 1) (tCB (rLenU W.K) (tCons (tVar 0) (tNil))))) (tOp (rIxU W.K) (tVar 0) (tVar 1)) (tOp (rAddU W.K) (tCB (rLenU W.K) (tCons (tVar 0) (tNil))) (tVar 1))) (gName 2)) (tSeq (tAsg (tOp (rMulU W.K) (tOp (rModU) (tCB (rAbs) (tCons (tVar 2) (tNil))) (tC (.int farN))) (tCB (rIntU) (tCons (tOp (rGeU) (tCB (rAbs) (tCons (tVar 2) (tNil))) (tOp (rCon 10 18 1000000000000000000) (tC (.int 10)) (tC (.int 18)))) (tNil)))) (gName 3)) (tRet (tLst (tCons (tVar 3) (tCons (tOp (rModU) (tOp (rMulU W.K) (tOp (rAddU W.K) (tOp (rAddU W.K) (tOp (rModU) (tVar 2) (tC (.int 2305843009213693921))) (tOp (rMulU W.K) (tC (.int 104729)) (tVar 1))) (tC (.int 5))) (tC (.int 48271))) (tC (.int 2305843009213693951))) (tNil)))))), pss_cons (ps_set (i := 2) nd rfl (.inl rfl) (pe_ifExp (pt_cmpR u_lt (pv 1) (pe_callB u_len (by rfl) B.b_len (by decide +kernel) (pa_cons (pv 0) (pa_nil))) (nomark _)) (pe_ix u_ix (pv 0) (pv 1) (fun _ _ => rfl)) (pe_op u_add (pe_callB u_len (by rfl) B.b_len (by decide +kernel) (pa_cons (pv 0) (pa_nil))) (pv 1)))) (pss_cons (ps_set (i := 3) nd rfl (.inl rfl) (pe_op u_mul (pe_op u_mod (pe_callB call_abs (by rfl) B.b_abs (by decide +kernel) (pa_cons (pv 2) (pa_nil))) (pe_far (by rfl) B.b_int)) (pe_callTy u_int (by rfl) B.b_int (by decide +kernel) (pa_cons (pe_cmpR u_ge (pe_callB call_abs (by rfl) B.b_abs (by decide +kernel) (pa_cons (pv 2) (pa_nil))) (pe_op (u_powc ⟨by decide, by decide, by decide⟩ (by decide +kernel)) pe_int pe_int) (nomark _)) (pa_nil))))) (pss_one (ps_ret (pe_lst (pa_cons (pv 3) (pa_cons (pe_op u_mod (pe_op u_mul (pe_op u_add (pe_op u_add (pe_op u_mod (pv 2) (pe_int)) (pe_op u_mul (pe_int) (pv 1))) (pe_int)) (pe_int)) (pe_int)) (pa_nil))))))), ?_⟩
        clear hr
        rw [show L2.start N__law_pot [v_script, v_k] = [some v_script, some v_k, none, none] from rfl]
        obtain ⟨a, ns, k, rfl, rfl, hS, hk, q⟩ := h
        walk_at "Zs"
        refine w_lenL hS ?_
        walk_at "Zs"
        have fin : ∀ (c s : Int) (p : Addr) (H' : Hp), H p = none → Same H H' → H' p = some (.lst [.int ((if c < 0 then -c else c) % farN * if decide (1000000000000000000 ≤ if c < 0 then -c else c) = true then 1 else 0), .int (s % 2305843009213693951)]) → Q (.ref p) H' := by
          intro c s p H' hp e1 e2
          refine q p _ _ H' e1 hp e2 ?_ (by omega) (by omega)
          have h1 := Int.emod_nonneg (if c < 0 then -c else c) (Int.ne_of_gt far_pos)
          by_cases hc : decide (1000000000000000000 ≤ (if c < 0 then -c else c)) = true
          · rw [if_pos hc, Int.mul_one]
            exact h1
          · rw [if_neg hc, Int.mul_zero]
            exact Int.le_refl 0
        refine w_dec (fun hlt => ?_) (fun hge => ?_)
        · walk_at "Zs"
          have hl : k.toNat < ns.length := by
            rw [List.length_map] at hlt
            omega
          refine w_ixl hS (x := .int (ns[k.toNat])) ?_ ?_
          · unfold atI ixN
            rw [if_pos hk, if_pos hlt]
            simp [List.getElem?_eq_getElem hl]
          walk_at "Zs"
          rename_i p H' hp e1 e2
          exact fin _ _ p H' hp e1 e2
        · walk_at "Zs"
          refine w_lenL hS ?_
          walk_at "Zs"
          rename_i p H' hp e1 e2
          exact fin _ _ p H' hp e1 e2
  refine fn_seal pot_flat F0 (fun vs H Q E h => ?_) fun vs H Q E h => ?_
  · match vs, h with | [_, _], _ => rfl
  · match vs, h with
    | [v1, v2], h =>
      obtain ⟨a, ns, k, rfl, rfl, hS, hk, q⟩ := h
      refine ⟨a, ns, k, rfl, rfl, hS, hk, fun p g s H' e1 hp e2 h1 h2 h3 => ?_⟩
      exact ⟨p, _, ⟨g, s, rfl, h1, h2, h3⟩, e2, q _ _ (same_mut e1 hp) ⟨p, rfl, upd_same⟩⟩
theorem c__law_pot {W : Wd} {mg : Str → Option Value} {base : Heap} (B : Bi mg) (S : Src W.K mg "_law_pot" s__law_pot)  : Cal W mg base "_law_pot" 1 ["_law_script", "_law_k"] (sp__law_pot W) := by
  obtain ⟨f, fd, g, F⟩ := S
  exact ⟨f, fd, g, f__law_pot B F , F.kp, (F.binds (ps := ["_law_script", "_law_k"]) fun _ _ _ _ _ _ us hl => match us, hl with | [_, _], _ => rfl)⟩
theorem go__law_pot {W : Wd} {H : Hp} {Q : VK} {E : XK} {a : Addr} {ns : List Int} {k : Int} (hS : SqL W.K H a (ns.map V.int)) (h0 : 0 ≤ k) (q : ∀ v H', Same H H' → PotAt W H' v → Q v H') : sp__law_pot W [.ref a, .int k] H Q E := ⟨a, ns, k, rfl, rfl, hS, h0, q⟩
theorem ne_lst {H : Hp} {a b : Addr} {o u : HO} (h : H a = some o) (h' : H b = none) : a ≠ b := ne_of_none h h'
def sp__law_draw (W : Wd) : Sp := fun vs H Q _ => match vs with
  | [v_pot_here, v_many] =>
  ∃ m : Int, PotAt W H v_pot_here ∧ v_many = .int m ∧ 0 < m ∧ m < 1267650600228229401496703205376 ∧ ∀ (d : Int) H', Same H H' → 0 ≤ d → d < m → Q (.int d) H'
  | _ => False
def sp0__law_draw (W : Wd) : Sp := fun vs H Q _ => match vs with
  | [v_pot_here, v_many] =>
  ∃ (p : Addr) (g s m : Int), v_pot_here = .ref p ∧ v_many = .int m ∧ H p = some (.lst [.int g, .int s]) ∧ 0 ≤ g ∧ 0 ≤ s ∧ s < 2305843009213693951 ∧ 0 < m ∧ m < 1267650600228229401496703205376 ∧
    ∀ (d g' s' : Int) H', (∀ b o, b ≠ p → H b = some o → H' b = some o) → H' p = some (.lst [.int g', .int s']) → 0 ≤ g' → 0 ≤ s' → s' < 2305843009213693951 → 0 ≤ d → d < m → Q (.int d) H'
  | _ => False
abbrev N__law_draw : List Str := ["_law_pot_here", "_law_many", "_law_digit", "_law_mixed"]
theorem sc__law_draw : FnScope N__law_draw ["_law_pot_here", "_law_many"] (defScope s__law_draw) := ⟨rfl, rfl, rfl, by decide +kernel, rfl, by decide +kernel, by decide +kernel⟩
theorem f__law_draw {W : Wd} {mg : Str → Option Value} {base : Heap} (B : Bi mg) {f : Addr} {fd : FuncData} (F : Fun W.K "_law_draw" "_law_draw" s__law_draw f fd)  : FnOk W.P W.w W.K mg base CX0 1 f fd ["_law_pot_here", "_law_many"] (sp__law_draw W) := by
  have nd := sc__law_draw.nd
  have F0 : FnOk W.P W.w W.K mg base CX0 1 f fd ["_law_pot_here", "_law_many"] (sp0__law_draw W) := by
    refine F.ok sc__law_draw (fun vs H Q E h => ?_) (fun cdv A outer s H vs Q E hr h => ?_)
    · match vs, h with | [_, _], _ => rfl
    · match vs, h with
      | [v_pot_here, v_many], h =>
        change sp0__law_draw W [v_pot_here, v_many] H Q E at h
        refine ⟨tSeq (tIfS (tTest (tOp (rGtU) (tOp (rIxU W.K) (tVar 0) (tC (.int 0))) (tC (.int 0)))) (tSeq (tAsg (tTup (tCons (tOp (rDivU) (tOp (rIxU W.K) (tVar 0) (tC (.int 0))) (tVar 1)) (tCons (tOp (rModU) (tOp (rIxU W.K) (tVar 0) (tC (.int 0))) (tVar 1)) (tNil)))) (gTup W.K 2 (gCons (gSub (tVar 0) (tC (.int 0)) rSetU) (gCons (gName 2) (gNil))))) (tRet (tVar 2))) (tNext)) (tSeq (tAsg (tOp (rModU) (tOp (rAddU W.K) (tOp (rMulU W.K) (tOp (rIxU W.K) (tVar 0) (tC (.int 1))) (tC (.int 6364136223846793005))) (tC (.int 1442695040888963407))) (tC (.int 2305843009213693951))) (gSub (tVar 0) (tC (.int 1)) rSetU)) (tSeq (tAsg (tOp (rDivU) (tOp (rIxU W.K) (tVar 0) (tC (.int 1))) (tC (.int 131071))) (gName 3)) (tRet (tOp (rModU) (tOp (rDivU) (tOp (rModU) (tOp (rMulU W.K) (tVar 3) (tVar 3)) (tC (.int 1000000007))) (tC (.int 7))) (tVar 1))))), pss_cons (ps_if (pt_cmpR u_gt (pe_ix u_ix (pv 0) (pe_int) (fun _ _ => rfl)) (pe_int) (nomark _)) (pss_cons (ps_asg (pe_tup (pa_cons (pe_op u_div (pe_ix u_ix (pv 0) (pe_int) (fun _ _ => rfl)) (pv 1)) (pa_cons (pe_op u_mod (pe_ix u_ix (pv 0) (pe_int) (fun _ _ => rfl)) (pv 1)) (pa_nil)))) (pg_tup rfl (pgs_cons (pg_sub (pv 0) (pe_int) (u_set hr.units)) (pgs_cons (pg_name (i := 2) nd rfl (by first | exact Or.inl rfl | exact Or.inr rfl)) (pgs_nil))))) (pss_one (ps_ret (pv 2)))) (pss_nil)) (pss_cons (ps_asg (pe_op u_mod (pe_op u_add (pe_op u_mul (pe_ix u_ix (pv 0) (pe_int) (fun _ _ => rfl)) (pe_int)) (pe_int)) (pe_int)) (pg_sub (pv 0) (pe_int) (u_set hr.units))) (pss_cons (ps_set (i := 3) nd rfl (.inl rfl) (pe_op u_div (pe_ix u_ix (pv 0) (pe_int) (fun _ _ => rfl)) (pe_int))) (pss_one (ps_ret (pe_op u_mod (pe_op u_div (pe_op u_mod (pe_op u_mul (pv 3) (pv 3)) (pe_int)) (pe_int)) (pv 1)))))), ?_⟩
        clear hr
        rw [show L2.start N__law_draw [v_pot_here, v_many] = [some v_pot_here, some v_many, none, none] from rfl]
        obtain ⟨p, g, s, m, rfl, rfl, hp, hg, hs, hs2, hm, hm2, q⟩ := h
        walk_at "Zs"
        refine w_dec (fun h0 => ?_) (fun h0 => ?_)
        · walk_at "Zs"
          rename_i t H1 ht e1 e2
          refine w_gtup (SqT.of e2) rfl ?_
          walk_at "Zs"
          have hp1 := e1 _ _ hp
          refine w_setl hp1 (j := 0) rfl ?_
          walk_at "Zs"
          refine q _ (g / m) s _ (fun b o hb e => ?_) upd_same (Int.ediv_nonneg hg (by omega)) hs hs2 (Int.emod_nonneg _ (by omega)) (Int.emod_lt_of_pos _ hm)
          rw [upd_ne hb]
          exact e1 _ _ e
        · walk_at "Zs"
          refine w_setl hp (j := 1) rfl ?_
          have hp1 : upd H p (.lst [.int g, .int ((s * 6364136223846793005 + 1442695040888963407) % 2305843009213693951)]) p = some (.lst [.int g, .int ((s * 6364136223846793005 + 1442695040888963407) % 2305843009213693951)]) := upd_same
          walk_at "Zs"
          refine q _ g _ _ (fun b o hb e => ?_) upd_same hg (by omega) (by omega) (Int.emod_nonneg _ (by omega)) (Int.emod_lt_of_pos _ hm)
          rw [upd_ne hb]
          exact e
  refine fn_view pot_flat F0 (fun vs H Q E h => ?_) fun vs H Q E h => ?_
  · match vs, h with | [_, _], _ => rfl
  · match vs, h with
    | [v1, v2], h =>
      obtain ⟨m, ⟨p, rfl, hp⟩, rfl, hm, hm2, q⟩ := h
      refine ⟨p, hp, fun u hu => ?_⟩
      obtain ⟨g, s, rfl, hg, hs, hs2⟩ := hu
      refine ⟨p, g, s, m, rfl, rfl, upd_same, hg, hs, hs2, hm, hm2, fun d g' s' H' e1 e2 h1 h2 h3 h4 h5 => ?_⟩
      refine ⟨_, ⟨g', s', rfl, h1, h2, h3⟩, e2, q d _ (fun b o e => ?_) h4 h5⟩
      by_cases hb : b = p
      · subst hb
        rw [upd_same, ← hp, e]
      · rw [upd_ne hb]
        exact e1 b o hb (by rw [upd_ne hb]; exact e)
theorem c__law_draw {W : Wd} {mg : Str → Option Value} {base : Heap} (B : Bi mg) (S : Src W.K mg "_law_draw" s__law_draw)  : Cal W mg base "_law_draw" 1 ["_law_pot_here", "_law_many"] (sp__law_draw W) := by
  obtain ⟨f, fd, g, F⟩ := S
  exact ⟨f, fd, g, f__law_draw B F , F.kp, (F.binds (ps := ["_law_pot_here", "_law_many"]) fun _ _ _ _ _ _ us hl => match us, hl with | [_, _], _ => rfl)⟩
theorem go__law_draw {W : Wd} {H : Hp} {Q : VK} {E : XK} {v : V} {m : Int} (hp : PotAt W H v) (h0 : 0 < m) (h1 : m < 1267650600228229401496703205376) (k : ∀ (d : Int) H', Same H H' → 0 ≤ d → d < m → Q (.int d) H') : sp__law_draw W [v, .int m] H Q E := ⟨m, hp, rfl, h0, h1, k⟩
local macro_rules | `(tactic| walk_at "Zc") => `(tactic| ((with_reducible refine' go__law_draw ?hp ?h0 ?h1 ?_); (case hp => walk_at "Zpot"); (case h0 => walk_at "Znum"); (case h1 => walk_at "Znum"); intro d H' e h0 h1))
def sp__law_value (W : Wd) : Sp := fun vs H Q _ => match vs with
  | [v_pot_here, v_breadth] =>
  ∃ b : Int, PotAt W H v_pot_here ∧ v_breadth = .int b ∧ 0 ≤ b ∧ b ≤ 60 ∧ ∀ (n : Int) H', Same H H' → 0 ≤ n → n < p2 b → Q (.int n) H'
  | _ => False
abbrev N__law_value : List Str := ["_law_pot_here", "_law_breadth", "_law_top", "_law_far", "_law_turn", "_law_some"]
theorem sc__law_value : FnScope N__law_value ["_law_pot_here", "_law_breadth"] (defScope s__law_value) := ⟨rfl, rfl, rfl, by decide +kernel, rfl, by decide +kernel, by decide +kernel⟩
theorem f__law_value {W : Wd} {mg : Str → Option Value} {base : Heap} (B : Bi mg) {f : Addr} {fd : FuncData} (F : Fun W.K "_law_value" "_law_value" s__law_value f fd) (C__law_draw : Cal W mg base "_law_draw" 1 ["_law_pot_here", "_law_many"] (sp__law_draw W)) : FnOk W.P W.w W.K mg base CX0 2 f fd ["_law_pot_here", "_law_breadth"] (sp__law_value W) := by
  obtain ⟨a__law_draw, d__law_draw, g__law_draw, F__law_draw, k__law_draw, b__law_draw⟩ := C__law_draw
  have nd := sc__law_value.nd
  have F0 : FnOk W.P W.w W.K mg base CX0 2 f fd ["_law_pot_here", "_law_breadth"] (sp__law_value W) := by
    refine F.ok sc__law_value (fun vs H Q E h => ?_) (fun cdv A outer s H vs Q E hr h => ?_)
    · match vs, h with | [_, _], _ => rfl
    · match vs, h with
      | [v_pot_here, v_breadth], h =>
        change sp__law_value W [v_pot_here, v_breadth] H Q E at h
        refine ⟨tSeq (tAsg (tOp (rSubU) (tOp (rShlU) (tC (.int 1)) (tVar 1)) (tC (.int 1))) (gName 2)) (tSeq (tAsg (tC (.int 0)) (gName 3)) (tSeq (tFor (iRng1 (tCons (tC (.int 3)) (tNil))) (gName 4) (tAsg (tOp (rAddU W.K) (tOp (rMulU W.K) (tVar 3) (tOp (rCon 1 20 1048576) (tC (.int 1)) (tC (.int 20)))) (tCall (sp__law_draw W) [] E0 (tCons (tVar 0) (tCons (tOp (rCon 1 20 1048576) (tC (.int 1)) (tC (.int 20))) (tNil))))) (gName 3))) (tSeq (tAsg (tLst (tCons (tC (.int 0)) (tCons (tVar 2) (tCons (tOp (rDivU) (tVar 2) (tC (.int 2))) (tCons (tCB (rMin2) (tCons (tVar 2) (tCons (tOp (rAddU W.K) (tOp (rDivU) (tVar 2) (tC (.int 2))) (tC (.int 1))) (tNil)))) (tCons (tCB (rMin2) (tCons (tVar 2) (tCons (tCall (sp__law_draw W) [] E0 (tCons (tVar 0) (tCons (tC (.int 4)) (tNil)))) (tNil)))) (tCons (tOp (rModU) (tVar 3) (tOp (rAddU W.K) (tVar 2) (tC (.int 1)))) (tCons (tOp (rModU) (tVar 3) (tOp (rAddU W.K) (tVar 2) (tC (.int 1)))) (tNil))))))))) (gName 5)) (tRet (tOp (rIxU W.K) (tVar 5) (tCall (sp__law_draw W) [] E0 (tCons (tVar 0) (tCons (tC (.int 7)) (tNil))))))))), pss_cons (ps_set (i := 2) nd rfl (.inl rfl) (pe_op u_sub (pe_op u_shl (pe_int) (pv 1)) (pe_int))) (pss_cons (ps_set (i := 3) nd rfl (.inl rfl) (pe_int)) (pss_cons (ps_for PassesOwn.never rfl (pi_range1 (by rfl) B.b_range (pa_cons (pe_int) (pa_nil))) (pg_name (i := 4) nd rfl (by first | exact Or.inl rfl | exact Or.inr rfl)) (pss_one (ps_set (i := 3) nd rfl (.inl rfl) (pe_op u_add (pe_op u_mul (pv 3) (pe_op (u_shlc ⟨by decide, by decide, by decide⟩ (by decide +kernel)) pe_int pe_int)) (pe_call F__law_draw (hr.mono (by decide)) (by rfl) g__law_draw k__law_draw b__law_draw .nil pass0 (pa_cons (pv 0) (pa_cons (pe_op (u_shlc ⟨by decide, by decide, by decide⟩ (by decide +kernel)) pe_int pe_int) (pa_nil)))))))) (pss_cons (ps_set (i := 5) nd rfl (.inl rfl) (pe_lst (pa_cons (pe_int) (pa_cons (pv 2) (pa_cons (pe_op u_div (pv 2) (pe_int)) (pa_cons (pe_callB (call_min2 rfl) (by rfl) B.b_min (by decide +kernel) (pa_cons (pv 2) (pa_cons (pe_op u_add (pe_op u_div (pv 2) (pe_int)) (pe_int)) (pa_nil)))) (pa_cons (pe_callB (call_min2 rfl) (by rfl) B.b_min (by decide +kernel) (pa_cons (pv 2) (pa_cons (pe_call F__law_draw (hr.mono (by decide)) (by rfl) g__law_draw k__law_draw b__law_draw .nil pass0 (pa_cons (pv 0) (pa_cons (pe_int) (pa_nil)))) (pa_nil)))) (pa_cons (pe_op u_mod (pv 3) (pe_op u_add (pv 2) (pe_int))) (pa_cons (pe_op u_mod (pv 3) (pe_op u_add (pv 2) (pe_int))) (pa_nil)))))))))) (pss_one (ps_ret (pe_ix u_ix (pv 5) (pe_call F__law_draw (hr.mono (by decide)) (by rfl) g__law_draw k__law_draw b__law_draw .nil pass0 (pa_cons (pv 0) (pa_cons (pe_int) (pa_nil)))) (fun _ _ => rfl))))))), ?_⟩
        clear hr
        clear F__law_draw g__law_draw k__law_draw b__law_draw d__law_draw a__law_draw
        rw [show L2.start N__law_value [v_pot_here, v_breadth] = [some v_pot_here, some v_breadth, none, none, none, none] from rfl]
        obtain ⟨b, hp, rfl, hb0, hb1, q⟩ := h
        walk_at "Zs"
        refine forR0 (fun j σ' H' => Same H H' ∧ ∃ far y4 y5, σ' = [some v_pot_here, some (.int b), some (.int (p2 b - 1)), some (.int far), y4, y5] ∧ 0 ≤ far ∧ far < 1048576 ^ j) ⟨Same.refl _, 0, _, _, rfl, by decide, by decide⟩ (fun j σ' H' hj h => ?_) (fun σ' H' h => ?_)
        · obtain ⟨g1, far, y4, y5, rfl, hf1, hf2⟩ := h
          walk_at "Zs"
          refine ⟨?_, _, _, _, rfl, by omega, ?_⟩
          · walk_at "Zkt"
          · rw [Int.pow_succ]
            omega
        · obtain ⟨g1, far, y4, y5, rfl, hf1, hf2⟩ := h
          have pb := p2_pos b
          have m1 := Int.emod_nonneg far (Int.ne_of_gt pb)
          have m2 := Int.emod_lt_of_pos far pb
          have e1 : p2 b - 1 + 1 = p2 b := by omega
          walk_at "Zs"
          rw [e1] at *
          tbr_iter (fun n => 0 ≤ n ∧ n < p2 b)
          intro n hn
          refine q n _ ?_ hn.1 hn.2
          walk_at "Zkt"
  exact F0
theorem c__law_value {W : Wd} {mg : Str → Option Value} {base : Heap} (B : Bi mg) (S : Src W.K mg "_law_value" s__law_value) (C__law_draw : Cal W mg base "_law_draw" 1 ["_law_pot_here", "_law_many"] (sp__law_draw W)) : Cal W mg base "_law_value" 2 ["_law_pot_here", "_law_breadth"] (sp__law_value W) := by
  obtain ⟨f, fd, g, F⟩ := S
  exact ⟨f, fd, g, f__law_value B F C__law_draw, F.kp, (F.binds (ps := ["_law_pot_here", "_law_breadth"]) fun _ _ _ _ _ _ us hl => match us, hl with | [_, _], _ => rfl)⟩
theorem go__law_value {W : Wd} {H : Hp} {Q : VK} {E : XK} {v : V} {b : Int} (hp : PotAt W H v) (h0 : 0 ≤ b) (h1 : b ≤ 60) (q : ∀ (n : Int) H', Same H H' → 0 ≤ n → n < p2 b → Q (.int n) H') : sp__law_value W [v, .int b] H Q E := ⟨b, hp, rfl, h0, h1, q⟩
local macro_rules | `(tactic| walk_at "Zc") => `(tactic| ((with_reducible refine' go__law_value ?hp ?h0 ?h1 ?_); (case hp => walk_at "Zpot"); (case h0 => walk_at "Znum"); (case h1 => walk_at "Znum"); intro n H' e h0 h1))
def sp__law_whole (W : Wd) : Sp := fun vs H Q _ => match vs with
  | [v_thing] =>
  ∃ d, Dp W.K H v_thing d ∧ Q (.bl (isIntD d)) H
  | _ => False
abbrev N__law_whole : List Str := ["_law_thing"]
theorem sc__law_whole : FnScope N__law_whole ["_law_thing"] (defScope s__law_whole) := ⟨rfl, rfl, rfl, by decide +kernel, rfl, by decide +kernel, by decide +kernel⟩
theorem f__law_whole {W : Wd} {mg : Str → Option Value} {base : Heap} (B : Bi mg) {f : Addr} {fd : FuncData} (F : Fun W.K "_law_whole" "_law_whole" s__law_whole f fd)  : FnOk W.P W.w W.K mg base CX0 1 f fd ["_law_thing"] (sp__law_whole W) := by
  have nd := sc__law_whole.nd
  have F0 : FnOk W.P W.w W.K mg base CX0 1 f fd ["_law_thing"] (sp__law_whole W) := by
    refine F.ok sc__law_whole (fun vs H Q E h => ?_) (fun cdv A outer s H vs Q E hr h => ?_)
    · match vs, h with | [_], _ => rfl
    · match vs, h with
      | [v_thing], h =>
        change sp__law_whole W [v_thing] H Q E at h
        refine ⟨tRet (tAndV (tCB (rIsi W.K) (tCons (tVar 0) (tCons (tC (.ty "int")) tNil))) (tNotV (tCB (rIsi W.K) (tCons (tVar 0) (tCons (tC (.ty "bool")) tNil))))), pss_one (ps_ret (pe_and (pe_callB call_isi (by rfl) B.b_isinstance (by decide +kernel) (pa_cons (pv 0) (pa_cons (pe_bltn (v := .ty "int") (u := .type "int") (by rfl) B.b_int (by decide +kernel) rfl) pa_nil))) (pe_one (pe_not (pe_callB call_isi (by rfl) B.b_isinstance (by decide +kernel) (pa_cons (pv 0) (pa_cons (pe_bltn (v := .ty "bool") (u := .type "bool") (by rfl) B.b_bool (by decide +kernel) rfl) pa_nil))))))), ?_⟩
        clear hr
        rw [show L2.start N__law_whole [v_thing] = [some v_thing] from rfl]
        obtain ⟨d, hd, q⟩ := h
        walk_at "Zs"
        refine w_isint' hd ?_
        cases d with
        | int i =>
          walk_at "Zs"
          refine w_isbool' hd ?_
          walk_at "Zs"
          exact q
        | bool b =>
          walk_at "Zs"
          refine w_isbool' hd ?_
          walk_at "Zs"
          exact q
        | _ =>
          walk_at "Zs"
          exact q
  exact F0
theorem c__law_whole {W : Wd} {mg : Str → Option Value} {base : Heap} (B : Bi mg) (S : Src W.K mg "_law_whole" s__law_whole)  : Cal W mg base "_law_whole" 1 ["_law_thing"] (sp__law_whole W) := by
  obtain ⟨f, fd, g, F⟩ := S
  exact ⟨f, fd, g, f__law_whole B F , F.kp, (F.binds (ps := ["_law_thing"]) fun _ _ _ _ _ _ us hl => match us, hl with | [_], _ => rfl)⟩
theorem go__law_whole {W : Wd} {H : Hp} {Q : VK} {E : XK} {v : V} {d : PyData} (hd : Dp W.K H v d) (k : Q (.bl (isIntD d)) H) : sp__law_whole W [v] H Q E := ⟨d, hd, k⟩
local macro_rules | `(tactic| walk_at "Zc") => `(tactic| ((with_reducible refine' go__law_whole ?hd ?_); (case hd => walk_at "Zdp")))
def sp__law_base (W : Wd) : Sp := fun vs H Q _ => match vs with
  | [v_pot_here, v_w, v_value_here] =>
  ∃ w value : Int, PotAt W H v_pot_here ∧ v_w = .int w ∧ v_value_here = .int value ∧ 1 ≤ w ∧ w ≤ 60 ∧ ∀ (n : Int) H', Same H H' → 0 ≤ n → n < p2 w → Q (.int n) H'
  | _ => False
abbrev N__law_base : List Str := ["_law_pot_here", "_law_w", "_law_value_here", "_law_size", "_law_far", "_law_some"]
theorem sc__law_base : FnScope N__law_base ["_law_pot_here", "_law_w", "_law_value_here"] (defScope s__law_base) := ⟨rfl, rfl, rfl, by decide +kernel, rfl, by decide +kernel, by decide +kernel⟩
theorem f__law_base {W : Wd} {mg : Str → Option Value} {base : Heap} (B : Bi mg) {f : Addr} {fd : FuncData} (F : Fun W.K "_law_base" "_law_base" s__law_base f fd) (C__law_draw : Cal W mg base "_law_draw" 1 ["_law_pot_here", "_law_many"] (sp__law_draw W)) (C__law_value : Cal W mg base "_law_value" 2 ["_law_pot_here", "_law_breadth"] (sp__law_value W)) : FnOk W.P W.w W.K mg base CX0 3 f fd ["_law_pot_here", "_law_w", "_law_value_here"] (sp__law_base W) := by
  obtain ⟨a__law_draw, d__law_draw, g__law_draw, F__law_draw, k__law_draw, b__law_draw⟩ := C__law_draw
  obtain ⟨a__law_value, d__law_value, g__law_value, F__law_value, k__law_value, b__law_value⟩ := C__law_value
  have nd := sc__law_base.nd
  have F0 : FnOk W.P W.w W.K mg base CX0 3 f fd ["_law_pot_here", "_law_w", "_law_value_here"] (sp__law_base W) := by
    refine F.ok sc__law_base (fun vs H Q E h => ?_) (fun cdv A outer s H vs Q E hr h => ?_)
    · match vs, h with | [_, _, _], _ => rfl
    · match vs, h with
      | [v_pot_here, v_w, v_value_here], h =>
        change sp__law_base W [v_pot_here, v_w, v_value_here] H Q E at h
        refine ⟨tSeq (tAsg (tOp (rShlU) (tC (.int 1)) (tVar 1)) (gName 3)) (tSeq (tAsg (tOp (rSubU) (tOp (rAddU W.K) (tOp (rShlU) (tC (.int 1)) (tCall (sp__law_draw W) [] E0 (tCons (tVar 0) (tCons (tVar 1) (tNil))))) (tCall (sp__law_draw W) [] E0 (tCons (tVar 0) (tCons (tC (.int 3)) (tNil))))) (tC (.int 1))) (gName 4)) (tSeq (tAsg (tLst (tCons (tVar 2) (tCons (tOp (rAddU W.K) (tVar 2) (tCall (sp__law_draw W) [] E0 (tCons (tVar 0) (tCons (tC (.int 5)) (tNil))))) (tCons (tOp (rSubU) (tVar 2) (tCall (sp__law_draw W) [] E0 (tCons (tVar 0) (tCons (tC (.int 5)) (tNil))))) (tCons (tOp (rAddU W.K) (tVar 2) (tVar 4)) (tCons (tOp (rSubU) (tVar 2) (tVar 4)) (tCons (tCall (sp__law_value W) [] E0 (tCons (tVar 0) (tCons (tVar 1) (tNil)))) (tNil)))))))) (gName 5)) (tRet (tOp (rModU) (tOp (rIxU W.K) (tVar 5) (tCall (sp__law_draw W) [] E0 (tCons (tVar 0) (tCons (tC (.int 6)) (tNil))))) (tVar 3))))), pss_cons (ps_set (i := 3) nd rfl (.inl rfl) (pe_op u_shl (pe_int) (pv 1))) (pss_cons (ps_set (i := 4) nd rfl (.inl rfl) (pe_op u_sub (pe_op u_add (pe_op u_shl (pe_int) (pe_call F__law_draw (hr.mono (by decide)) (by rfl) g__law_draw k__law_draw b__law_draw .nil pass0 (pa_cons (pv 0) (pa_cons (pv 1) (pa_nil))))) (pe_call F__law_draw (hr.mono (by decide)) (by rfl) g__law_draw k__law_draw b__law_draw .nil pass0 (pa_cons (pv 0) (pa_cons (pe_int) (pa_nil))))) (pe_int))) (pss_cons (ps_set (i := 5) nd rfl (.inl rfl) (pe_lst (pa_cons (pv 2) (pa_cons (pe_op u_add (pv 2) (pe_call F__law_draw (hr.mono (by decide)) (by rfl) g__law_draw k__law_draw b__law_draw .nil pass0 (pa_cons (pv 0) (pa_cons (pe_int) (pa_nil))))) (pa_cons (pe_op u_sub (pv 2) (pe_call F__law_draw (hr.mono (by decide)) (by rfl) g__law_draw k__law_draw b__law_draw .nil pass0 (pa_cons (pv 0) (pa_cons (pe_int) (pa_nil))))) (pa_cons (pe_op u_add (pv 2) (pv 4)) (pa_cons (pe_op u_sub (pv 2) (pv 4)) (pa_cons (pe_call F__law_value (hr.mono (by decide)) (by rfl) g__law_value k__law_value b__law_value .nil pass0 (pa_cons (pv 0) (pa_cons (pv 1) (pa_nil)))) (pa_nil))))))))) (pss_one (ps_ret (pe_op u_mod (pe_ix u_ix (pv 5) (pe_call F__law_draw (hr.mono (by decide)) (by rfl) g__law_draw k__law_draw b__law_draw .nil pass0 (pa_cons (pv 0) (pa_cons (pe_int) (pa_nil)))) (fun _ _ => rfl)) (pv 3)))))), ?_⟩
        clear hr
        clear F__law_draw g__law_draw k__law_draw b__law_draw d__law_draw a__law_draw
        clear F__law_value g__law_value k__law_value b__law_value d__law_value a__law_value
        rw [show L2.start N__law_base [v_pot_here, v_w, v_value_here] = [some v_pot_here, some v_w, some v_value_here, none, none, none] from rfl]
        obtain ⟨w, value, hp, rfl, rfl, h0, h1, q⟩ := h
        have pw := p2_pos w
        walk_at "Zs"
        tbr_iter (fun _ => True)
        intro n _
        walk_at "Zs"
        refine q _ _ ?_ (Int.emod_nonneg _ (Int.ne_of_gt pw)) (Int.emod_lt_of_pos _ pw)
        walk_at "Zkt"
  exact F0
theorem c__law_base {W : Wd} {mg : Str → Option Value} {base : Heap} (B : Bi mg) (S : Src W.K mg "_law_base" s__law_base) (C__law_draw : Cal W mg base "_law_draw" 1 ["_law_pot_here", "_law_many"] (sp__law_draw W)) (C__law_value : Cal W mg base "_law_value" 2 ["_law_pot_here", "_law_breadth"] (sp__law_value W)) : Cal W mg base "_law_base" 3 ["_law_pot_here", "_law_w", "_law_value_here"] (sp__law_base W) := by
  obtain ⟨f, fd, g, F⟩ := S
  exact ⟨f, fd, g, f__law_base B F C__law_draw C__law_value, F.kp, (F.binds (ps := ["_law_pot_here", "_law_w", "_law_value_here"]) fun _ _ _ _ _ _ us hl => match us, hl with | [_, _, _], _ => rfl)⟩
theorem go__law_base {W : Wd} {H : Hp} {Q : VK} {E : XK} {v : V} {w value : Int} (hp : PotAt W H v) (h0 : 1 ≤ w) (h1 : w ≤ 60) (q : ∀ (n : Int) H', Same H H' → 0 ≤ n → n < p2 w → Q (.int n) H') : sp__law_base W [v, .int w, .int value] H Q E := ⟨w, value, hp, rfl, rfl, h0, h1, q⟩
local macro_rules | `(tactic| walk_at "Zc") => `(tactic| ((with_reducible refine' go__law_base ?hp ?h0 ?h1 ?_); (case hp => walk_at "Zpot"); (case h0 => walk_at "Znum"); (case h1 => walk_at "Znum"); intro n H' e h0 h1))
def dueB (w below value : Int) (wd : Int) (b : Int) : Bool := decide ((value - b + below) % p2 w < p2 wd)
def sp__law_due (W : Wd) : Sp := fun vs H Q _ => match vs with
  | [v_w, v_below, v_bases, v_value_here] =>
  ∃ (w below value : Int) (a : Addr) (bs : List Int), v_w = .int w ∧ v_below = .int below ∧ v_bases = .ref a ∧ v_value_here = .int value ∧ SqT W.K H a (bs.map V.int) ∧ bs.length ≤ 1000 ∧ 0 ≤ w ∧ w ≤ 1000 ∧
    (∀ (n : Nat) H', Same H H' → (n : Int) ≤ w → bs.all (dueB w below value n) = true → (∀ u : Nat, u < n → bs.all (dueB w below value u) = false) → Q (.int n) H') ∧ (∀ H', Same H H' → (∀ u : Nat, (u : Int) ≤ w → bs.all (dueB w below value u) = false) → Q .non H')
  | _ => False
abbrev N__law_due : List Str := ["_law_w", "_law_below", "_law_bases", "_law_value_here", "_law_width", "_law_base_here"]
theorem sc__law_due : FnScope N__law_due ["_law_w", "_law_below", "_law_bases", "_law_value_here"] (defScope s__law_due) := ⟨rfl, rfl, rfl, by decide +kernel, rfl, by decide +kernel, by decide +kernel⟩
theorem f__law_due {W : Wd} {mg : Str → Option Value} {base : Heap} (B : Bi mg) {f : Addr} {fd : FuncData} (F : Fun W.K "_law_due" "_law_due" s__law_due f fd)  : FnOk W.P W.w W.K mg base CX0 1 f fd ["_law_w", "_law_below", "_law_bases", "_law_value_here"] (sp__law_due W) := by
  have nd := sc__law_due.nd
  have F0 : FnOk W.P W.w W.K mg base CX0 1 f fd ["_law_w", "_law_below", "_law_bases", "_law_value_here"] (sp__law_due W) := by
    refine F.ok sc__law_due (fun vs H Q E h => ?_) (fun cdv A outer s H vs Q E hr h => ?_)
    · match vs, h with | [_, _, _, _], _ => rfl
    · match vs, h with
      | [v_w, v_below, v_bases, v_value_here], h =>
        change sp__law_due W [v_w, v_below, v_bases, v_value_here] H Q E at h
        refine ⟨tSeq (tFor (iRng1 (tCons (tOp (rAddU W.K) (tVar 0) (tC (.int 1))) (tNil))) (gName 4) (tIfS (tB (tCB (rAll W.K) (tCons (tLc (iAny W.K (tVar 2)) (gName 5) (tYes) (tOp (rLtU W.K) (tOp (rModU) (tOp (rAddU W.K) (tOp (rSubU) (tVar 3) (tVar 5)) (tVar 1)) (tOp (rShlU) (tC (.int 1)) (tVar 0))) (tOp (rShlU) (tC (.int 1)) (tVar 4))) [5]) (tNil)))) (tRet (tVar 4)) (tNext))) (tRet (tC .non)), pss_cons (ps_for PassesOwn.never rfl (pi_range1 (by rfl) B.b_range (pa_cons (pe_op u_add (pv 0) (pe_int)) (pa_nil))) (pg_name (i := 4) nd rfl (by first | exact Or.inl rfl | exact Or.inr rfl)) (pss_one (ps_if (pt_val (pe_callB (cr_all rfl) (by rfl) B.b_all (by decide +kernel) (pa_cons (pe_lc (own := [("_law_base_here", 5)]) rfl nd (pi_any (pv 2)) (blkOk_by (own := [("_law_base_here", 5)]) (N := N__law_due) (sc := defScope s__law_due) (by decide +kernel)) (fun _ _ _ _ _ => pg_name (i := 5) nd rfl (by first | exact Or.inl rfl | exact Or.inr rfl)) (fun _ _ _ _ _ => pts_nil) (fun _ _ _ _ _ => pe_cmpR u_lt (pe_op u_mod (pe_op u_add (pe_op u_sub (pv 3) (pv 5)) (pv 1)) (pe_op u_shl (pe_int) (pv 0))) (pe_op u_shl (pe_int) (pv 4)) (nomark _))) (pa_nil)))) (pss_one (ps_ret (pv 4))) (pss_nil)))) (pss_one (ps_ret (pe_non))), ?_⟩
        clear hr
        rw [show L2.start N__law_due [v_w, v_below, v_bases, v_value_here] = [some v_w, some v_below, some v_bases, some v_value_here, none, none] from rfl]
        obtain ⟨w, below, value, a, bs, rfl, rfl, rfl, rfl, hS, hl, h0, h1, q, q2⟩ := h
        have pw := p2_pos w
        walk_at "Zs"
        refine forR0 (fun i σ' H' => Same H H' ∧ (∃ y5 y6, σ' = [some (.int w), some (.int below), some (.ref a), some (.int value), y5, y6]) ∧ ∀ u : Nat, u < i → bs.all (dueB w below value u) = false) ⟨Same.refl _, ⟨_, _, rfl⟩, fun u hu => by omega⟩ (fun n σ' H1 hi h => ?_) (fun σ' H1 h => ?_)
        · obtain ⟨e1, ⟨y5, y6, rfl⟩, hu⟩ := h
          walk_at "Zs"
          refine w_goT (same_t e1 hS) ?_
          refine lcT (same_t e1 hS) (fun i acc _ => acc = (bs.take i).map fun b => V.bl (dueB w below value n b)) stb_pure (by rw [List.length_map]; omega) (fun i acc H' e => by rw [e, List.length_map, List.length_take]; omega) (fun H' _ => rfl) (fun i x acc H' hx e2 ea k k' hk hk' => ?_) fun D acc H' hD e2 hD' ea => ?_
          · obtain ⟨b, eb, rfl⟩ : ∃ b, bs[i]? = some b ∧ V.int b = x := by
              rw [List.getElem?_map] at hx
              cases e : bs[i]? with
              | none => rw [e] at hx; cases hx
              | some b => rw [e] at hx; exact ⟨b, rfl, Option.some.inj hx⟩
            walk_at "Zs"
            refine hk _ _ (Same.refl _) ?_
            rw [List.take_add_one, eb, List.map_append, ea]
            rfl
          · rw [List.length_map, List.take_length] at ea
            walk_at "Zs"
            refine w_all (bs := bs.map (dueB w below value n)) ?_ ?_
            · refine SqL.of ?_
              rw [hD', ea, List.map_map]
              rfl
            · have e : (bs.map (dueB w below value n)).all id = bs.all (dueB w below value n) := by
                rw [List.all_map]
                rfl
              rw [e]
              walk_at "Zs"
              refine w_bool (fun c => ?_) (fun c => ?_)
              · walk_at "Zs"
                exact q n H' (e1.trans e2) (by omega) c hu
              · walk_at "Zs"
                refine ⟨e1.trans e2, ⟨_, _, rfl⟩, fun u h1 => ?_⟩
                by_cases e : u = n
                · subst e
                  exact c
                · exact hu u (by omega)
        · obtain ⟨e1, ⟨y5, y6, rfl⟩, hu⟩ := h
          walk_at "Zs"
          exact q2 H1 e1 fun u h => hu u (by omega)
  exact F0
theorem c__law_due {W : Wd} {mg : Str → Option Value} {base : Heap} (B : Bi mg) (S : Src W.K mg "_law_due" s__law_due)  : Cal W mg base "_law_due" 1 ["_law_w", "_law_below", "_law_bases", "_law_value_here"] (sp__law_due W) := by
  obtain ⟨f, fd, g, F⟩ := S
  exact ⟨f, fd, g, f__law_due B F , F.kp, (F.binds (ps := ["_law_w", "_law_below", "_law_bases", "_law_value_here"]) fun _ _ _ _ _ _ us hl => match us, hl with | [_, _, _, _], _ => rfl)⟩
theorem go__law_due {W : Wd} {H : Hp} {Q : VK} {E : XK} {w below value : Int} {a : Addr} {bs : List Int} (hS : SqT W.K H a (bs.map V.int)) (hl : bs.length ≤ 1000) (h0 : 0 ≤ w) (h1 : w ≤ 1000)
    (q : ∀ (n : Nat) H', Same H H' → (n : Int) ≤ w → bs.all (dueB w below value n) = true → (∀ u : Nat, u < n → bs.all (dueB w below value u) = false) → Q (.int n) H') (q2 : ∀ H', Same H H' → (∀ u : Nat, (u : Int) ≤ w → bs.all (dueB w below value u) = false) → Q .non H') : sp__law_due W [.int w, .int below, .ref a, .int value] H Q E :=
  ⟨w, below, value, a, bs, rfl, rfl, rfl, rfl, hS, hl, h0, h1, q, q2⟩
theorem told_due {w below value : Int} {bs : List Int} {n : Nat} (h1 : (n : Int) ≤ w) (v0 : 0 ≤ value) (v1 : value < p2 w) : bs.all (toldB w below value n) = bs.all (dueB w below value n) := by
  induction bs with
  | nil => rfl
  | cons b r ih =>
    rw [List.all_cons, List.all_cons, ih, told_win (by omega) h1 v0 v1]
    rfl
def sp_law (W : Wd) : Sp := fun vs H Q _ => match vs with
  | [v_script] =>
  ∃ (a : Addr) (ns : List Int), v_script = .ref a ∧ SqL W.K H a (ns.map V.int) ∧ ns.length ≤ 63 ∧ (∀ z ∈ ns, Builtin.Int.intBits z ≤ 1048576) ∧ ∀ H', Q (.bl true) H'
  | _ => False
abbrev N_law : List Str := ["_law_script", "_law_k", "_law_pot_here", "_law_turn", "_law_w", "_law_value_here", "_law_bases", "_law_few", "_law_below", "_law_found", "_law_j"]
theorem sc_law : FnScope N_law ["_law_script"] (defScope s_law) := ⟨rfl, rfl, rfl, by decide +kernel, rfl, by decide +kernel, by decide +kernel⟩
theorem f_law {W : Wd} {mg : Str → Option Value} {base : Heap} (B : Bi mg) {f : Addr} {fd : FuncData} (F : Fun W.K "law" "law" s_law f fd) (C__law_whole : Cal W mg base "_law_whole" 1 ["_law_thing"] (sp__law_whole W)) (C__law_due : Cal W mg base "_law_due" 1 ["_law_w", "_law_below", "_law_bases", "_law_value_here"] (sp__law_due W)) (C_narrowest : Cal W mg base "narrowest" 5 ["w", "below", "bases", "value"] (sp_narrowest W)) (C__law_value : Cal W mg base "_law_value" 2 ["_law_pot_here", "_law_breadth"] (sp__law_value W)) (C__law_draw : Cal W mg base "_law_draw" 1 ["_law_pot_here", "_law_many"] (sp__law_draw W)) (C__law_base : Cal W mg base "_law_base" 3 ["_law_pot_here", "_law_w", "_law_value_here"] (sp__law_base W)) (C__law_pot : Cal W mg base "_law_pot" 1 ["_law_script", "_law_k"] (sp__law_pot W)) : FnOk W.P W.w W.K mg base CX0 6 f fd ["_law_script"] (sp_law W) := by
  obtain ⟨a__law_whole, d__law_whole, g__law_whole, F__law_whole, k__law_whole, b__law_whole⟩ := C__law_whole
  obtain ⟨a__law_due, d__law_due, g__law_due, F__law_due, k__law_due, b__law_due⟩ := C__law_due
  obtain ⟨a_narrowest, d_narrowest, g_narrowest, F_narrowest, k_narrowest, b_narrowest⟩ := C_narrowest
  obtain ⟨a__law_value, d__law_value, g__law_value, F__law_value, k__law_value, b__law_value⟩ := C__law_value
  obtain ⟨a__law_draw, d__law_draw, g__law_draw, F__law_draw, k__law_draw, b__law_draw⟩ := C__law_draw
  obtain ⟨a__law_base, d__law_base, g__law_base, F__law_base, k__law_base, b__law_base⟩ := C__law_base
  obtain ⟨a__law_pot, d__law_pot, g__law_pot, F__law_pot, k__law_pot, b__law_pot⟩ := C__law_pot
  have nd := sc_law.nd
  have F0 : FnOk W.P W.w W.K mg base CX0 6 f fd ["_law_script"] (sp_law W) := by
    refine F.ok sc_law (fun vs H Q E h => ?_) (fun cdv A outer s H vs Q E hr h => ?_)
    · match vs, h with | [_], _ => rfl
    · match vs, h with
      | [v_script], h =>
        change sp_law W [v_script] H Q E at h
        refine ⟨tSeq (tFor (iRng1 (tCons (tOp (rAddU W.K) (tC (.int 2)) (tCB (rMin2) (tCons (tC (.int 16)) (tCons (tCB (rLenU W.K) (tCons (tVar 0) (tNil))) (tNil))))) (tNil))) (gName 1) (tSeq (tAsg (tCall (sp__law_pot W) [] E0 (tCons (tVar 0) (tCons (tVar 1) (tNil)))) (gName 2)) (tFor (iRng1 (tCons (tC (.int 3)) (tNil))) (gName 3) (tSeq (tAsg (tOp (rIxU W.K) (tLst (tCons (tC (.int 1)) (tCons (tC (.int 2)) (tCons (tOp (rAddU W.K) (tC (.int 1)) (tCall (sp__law_draw W) [] E0 (tCons (tVar 2) (tCons (tC (.int 8)) (tNil))))) (tCons (tOp (rAddU W.K) (tC (.int 1)) (tCall (sp__law_draw W) [] E0 (tCons (tVar 2) (tCons (tC (.int 40)) (tNil))))) (tCons (tC (.int 40)) (tNil))))))) (tCall (sp__law_draw W) [] E0 (tCons (tVar 2) (tCons (tC (.int 5)) (tNil))))) (gName 4)) (tSeq (tAsg (tCall (sp__law_value W) [] E0 (tCons (tVar 2) (tCons (tVar 4) (tNil)))) (gName 5)) (tSeq (tAsg (tCB (rTupleOf W.K) (tCons (tLc (iRng1 (tCons (tCall (sp__law_draw W) [] E0 (tCons (tVar 2) (tCons (tC (.int 7)) (tNil)))) (tNil))) (gName 10) (tYes) (tCall (sp__law_base W) [] E0 (tCons (tVar 2) (tCons (tVar 4) (tCons (tVar 5) (tNil))))) [10]) (tNil))) (gName 6)) (tSeq (tAsg (tCB (rMin2) (tCons (tCall (sp__law_draw W) [] E0 (tCons (tVar 2) (tCons (tC (.int 5)) (tNil)))) (tCons (tOp (rSubU) (tOp (rShlU) (tC (.int 1)) (tVar 4)) (tC (.int 1))) (tNil)))) (gName 7)) (tSeq (tAsg (tOp (rIxU W.K) (tLst (tCons (tC (.int 0)) (tCons (tVar 7) (tCons (tOp (rSubU) (tOp (rShlU) (tC (.int 1)) (tCall (sp__law_draw W) [] E0 (tCons (tVar 2) (tCons (tVar 4) (tNil))))) (tC (.int 1))) (tCons (tCall (sp__law_value W) [] E0 (tCons (tVar 2) (tCons (tVar 4) (tNil)))) (tNil)))))) (tCall (sp__law_draw W) [] E0 (tCons (tVar 2) (tCons (tC (.int 4)) (tNil))))) (gName 8)) (tSeq (tAsg (tCall (sp_narrowest W) [] E0 (tCons (tVar 4) (tCons (tVar 8) (tCons (tVar 6) (tCons (tVar 5) (tNil)))))) (gName 9)) (tIfS (tOr (tNot (tB (tCall (sp__law_whole W) [] E0 (tCons (tVar 9) (tNil))))) (tTest (tOp (rNeU W.K) (tVar 9) (tCall (sp__law_due W) [] E0 (tCons (tVar 4) (tCons (tVar 8) (tCons (tVar 6) (tCons (tVar 5) (tNil))))))))) (tRet (tC (.bl false))) (tNext))))))))))) (tRet (tC (.bl true))), pss_cons (ps_for PassesOwn.never rfl (pi_range1 (by rfl) B.b_range (pa_cons (pe_op u_add (pe_int) (pe_callB (call_min2 rfl) (by rfl) B.b_min (by decide +kernel) (pa_cons (pe_int) (pa_cons (pe_callB u_len (by rfl) B.b_len (by decide +kernel) (pa_cons (pv 0) (pa_nil))) (pa_nil))))) (pa_nil))) (pg_name (i := 1) nd rfl (by first | exact Or.inl rfl | exact Or.inr rfl)) (pss_cons (ps_set (i := 2) nd rfl (.inr rfl) (pe_call F__law_pot (hr.mono (by decide)) (by rfl) g__law_pot k__law_pot b__law_pot .nil pass0 (pa_cons (pv 0) (pa_cons (pv 1) (pa_nil))))) (pss_one (ps_for PassesOwn.never rfl (pi_range1 (by rfl) B.b_range (pa_cons (pe_int) (pa_nil))) (pg_name (i := 3) nd rfl (by first | exact Or.inl rfl | exact Or.inr rfl)) (pss_cons (ps_set (i := 4) nd rfl (.inr rfl) (pe_ix u_ix (pe_lst (pa_cons (pe_int) (pa_cons (pe_int) (pa_cons (pe_op u_add (pe_int) (pe_call F__law_draw (hr.mono (by decide)) (by rfl) g__law_draw k__law_draw b__law_draw .nil pass0 (pa_cons (pv 2) (pa_cons (pe_int) (pa_nil))))) (pa_cons (pe_op u_add (pe_int) (pe_call F__law_draw (hr.mono (by decide)) (by rfl) g__law_draw k__law_draw b__law_draw .nil pass0 (pa_cons (pv 2) (pa_cons (pe_int) (pa_nil))))) (pa_cons (pe_int) (pa_nil))))))) (pe_call F__law_draw (hr.mono (by decide)) (by rfl) g__law_draw k__law_draw b__law_draw .nil pass0 (pa_cons (pv 2) (pa_cons (pe_int) (pa_nil)))) (fun _ _ => rfl))) (pss_cons (ps_set (i := 5) nd rfl (.inr rfl) (pe_call F__law_value (hr.mono (by decide)) (by rfl) g__law_value k__law_value b__law_value .nil pass0 (pa_cons (pv 2) (pa_cons (pv 4) (pa_nil))))) (pss_cons (ps_set (i := 6) nd rfl (.inl rfl) (pe_callTy call_tuple_of (by rfl) B.b_tuple (by decide +kernel) (pa_cons (pe_lc (own := [("_law_j", 10)]) rfl nd (pi_range1 (by rfl) B.b_range (pa_cons (pe_call F__law_draw (hr.mono (by decide)) (by rfl) g__law_draw k__law_draw b__law_draw .nil pass0 (pa_cons (pv 2) (pa_cons (pe_int) (pa_nil)))) (pa_nil))) (blkOk_by (own := [("_law_j", 10)]) (N := N_law) (sc := defScope s_law) (by decide +kernel)) (fun _ _ _ _ _ => pg_name (i := 10) nd rfl (by first | exact Or.inl rfl | exact Or.inr rfl)) (fun _ _ _ _ _ => pts_nil) (fun _ _ _ _ _ => pe_call F__law_base (hr.mono (by decide)) (by rfl) g__law_base k__law_base b__law_base .nil pass0 (pa_cons (pv 2) (pa_cons (pv 4) (pa_cons (pv 5) (pa_nil)))))) (pa_nil)))) (pss_cons (ps_set (i := 7) nd rfl (.inl rfl) (pe_callB (call_min2 rfl) (by rfl) B.b_min (by decide +kernel) (pa_cons (pe_call F__law_draw (hr.mono (by decide)) (by rfl) g__law_draw k__law_draw b__law_draw .nil pass0 (pa_cons (pv 2) (pa_cons (pe_int) (pa_nil)))) (pa_cons (pe_op u_sub (pe_op u_shl (pe_int) (pv 4)) (pe_int)) (pa_nil))))) (pss_cons (ps_set (i := 8) nd rfl (.inl rfl) (pe_ix u_ix (pe_lst (pa_cons (pe_int) (pa_cons (pv 7) (pa_cons (pe_op u_sub (pe_op u_shl (pe_int) (pe_call F__law_draw (hr.mono (by decide)) (by rfl) g__law_draw k__law_draw b__law_draw .nil pass0 (pa_cons (pv 2) (pa_cons (pv 4) (pa_nil))))) (pe_int)) (pa_cons (pe_call F__law_value (hr.mono (by decide)) (by rfl) g__law_value k__law_value b__law_value .nil pass0 (pa_cons (pv 2) (pa_cons (pv 4) (pa_nil)))) (pa_nil)))))) (pe_call F__law_draw (hr.mono (by decide)) (by rfl) g__law_draw k__law_draw b__law_draw .nil pass0 (pa_cons (pv 2) (pa_cons (pe_int) (pa_nil)))) (fun _ _ => rfl))) (pss_cons (ps_set (i := 9) nd rfl (.inl rfl) (pe_call F_narrowest (hr.mono (by decide)) (by rfl) g_narrowest k_narrowest b_narrowest .nil pass0 (pa_cons (pv 4) (pa_cons (pv 8) (pa_cons (pv 6) (pa_cons (pv 5) (pa_nil))))))) (pss_one (ps_if (PW.pt (pw_or (pt_not (pt_val (pe_call F__law_whole (hr.mono (by decide)) (by rfl) g__law_whole k__law_whole b__law_whole .nil pass0 (pa_cons (pv 9) (pa_nil))))) (pw_or1 (pt_cmpR (u_ne hr.units) (pv 9) (pe_call F__law_due (hr.mono (by decide)) (by rfl) g__law_due k__law_due b__law_due .nil pass0 (pa_cons (pv 4) (pa_cons (pv 8) (pa_cons (pv 6) (pa_cons (pv 5) (pa_nil)))))) (nomark _))))) (pss_one (ps_ret (pe_bl))) (pss_nil))))))))))))) (pss_one (ps_ret (pe_bl))), ?_⟩
        clear hr
        clear F__law_whole g__law_whole k__law_whole b__law_whole d__law_whole a__law_whole
        clear F__law_due g__law_due k__law_due b__law_due d__law_due a__law_due
        clear F_narrowest g_narrowest k_narrowest b_narrowest d_narrowest a_narrowest
        clear F__law_value g__law_value k__law_value b__law_value d__law_value a__law_value
        clear F__law_draw g__law_draw k__law_draw b__law_draw d__law_draw a__law_draw
        clear F__law_base g__law_base k__law_base b__law_base d__law_base a__law_base
        clear F__law_pot g__law_pot k__law_pot b__law_pot d__law_pot a__law_pot
        rw [show L2.start N_law [v_script] = [some v_script, none, none, none, none, none, none, none, none, none, none] from rfl]
        obtain ⟨a, ns, rfl, hS, hlen, hb, q⟩ := h
        walk_at "Zs"
        refine w_lenL hS ?_
        rw [List.length_map]
        walk_at "Zs"
        refine forR0 (fun i σ' H' => Same H H' ∧ ∃ y1 y2 y3 y4 y5 y6 y7 y8 y9 y10, σ' = [some (.ref a), y1, y2, y3, y4, y5, y6, y7, y8, y9, y10]) ⟨Same.refl _, _, _, _, _, _, _, _, _, _, _, rfl⟩ (fun i σ' H1 hi h => ?_) (fun σ' H1 h => ?_)
        · obtain ⟨e1, y1, y2, y3, y4, y5, y6, y7, y8, y9, y10, rfl⟩ := h
          walk_at "Zs"
          refine go__law_pot (e1.seq hS) (by omega) fun v H2 e2 hp => ?_
          walk_at "Zs"
          refine forR0 (fun j σ' H' => Same H2 H' ∧ ∃ y3 y4 y5 y6 y7 y8 y9 y10, σ' = [some (.ref a), some (.int i), some v, y3, y4, y5, y6, y7, y8, y9, y10]) ⟨Same.refl _, _, _, _, _, _, _, _, _, rfl⟩ (fun j σ' H3 hj h => ?_) (fun σ' H3 h => ?_)
          · obtain ⟨f1, y3, y4, y5, y6, y7, y8, y9, y10, rfl⟩ := h
            walk_at "Zs"
            tbr_iter (fun n => 1 ≤ n ∧ n ≤ 40)
            intro w hw
            have pw := p2_pos w
            walk_at "Zs"
            rename_i value G4 f4 hv0 hv1 d5 G5 f5 h5 h5'
            refine lcR (n := d5.toNat) (fun i acc _ => acc.length = i ∧ ∀ x ∈ acc, isI (fun n => 0 ≤ n ∧ n < p2 w) x) stb_pure (by omega) (fun i acc _ h => Nat.le_of_eq h.1) (fun _ _ => ⟨rfl, isI_nil⟩) (fun i acc H' hi e6 ea k k' hk hk' => ?_) fun D acc H6 hD e6 hD' ea => ?_
            · walk_at "Zs"
              rename_i n G7 f7 h7 h7'
              exact hk _ _ f7 ⟨by rw [List.length_append, ea.1]; rfl, isI_app ea.2 ⟨h7, h7'⟩⟩
            obtain ⟨hl, hi⟩ := ea
            obtain ⟨bs, rfl, hbs⟩ := ints_of hi
            rw [List.length_map] at hl
            walk_at "Zs"
            refine w_tupleL (SqL.of hD') fun p H7 np e7 hT => ?_
            walk_at "Zs"
            tbr_iter (fun _ => True)
            intro below _
            walk_at "Zs"
            refine go_narrowest (bs := bs) (same_t (H := H7) (by walk_at "Zkt") (SqT.of hT)) (by omega) (by omega) (by omega) hv0 hv1 fun n H8 e8 hn ha hu => ?_
            walk_at "Zs"
            refine go__law_due (bs := bs) (same_t (H := H7) (by walk_at "Zkt") (SqT.of hT)) (by omega) (by omega) (by omega) (fun m H9 e9 hm ha2 hu2 => ?_) (fun H9 e9 hno => ?_)
            · have e : n = m := by
                rcases Nat.lt_trichotomy n m with c | c | c
                · have z := hu2 n c
                  rw [← told_due hn hv0 hv1, ha] at z
                  cases z
                · exact c
                · have z := hu m c
                  rw [told_due hm hv0 hv1, ha2] at z
                  cases z
              subst e
              walk_at "Zs"
              refine ⟨?_, _, _, _, _, _, _, _, _, rfl⟩
              walk_at "Zkt"
            · have z := hno n hn
              rw [← told_due hn hv0 hv1, ha] at z
              cases z
          · obtain ⟨f1, y3, y4, y5, y6, y7, y8, y9, y10, rfl⟩ := h
            refine ⟨?_, _, _, _, _, _, _, _, _, _, _, rfl⟩
            walk_at "Zkt"
        · obtain ⟨e1, y1, y2, y3, y4, y5, y6, y7, y8, y9, y10, rfl⟩ := h
          walk_at "Zs"
          exact q _
  exact F0
theorem c_law {W : Wd} {mg : Str → Option Value} {base : Heap} (B : Bi mg) (S : Src W.K mg "law" s_law) (C__law_whole : Cal W mg base "_law_whole" 1 ["_law_thing"] (sp__law_whole W)) (C__law_due : Cal W mg base "_law_due" 1 ["_law_w", "_law_below", "_law_bases", "_law_value_here"] (sp__law_due W)) (C_narrowest : Cal W mg base "narrowest" 5 ["w", "below", "bases", "value"] (sp_narrowest W)) (C__law_value : Cal W mg base "_law_value" 2 ["_law_pot_here", "_law_breadth"] (sp__law_value W)) (C__law_draw : Cal W mg base "_law_draw" 1 ["_law_pot_here", "_law_many"] (sp__law_draw W)) (C__law_base : Cal W mg base "_law_base" 3 ["_law_pot_here", "_law_w", "_law_value_here"] (sp__law_base W)) (C__law_pot : Cal W mg base "_law_pot" 1 ["_law_script", "_law_k"] (sp__law_pot W)) : Cal W mg base "law" 6 ["_law_script"] (sp_law W) := by
  obtain ⟨f, fd, g, F⟩ := S
  exact ⟨f, fd, g, f_law B F C__law_whole C__law_due C_narrowest C__law_value C__law_draw C__law_base C__law_pot, F.kp, (F.binds (ps := ["_law_script"]) fun _ _ _ _ _ _ us hl => match us, hl with | [_], _ => rfl)⟩
theorem all_ok {W : Wd} {mg : Str → Option Value} {base : Heap} (B : Bi mg) (S_rest_of : Src W.K mg "rest_of" s_rest_of) (S_windowed : Src W.K mg "windowed" s_windowed) (S_around : Src W.K mg "around" s_around) (S_is_told : Src W.K mg "is_told" s_is_told) (S_narrowest : Src W.K mg "narrowest" s_narrowest) (S__law_pot : Src W.K mg "_law_pot" s__law_pot) (S__law_draw : Src W.K mg "_law_draw" s__law_draw) (S__law_value : Src W.K mg "_law_value" s__law_value) (S__law_whole : Src W.K mg "_law_whole" s__law_whole) (S__law_base : Src W.K mg "_law_base" s__law_base) (S__law_due : Src W.K mg "_law_due" s__law_due) {f : Addr} {fd : FuncData} (F : Fun W.K "law" "law" s_law f fd) : FnOk W.P W.w W.K mg base CX0 6 f fd ["_law_script"] (sp_law W) := by
  have C_rest_of := c_rest_of (base := base) B S_rest_of 
  have C_windowed := c_windowed (base := base) B S_windowed C_rest_of
  have C_around := c_around (base := base) B S_around C_rest_of C_windowed
  have C_is_told := c_is_told (base := base) B S_is_told C_around C_rest_of
  have C_narrowest := c_narrowest (base := base) B S_narrowest C_is_told
  have C__law_pot := c__law_pot (base := base) B S__law_pot 
  have C__law_draw := c__law_draw (base := base) B S__law_draw 
  have C__law_value := c__law_value (base := base) B S__law_value C__law_draw
  have C__law_whole := c__law_whole (base := base) B S__law_whole 
  have C__law_base := c__law_base (base := base) B S__law_base C__law_draw C__law_value
  have C__law_due := c__law_due (base := base) B S__law_due 
  exact f_law B F C__law_whole C__law_due C_narrowest C__law_value C__law_draw C__law_base C__law_pot
theorem all_mk {P : Program} {w : World} {K : PySem.W.Frag} {mg : Str → Option Value} {fa : Addr} (hfa : mg "law" = some (.ref fa)) (B : Bi mg) (S_rest_of : Src K mg "rest_of" s_rest_of) (S_windowed : Src K mg "windowed" s_windowed) (S_around : Src K mg "around" s_around) (S_is_told : Src K mg "is_told" s_is_told) (S_narrowest : Src K mg "narrowest" s_narrowest) (S__law_pot : Src K mg "_law_pot" s__law_pot) (S__law_draw : Src K mg "_law_draw" s__law_draw) (S__law_value : Src K mg "_law_value" s__law_value) (S__law_whole : Src K mg "_law_whole" s__law_whole) (S__law_base : Src K mg "_law_base" s__law_base) (S__law_due : Src K mg "_law_due" s__law_due) (S_law : Src K mg "law" s_law) :
    ∃ fd : FuncData, (∀ (s : Shared) (v : Value), BindsTo s fd ⟨[v], []⟩ [("_law_script", v)]) ∧ ∀ base : Heap, K.In base → base.Ns mainGlobals mg → FnOk P w K mg base CX0 6 fa fd ["_law_script"] (sp_law ⟨P, w, K⟩) := by
  obtain ⟨f, fd, g, F⟩ := S_law
  have e := hfa.symm.trans g
  cases e
  refine ⟨fd, fun s v => ?_, fun base _ _ => all_ok (W := ⟨P, w, K⟩) B S_rest_of S_windowed S_around S_is_told S_narrowest S__law_pot S__law_draw S__law_value S__law_whole S__law_base S__law_due F⟩
  obtain ⟨oc, od, kV, doc, pm, an, cdv, ct, osl, rfl, lk, hcd⟩ := F.ex
  exact .of_eq rfl
theorem walk {l : PySem.W.OpenLaw} {q : Program} {loose : List Str} {XP : (Str → Option Value) → Heap → Prop} {YP : World → Heap → Prop} {d : DefRec} {K : Params → PySem.W.Frag} (hn : l.most = some 63) (hdf : d.params.defaults = [])
    (hY : ∀ (w : World) (h : Heap), YP w h → (K w.params).In h)
    (F : ∀ (w : World) (mg : Str → Option Value) (fa : Addr) (h : Heap), (K w.params).In h → h.Ns mainGlobals mg → mg d.name = some (.ref fa) →
      ∃ fd : FuncData, (∀ (s : Shared) (u : Value), BindsTo s fd ⟨[u], []⟩ [("_law_script", u)]) ∧ ∀ base : Heap, (K w.params).In base → base.Ns mainGlobals mg → FnOk l.prog w (K w.params) mg base CX0 6 fa fd ["_law_script"] (sp_law ⟨l.prog, w, K w.params⟩)) :
    PySem.W.WalkO q loose XP YP l.row.toRowW d [] (fun f vs => PySem.call f vs) :=
  L2.walk_ofB (n := 63) (k := 6) (x := "_law_script") (CX := fun _ => CX0) (sp := fun w => sp_law ⟨l.prog, w, K w.params⟩) hn (by decide) hdf ⟨rfl, by decide, by decide⟩ hY F (fun _ _ a ns hl hb _ hS => ⟨a, ns, rfl, hS, hl, hb, fun _ => rfl⟩) fun _ _ _ _ _ z => z
end Sh
open PySem PySem.W PyProof.Rows in
set_option maxRecDepth 100000 in
set_option maxHeartbeats 0 in
theorem PySem.Challenge.cw_shorthead_k06_narrowest_holds : PySem.Challenge.rw_shorthead_k06_narrowest.Holds := by
  w_on; o_law; k_head; (case hw => w_witness2)
  k_fill
  refine Sh.walk (l := PySem.Challenge.rw_shorthead_k06_narrowest) rfl rfl (fun w h Y => PySem.W.kIn_of Y) ?F
  case F =>
    intro w mg fa h KX G hmg
    refine' Sh.all_mk hmg ?B ?S_rest_of ?S_windowed ?S_around ?S_is_told ?S_narrowest ?S__law_pot ?S__law_draw ?S__law_value ?S__law_whole ?S__law_base ?S__law_due ?S_law
    case B =>
      refine' ⟨PySem.W.mg_none_of KX G ?z_abs, PySem.W.mg_none_of KX G ?z_all, PySem.W.mg_none_of KX G ?z_bool, PySem.W.mg_none_of KX G ?z_int, PySem.W.mg_none_of KX G ?z_isinstance, PySem.W.mg_none_of KX G ?z_len, PySem.W.mg_none_of KX G ?z_min, PySem.W.mg_none_of KX G ?z_range, PySem.W.mg_none_of KX G ?z_tuple⟩
      (case z_abs => k_is)
      (case z_all => k_is)
      (case z_bool => k_is)
      (case z_int => k_is)
      (case z_isinstance => k_is)
      (case z_len => k_is)
      (case z_min => k_is)
      (case z_range => k_is)
      (case z_tuple => k_is)
    case S_rest_of =>
      refine' Sh.src_mk KX G ?a ?l ?c ?k
      (case a => k_is)
      (case l => k_is)
      (case c => k_is)
      (case k => k_is)
    case S_windowed =>
      refine' Sh.src_mk KX G ?a ?l ?c ?k
      (case a => k_is)
      (case l => k_is)
      (case c => k_is)
      (case k => k_is)
    case S_around =>
      refine' Sh.src_mk KX G ?a ?l ?c ?k
      (case a => k_is)
      (case l => k_is)
      (case c => k_is)
      (case k => k_is)
    case S_is_told =>
      refine' Sh.src_mk KX G ?a ?l ?c ?k
      (case a => k_is)
      (case l => k_is)
      (case c => k_is)
      (case k => k_is)
    case S_narrowest =>
      refine' Sh.src_mk KX G ?a ?l ?c ?k
      (case a => k_is)
      (case l => k_is)
      (case c => k_is)
      (case k => k_is)
    case S__law_pot =>
      refine' Sh.src_mk KX G ?a ?l ?c ?k
      (case a => k_is)
      (case l => k_is)
      (case c => k_is)
      (case k => k_is)
    case S__law_draw =>
      refine' Sh.src_mk KX G ?a ?l ?c ?k
      (case a => k_is)
      (case l => k_is)
      (case c => k_is)
      (case k => k_is)
    case S__law_value =>
      refine' Sh.src_mk KX G ?a ?l ?c ?k
      (case a => k_is)
      (case l => k_is)
      (case c => k_is)
      (case k => k_is)
    case S__law_whole =>
      refine' Sh.src_mk KX G ?a ?l ?c ?k
      (case a => k_is)
      (case l => k_is)
      (case c => k_is)
      (case k => k_is)
    case S__law_base =>
      refine' Sh.src_mk KX G ?a ?l ?c ?k
      (case a => k_is)
      (case l => k_is)
      (case c => k_is)
      (case k => k_is)
    case S__law_due =>
      refine' Sh.src_mk KX G ?a ?l ?c ?k
      (case a => k_is)
      (case l => k_is)
      (case c => k_is)
      (case k => k_is)
    case S_law =>
      refine' Sh.src_mk KX G ?a ?l ?c ?k
      (case a => k_is)
      (case l => k_is)
      (case c => k_is)
      (case k => k_is)
