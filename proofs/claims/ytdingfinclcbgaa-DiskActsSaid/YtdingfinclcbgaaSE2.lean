/- Operations that only reckon. -/
import Derived.Test.YtdingfinclcbgaaSE1
import Derived.Laws.Bits64
import Derived.Laws.BitsAllLaws
import Derived.Laws.BitsLemmas
namespace Go
namespace SE
open Go.RowKit
set_option linter.unusedVariables false
set_option linter.unusedSimpArgs false

abbrev u8V (x : BitVec 8) : Value := .int .u8 (x.toNat : Int)
abbrev u32V (x : BitVec 32) : Value := .int .u32 (x.toNat : Int)
abbrev u64V (x : BitVec 64) : Value := .int .u64 (x.toNat : Int)
abbrev iV (x : Int) : Value := .int .i64 x
abbrev ptr (b o : Nat) : Value := .pointer (some ⟨b, o, none⟩)
def FrOk (fr : Fr) (a : Act) : Prop := ∀ i v, fr i = some v → a.tmps[i]? = some v
theorem FrOk.ev {fr : Fr} {a : Act} (h : FrOk fr a) {x : Operand} {v : Value} (hx : fr.ev x = some v) : a.eval x = v := by
  cases x with
  | tmp t => have := h t v hx; simp [Act.eval, this]
  | const c => exact Option.some.inj hx
  | global g => exact Option.some.inj hx
  | func f => exact Option.some.inj hx

/-- The operation yields v, in whatever world. -/
def PStep (P : Program) (fr : Fr) (o : Oper) (v : Value) : Prop := ∀ a, FrOk fr a → ∀ w, (execOp a.eval o).run P w = .ok (.value v) w
/-- .. in a world whose rows are known. -/
def QStep (P : Program) (E : Env) (fr : Fr) (H : Hp) (o : Oper) (v : Value) : Prop := ∀ a w, Rep E fr H a w → (execOp a.eval o).run P w = .ok (.value v) w
theorem PStep.q {P : Program} {E : Env} {fr : Fr} {H : Hp} {o : Oper} {v : Value} (h : PStep P fr o v) : QStep P E fr H o v := fun a w r => h a r.fr w

inductive UK : IntKind → Nat → Prop
  | u8 : UK .u8 8
  | u16 : UK .u16 16
  | u32 : UK .u32 32
  | u64 : UK .u64 64

section nums
variable {k : IntKind} {n : Nat}
theorem UK.wrap (h : UK k n) (z : Int) : k.wrap z = z % ((2 ^ n : Nat) : Int) := by
  cases h
  · exact IntKind.wrap_u8 z
  · exact IntKind.wrap_u16 z
  · exact IntKind.wrap_u32 z
  · exact IntKind.wrap_u64 z
theorem UK.pos (h : UK k n) : 0 < n := by cases h <;> decide
theorem UK.wrap_nat (h : UK k n) (m : Nat) : k.wrap (m : Int) = ((m % 2 ^ n : Nat) : Int) := by rw [h.wrap]; rfl
theorem UK.wrap_bv (h : UK k n) (x : BitVec n) : k.wrap (x.toNat : Int) = (x.toNat : Int) := by
  rw [h.wrap_nat, Nat.mod_eq_of_lt x.isLt]
theorem UK.add (h : UK k n) (a b : BitVec n) : k.wrap ((a.toNat : Int) + (b.toNat : Int)) = ((a + b).toNat : Int) := by
  rw [← Int.natCast_add, h.wrap_nat, BitVec.toNat_add]
theorem UK.mul (h : UK k n) (a b : BitVec n) : k.wrap ((a.toNat : Int) * (b.toNat : Int)) = ((a * b).toNat : Int) := by
  rw [← Int.natCast_mul, h.wrap_nat, BitVec.toNat_mul]
theorem UK.sub (h : UK k n) (a b : BitVec n) : k.wrap ((a.toNat : Int) - (b.toNat : Int)) = ((a - b).toNat : Int) := by
  rw [h.wrap, BitVec.toNat_sub]
  have ha := a.isLt
  have hb := b.isLt
  have e : ((2 ^ n - b.toNat + a.toNat : Nat) : Int) = (a.toNat : Int) - (b.toNat : Int) + ((2 ^ n : Nat) : Int) := by omega
  rw [Int.natCast_emod, e, Int.add_emod_right]
theorem UK.bits (h : UK k n) : k.bits = n := by cases h <;> rfl
theorem UK.ofInt (h : UK k n) (z : Int) : k.wrap z = ((BitVec.ofInt n z).toNat : Int) := by
  rw [h.wrap, BitVec.toNat_ofInt]
  have : (0 : Int) < ((2 ^ n : Nat) : Int) := by have := Nat.two_pow_pos n; omega
  have h2 := Int.emod_nonneg z (b := ((2 ^ n : Nat) : Int)) (by omega)
  omega
theorem i64_in (z : Int) (h : -9223372036854775808 ≤ z ∧ z ≤ 9223372036854775807) : IntKind.i64.wrap z = z := by
  rw [IntKind.wrap_i64]; omega
theorem i64_of_u64 (x : BitVec 64) : IntKind.i64.wrap (x.toNat : Int) = x.toInt := by
  rw [IntKind.wrap_i64, BitVec.toInt_eq_toNat_cond]
  have := x.isLt
  split <;> omega
theorem i64_of_small (h : UK k n) (hn : n ≤ 32) (x : BitVec n) : IntKind.i64.wrap (x.toNat : Int) = (x.toNat : Int) := by
  have h1 := x.isLt
  have h2 : 2 ^ n ≤ 2 ^ 32 := Nat.pow_le_pow_right (by decide) hn
  exact i64_in _ (by omega)
end nums

/-- The integers' operations. -/
def intop (op : BinOp) (k : IntKind) (a b : Int) : Value :=
  match op with
  | .add => .int k (k.wrap (a + b))
  | .sub => .int k (k.wrap (a - b))
  | .mul => .int k (k.wrap (a * b))
  | .quo => .int k (k.wrap (a.tdiv b))
  | .rem => .int k (a.tmod b)
  | .and => .int k (k.wrap (BitVec.ofInt k.bits a &&& BitVec.ofInt k.bits b).toNat)
  | .or => .int k (k.wrap (BitVec.ofInt k.bits a ||| BitVec.ofInt k.bits b).toNat)
  | .xor => .int k (k.wrap (BitVec.ofInt k.bits a ^^^ BitVec.ofInt k.bits b).toNat)
  | .andNot => .int k (k.wrap (BitVec.ofInt k.bits a &&& ~~~ BitVec.ofInt k.bits b).toNat)
  | .eql => .bool (a == b)
  | .neq => .bool (a != b)
  | .lss => .bool (a < b)
  | .leq => .bool (a ≤ b)
  | .gtr => .bool (a > b)
  | .geq => .bool (a ≥ b)
  | _ => .bool false
def isShift : BinOp → Bool
  | .shl | .shr => true
  | _ => false
def shop (op : BinOp) (k : IntKind) (a b : Int) : Int := match op with
  | .shl => k.wrap (a * 2 ^ (min b.toNat k.bits))
  | _ => a.fdiv (2 ^ (min b.toNat k.bits))
def isDiv : BinOp → Bool
  | .quo | .rem => true
  | _ => false
def isIntop : BinOp → Bool
  | .add | .sub | .mul | .quo | .rem | .and | .or | .xor | .andNot | .eql | .neq | .lss | .leq | .gtr | .geq => true
  | _ => false

section
variable {P : Program} {fr : Fr} {o : Oper} {t ty : TypeId} {x y : Operand} {v : Value}

theorem run_intop (op : BinOp) (k : IntKind) (a b : Int) (t : TypeId) (h : isIntop op = true) (hd : isDiv op = true → b ≠ 0) (w : World) :
    (binOp op t (.int k a) (.int k b)).run P w = .ok (intop op k a b) w := by
  cases op <;> simp [isIntop] at h <;> simp [binOp, intop, Op.intArith, Op.intDiv, Op.intBits, Op.intCmp, isDiv] at hd ⊢ <;> simp [hd]

theorem P_bin {op : BinOp} {k : IntKind} {a b : Int} (ho : o.op = .binOp op t x y ty) (hx : fr.ev x = some (.int k a)) (hy : fr.ev y = some (.int k b)) (h : isIntop op = true) (hd : isDiv op = true → b ≠ 0) :
    PStep P fr o (intop op k a b) := by
  intro A hA w
  have h1 := run_intop (P := P) op k a b t h hd w
  unfold execOp
  simp [ho, hA.ev hx, hA.ev hy, eqGuard, h1]
theorem P_bin' {op : BinOp} {k : IntKind} {a b : Int} {r : Value} (ho : o.op = .binOp op t x y ty) (hx : fr.ev x = some (.int k a)) (hy : fr.ev y = some (.int k b)) (h : isIntop op = true) (hd : isDiv op = true → b ≠ 0) (hr : intop op k a b = r) :
    PStep P fr o r := hr ▸ P_bin ho hx hy h hd

/-! int -/
theorem P_add_i {a b : Int} (ho : o.op = .binOp .add t x y ty) (hx : fr.ev x = some (.int .i64 a)) (hy : fr.ev y = some (.int .i64 b)) (h : -9223372036854775808 ≤ a + b ∧ a + b ≤ 9223372036854775807) : PStep P fr o (.int .i64 (a + b)) :=
  P_bin' ho hx hy rfl (fun h => absurd h (by decide)) (by show Value.int _ _ = _; rw [i64_in _ h])
theorem P_sub_i {a b : Int} (ho : o.op = .binOp .sub t x y ty) (hx : fr.ev x = some (.int .i64 a)) (hy : fr.ev y = some (.int .i64 b)) (h : -9223372036854775808 ≤ a - b ∧ a - b ≤ 9223372036854775807) : PStep P fr o (.int .i64 (a - b)) :=
  P_bin' ho hx hy rfl (fun h => absurd h (by decide)) (by show Value.int _ _ = _; rw [i64_in _ h])
theorem P_mul_i {a b : Int} (ho : o.op = .binOp .mul t x y ty) (hx : fr.ev x = some (.int .i64 a)) (hy : fr.ev y = some (.int .i64 b)) (h : -9223372036854775808 ≤ a * b ∧ a * b ≤ 9223372036854775807) : PStep P fr o (.int .i64 (a * b)) :=
  P_bin' ho hx hy rfl (fun h => absurd h (by decide)) (by show Value.int _ _ = _; rw [i64_in _ h])
theorem P_quo_i {a b : Int} (ho : o.op = .binOp .quo t x y ty) (hx : fr.ev x = some (.int .i64 a)) (hy : fr.ev y = some (.int .i64 b)) (h0 : 0 ≤ a) (ha : a ≤ 9223372036854775807) (hb : 0 < b) : PStep P fr o (.int .i64 (a / b)) :=
  P_bin' ho hx hy rfl (fun _ => by omega) (by
    show Value.int _ _ = _
    rw [Int.tdiv_eq_ediv_of_nonneg h0, i64_in _ ⟨by have := Int.ediv_nonneg h0 (Int.le_of_lt hb); omega, by have := Int.ediv_le_self b h0; omega⟩])
theorem P_rem_i {a b : Int} (ho : o.op = .binOp .rem t x y ty) (hx : fr.ev x = some (.int .i64 a)) (hy : fr.ev y = some (.int .i64 b)) (h0 : 0 ≤ a) (hb : 0 < b) : PStep P fr o (.int .i64 (a % b)) :=
  P_bin' ho hx hy rfl (fun _ => by omega) (by show Value.int _ _ = _; rw [Int.tmod_eq_emod_of_nonneg h0])
theorem P_rem_any {a b : Int} (ho : o.op = .binOp .rem t x y ty) (hx : fr.ev x = some (.int .i64 a)) (hy : fr.ev y = some (.int .i64 b)) (hb : 0 < b) : PStep P fr o (.int .i64 (a.tmod b)) :=
  P_bin' ho hx hy rfl (fun _ => by omega) rfl
theorem P_cmp {op : BinOp} {k : IntKind} {a b : Int} {r : Bool} (ho : o.op = .binOp op t x y ty) (hx : fr.ev x = some (.int k a)) (hy : fr.ev y = some (.int k b)) (hr : intop op k a b = .bool r) (h : isIntop op = true) (hd : isDiv op = false) :
    PStep P fr o (.bool r) := P_bin' ho hx hy h (fun h => by rw [hd] at h; cases h) hr

/-! words -/
section words
variable {k : IntKind} {n : Nat} {a b : BitVec n}
theorem P_add_w (hk : UK k n) (ho : o.op = .binOp .add t x y ty) (hx : fr.ev x = some (.int k (a.toNat : Int))) (hy : fr.ev y = some (.int k (b.toNat : Int))) : PStep P fr o (.int k ((a + b).toNat : Int)) :=
  P_bin' ho hx hy rfl (fun h => absurd h (by decide)) (by show Value.int _ _ = _; rw [hk.add])
theorem P_sub_w (hk : UK k n) (ho : o.op = .binOp .sub t x y ty) (hx : fr.ev x = some (.int k (a.toNat : Int))) (hy : fr.ev y = some (.int k (b.toNat : Int))) : PStep P fr o (.int k ((a - b).toNat : Int)) :=
  P_bin' ho hx hy rfl (fun h => absurd h (by decide)) (by show Value.int _ _ = _; rw [hk.sub])
theorem P_mul_w (hk : UK k n) (ho : o.op = .binOp .mul t x y ty) (hx : fr.ev x = some (.int k (a.toNat : Int))) (hy : fr.ev y = some (.int k (b.toNat : Int))) : PStep P fr o (.int k ((a * b).toNat : Int)) :=
  P_bin' ho hx hy rfl (fun h => absurd h (by decide)) (by show Value.int _ _ = _; rw [hk.mul])
theorem P_quo_w (hk : UK k n) (ho : o.op = .binOp .quo t x y ty) (hx : fr.ev x = some (.int k (a.toNat : Int))) (hy : fr.ev y = some (.int k (b.toNat : Int))) (hb : b ≠ 0) : PStep P fr o (.int k ((a / b).toNat : Int)) := by
  have hb' : b.toNat ≠ 0 := fun h => hb (by apply BitVec.eq_of_toNat_eq; simpa using h)
  refine P_bin' ho hx hy rfl (fun _ => by omega) ?_
  show Value.int _ _ = _
  rw [Int.tdiv_eq_ediv_of_nonneg (by omega), ← Int.natCast_ediv, ← BitVec.toNat_udiv, hk.wrap_bv]
theorem P_rem_w (hk : UK k n) (ho : o.op = .binOp .rem t x y ty) (hx : fr.ev x = some (.int k (a.toNat : Int))) (hy : fr.ev y = some (.int k (b.toNat : Int))) (hb : b ≠ 0) : PStep P fr o (.int k ((a % b).toNat : Int)) := by
  have hb' : b.toNat ≠ 0 := fun h => hb (by apply BitVec.eq_of_toNat_eq; simpa using h)
  refine P_bin' ho hx hy rfl (fun _ => by omega) ?_
  show Value.int _ _ = _
  rw [Int.tmod_eq_emod_of_nonneg (by omega), ← Int.natCast_emod, ← BitVec.toNat_umod]
theorem P_and_w (hk : UK k n) (ho : o.op = .binOp .and t x y ty) (hx : fr.ev x = some (.int k (a.toNat : Int))) (hy : fr.ev y = some (.int k (b.toNat : Int))) : PStep P fr o (.int k ((a &&& b).toNat : Int)) := by
  refine P_bin' ho hx hy rfl (fun h => absurd h (by decide)) ?_
  cases hk <;> (simp only [intop, IntKind.bits, BitVec.ofInt_natCast, BitVec.ofNat_toNat, BitVec.setWidth_eq]; first | rw [UK.u8.wrap_bv] | rw [UK.u16.wrap_bv] | rw [UK.u32.wrap_bv] | rw [UK.u64.wrap_bv]) <;> rfl
theorem P_or_w (hk : UK k n) (ho : o.op = .binOp .or t x y ty) (hx : fr.ev x = some (.int k (a.toNat : Int))) (hy : fr.ev y = some (.int k (b.toNat : Int))) : PStep P fr o (.int k ((a ||| b).toNat : Int)) := by
  refine P_bin' ho hx hy rfl (fun h => absurd h (by decide)) ?_
  cases hk <;> (simp only [intop, IntKind.bits, BitVec.ofInt_natCast, BitVec.ofNat_toNat, BitVec.setWidth_eq]; first | rw [UK.u8.wrap_bv] | rw [UK.u16.wrap_bv] | rw [UK.u32.wrap_bv] | rw [UK.u64.wrap_bv]) <;> rfl
theorem P_xor_w (hk : UK k n) (ho : o.op = .binOp .xor t x y ty) (hx : fr.ev x = some (.int k (a.toNat : Int))) (hy : fr.ev y = some (.int k (b.toNat : Int))) : PStep P fr o (.int k ((a ^^^ b).toNat : Int)) := by
  refine P_bin' ho hx hy rfl (fun h => absurd h (by decide)) ?_
  cases hk <;> (simp only [intop, IntKind.bits, BitVec.ofInt_natCast, BitVec.ofNat_toNat, BitVec.setWidth_eq]; first | rw [UK.u8.wrap_bv] | rw [UK.u16.wrap_bv] | rw [UK.u32.wrap_bv] | rw [UK.u64.wrap_bv]) <;> rfl
theorem P_andNot_w (hk : UK k n) (ho : o.op = .binOp .andNot t x y ty) (hx : fr.ev x = some (.int k (a.toNat : Int))) (hy : fr.ev y = some (.int k (b.toNat : Int))) : PStep P fr o (.int k ((a &&& ~~~ b).toNat : Int)) := by
  refine P_bin' ho hx hy rfl (fun h => absurd h (by decide)) ?_
  cases hk <;> (simp only [intop, IntKind.bits, BitVec.ofInt_natCast, BitVec.ofNat_toNat, BitVec.setWidth_eq]; first | rw [UK.u8.wrap_bv] | rw [UK.u16.wrap_bv] | rw [UK.u32.wrap_bv] | rw [UK.u64.wrap_bv]) <;> rfl
theorem bv_beq (a b : BitVec n) : ((a.toNat : Int) == (b.toNat : Int)) = (a == b) := by
  rw [Bool.eq_iff_iff]
  simp only [beq_iff_eq]
  exact ⟨fun h => BitVec.eq_of_toNat_eq (by omega), fun h => by rw [h]⟩
theorem P_eql_w (ho : o.op = .binOp .eql t x y ty) (hx : fr.ev x = some (.int k (a.toNat : Int))) (hy : fr.ev y = some (.int k (b.toNat : Int))) : PStep P fr o (.bool (a == b)) :=
  P_bin' ho hx hy rfl (fun h => absurd h (by decide)) (by show Value.bool _ = _; rw [bv_beq])
theorem P_neq_w (ho : o.op = .binOp .neq t x y ty) (hx : fr.ev x = some (.int k (a.toNat : Int))) (hy : fr.ev y = some (.int k (b.toNat : Int))) : PStep P fr o (.bool (a != b)) :=
  P_bin' ho hx hy rfl (fun h => absurd h (by decide)) (by show Value.bool (!((a.toNat : Int) == (b.toNat : Int))) = Value.bool (!(a == b)); rw [bv_beq])
theorem P_lss_w (ho : o.op = .binOp .lss t x y ty) (hx : fr.ev x = some (.int k (a.toNat : Int))) (hy : fr.ev y = some (.int k (b.toNat : Int))) : PStep P fr o (.bool (decide (a.toNat < b.toNat))) :=
  P_bin' ho hx hy rfl (fun h => absurd h (by decide)) (by show Value.bool _ = _; congr 1; rw [decide_eq_decide]; omega)
theorem P_leq_w (ho : o.op = .binOp .leq t x y ty) (hx : fr.ev x = some (.int k (a.toNat : Int))) (hy : fr.ev y = some (.int k (b.toNat : Int))) : PStep P fr o (.bool (decide (a.toNat ≤ b.toNat))) :=
  P_bin' ho hx hy rfl (fun h => absurd h (by decide)) (by show Value.bool _ = _; congr 1; rw [decide_eq_decide]; omega)
theorem P_gtr_w (ho : o.op = .binOp .gtr t x y ty) (hx : fr.ev x = some (.int k (a.toNat : Int))) (hy : fr.ev y = some (.int k (b.toNat : Int))) : PStep P fr o (.bool (decide (b.toNat < a.toNat))) :=
  P_bin' ho hx hy rfl (fun h => absurd h (by decide)) (by show Value.bool _ = _; congr 1; rw [decide_eq_decide]; omega)
theorem P_geq_w (ho : o.op = .binOp .geq t x y ty) (hx : fr.ev x = some (.int k (a.toNat : Int))) (hy : fr.ev y = some (.int k (b.toNat : Int))) : PStep P fr o (.bool (decide (b.toNat ≤ a.toNat))) :=
  P_bin' ho hx hy rfl (fun h => absurd h (by decide)) (by show Value.bool _ = _; congr 1; rw [decide_eq_decide]; omega)
end words

theorem run_shift (op : BinOp) (k k' : IntKind) (a b : Int) (t : TypeId) (hs : isShift op = true) (hb : 0 ≤ b) (w : World) :
    (binOp op t (.int k a) (.int k' b)).run P w = .ok (.int k (shop op k a b)) w := by
  cases op <;> simp [isShift] at hs <;> simp [shop, binOp, Op.shift, show ¬ b < 0 by omega]
theorem P_shift {op : BinOp} {k k' : IntKind} {a b : Int} {r : Int} (ho : o.op = .binOp op t x y ty) (hx : fr.ev x = some (.int k a)) (hy : fr.ev y = some (.int k' b)) (hs : isShift op = true) (hb : 0 ≤ b)
    (hr : shop op k a b = r) : PStep P fr o (.int k r) := by
  intro A hA w
  have h1 := run_shift (P := P) op k k' a b t hs hb w
  rw [hr] at h1
  unfold execOp
  simp [ho, hA.ev hx, hA.ev hy, eqGuard, h1]
theorem min_shl {n : Nat} (a : BitVec n) (s : Nat) : (a.toNat * 2 ^ (min s n)) % 2 ^ n = (a <<< s).toNat := by
  rw [BitVec.toNat_shiftLeft, Nat.shiftLeft_eq]
  by_cases h : s ≤ n
  · rw [Nat.min_eq_left h]
  · rw [Nat.min_eq_right (by omega)]
    have h1 : 2 ^ s = 2 ^ n * 2 ^ (s - n) := by rw [← Nat.pow_add]; congr 1; omega
    rw [h1, Nat.mul_left_comm, Nat.mul_mod_right, Nat.mul_mod_left]
theorem min_shr {n : Nat} (a : BitVec n) (s : Nat) : a.toNat / 2 ^ (min s n) = (a >>> s).toNat := by
  rw [BitVec.toNat_ushiftRight, Nat.shiftRight_eq_div_pow]
  by_cases h : s ≤ n
  · rw [Nat.min_eq_left h]
  · rw [Nat.min_eq_right (by omega), Nat.div_eq_of_lt a.isLt, Nat.div_eq_of_lt (Nat.lt_of_lt_of_le a.isLt (Nat.pow_le_pow_right (by decide) (by omega)))]
theorem P_shl_w {k k' : IntKind} {n : Nat} {a : BitVec n} {b : Int} (hk : UK k n) (ho : o.op = .binOp .shl t x y ty) (hx : fr.ev x = some (.int k (a.toNat : Int))) (hy : fr.ev y = some (.int k' b)) (hb : 0 ≤ b) : PStep P fr o (.int k ((a <<< b.toNat).toNat : Int)) :=
  P_shift ho hx hy rfl hb (by
    dsimp only [shop]
    rw [hk.bits, show ((2 : Int) ^ (min b.toNat n)) = ((2 ^ (min b.toNat n) : Nat) : Int) by simp, ← Int.natCast_mul, hk.wrap_nat, min_shl])
theorem P_shr_w {k k' : IntKind} {n : Nat} {a : BitVec n} {b : Int} (hk : UK k n) (ho : o.op = .binOp .shr t x y ty) (hx : fr.ev x = some (.int k (a.toNat : Int))) (hy : fr.ev y = some (.int k' b)) (hb : 0 ≤ b) : PStep P fr o (.int k ((a >>> b.toNat).toNat : Int)) :=
  P_shift ho hx hy rfl hb (by
    dsimp only [shop]
    rw [hk.bits, show ((2 : Int) ^ (min b.toNat n)) = ((2 ^ (min b.toNat n) : Nat) : Int) by simp, Int.fdiv_eq_ediv_of_nonneg _ (Int.natCast_nonneg _), ← Int.natCast_ediv, min_shr])
theorem P_shr_i {k' : IntKind} {a b : Int} (ho : o.op = .binOp .shr t x y ty) (hx : fr.ev x = some (.int .i64 a)) (hy : fr.ev y = some (.int k' b)) (hb : 0 ≤ b) (hb' : b ≤ 64) : PStep P fr o (.int .i64 (a / 2 ^ b.toNat)) :=
  P_shift ho hx hy rfl hb (by
    dsimp only [shop]
    rw [show min b.toNat IntKind.i64.bits = b.toNat by show min _ 64 = _; omega, Int.fdiv_eq_ediv_of_nonneg _ (Int.le_of_lt (Int.pow_pos (by decide)))])
theorem P_shl_i {k' : IntKind} {a b : Int} (ho : o.op = .binOp .shl t x y ty) (hx : fr.ev x = some (.int .i64 a)) (hy : fr.ev y = some (.int k' b)) (hb : 0 ≤ b) (hb' : b ≤ 64) (h : -9223372036854775808 ≤ a * 2 ^ b.toNat ∧ a * 2 ^ b.toNat ≤ 9223372036854775807) : PStep P fr o (.int .i64 (a * 2 ^ b.toNat)) :=
  P_shift ho hx hy rfl hb (by
    dsimp only [shop]
    rw [show min b.toNat IntKind.i64.bits = b.toNat by show min _ 64 = _; omega, i64_in _ h])

theorem P_not {b : Bool} (ho : o.op = .unOp .not t x) (hx : fr.ev x = some (.bool b)) : PStep P fr o (.bool !b) := by
  intro A hA w
  unfold execOp
  simp [ho, hA.ev hx, Op.unary]
theorem P_neg_i {a : Int} (ho : o.op = .unOp .neg t x) (hx : fr.ev x = some (.int .i64 a)) (h : -9223372036854775807 ≤ a ∧ a ≤ 9223372036854775807) : PStep P fr o (.int .i64 (-a)) := by
  intro A hA w
  unfold execOp
  simp [ho, hA.ev hx, Op.unary, Op.intArith]
  rw [i64_in _ (by omega)]
theorem P_neg_w {k : IntKind} {n : Nat} {a : BitVec n} (hk : UK k n) (ho : o.op = .unOp .neg t x) (hx : fr.ev x = some (.int k (a.toNat : Int))) : PStep P fr o (.int k ((-a).toNat : Int)) := by
  intro A hA w
  have h := hk.sub (0#n) a
  rw [show ((0#n).toNat : Int) = 0 by simp, BitVec.zero_sub] at h
  unfold execOp
  simp [ho, hA.ev hx, Op.unary, Op.intArith, -BitVec.toNat_neg]
  rw [← h]; simp
theorem P_compl_w {k : IntKind} {n : Nat} {a : BitVec n} (hk : UK k n) (ho : o.op = .unOp .xor t x) (hx : fr.ev x = some (.int k (a.toNat : Int))) : PStep P fr o (.int k ((~~~ a).toNat : Int)) := by
  intro A hA w
  have key : k.wrap ((BitVec.ofInt k.bits (if k.signed = true then -1 else k.max) ^^^ BitVec.ofInt k.bits (a.toNat : Int)).toNat : Int) = ((~~~ a).toNat : Int) := by
    cases hk
    · show IntKind.u8.wrap ((BitVec.ofInt 8 255 ^^^ BitVec.ofInt 8 (a.toNat : Int)).toNat : Int) = _
      rw [show BitVec.ofInt 8 255 = BitVec.allOnes 8 by decide, BitVec.ofInt_natCast, BitVec.ofNat_toNat, BitVec.setWidth_eq, BitVec.allOnes_xor, UK.u8.wrap_bv]
    · show IntKind.u16.wrap ((BitVec.ofInt 16 65535 ^^^ BitVec.ofInt 16 (a.toNat : Int)).toNat : Int) = _
      rw [show BitVec.ofInt 16 65535 = BitVec.allOnes 16 by decide, BitVec.ofInt_natCast, BitVec.ofNat_toNat, BitVec.setWidth_eq, BitVec.allOnes_xor, UK.u16.wrap_bv]
    · show IntKind.u32.wrap ((BitVec.ofInt 32 4294967295 ^^^ BitVec.ofInt 32 (a.toNat : Int)).toNat : Int) = _
      rw [show BitVec.ofInt 32 4294967295 = BitVec.allOnes 32 by decide, BitVec.ofInt_natCast, BitVec.ofNat_toNat, BitVec.setWidth_eq, BitVec.allOnes_xor, UK.u32.wrap_bv]
    · show IntKind.u64.wrap ((BitVec.ofInt 64 18446744073709551615 ^^^ BitVec.ofInt 64 (a.toNat : Int)).toNat : Int) = _
      rw [show BitVec.ofInt 64 18446744073709551615 = BitVec.allOnes 64 by decide, BitVec.ofInt_natCast, BitVec.ofNat_toNat, BitVec.setWidth_eq, BitVec.allOnes_xor, UK.u64.wrap_bv]
  unfold execOp
  simp only [ho, hA.ev hx, Op.unary, Op.intBits, Sem.run_bind, Sem.run_pure, Result.andThen_ok]
  rw [key]

/-! conversions -/
theorem P_conv {s d : TypeId} {k k' : IntKind} {a : Int} {r : Int} (ho : o.op = .convert s d x) (hs : P.underlying s = some (.int k')) (hd : P.underlying d = some (.int k)) (hx : fr.ev x = some (.int k' a)) (hr : k.wrap a = r) : PStep P fr o (.int k r) := by
  intro A hA w
  unfold execOp
  simp [ho, hA.ev hx, convert, run_underlying hs, run_underlying hd, Conv.intToInt, hr]
theorem P_conv_ww {s d : TypeId} {k k' : IntKind} {n m : Nat} {a : BitVec m} (hk : UK k n) (ho : o.op = .convert s d x) (hs : P.underlying s = some (.int k')) (hd : P.underlying d = some (.int k)) (hx : fr.ev x = some (.int k' (a.toNat : Int))) : PStep P fr o (.int k ((a.setWidth n).toNat : Int)) :=
  P_conv ho hs hd hx (by rw [hk.wrap_nat, BitVec.toNat_setWidth])
theorem P_conv_iw {s d : TypeId} {k k' : IntKind} {n : Nat} {a : Int} (hk : UK k n) (ho : o.op = .convert s d x) (hs : P.underlying s = some (.int k')) (hd : P.underlying d = some (.int k)) (hx : fr.ev x = some (.int k' a)) : PStep P fr o (.int k ((BitVec.ofInt n a).toNat : Int)) :=
  P_conv ho hs hd hx (hk.ofInt a)
theorem P_conv_ii {s d : TypeId} {a : Int} (ho : o.op = .convert s d x) (hs : P.underlying s = some (.int .i64)) (hd : P.underlying d = some (.int .i64)) (hx : fr.ev x = some (.int .i64 a)) (h : -9223372036854775808 ≤ a ∧ a ≤ 9223372036854775807) : PStep P fr o (.int .i64 a) :=
  P_conv ho hs hd hx (i64_in _ h)
theorem P_conv_wi {s d : TypeId} {k : IntKind} {n : Nat} {a : BitVec n} (hk : UK k n) (hn : n ≤ 32) (ho : o.op = .convert s d x) (hs : P.underlying s = some (.int k)) (hd : P.underlying d = some (.int .i64)) (hx : fr.ev x = some (.int k (a.toNat : Int))) : PStep P fr o (.int .i64 (a.toNat : Int)) :=
  P_conv ho hs hd hx (i64_of_small hk hn a)
theorem P_conv_Wi {s d : TypeId} {a : BitVec 64} (ho : o.op = .convert s d x) (hs : P.underlying s = some (.int .u64)) (hd : P.underlying d = some (.int .i64)) (hx : fr.ev x = some (.int .u64 (a.toNat : Int))) : PStep P fr o (.int .i64 a.toInt) :=
  P_conv ho hs hd hx (i64_of_u64 a)

/-! the rest -/
theorem P_move (ho : o.op = .move x) (hx : fr.ev x = some v) : PStep P fr o v := by
  intro A hA w; unfold execOp; simp [ho, hA.ev hx]
theorem P_assign (ho : o.op = .assign x) (hx : fr.ev x = some v) : PStep P fr o v := by
  intro A hA w; unfold execOp; simp [ho, hA.ev hx]
theorem P_pick_t {c p q : Operand} {b : Bool} (ho : o.op = .pick c p q) (hc : fr.ev c = some (.bool b)) (hb : b = true) (hx : fr.ev p = some v) : PStep P fr o v := by
  intro A hA w; unfold execOp; subst hb; simp [ho, hA.ev hx, hA.ev hc, asBool]
theorem P_pick_f {c p q : Operand} {b : Bool} (ho : o.op = .pick c p q) (hc : fr.ev c = some (.bool b)) (hb : b = false) (hx : fr.ev q = some v) : PStep P fr o v := by
  intro A hA w; unfold execOp; subst hb; simp [ho, hA.ev hx, hA.ev hc, asBool]
theorem P_extract {vs : Array Value} {i : Nat} (ho : o.op = .extract x i) (hx : fr.ev x = some (.tuple vs)) (hv : vs[i]? = some v) : PStep P fr o v := by
  intro A hA w; unfold execOp; simp [ho, hA.ev hx, Instr.extract, hv]
theorem P_nilCheck {p : Addr} (ho : o.op = .nilCheck x) (hx : fr.ev x = some (.pointer (some p))) : PStep P fr o (.pointer (some p)) := by
  intro A hA w; unfold execOp; simp [ho, hA.ev hx]
theorem add_addr (b o n : Nat) : Addr.add ⟨b, o, none⟩ n = ⟨b, o + n, none⟩ := by
  unfold Addr.add; split
  · subst_vars; rfl
  · rfl
theorem P_fieldAddr {s : TypeId} {i b m : Nat} {fs : Array Field} {f : Field} {sz off : Nat} (ho : o.op = .fieldAddr s x i) (hs : P.underlying s = some (.struct fs)) (hf : fs[i]? = some f) (hz : tsz P f.type = some (sz + 1)) (hk : f.offset = off)
    (hx : fr.ev x = some (.pointer (some ⟨b, m, none⟩))) : PStep P fr o (.pointer (some ⟨b, m + off, none⟩)) := by
  intro A hA w; unfold execOp
  obtain ⟨i0, hi0, hi1⟩ := Option.map_eq_some_iff.1 (show (P.info? f.type).map (·.size) = _ from hz)
  simp [ho, hA.ev hx, Instr.fieldAt, run_underlying hs, hf, Instr.sureAddr, fieldPlace, sizeOf, typeInfo, hi0, hi1, add_addr, hk]
theorem P_fieldAddr0 {s : TypeId} {i b : Nat} {fs : Array Field} {f : Field} {sz off : Nat} (ho : o.op = .fieldAddr s x i) (hs : P.underlying s = some (.struct fs)) (hf : fs[i]? = some f) (hz : tsz P f.type = some (sz + 1)) (hk : f.offset = off)
    (hx : fr.ev x = some (.pointer (some ⟨b, 0, none⟩))) : PStep P fr o (.pointer (some ⟨b, off, none⟩)) := by
  have h := P_fieldAddr (P := P) ho hs hf hz hk hx
  rwa [Nat.zero_add] at h
theorem P_indexAddr_arr {t e : TypeId} {b m len sz j : Nat} {k : IntKind} {i : Int} {ix : Operand} (ho : o.op = .indexAddr t x ix) (ht : P.underlying t = some (.array len e)) (hz : tsz P e = some sz)
    (hx : fr.ev x = some (.pointer (some ⟨b, m, none⟩))) (hi : fr.ev ix = some (.int k i)) (hj : i = (j : Int)) (hlt : j < len) : PStep P fr o (.pointer (some ⟨b, m + j * sz, none⟩)) := by
  intro A hA w; unfold execOp
  obtain ⟨i0, hi0, hi1⟩ := Option.map_eq_some_iff.1 (show (P.info? e).map (·.size) = _ from hz)
  subst hj
  have h2 : (0 : Int) ≤ (j : Int) ∧ (j : Int) < (len : Int) := by omega
  simp [ho, hA.ev hx, hA.ev hi, Instr.indexAt, run_underlying ht, asIntOf, Instr.sureAddr, sizeOf, typeInfo, hi0, hi1, add_addr, hlt]
theorem P_indexAddr_arr1 {t e : TypeId} {b len j : Nat} {k : IntKind} {i : Int} {ix : Operand} (ho : o.op = .indexAddr t x ix) (ht : P.underlying t = some (.array len e)) (hz : tsz P e = some 1)
    (hx : fr.ev x = some (.pointer (some ⟨b, 0, none⟩))) (hi : fr.ev ix = some (.int k i)) (hj : i = (j : Int)) (hlt : j < len) : PStep P fr o (.pointer (some ⟨b, j, none⟩)) := by
  have h := P_indexAddr_arr (P := P) ho ht hz hx hi hj hlt
  rwa [Nat.zero_add, Nat.mul_one] at h
theorem P_indexAddr_sl {t e : TypeId} {b m len cap sz j : Nat} {A : Option Addr} {k : IntKind} {i : Int} {ix : Operand} (ho : o.op = .indexAddr t x ix) (ht : P.underlying t = some (.slice e)) (hz : tsz P e = some sz)
    (hx : fr.ev x = some (.slice A len cap)) (hA : A = some ⟨b, m, none⟩) (hi : fr.ev ix = some (.int k i)) (hj : i = (j : Int)) (hlt : j < len) : PStep P fr o (.pointer (some ⟨b, m + j * sz, none⟩)) := by
  intro a ha w; unfold execOp
  obtain ⟨i0, hi0, hi1⟩ := Option.map_eq_some_iff.1 (show (P.info? e).map (·.size) = _ from hz)
  subst hj hA
  have h2 : (0 : Int) ≤ (j : Int) ∧ (j : Int) < (len : Int) := by omega
  simp [ho, ha.ev hx, ha.ev hi, Instr.indexAt, run_underlying ht, asIntOf, Instr.sureAddr, sizeOf, typeInfo, hi0, hi1, add_addr, hlt]
theorem P_indexAddr_sl1 {t e : TypeId} {b m len cap j : Nat} {A : Option Addr} {k : IntKind} {i : Int} {ix : Operand} (ho : o.op = .indexAddr t x ix) (ht : P.underlying t = some (.slice e)) (hz : tsz P e = some 1)
    (hx : fr.ev x = some (.slice A len cap)) (hA : A = some ⟨b, m, none⟩) (hi : fr.ev ix = some (.int k i)) (hj : i = (j : Int)) (hlt : j < len) : PStep P fr o (.pointer (some ⟨b, m + j, none⟩)) := by
  have h := P_indexAddr_sl (P := P) ho ht hz hx hA hi hj hlt
  rwa [Nat.mul_one] at h
theorem P_len_sl {A : Option Addr} {len cap : Nat} {c : Call} (ho : o.op = .call c) (hc : c = ⟨.builtin .len, #[x], #[t]⟩) (ht : ∃ e, P.underlying t = some (.slice e)) (hx : fr.ev x = some (.slice A len cap)) : PStep P fr o (.int .i64 (len : Int)) := by
  intro a ha w; unfold execOp
  obtain ⟨e, ht⟩ := ht
  simp [ho, hc, ha.ev hx, resolve, invoke, builtin, Builtin.len_, run_underlying ht, goInt]
theorem P_len_str {s : ByteArray} {c : Call} (ho : o.op = .call c) (hc : c = ⟨.builtin .len, #[x], #[t]⟩) (ht : P.underlying t = some .string) (hx : fr.ev x = some (.string s)) : PStep P fr o (.int .i64 (s.size : Int)) := by
  intro a ha w; unfold execOp
  simp [ho, hc, ha.ev hx, resolve, invoke, builtin, Builtin.len_, run_underlying ht, goInt]
theorem P_len_arr {n : Nat} {e : TypeId} {c : Call} (ho : o.op = .call c) (hc : c = ⟨.builtin .len, #[x], #[t]⟩) (ht : P.underlying t = some (.array n e)) (hx : fr.ev x = some v) : PStep P fr o (.int .i64 (n : Int)) := by
  intro a ha w; unfold execOp
  simp [ho, hc, ha.ev hx, resolve, invoke, builtin, Builtin.len_, run_underlying ht, goInt]
theorem P_min2 {k : IntKind} {p q : Int} {c : Call} {ts : Array TypeId} (ho : o.op = .call c) (hc : c = ⟨.builtin .min, #[x, y], ts⟩) (hx : fr.ev x = some (.int k p)) (hy : fr.ev y = some (.int k q)) : PStep P fr o (.int k (min p q)) := by
  intro a ha w; unfold execOp
  have : (if q < p then q else p) = min p q := by omega
  simp [ho, hc, ha.ev hx, ha.ev hy, resolve, invoke, builtin, Builtin.min_, Builtin.min2, this]
theorem P_max2 {k : IntKind} {p q : Int} {c : Call} {ts : Array TypeId} (ho : o.op = .call c) (hc : c = ⟨.builtin .max, #[x, y], ts⟩) (hx : fr.ev x = some (.int k p)) (hy : fr.ev y = some (.int k q)) : PStep P fr o (.int k (max p q)) := by
  intro a ha w; unfold execOp
  have : (if p < q then q else p) = max p q := by omega
  simp [ho, hc, ha.ev hx, ha.ev hy, resolve, invoke, builtin, Builtin.max_, Builtin.max2, this]
/-- An array's value at a place: one cell. -/
theorem P_index_arr {t e : TypeId} {len j : Nat} {cs : Array Value} {k : IntKind} {i : Int} {ix : Operand} {D : TypeDesc} (ho : o.op = .index t x ix) (ht : P.underlying t = some (.array len e)) (hz : tsz P e = some 1) (hD : P.underlying e = some D) (hd : ∀ fs, D ≠ .struct fs) (hd' : ∀ n e', D ≠ .array n e')
    (hx : fr.ev x = some (.agg cs)) (hi : fr.ev ix = some (.int k i)) (hj : i = (j : Int)) (hlt : j < len) (hv : cs[j]? = some v) : PStep P fr o v := by
  intro a ha w; unfold execOp
  obtain ⟨i0, hi0, hi1⟩ := Option.map_eq_some_iff.1 (show (P.info? e).map (·.size) = _ from hz)
  subst hj
  have hag : (isAgg e).run P w = .ok false w := by
    unfold isAgg
    rw [Sem.run_bind, run_underlying hD, Result.andThen_ok]
    cases D <;> first | rfl | exact absurd rfl (hd _) | exact absurd rfl (hd' _ _)
  simp [ho, ha.ev hx, ha.ev hi, Instr.index, run_underlying ht, asIntOf, sizeOf, typeInfo, hi0, hi1, hlt, part, hag, hv]
end
end SE
end Go
