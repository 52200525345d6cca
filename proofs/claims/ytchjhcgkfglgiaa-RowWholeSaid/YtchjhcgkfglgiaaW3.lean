/- A small logic over the walk's rules: the rules of single operations. It states nothing of any program. -/
import Derived.Test.YtchjhcgkfglgiaaW2
namespace Go.Proofs.Ytchjhcgkfglgiaa
open Go

section
variable {E : En} {O : List OE} {G : Ctx} {dst : Option Tmp} {ty : TypeId} {pos : String} {after : Array Edge} {g : Option (Nat × Bool)}

theorem OpOK.of_run {o : Oper} {t : Ty} (h : ∀ a w S, Sat w S → Own E.base E.B w S O → Facts E.N S a G →
    ∃ v w' S', (execOp a.eval o).run E.P w = .ok (.value v) w' ∧ Ext noB w S w' S' ∧ Sat w' S' ∧ t.p S' v) (hd : ∀ c, o.op ≠ .defer c := by intro c h; cases h) : OpOK E O G o t := fun a w S hs ho hf => by
  obtain ⟨v, w', S', hr, he, hs', hv⟩ := h a w S hs ho hf
  refine ⟨hd, ?_⟩
  rw [hr]
  exact ⟨v, S', rfl, he, hs', hv⟩
/-- An operation that only reckons or reads. -/
theorem OpOK.of_pure {o : Oper} {t : Ty} (h : ∀ a w S, Sat w S → Own E.base E.B w S O → Facts E.N S a G → ∃ v, (execOp a.eval o).run E.P w = .ok (.value v) w ∧ t.p S v) (hd : ∀ c, o.op ≠ .defer c := by intro c h; cases h) : OpOK E O G o t :=
  .of_run (fun a w S hs ho hf => let ⟨v, hr, hv⟩ := h a w S hs ho hf; ⟨v, w, S, hr, Ext.refl _ _ _, hs, hv⟩) hd

theorem ok_move {x : Operand} {t : Ty} (hx : HasTy E.N G x t) : OpOK E O G ⟨dst, .move x, ty, pos, after, g⟩ t :=
  .of_pure fun a _ S _ _ hf => ⟨a.eval x, rfl, hx S a hf⟩
theorem ok_assign {x : Operand} {t : Ty} (hx : HasTy E.N G x t) : OpOK E O G ⟨dst, .assign x, ty, pos, after, g⟩ t :=
  .of_pure fun a _ S _ _ hf => ⟨a.eval x, rfl, hx S a hf⟩
theorem ok_pick {c x y : Operand} {b : Bool} {t : Ty} (hc : HasTy E.N G c (tD rB b)) (hx : b = true → HasTy E.N G x t) (hy : b = false → HasTy E.N G y t) : OpOK E O G ⟨dst, .pick c x y, ty, pos, after, g⟩ t :=
  .of_pure fun a _ S _ _ hf => by
    have h1 : a.eval c = .bool b := tB_iff.1 (hc S a hf)
    refine ⟨if b then a.eval x else a.eval y, by simp [execOp, h1, asBool], ?_⟩
    cases b with
    | true => exact hx rfl S a hf
    | false => exact hy rfl S a hf

/-! ### Numbers -/
section
variable {xt yt : TypeId} {x y : Operand} {k : IntKind} {m n : Int}
theorem eqGuard_int {P : Program} {op : BinOp} {xt : TypeId} {x y : Operand} {k k' : IntKind} {m n : Int} {w : World} : (eqGuard op xt x y (.int k m) (.int k' n)).run P w = .ok () w := by
  unfold eqGuard
  cases op <;> rfl
theorem ok_bin {op : BinOp} {t : Ty} (hx : HasTy E.N G x (tD (rI k) m)) (hy : HasTy E.N G y (tD (rI k) n)) {v : Value} (hv : ∀ P w, (binOp op xt (.int k m) (.int k n)).run P w = .ok v w) (ht : ∀ S, t.p S v) :
    OpOK E O G ⟨dst, .binOp op xt x y yt, ty, pos, after, g⟩ t :=
  .of_pure fun a w S _ _ hf => by
    have h1 : a.eval x = .int k m := tI_iff.1 (hx S a hf)
    have h2 : a.eval y = .int k n := tI_iff.1 (hy S a hf)
    refine ⟨v, ?_, ht S⟩
    simp [execOp, h1, h2, eqGuard_int, hv]
theorem ok_add (hx : HasTy E.N G x (tD (rI k) m)) (hy : HasTy E.N G y (tD (rI k) n)) : OpOK E O G ⟨dst, .binOp .add xt x y yt, ty, pos, after, g⟩ (tD (rI k) (k.wrap (m + n))) :=
  ok_bin hx hy (fun _ _ => by simp [binOp, Op.intArith]) (fun _ => tI_iff.2 rfl)
theorem ok_sub (hx : HasTy E.N G x (tD (rI k) m)) (hy : HasTy E.N G y (tD (rI k) n)) : OpOK E O G ⟨dst, .binOp .sub xt x y yt, ty, pos, after, g⟩ (tD (rI k) (k.wrap (m - n))) :=
  ok_bin hx hy (fun _ _ => by simp [binOp, Op.intArith]) (fun _ => tI_iff.2 rfl)
theorem ok_mul (hx : HasTy E.N G x (tD (rI k) m)) (hy : HasTy E.N G y (tD (rI k) n)) : OpOK E O G ⟨dst, .binOp .mul xt x y yt, ty, pos, after, g⟩ (tD (rI k) (k.wrap (m * n))) :=
  ok_bin hx hy (fun _ _ => by simp [binOp, Op.intArith]) (fun _ => tI_iff.2 rfl)
theorem ok_quo (hx : HasTy E.N G x (tD (rI k) m)) (hy : HasTy E.N G y (tD (rI k) n)) (h0 : n ≠ 0) : OpOK E O G ⟨dst, .binOp .quo xt x y yt, ty, pos, after, g⟩ (tD (rI k) (k.wrap (m.tdiv n))) :=
  ok_bin hx hy (fun _ _ => by simp [binOp, Op.intDiv, h0]) (fun _ => tI_iff.2 rfl)
theorem ok_rem (hx : HasTy E.N G x (tD (rI k) m)) (hy : HasTy E.N G y (tD (rI k) n)) (h0 : n ≠ 0) : OpOK E O G ⟨dst, .binOp .rem xt x y yt, ty, pos, after, g⟩ (tD (rI k) (m.tmod n)) :=
  ok_bin hx hy (fun _ _ => by simp [binOp, Op.intDiv, h0]) (fun _ => tI_iff.2 rfl)
theorem ok_lss (hx : HasTy E.N G x (tD (rI k) m)) (hy : HasTy E.N G y (tD (rI k) n)) : OpOK E O G ⟨dst, .binOp .lss xt x y yt, ty, pos, after, g⟩ (tD rB (decide (m < n))) :=
  ok_bin hx hy (fun _ _ => by simp [binOp, Op.intCmp]) (fun _ => tB_iff.2 rfl)
theorem ok_leq (hx : HasTy E.N G x (tD (rI k) m)) (hy : HasTy E.N G y (tD (rI k) n)) : OpOK E O G ⟨dst, .binOp .leq xt x y yt, ty, pos, after, g⟩ (tD rB (decide (m ≤ n))) :=
  ok_bin hx hy (fun _ _ => by simp [binOp, Op.intCmp]) (fun _ => tB_iff.2 rfl)
theorem ok_gtr (hx : HasTy E.N G x (tD (rI k) m)) (hy : HasTy E.N G y (tD (rI k) n)) : OpOK E O G ⟨dst, .binOp .gtr xt x y yt, ty, pos, after, g⟩ (tD rB (decide (n < m))) :=
  ok_bin hx hy (fun _ _ => by simp [binOp, Op.intCmp]) (fun _ => tB_iff.2 rfl)
theorem ok_geq (hx : HasTy E.N G x (tD (rI k) m)) (hy : HasTy E.N G y (tD (rI k) n)) : OpOK E O G ⟨dst, .binOp .geq xt x y yt, ty, pos, after, g⟩ (tD rB (decide (n ≤ m))) :=
  ok_bin hx hy (fun _ _ => by simp [binOp, Op.intCmp]) (fun _ => tB_iff.2 rfl)
theorem ok_eqlI (hx : HasTy E.N G x (tD (rI k) m)) (hy : HasTy E.N G y (tD (rI k) n)) : OpOK E O G ⟨dst, .binOp .eql xt x y yt, ty, pos, after, g⟩ (tD rB (m == n)) :=
  ok_bin hx hy (fun _ _ => by simp [binOp, Op.intCmp]) (fun _ => tB_iff.2 rfl)
theorem ok_neqI (hx : HasTy E.N G x (tD (rI k) m)) (hy : HasTy E.N G y (tD (rI k) n)) : OpOK E O G ⟨dst, .binOp .neq xt x y yt, ty, pos, after, g⟩ (tD rB (m != n)) :=
  ok_bin hx hy (fun _ _ => by simp [binOp, Op.intCmp]) (fun _ => tB_iff.2 rfl)
def bitsOp (op : BinOp) (k : IntKind) (x y : Int) : Int :=
  k.wrap (match op with
    | .and => (BitVec.ofInt k.bits x &&& BitVec.ofInt k.bits y).toNat
    | .or => (BitVec.ofInt k.bits x ||| BitVec.ofInt k.bits y).toNat
    | .xor => (BitVec.ofInt k.bits x ^^^ BitVec.ofInt k.bits y).toNat
    | _ => (BitVec.ofInt k.bits x &&& ~~~BitVec.ofInt k.bits y).toNat : Nat)
theorem ok_and (hx : HasTy E.N G x (tD (rI k) m)) (hy : HasTy E.N G y (tD (rI k) n)) : OpOK E O G ⟨dst, .binOp .and xt x y yt, ty, pos, after, g⟩ (tD (rI k) (bitsOp .and k m n)) :=
  ok_bin hx hy (fun _ _ => by simp [binOp, Op.intBits]; rfl) (fun _ => tI_iff.2 rfl)
theorem ok_or (hx : HasTy E.N G x (tD (rI k) m)) (hy : HasTy E.N G y (tD (rI k) n)) : OpOK E O G ⟨dst, .binOp .or xt x y yt, ty, pos, after, g⟩ (tD (rI k) (bitsOp .or k m n)) :=
  ok_bin hx hy (fun _ _ => by simp [binOp, Op.intBits]; rfl) (fun _ => tI_iff.2 rfl)
theorem ok_xor (hx : HasTy E.N G x (tD (rI k) m)) (hy : HasTy E.N G y (tD (rI k) n)) : OpOK E O G ⟨dst, .binOp .xor xt x y yt, ty, pos, after, g⟩ (tD (rI k) (bitsOp .xor k m n)) :=
  ok_bin hx hy (fun _ _ => by simp [binOp, Op.intBits]; rfl) (fun _ => tI_iff.2 rfl)
theorem ok_shift {op : BinOp} {k' : IntKind} {t : Ty} (hx : HasTy E.N G x (tD (rI k) m)) (hy : HasTy E.N G y (tD (rI k') n)) {v : Value} (hv : ∀ P w, (binOp op xt (.int k m) (.int k' n)).run P w = .ok v w) (ht : ∀ S, t.p S v) :
    OpOK E O G ⟨dst, .binOp op xt x y yt, ty, pos, after, g⟩ t :=
  .of_pure fun a w S _ _ hf => by
    have h1 : a.eval x = .int k m := tI_iff.1 (hx S a hf)
    have h2 : a.eval y = .int k' n := tI_iff.1 (hy S a hf)
    refine ⟨v, ?_, ht S⟩
    simp [execOp, h1, h2, eqGuard_int, hv]
theorem ok_shl {k' : IntKind} (hx : HasTy E.N G x (tD (rI k) m)) (hy : HasTy E.N G y (tD (rI k') n)) (h0 : 0 ≤ n) : OpOK E O G ⟨dst, .binOp .shl xt x y yt, ty, pos, after, g⟩ (tD (rI k) (k.wrap (m * 2 ^ (min n.toNat k.bits)))) :=
  ok_shift hx hy (fun _ _ => by simp [binOp, Op.shift, Int.not_lt.2 h0]) (fun _ => tI_iff.2 rfl)
theorem ok_shr {k' : IntKind} (hx : HasTy E.N G x (tD (rI k) m)) (hy : HasTy E.N G y (tD (rI k') n)) (h0 : 0 ≤ n) : OpOK E O G ⟨dst, .binOp .shr xt x y yt, ty, pos, after, g⟩ (tD (rI k) (m.fdiv (2 ^ (min n.toNat k.bits)))) :=
  ok_shift hx hy (fun _ _ => by simp [binOp, Op.shift, Int.not_lt.2 h0]) (fun _ => tI_iff.2 rfl)
theorem ok_neg (hx : HasTy E.N G x (tD (rI k) m)) : OpOK E O G ⟨dst, .unOp .neg xt x, ty, pos, after, g⟩ (tD (rI k) (k.wrap (0 - m))) :=
  .of_pure fun a w S _ _ hf => by
    have h1 : a.eval x = .int k m := tI_iff.1 (hx S a hf)
    exact ⟨.int k (k.wrap (0 - m)), by simp [execOp, h1, Op.unary, Op.intArith], tI_iff.2 rfl⟩
theorem ok_cpl (hx : HasTy E.N G x (tD (rI k) m)) : OpOK E O G ⟨dst, .unOp .xor xt x, ty, pos, after, g⟩ (tD (rI k) (bitsOp .xor k (if k.signed then -1 else k.max) m)) :=
  .of_pure fun a w S _ _ hf => by
    have h1 : a.eval x = .int k m := tI_iff.1 (hx S a hf)
    exact ⟨_, by simp [execOp, h1, Op.unary, Op.intBits]; rfl, tI_iff.2 rfl⟩
theorem ok_not {b : Bool} (hx : HasTy E.N G x (tD rB b)) : OpOK E O G ⟨dst, .unOp .not xt x, ty, pos, after, g⟩ (tD rB (!b)) :=
  .of_pure fun a w S _ _ hf => by
    have h1 : a.eval x = .bool b := tB_iff.1 (hx S a hf)
    exact ⟨.bool (!b), by simp [execOp, h1, Op.unary], tB_iff.2 rfl⟩
def descIntKind (d : TypeDesc) (k : IntKind) : Prop := d = .int k
theorem ok_conv {st dt : TypeId} {k' : IntKind} {d : TypeDesc} (hs : E.P.underlying st = some d) (hd : E.P.underlying dt = some (.int k')) (hx : HasTy E.N G x (tD (rI k) m)) :
    OpOK E O G ⟨dst, .convert st dt x, ty, pos, after, g⟩ (tD (rI k') (k'.wrap m)) :=
  .of_pure fun a w S _ _ hf => by
    have h1 : a.eval x = .int k m := tI_iff.1 (hx S a hf)
    refine ⟨.int k' (k'.wrap m), ?_, tI_iff.2 rfl⟩
    simp only [execOp, h1, convert, Sem.run_bind, run_underlying hs, run_underlying hd, Result.andThen_ok]
    cases d <;> simp [Conv.intToInt]
end

/-! ### Truths and strings -/
theorem run_equalIn_bool {P : Program} {t : TypeId} (ht : P.underlying t = some .bool) (d : Nat) (b c : Bool) (w : World) : (Op.equalIn (d + 1) t (.bool b) (.bool c)).run P w = .ok (b == c) w := by
  simp [Op.equalIn, run_underlying ht]
theorem run_equalIn_int {P : Program} {t : TypeId} {k : IntKind} (ht : P.underlying t = some (.int k)) (d : Nat) (b c : Int) (w : World) : (Op.equalIn (d + 1) t (.int k b) (.int k c)).run P w = .ok (b == c) w := by
  simp [Op.equalIn, run_underlying ht]
theorem run_equalIn_str {P : Program} {t : TypeId} (ht : P.underlying t = some .string) (d : Nat) (b c : ByteArray) (w : World) : (Op.equalIn (d + 1) t (.string b) (.string c)).run P w = .ok (b == c) w := by
  simp [Op.equalIn, run_underlying ht]
theorem run_eql {P : Program} {t : TypeId} {x y : Value} {b : Bool} {w : World} (hb : ∀ d, (Op.equalIn (d + 1) t x y).run P w = .ok b w) : (Op.equal t x y).run P w = .ok b w := hb 9999
section
variable {xt yt : TypeId} {x y : Operand}
theorem ok_eqlB {b c : Bool} (ht : E.P.underlying xt = some .bool) (hx : HasTy E.N G x (tD rB b)) (hy : HasTy E.N G y (tD rB c)) : OpOK E O G ⟨dst, .binOp .eql xt x y yt, ty, pos, after, g⟩ (tD rB (b == c)) :=
  .of_pure fun a w S _ _ hf => by
    have h1 : a.eval x = .bool b := tB_iff.1 (hx S a hf)
    have h2 : a.eval y = .bool c := tB_iff.1 (hy S a hf)
    exact ⟨.bool (b == c), by simp [execOp, h1, h2, eqGuard, binOp, run_eql (fun d => run_equalIn_bool ht d b c w)], tB_iff.2 rfl⟩
theorem ok_neqB {b c : Bool} (ht : E.P.underlying xt = some .bool) (hx : HasTy E.N G x (tD rB b)) (hy : HasTy E.N G y (tD rB c)) : OpOK E O G ⟨dst, .binOp .neq xt x y yt, ty, pos, after, g⟩ (tD rB (b != c)) :=
  .of_pure fun a w S _ _ hf => by
    have h1 : a.eval x = .bool b := tB_iff.1 (hx S a hf)
    have h2 : a.eval y = .bool c := tB_iff.1 (hy S a hf)
    exact ⟨.bool (b != c), by simp [execOp, h1, h2, eqGuard, binOp, run_eql (fun d => run_equalIn_bool ht d b c w)]; cases b <;> cases c <;> rfl, tB_iff.2 rfl⟩
theorem ok_str {op : BinOp} {s u : Str} {b : Bool} (hx : HasTy E.N G x (tD rS s)) (hy : HasTy E.N G y (tD rS u)) (hv : ∀ P w, (Op.stringOp op ⟨s.toArray⟩ ⟨u.toArray⟩).run P w = .ok (.bool b) w)
    (hg : ∀ P w, (eqGuard op xt x y (.string ⟨s.toArray⟩) (.string ⟨u.toArray⟩)).run P w = .ok () w) (hb : ∀ P w, (binOp op xt (.string ⟨s.toArray⟩) (.string ⟨u.toArray⟩)).run P w = (Op.stringOp op ⟨s.toArray⟩ ⟨u.toArray⟩).run P w) :
    OpOK E O G ⟨dst, .binOp op xt x y yt, ty, pos, after, g⟩ (tD rB b) :=
  .of_pure fun a w S _ _ hf => by
    have h1 : a.eval x = .string ⟨s.toArray⟩ := tS_iff.1 (hx S a hf)
    have h2 : a.eval y = .string ⟨u.toArray⟩ := tS_iff.1 (hy S a hf)
    refine ⟨.bool b, ?_, tB_iff.2 rfl⟩
    simp [execOp, h1, h2, hg, hb, hv]
theorem ok_eqlS {s u : Str} (hx : HasTy E.N G x (tD rS s)) (hy : HasTy E.N G y (tD rS u)) : OpOK E O G ⟨dst, .binOp .eql xt x y yt, ty, pos, after, g⟩ (tD rB (s == u)) :=
  ok_str hx hy (fun _ _ => by simp [Op.stringOp]) (fun _ _ => rfl) (fun _ _ => rfl)
theorem ok_neqS {s u : Str} (hx : HasTy E.N G x (tD rS s)) (hy : HasTy E.N G y (tD rS u)) : OpOK E O G ⟨dst, .binOp .neq xt x y yt, ty, pos, after, g⟩ (tD rB (!(s == u))) :=
  ok_str hx hy (fun _ _ => by simp [Op.stringOp]) (fun _ _ => rfl) (fun _ _ => rfl)
theorem ok_lssS {s u : Str} (hx : HasTy E.N G x (tD rS s)) (hy : HasTy E.N G y (tD rS u)) : OpOK E O G ⟨dst, .binOp .lss xt x y yt, ty, pos, after, g⟩ (tD rB (Op.bytesLess s u)) :=
  ok_str hx hy (fun _ _ => by simp [Op.stringOp]) (fun _ _ => rfl) (fun _ _ => rfl)
theorem ok_gtrS {s u : Str} (hx : HasTy E.N G x (tD rS s)) (hy : HasTy E.N G y (tD rS u)) : OpOK E O G ⟨dst, .binOp .gtr xt x y yt, ty, pos, after, g⟩ (tD rB (!(Op.bytesLess s u || s == u))) :=
  ok_str hx hy (fun _ _ => by simp [Op.stringOp]) (fun _ _ => rfl) (fun _ _ => rfl)
end
end
end Go.Proofs.Ytchjhcgkfglgiaa
