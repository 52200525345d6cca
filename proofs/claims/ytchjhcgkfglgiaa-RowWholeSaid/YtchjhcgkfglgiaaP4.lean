/- The walks, part 4. -/
import Derived.Test.YtchjhcgkfglgiaaT
import Derived.Test.YtchjhcgkfglgiaaP3
namespace Go.Proofs.Ytchjhcgkfglgiaa
open Go

set_option maxRecDepth 100000 in
theorem f20_ok (l : (List (List DValue))) (columns : (List Int)) {R : Int} (h : ref05_Asked l columns = some R) : Spec Try.prog 20 [tD (rSl (rSl rpDValue)) l, tD (rSl (rI .i64)) columns] (tD (rI .i64) R) := by
  refine Spec.of Try.func20 rfl rfl rfl fun w0 S0 => ?_
  refine CG.seq ?_
  refine CG.region ?_
  refine RG.op (ok_assign hI) rfl ?_
  refine RG.nil ?_
  refine AT.next ?_
  refine CG.seq ?_
  refine CG.seq ?_
  refine CG.region ?_
  refine RG.op (ok_move (ht rfl)) rfl ?_
  obtain ⟨r, q_r, h⟩ := bs h
  refine RG.op (ok_call cb27 (f27_ok _ q_r) ⟨(ht rfl), trivial⟩) rfl ?_
  refine RG.op (ok_assign (ht rfl)) rfl ?_
  refine RG.nil ?_
  refine AT.next ?_
  refine CG.seq ?_
  refine CG.region ?_
  refine RG.op (ok_move (ht rfl)) rfl ?_
  refine RG.op (ok_neqI (ht rfl) hI) rfl ?_
  refine RG.nil ?_
  refine AT.next ?_
  refine CG.cond (ht rfl) (fun hc => ?_) (fun hc => ?_)
  · have h := ct h hc
    refine CG.seq ?_
    refine CG.region ?_
    refine RG.op (ok_move (ht rfl)) rfl ?_
    refine RG.op (ok_assign (ht rfl)) rfl ?_
    refine RG.nil ?_
    refine AT.next ?_
    refine CG.ret ?_
    refine AT.then_ret ?_
    cases so h
    exact AT.ret1 rfl rfl
  · have h := cf h hc
    refine CG.skip ?_
    refine AT.next ?_
    refine CG.seq ?_
    refine CG.seq ?_
    refine CG.region ?_
    refine RG.op (ok_move (ht rfl)) rfl ?_
    refine RG.op (ok_move (ht rfl)) rfl ?_
    obtain ⟨r1, q_r1, h⟩ := bs h
    refine RG.op (ok_call cb44 (f44_ok _ _ q_r1) ⟨(ht rfl), (ht rfl), trivial⟩) rfl ?_
    refine RG.op (ok_not (ht rfl)) rfl ?_
    refine RG.nil ?_
    refine AT.next ?_
    refine CG.cond (ht rfl) (fun hc => ?_) (fun hc => ?_)
    · have h := ct h hc
      refine CG.seq ?_
      refine CG.region ?_
      refine RG.op (ok_assign hI) rfl ?_
      refine RG.nil ?_
      refine AT.next ?_
      refine CG.ret ?_
      refine AT.then_ret ?_
      cases so h
      exact AT.ret1 rfl rfl
    · have h := cf h hc
      refine CG.skip ?_
      refine AT.next ?_
      refine CG.seq ?_
      refine CG.region ?_
      refine RG.op (ok_assign hI) rfl ?_
      refine RG.nil ?_
      refine AT.next ?_
      refine CG.ret ?_
      cases so h
      exact AT.ret1 rfl rfl

set_option maxRecDepth 100000 in
theorem f21_own (r : (List DValue)) (columns : (List Int)) {R : (List DValue)} (h : ref05_Take r columns = some R) : SpecO Try.prog 21 [tD (rSl rpDValue) r, tD (rSl (rI .i64)) columns] false rpDValue 33 R := by
  refine SpecO.of Try.func21 rfl rfl rfl fun w0 S0 => ?_
  refine CG.seq ?_
  refine CG.region ?_
  refine RG.fresh false rpDValue 33 ?_
  refine RG.op (ok_assign hVn) rfl ?_
  refine RG.nil ?_
  refine AT.next ?_
  refine CG.seq ?_
  refine CG.region ?_
  refine RG.fresh false rpDValue 33 ?_
  refine RG.op (ok_assign hVn) rfl ?_
  refine RG.nil ?_
  refine AT.next ?_
  refine CG.seq ?_
  refine CG.seq ?_
  refine CG.region ?_
  refine RG.op (ok_assign hI) rfl ?_
  refine RG.nil ?_
  refine AT.next ?_
  refine CG.block ?_
  refine CG.have_len (k := 1) rfl (fun hN => ?_)
  refine CG.loop ?_
  refine LG.front1 ?_
  refine LG.drop ?_
  refine LG.sub (LG.list4 (Z := fun ls i out l c => (columns.drop i = ls) ∧ ref05_Take_l1 r ls out = some R) (Of := fun _ i out l c => [arr rpDValue 33 l c out]) (Gf := fun _ i out l c => [(0, tD (rSl rpDValue) r), (1, tD (rSl (rI .i64)) columns), (5, tV (oslV l c out.length)), (6, tD (rI .i64) (i : Int))]) (fun i out l c h => ?_) (fun e tl ih i out l c h => ?_) columns 0 ([] : List DValue) none 0 ⟨rfl, h⟩) ⟨rfl, rfl, rfl, rfl, trivial⟩
  · obtain ⟨hx, h⟩ := h
    refine LG.unfold ?_
    refine CG.seq ?_
    refine CG.seq ?_
    refine CG.region ?_
    refine RG.op (ok_move (ht rfl)) rfl ?_
    refine RG.op (ok_move (ht rfl)) rfl ?_
    refine RG.op (ok_lenSl Try.underlying37 (ht rfl)) rfl ?_
    refine RG.op (ok_lss (ht rfl) (ht rfl)) rfl ?_
    refine RG.nil ?_
    refine AT.next ?_
    refine CG.condF (ht rfl) (dropF hx) ?_
    refine CG.exit ?_
    refine AT.then_exit (AT.then_exit (AT.in_exit ?_))
    refine AT.next ?_
    refine CG.seq ?_
    refine CG.region ?_
    refine RG.op (ok_move (ht rfl)) rfl ?_
    refine RG.op (ok_assign (ht rfl)) rfl ?_
    refine RG.nil ?_
    refine AT.next ?_
    refine CG.ret ?_
    cases so h
    exact AT.retO rfl rfl
  · obtain ⟨hx, h⟩ := h
    refine LG.unfold ?_
    refine CG.seq ?_
    refine CG.seq ?_
    refine CG.region ?_
    refine RG.op (ok_move (ht rfl)) rfl ?_
    refine RG.op (ok_move (ht rfl)) rfl ?_
    refine RG.op (ok_lenSl Try.underlying37 (ht rfl)) rfl ?_
    refine RG.op (ok_lss (ht rfl) (ht rfl)) rfl ?_
    refine RG.nil ?_
    refine AT.next ?_
    refine CG.condT (ht rfl) (dropT hx) ?_
    refine CG.skip ?_
    refine AT.next ?_
    refine CG.seq ?_
    refine CG.block ?_
    refine CG.region ?_
    refine RG.op (ok_move (ht rfl)) rfl ?_
    refine RG.op (ok_move (ht rfl)) rfl ?_
    refine RG.op (ok_move (ht rfl)) rfl ?_
    refine RG.op (ok_move (ht rfl)) rfl ?_
    refine RG.op (ok_indexAddr Try.underlying37 ti3 rfl (ht rfl) (ht rfl) (dropI hx)) rfl ?_
    refine RG.op (ok_load ti3 rfl rfl (ht rfl)) rfl ?_
    obtain ⟨e1, q_e1, h⟩ := bs h
    refine RG.op (ok_indexAddr Try.underlying26 ti33 rfl (ht rfl) (ht rfl) q_e1) rfl ?_
    refine RG.op (ok_load ti33 rfl rfl (ht rfl)) rfl ?_
    refine RG.op (ok_buildSlice (r := rpDValue) (ys := [e1]) (xs := [.tmp 20]) Try.underlying26 ti33 rfl rfl rfl rfl rfl ⟨(ht rfl), trivial⟩) rfl ?_
    obtain ⟨out1, q_out1, h⟩ := bs h
    refine RG.append ti33 rfl rfl rfl rfl Try.underlying26 rfl rfl (ht rfl) (ht rfl) q_out1 (fun l1 c1 => ?_)
    refine RG.op (ok_assign (ht rfl)) rfl ?_
    refine RG.nil ?_
    refine AT.in_normal ?_
    refine AT.next ?_
    refine CG.region ?_
    refine RG.op (ok_move (ht rfl)) rfl ?_
    refine RG.op (ok_incN (dropL hx hN) (ht rfl) hI) rfl ?_
    refine RG.op (ok_assign (ht rfl)) rfl ?_
    refine RG.nil ?_
    exact AT.round (LG.sub (ih (i + 1) out1 l1 c1 ⟨dropS hx, h⟩) ⟨rfl, rfl, rfl, rfl, trivial⟩)
theorem f21_ok (r : (List DValue)) (columns : (List Int)) {R : (List DValue)} (h : ref05_Take r columns = some R) : Spec Try.prog 21 [tD (rSl rpDValue) r, tD (rSl (rI .i64)) columns] (tD (rSl rpDValue) R) := (f21_own _ _ h).spec

set_option maxRecDepth 100000 in
theorem f45_own (n : Int) {R : (List Int)} (h : ref05_number n = some R) : SpecO Try.prog 45 [tD (rI .u64) n] false (rI .u8) 5 R := by
  refine SpecO.of Try.func45 rfl rfl rfl fun w0 S0 => ?_
  refine CG.seq ?_
  refine CG.region ?_
  refine RG.fresh false (rI .u8) 5 ?_
  refine RG.op (ok_assign hVn) rfl ?_
  refine RG.nil ?_
  refine AT.next ?_
  refine CG.seq ?_
  refine CG.region ?_
  refine RG.fresh false (rI .u8) 5 ?_
  refine RG.op (ok_assign hVn) rfl ?_
  refine RG.nil ?_
  refine AT.next ?_
  refine CG.seq ?_
  refine CG.seq ?_
  refine CG.region ?_
  refine RG.op (ok_assign hI) rfl ?_
  refine RG.nil ?_
  refine AT.next ?_
  refine CG.block ?_
  refine CG.loop ?_
  refine LG.front1 ?_
  refine LG.drop ?_
  refine LG.sub (LG.nat5 (Z := fun k i out l c n1 => (8 - i = k) ∧ ref05_number_l1 k out n1 = some R) (Of := fun _ i out l c n1 => [arr (rI .u8) 5 l c out]) (Gf := fun _ i out l c n1 => [(0, tD (rI .u64) n1), (3, tV (oslV l c out.length)), (4, tD (rI .i64) (i : Int))]) (fun i out l c n1 h => ?_) (fun k1 ih i out l c n1 h => ?_) 8 0 ([] : List Int) none 0 n ⟨rfl, h⟩) ⟨rfl, rfl, rfl, trivial⟩
  · obtain ⟨hx, h⟩ := h
    refine LG.unfold ?_
    refine CG.seq ?_
    refine CG.seq ?_
    refine CG.region ?_
    refine RG.op (ok_move (ht rfl)) rfl ?_
    refine RG.op (ok_lss (ht rfl) hI) rfl ?_
    refine RG.nil ?_
    refine AT.next ?_
    refine CG.condF (ht rfl) (natF hx) ?_
    refine CG.exit ?_
    refine AT.then_exit (AT.then_exit (AT.in_exit ?_))
    refine AT.next ?_
    refine CG.seq ?_
    refine CG.region ?_
    refine RG.op (ok_move (ht rfl)) rfl ?_
    refine RG.op (ok_assign (ht rfl)) rfl ?_
    refine RG.nil ?_
    refine AT.next ?_
    refine CG.ret ?_
    cases so h
    exact AT.retO rfl rfl
  · obtain ⟨hx, h⟩ := h
    refine LG.unfold ?_
    refine CG.seq ?_
    refine CG.seq ?_
    refine CG.region ?_
    refine RG.op (ok_move (ht rfl)) rfl ?_
    refine RG.op (ok_lss (ht rfl) hI) rfl ?_
    refine RG.nil ?_
    refine AT.next ?_
    refine CG.condT (ht rfl) (natT hx) ?_
    refine CG.skip ?_
    refine AT.next ?_
    refine CG.seq ?_
    refine CG.block ?_
    refine CG.seq ?_
    refine CG.region ?_
    refine RG.op (ok_move (ht rfl)) rfl ?_
    refine RG.op (ok_rem (ht rfl) hI (by decide)) rfl ?_
    refine RG.op (ok_conv Try.underlying31 Try.underlying5 (ht rfl)) rfl ?_
    refine RG.buildOwn (r := (rI .u8)) (ys := [(IntKind.u8.wrap ((n1).tmod (256 : Int)))]) (xs := [.tmp 11]) Try.underlying70 ti5 rfl rfl rfl rfl rfl ⟨(ht rfl), trivial⟩ rfl (fun l1 c1 => ?_)
    refine RG.op (ok_move (ht rfl)) rfl ?_
    refine RG.front1 ?_
    refine RG.freeze ?_
    refine RG.tipAt 3 rfl ?_
    refine RG.tipAt 13 rfl ?_
    refine RG.front1 ?_
    obtain ⟨out1, q_out1, h⟩ := bs h
    refine RG.append ti5 rfl rfl rfl rfl Try.underlying70 rfl rfl (ht rfl) (tO_d (ht rfl)) q_out1 (fun l2 c2 => ?_)
    refine RG.op (ok_assign (ht rfl)) rfl ?_
    refine RG.nil ?_
    refine AT.next ?_
    refine CG.region ?_
    refine RG.op (ok_move (ht rfl)) rfl ?_
    refine RG.op (ok_quo (ht rfl) hI (by decide)) rfl ?_
    refine RG.op (ok_assign (ht rfl)) rfl ?_
    refine RG.nil ?_
    refine AT.in_normal ?_
    refine AT.next ?_
    refine CG.region ?_
    refine RG.op (ok_move (ht rfl)) rfl ?_
    refine RG.op (ok_incN (natL hx (by decide)) (ht rfl) hI) rfl ?_
    refine RG.op (ok_assign (ht rfl)) rfl ?_
    refine RG.nil ?_
    refine AT.front1 ?_
    refine AT.drop ?_
    exact AT.round (LG.sub (ih (i + 1) out1 l2 c2 (IntKind.u64.wrap ((n1).tdiv (256 : Int))) ⟨natS hx, h⟩) ⟨rfl, rfl, rfl, trivial⟩)
theorem f45_ok (n : Int) {R : (List Int)} (h : ref05_number n = some R) : Spec Try.prog 45 [tD (rI .u64) n] (tD (rSl (rI .u8)) R) := (f45_own _ h).spec

set_option maxRecDepth 100000 in
theorem f69_ok (register : Int) (one : Bool) {R : Int} (h : ref03_bit register one = some R) : Spec Try.prog 69 [tD (rI .u32) register, tD rB one] (tD (rI .u32) R) := by
  refine Spec.of Try.func69 rfl rfl rfl fun w0 S0 => ?_
  refine CG.seq ?_
  refine CG.region ?_
  refine RG.op (ok_assign hI) rfl ?_
  refine RG.nil ?_
  refine AT.next ?_
  refine CG.seq ?_
  refine CG.region ?_
  refine RG.op (ok_move (ht rfl)) rfl ?_
  refine RG.op (ok_rem (ht rfl) hI (by decide)) rfl ?_
  refine RG.op (ok_eqlI (ht rfl) hI) rfl ?_
  refine RG.op (ok_assign (ht rfl)) rfl ?_
  refine RG.nil ?_
  refine AT.next ?_
  refine CG.seq ?_
  refine CG.region ?_
  refine RG.op (ok_move (ht rfl)) rfl ?_
  refine RG.op (ok_quo (ht rfl) hI (by decide)) rfl ?_
  refine RG.op (ok_assign (ht rfl)) rfl ?_
  refine RG.nil ?_
  refine AT.next ?_
  refine CG.sjoin1 (Z := fun register1 => ref03_bit_k1 register1 = some R) (Of := fun register1 => []) (Gf := fun register1 => [(0, tD (rI .u32) register1)]) (fun register1 h => ?_) (fun K => ?_)
  · skip
    refine CG.seq ?_
    refine CG.region ?_
    refine RG.op (ok_move (ht rfl)) rfl ?_
    refine RG.op (ok_assign (ht rfl)) rfl ?_
    refine RG.nil ?_
    refine AT.next ?_
    refine CG.ret ?_
    cases so h
    exact AT.ret1 rfl rfl
  · skip
    refine CG.seq ?_
    refine CG.region ?_
    refine RG.op (ok_move (ht rfl)) rfl ?_
    refine RG.op (ok_move (ht rfl)) rfl ?_
    refine RG.op (ok_neqB Try.underlying4 (ht rfl) (ht rfl)) rfl ?_
    refine RG.nil ?_
    refine AT.next ?_
    refine CG.cond (ht rfl) (fun hc => ?_) (fun hc => ?_)
    · have h := ct h hc
      refine CG.region ?_
      refine RG.op (ok_move (ht rfl)) rfl ?_
      refine RG.op (ok_xor (ht rfl) hI) rfl ?_
      refine RG.op (ok_assign (ht rfl)) rfl ?_
      refine RG.nil ?_
      exact AT.sub (K (bitsOp .xor .u32 (IntKind.u32.wrap ((register).tdiv (2 : Int))) (2197175160 : Int)) h) ⟨rfl, trivial⟩
    · have h := cf h hc
      refine CG.skip ?_
      exact AT.sub (K (IntKind.u32.wrap ((register).tdiv (2 : Int))) h) ⟨rfl, trivial⟩

set_option maxRecDepth 100000 in
theorem f46_ok (b : (List Int)) {R : Int} (h : ref03_Sum32 b = some R) : Spec Try.prog 46 [tD (rSl (rI .u8)) b] (tD (rI .u32) R) := by
  refine Spec.of Try.func46 rfl rfl rfl fun w0 S0 => ?_
  refine CG.seq ?_
  refine CG.region ?_
  refine RG.op (ok_assign hI) rfl ?_
  refine RG.nil ?_
  refine AT.next ?_
  refine CG.seq ?_
  refine CG.region ?_
  refine RG.op (ok_assign hI) rfl ?_
  refine RG.nil ?_
  refine AT.next ?_
  refine CG.seq ?_
  refine CG.seq ?_
  refine CG.region ?_
  refine RG.op (ok_assign hI) rfl ?_
  refine RG.nil ?_
  refine AT.next ?_
  refine CG.block ?_
  refine CG.have_len (k := 0) rfl (fun hN => ?_)
  refine CG.loop ?_
  refine LG.sub (LG.list2 (Z := fun ls i register => (b.drop i = ls) ∧ ref03_Sum32_l1 ls register = some R) (Of := fun _ i register => []) (Gf := fun _ i register => [(0, tD (rSl (rI .u8)) b), (3, tD (rI .u32) register), (4, tD (rI .i64) (i : Int))]) (fun i register h => ?_) (fun e tl ih i register h => ?_) b 0 (4294967295 : Int) ⟨rfl, h⟩) ⟨rfl, rfl, rfl, trivial⟩
  · obtain ⟨hx, h⟩ := h
    refine LG.unfold ?_
    refine CG.seq ?_
    refine CG.seq ?_
    refine CG.region ?_
    refine RG.op (ok_move (ht rfl)) rfl ?_
    refine RG.op (ok_move (ht rfl)) rfl ?_
    refine RG.op (ok_lenSl Try.underlying70 (ht rfl)) rfl ?_
    refine RG.op (ok_lss (ht rfl) (ht rfl)) rfl ?_
    refine RG.nil ?_
    refine AT.next ?_
    refine CG.condF (ht rfl) (dropF hx) ?_
    refine CG.exit ?_
    refine AT.then_exit (AT.then_exit (AT.in_exit ?_))
    refine AT.next ?_
    refine CG.seq ?_
    refine CG.region ?_
    refine RG.op (ok_move (ht rfl)) rfl ?_
    refine RG.op (ok_sub hI (ht rfl)) rfl ?_
    refine RG.op (ok_assign (ht rfl)) rfl ?_
    refine RG.nil ?_
    refine AT.next ?_
    refine CG.ret ?_
    cases so h
    exact AT.ret1 rfl rfl
  · obtain ⟨hx, h⟩ := h
    refine LG.unfold ?_
    refine CG.seq ?_
    refine CG.seq ?_
    refine CG.region ?_
    refine RG.op (ok_move (ht rfl)) rfl ?_
    refine RG.op (ok_move (ht rfl)) rfl ?_
    refine RG.op (ok_lenSl Try.underlying70 (ht rfl)) rfl ?_
    refine RG.op (ok_lss (ht rfl) (ht rfl)) rfl ?_
    refine RG.nil ?_
    refine AT.next ?_
    refine CG.condT (ht rfl) (dropT hx) ?_
    refine CG.skip ?_
    refine AT.next ?_
    refine CG.seq ?_
    refine CG.block ?_
    refine CG.seq ?_
    refine CG.region ?_
    refine RG.op (ok_move (ht rfl)) rfl ?_
    refine RG.op (ok_move (ht rfl)) rfl ?_
    refine RG.op (ok_indexAddr Try.underlying70 ti5 rfl (ht rfl) (ht rfl) (dropI hx)) rfl ?_
    refine RG.op (ok_load ti5 rfl rfl (ht rfl)) rfl ?_
    refine RG.op (ok_assign (ht rfl)) rfl ?_
    refine RG.nil ?_
    refine AT.next ?_
    refine CG.seq ?_
    refine CG.region ?_
    refine RG.op (ok_assign hI) rfl ?_
    refine RG.nil ?_
    refine AT.next ?_
    refine CG.block ?_
    refine CG.loop ?_
    refine LG.sub (LG.nat3 (Z := fun k i1 register1 c => (8 - i1 = k) ∧ ref03_Sum32_l2 (ref03_Sum32_l1 tl) k register1 c = some R) (Of := fun _ i1 register1 c => []) (Gf := fun _ i1 register1 c => [(0, tD (rSl (rI .u8)) b), (3, tD (rI .u32) register1), (4, tD (rI .i64) (i : Int)), (5, tD (rI .u8) c), (6, tD (rI .i64) (i1 : Int))]) (fun i1 register1 c h => ?_) (fun k1 ih1 i1 register1 c h => ?_) 8 0 register e ⟨rfl, h⟩) ⟨rfl, rfl, rfl, rfl, rfl, trivial⟩
    · obtain ⟨hx1, h⟩ := h
      refine LG.unfold ?_
      refine CG.seq ?_
      refine CG.seq ?_
      refine CG.region ?_
      refine RG.op (ok_move (ht rfl)) rfl ?_
      refine RG.op (ok_lss (ht rfl) hI) rfl ?_
      refine RG.nil ?_
      refine AT.next ?_
      refine CG.condF (ht rfl) (natF hx1) ?_
      refine CG.exit ?_
      refine AT.then_exit (AT.then_exit (AT.in_exit ?_))
      refine AT.in_normal ?_
      refine AT.next ?_
      refine CG.region ?_
      refine RG.op (ok_move (ht rfl)) rfl ?_
      refine RG.op (ok_incN (dropL hx hN) (ht rfl) hI) rfl ?_
      refine RG.op (ok_assign (ht rfl)) rfl ?_
      refine RG.nil ?_
      exact AT.round (LG.sub (ih (i + 1) register1 ⟨dropS hx, h⟩) ⟨rfl, rfl, rfl, trivial⟩)
    · obtain ⟨hx1, h⟩ := h
      refine LG.unfold ?_
      refine CG.seq ?_
      refine CG.seq ?_
      refine CG.region ?_
      refine RG.op (ok_move (ht rfl)) rfl ?_
      refine RG.op (ok_lss (ht rfl) hI) rfl ?_
      refine RG.nil ?_
      refine AT.next ?_
      refine CG.condT (ht rfl) (natT hx1) ?_
      refine CG.skip ?_
      refine AT.next ?_
      refine CG.seq ?_
      refine CG.block ?_
      refine CG.seq ?_
      refine CG.region ?_
      refine RG.op (ok_move (ht rfl)) rfl ?_
      refine RG.op (ok_move (ht rfl)) rfl ?_
      refine RG.op (ok_rem (ht rfl) hI (by decide)) rfl ?_
      refine RG.op (ok_eqlI (ht rfl) hI) rfl ?_
      obtain ⟨r, q_r, h⟩ := bs h
      refine RG.op (ok_call cb69 (f69_ok _ _ q_r) ⟨(ht rfl), (ht rfl), trivial⟩) rfl ?_
      refine RG.op (ok_assign (ht rfl)) rfl ?_
      refine RG.nil ?_
      refine AT.next ?_
      refine CG.region ?_
      refine RG.op (ok_move (ht rfl)) rfl ?_
      refine RG.op (ok_quo (ht rfl) hI (by decide)) rfl ?_
      refine RG.op (ok_assign (ht rfl)) rfl ?_
      refine RG.nil ?_
      refine AT.in_normal ?_
      refine AT.next ?_
      refine CG.region ?_
      refine RG.op (ok_move (ht rfl)) rfl ?_
      refine RG.op (ok_incN (natL hx1 (by decide)) (ht rfl) hI) rfl ?_
      refine RG.op (ok_assign (ht rfl)) rfl ?_
      refine RG.nil ?_
      exact AT.round (LG.sub (ih1 (i1 + 1) r (IntKind.u8.wrap ((c).tdiv (2 : Int))) ⟨natS hx1, h⟩) ⟨rfl, rfl, rfl, rfl, rfl, trivial⟩)

set_option maxRecDepth 100000 in
theorem f22_ok (r : (List DValue)) (columns : (List Int)) {R : Int} (h : ref05_Hash r columns = some R) : Spec Try.prog 22 [tD (rSl rpDValue) r, tD (rSl (rI .i64)) columns] (tD (rI .u32) R) := by
  refine Spec.of Try.func22 rfl rfl rfl fun w0 S0 => ?_
  refine CG.seq ?_
  refine CG.region ?_
  refine RG.op (ok_assign hI) rfl ?_
  refine RG.nil ?_
  refine AT.next ?_
  refine CG.seq ?_
  refine CG.region ?_
  refine RG.fresh false (rI .u8) 5 ?_
  refine RG.op (ok_assign hVn) rfl ?_
  refine RG.nil ?_
  refine AT.next ?_
  refine CG.seq ?_
  refine CG.region ?_
  refine RG.op (ok_move (ht rfl)) rfl ?_
  refine RG.op (ok_move (ht rfl)) rfl ?_
  obtain ⟨r1, q_r1, h⟩ := bs h
  refine RG.callO cb21 (f21_own _ _ q_r1) ⟨(ht rfl), (ht rfl), trivial⟩ rfl (fun l c => ?_)
  refine RG.op (ok_assign (ht rfl)) rfl ?_
  refine RG.nil ?_
  refine AT.next ?_
  refine CG.seq ?_
  refine CG.seq ?_
  refine CG.region ?_
  refine RG.op (ok_assign hI) rfl ?_
  refine RG.nil ?_
  refine AT.next ?_
  refine CG.block ?_
  refine CG.have_lenA (.head _) (fun hN => ?_)
  refine CG.loop ?_
  refine LG.front1 ?_
  refine LG.sub (LG.list4 (Z := fun ls i b l1 c1 => (r1.drop i = ls) ∧ ref05_Hash_l1 ls b = some R) (Of := fun _ i b l1 c1 => [arr (rI .u8) 5 l1 c1 b, arr rpDValue 33 l c r1]) (Gf := fun _ i b l1 c1 => [(5, tV (oslV l1 c1 b.length)), (6, tV (oslV l c r1.length)), (7, tD (rI .i64) (i : Int))]) (fun i b l1 c1 h => ?_) (fun e tl ih i b l1 c1 h => ?_) r1 0 ([] : List Int) none 0 ⟨rfl, h⟩) ⟨rfl, rfl, rfl, trivial⟩
  · obtain ⟨hx, h⟩ := h
    refine LG.unfold ?_
    refine CG.seq ?_
    refine CG.seq ?_
    refine CG.region ?_
    refine RG.op (ok_move (ht rfl)) rfl ?_
    refine RG.op (ok_move (ht rfl)) rfl ?_
    refine RG.op (ok_lenO Try.underlying26 (.tail _ (.head _)) (ht rfl)) rfl ?_
    refine RG.op (ok_lss (ht rfl) (ht rfl)) rfl ?_
    refine RG.nil ?_
    refine AT.next ?_
    refine CG.condF (ht rfl) (dropF hx) ?_
    refine CG.exit ?_
    refine AT.then_exit (AT.then_exit (AT.in_exit ?_))
    refine AT.next ?_
    refine CG.seq ?_
    refine CG.region ?_
    refine RG.op (ok_move (ht rfl)) rfl ?_
    refine RG.freeze ?_
    refine RG.tipAt 5 rfl ?_
    refine RG.tipAt 61 rfl ?_
    obtain ⟨r2, q_r2, h⟩ := bs h
    refine RG.op (ok_call cb46 (f46_ok _ q_r2) ⟨(tO_d (ht rfl)), trivial⟩) rfl ?_
    refine RG.op (ok_assign (ht rfl)) rfl ?_
    refine RG.nil ?_
    refine AT.next ?_
    refine CG.ret ?_
    refine AT.drop ?_
    refine AT.drop ?_
    cases so h
    exact AT.ret1 rfl rfl
  · obtain ⟨hx, h⟩ := h
    refine LG.unfold ?_
    refine CG.seq ?_
    refine CG.seq ?_
    refine CG.region ?_
    refine RG.op (ok_move (ht rfl)) rfl ?_
    refine RG.op (ok_move (ht rfl)) rfl ?_
    refine RG.op (ok_lenO Try.underlying26 (.tail _ (.head _)) (ht rfl)) rfl ?_
    refine RG.op (ok_lss (ht rfl) (ht rfl)) rfl ?_
    refine RG.nil ?_
    refine AT.next ?_
    refine CG.condT (ht rfl) (dropT hx) ?_
    refine CG.skip ?_
    refine AT.next ?_
    refine CG.seq ?_
    refine CG.block ?_
    refine CG.seq ?_
    refine CG.region ?_
    refine RG.op (ok_move (ht rfl)) rfl ?_
    refine RG.op (ok_move (ht rfl)) rfl ?_
    refine RG.op (ok_move (ht rfl)) rfl ?_
    refine RG.op (ok_indexAddrO Try.underlying26 ti33 (.tail _ (.head _)) (ht rfl) (ht rfl) (dropI hx)) rfl ?_
    refine RG.op (ok_fieldAddrE fd33_0 rfl (.tail _ (.head _)) (dropI hx) (ht rfl)) rfl ?_
    refine RG.op (ok_loadE ti3 rfl rfl flDValue_0 rfl (.tail _ (.head _)) (dropI hx) (ht rfl)) rfl ?_
    refine RG.op (ok_conv Try.underlying3 Try.underlying5 (ht rfl)) rfl ?_
    refine RG.op (ok_buildSlice (r := (rI .u8)) (ys := [(IntKind.u8.wrap e.Kind)]) (xs := [.tmp 23]) Try.underlying70 ti5 rfl rfl rfl rfl rfl ⟨(ht rfl), trivial⟩) rfl ?_
    obtain ⟨b1, q_b1, h⟩ := bs h
    refine RG.append ti5 rfl rfl rfl rfl Try.underlying70 rfl rfl (ht rfl) (ht rfl) q_b1 (fun l2 c2 => ?_)
    refine RG.op (ok_assign (ht rfl)) rfl ?_
    refine RG.nil ?_
    refine AT.next ?_
    refine CG.seq ?_
    refine CG.region ?_
    refine RG.op (ok_move (ht rfl)) rfl ?_
    refine RG.op (ok_move (ht rfl)) rfl ?_
    refine RG.op (ok_move (ht rfl)) rfl ?_
    refine RG.op (ok_indexAddrO Try.underlying26 ti33 (.tail _ (.head _)) (ht rfl) (ht rfl) (dropI hx)) rfl ?_
    refine RG.op (ok_fieldAddrE fd33_1 rfl (.tail _ (.head _)) (dropI hx) (ht rfl)) rfl ?_
    refine RG.op (ok_loadE ti2 rfl rfl flDValue_1 rfl (.tail _ (.head _)) (dropI hx) (ht rfl)) rfl ?_
    refine RG.op (ok_conv Try.underlying2 Try.underlying31 (ht rfl)) rfl ?_
    obtain ⟨r3, q_r3, h⟩ := bs h
    refine RG.callO cb45 (f45_own _ q_r3) ⟨(ht rfl), trivial⟩ rfl (fun l3 c3 => ?_)
    refine RG.freeze ?_
    refine RG.tipAt 33 rfl ?_
    refine RG.front1 ?_
    obtain ⟨b2, q_b2, h⟩ := bs h
    refine RG.append ti5 rfl rfl rfl rfl Try.underlying70 rfl rfl (ht rfl) (tO_d (ht rfl)) q_b2 (fun l4 c4 => ?_)
    refine RG.op (ok_assign (ht rfl)) rfl ?_
    refine RG.nil ?_
    refine AT.next ?_
    refine CG.seq ?_
    refine CG.region ?_
    refine RG.op (ok_move (ht rfl)) rfl ?_
    refine RG.op (ok_move (ht rfl)) rfl ?_
    refine RG.op (ok_move (ht rfl)) rfl ?_
    refine RG.op (ok_indexAddrO Try.underlying26 ti33 (.tail _ (.tail _ (.head _))) (ht rfl) (ht rfl) (dropI hx)) rfl ?_
    refine RG.op (ok_fieldAddrE fd33_2 rfl (.tail _ (.tail _ (.head _))) (dropI hx) (ht rfl)) rfl ?_
    refine RG.op (ok_loadE ti31 rfl rfl flDValue_2 rfl (.tail _ (.tail _ (.head _))) (dropI hx) (ht rfl)) rfl ?_
    obtain ⟨r4, q_r4, h⟩ := bs h
    refine RG.callO cb45 (f45_own _ q_r4) ⟨(ht rfl), trivial⟩ rfl (fun l5 c5 => ?_)
    refine RG.freeze ?_
    refine RG.tipAt 41 rfl ?_
    refine RG.front1 ?_
    obtain ⟨b3, q_b3, h⟩ := bs h
    refine RG.append ti5 rfl rfl rfl rfl Try.underlying70 rfl rfl (ht rfl) (tO_d (ht rfl)) q_b3 (fun l6 c6 => ?_)
    refine RG.op (ok_assign (ht rfl)) rfl ?_
    refine RG.nil ?_
    refine AT.next ?_
    refine CG.seq ?_
    refine CG.region ?_
    refine RG.op (ok_move (ht rfl)) rfl ?_
    refine RG.op (ok_move (ht rfl)) rfl ?_
    refine RG.op (ok_move (ht rfl)) rfl ?_
    refine RG.op (ok_indexAddrO Try.underlying26 ti33 (.tail _ (.tail _ (.tail _ (.head _)))) (ht rfl) (ht rfl) (dropI hx)) rfl ?_
    refine RG.op (ok_fieldAddrE fd33_3 rfl (.tail _ (.tail _ (.tail _ (.head _)))) (dropI hx) (ht rfl)) rfl ?_
    refine RG.op (ok_loadE ti9 rfl rfl flDValue_3 rfl (.tail _ (.tail _ (.tail _ (.head _)))) (dropI hx) (ht rfl)) rfl ?_
    refine RG.op (ok_lenS Try.underlying9 (ht rfl)) rfl ?_
    refine RG.op (ok_conv Try.underlying3 Try.underlying5 (ht rfl)) rfl ?_
    refine RG.op (ok_buildSlice (r := (rI .u8)) (ys := [(IntKind.u8.wrap (e.S.length : Int))]) (xs := [.tmp 50]) Try.underlying70 ti5 rfl rfl rfl rfl rfl ⟨(ht rfl), trivial⟩) rfl ?_
    obtain ⟨b4, q_b4, h⟩ := bs h
    refine RG.append ti5 rfl rfl rfl rfl Try.underlying70 rfl rfl (ht rfl) (ht rfl) q_b4 (fun l7 c7 => ?_)
    refine RG.op (ok_assign (ht rfl)) rfl ?_
    refine RG.nil ?_
    refine AT.next ?_
    refine CG.region ?_
    refine RG.op (ok_move (ht rfl)) rfl ?_
    refine RG.op (ok_move (ht rfl)) rfl ?_
    refine RG.op (ok_move (ht rfl)) rfl ?_
    refine RG.op (ok_indexAddrO Try.underlying26 ti33 (.tail _ (.tail _ (.tail _ (.head _)))) (ht rfl) (ht rfl) (dropI hx)) rfl ?_
    refine RG.op (ok_fieldAddrE fd33_3 rfl (.tail _ (.tail _ (.tail _ (.head _)))) (dropI hx) (ht rfl)) rfl ?_
    refine RG.op (ok_loadE ti9 rfl rfl flDValue_3 rfl (.tail _ (.tail _ (.tail _ (.head _)))) (dropI hx) (ht rfl)) rfl ?_
    obtain ⟨u, q_u, h⟩ := bs h
    refine RG.op (ok_convSB Try.underlying9 Try.underlying70 Try.underlying5 (ht rfl) (fits_some q_u)) rfl ?_
    obtain ⟨b5, q_b5, h⟩ := bs h
    refine RG.append ti5 rfl rfl rfl rfl Try.underlying70 rfl rfl (ht rfl) (ht rfl) q_b5 (fun l8 c8 => ?_)
    refine RG.op (ok_assign (ht rfl)) rfl ?_
    refine RG.nil ?_
    refine AT.in_normal ?_
    refine AT.next ?_
    refine CG.region ?_
    refine RG.op (ok_move (ht rfl)) rfl ?_
    refine RG.op (ok_incN (dropL hx hN) (ht rfl) hI) rfl ?_
    refine RG.op (ok_assign (ht rfl)) rfl ?_
    refine RG.nil ?_
    refine AT.front1 ?_
    refine AT.drop ?_
    refine AT.front1 ?_
    refine AT.drop ?_
    exact AT.round (LG.sub (ih (i + 1) b5 l8 c8 ⟨dropS hx, h⟩) ⟨rfl, rfl, rfl, trivial⟩)

set_option maxRecDepth 100000 in
theorem f5_ok (p : (List DValue)) (p1 : (List Int)) {R : Bool} (h : law05_RowTakes p p1 = some R) : Spec Try.prog 5 [tD (rSl rpDValue) p, tD (rSl (rI .i64)) p1] (tD rB R) := by
  refine Spec.of Try.func5 rfl rfl rfl fun w0 S0 => ?_
  refine CG.seq ?_
  refine CG.region ?_
  refine RG.op (ok_assign hB) rfl ?_
  refine RG.nil ?_
  refine AT.next ?_
  refine CG.seq ?_
  refine CG.seq ?_
  refine CG.region ?_
  obtain ⟨r, q_r, h⟩ := bs h
  refine RG.op (ok_call cb9 (f9_ok  q_r) trivial) rfl ?_
  refine RG.op (ok_not (ht rfl)) rfl ?_
  refine RG.nil ?_
  refine AT.next ?_
  refine CG.cond (ht rfl) (fun hc => ?_) (fun hc => ?_)
  · have h := ct h hc
    refine CG.seq ?_
    refine CG.region ?_
    refine RG.op (ok_assign hB) rfl ?_
    refine RG.nil ?_
    refine AT.next ?_
    refine CG.ret ?_
    refine AT.then_ret ?_
    cases so h
    exact AT.ret1 rfl rfl
  · have h := cf h hc
    refine CG.skip ?_
    refine AT.next ?_
    refine CG.seq ?_
    refine CG.seq ?_
    refine CG.region ?_
    refine RG.op (ok_move (ht rfl)) rfl ?_
    obtain ⟨r1, q_r1, h⟩ := bs h
    refine RG.op (ok_call cb17 (f17_ok _ q_r1) ⟨(ht rfl), trivial⟩) rfl ?_
    refine RG.op (ok_move (ht rfl)) rfl ?_
    refine RG.opGf rfl rfl rfl rfl (fun hg => ok_move (ht rfl)) ?_
    refine RG.opGf rfl rfl rfl rfl (fun hg => ok_lenSl Try.underlying37 (htO rfl hg)) ?_
    refine RG.opGf rfl rfl rfl rfl (fun hg => ok_gtr (htO rfl hg) hI) ?_
    refine RG.op (ok_pickOr (ht rfl) (fun hb => (htO rfl (noti hb)))) rfl ?_
    refine RG.nil ?_
    refine AT.next ?_
    refine CG.cond (ht rfl) (fun hc => ?_) (fun hc => ?_)
    · have h := ct h hc
      refine CG.seq ?_
      refine CG.region ?_
      refine RG.op (ok_assign hB) rfl ?_
      refine RG.nil ?_
      refine AT.next ?_
      refine CG.ret ?_
      refine AT.then_ret ?_
      cases so h
      exact AT.ret1 rfl rfl
    · have h := cf h hc
      refine CG.skip ?_
      refine AT.next ?_
      refine CG.seq ?_
      refine CG.region ?_
      refine RG.buildOwn (r := rpDValue) (ys := ([] : List DValue)) (xs := []) Try.underlying26 ti33 rfl rfl rfl rfl rfl trivial rfl (fun l c => ?_)
      refine RG.op (ok_move (ht rfl)) rfl ?_
      obtain ⟨l1, q_l1, h⟩ := bs h
      refine RG.append ti33 rfl rfl rfl rfl Try.underlying26 rfl rfl (ht rfl) (ht rfl) q_l1 (fun l2 c1 => ?_)
      refine RG.buildOwn (r := (rI .i64)) (ys := ([] : List Int)) (xs := []) Try.underlying37 ti3 rfl rfl rfl rfl rfl trivial rfl (fun l3 c2 => ?_)
      refine RG.op (ok_move (ht rfl)) rfl ?_
      obtain ⟨l4, q_l4, h⟩ := bs h
      refine RG.append ti3 rfl rfl rfl rfl Try.underlying37 rfl rfl (ht rfl) (ht rfl) q_l4 (fun l5 c3 => ?_)
      refine RG.front1 ?_
      refine RG.freeze ?_
      refine RG.tipAt 22 rfl ?_
      refine RG.front1 ?_
      refine RG.freeze ?_
      refine RG.tipAt 25 rfl ?_
      obtain ⟨r2, q_r2, h⟩ := bs h
      refine RG.op (ok_call cb18 (f18_ok _ _ q_r2) ⟨(tO_d (ht rfl)), (tO_d (ht rfl)), trivial⟩) rfl ?_
      refine RG.op (ok_move (ht rfl)) rfl ?_
      refine RG.op (ok_extract rfl (ht rfl)) rfl ?_
      refine RG.op (ok_extract rfl (ht rfl)) rfl ?_
      refine RG.op (ok_assign (ht rfl)) rfl ?_
      refine RG.op (ok_assign (ht rfl)) rfl ?_
      refine RG.nil ?_
      refine AT.next ?_
      refine CG.seq ?_
      refine CG.region ?_
      refine RG.buildOwn (r := rpDValue) (ys := ([] : List DValue)) (xs := []) Try.underlying26 ti33 rfl rfl rfl rfl rfl trivial rfl (fun l6 c4 => ?_)
      refine RG.op (ok_move (ht rfl)) rfl ?_
      obtain ⟨l7, q_l7, h⟩ := bs h
      refine RG.append ti33 rfl rfl rfl rfl Try.underlying26 rfl rfl (ht rfl) (ht rfl) q_l7 (fun l8 c5 => ?_)
      refine RG.buildOwn (r := (rI .i64)) (ys := ([] : List Int)) (xs := []) Try.underlying37 ti3 rfl rfl rfl rfl rfl trivial rfl (fun l9 c6 => ?_)
      refine RG.op (ok_move (ht rfl)) rfl ?_
      obtain ⟨l10, q_l10, h⟩ := bs h
      refine RG.append ti3 rfl rfl rfl rfl Try.underlying37 rfl rfl (ht rfl) (ht rfl) q_l10 (fun l11 c7 => ?_)
      refine RG.front1 ?_
      refine RG.freeze ?_
      refine RG.tipAt 32 rfl ?_
      refine RG.front1 ?_
      refine RG.freeze ?_
      refine RG.tipAt 35 rfl ?_
      obtain ⟨r3, q_r3, h⟩ := bs h
      refine RG.op (ok_call cb19 (f19_ok _ _ q_r3) ⟨(tO_d (ht rfl)), (tO_d (ht rfl)), trivial⟩) rfl ?_
      refine RG.op (ok_move (ht rfl)) rfl ?_
      refine RG.op (ok_extract rfl (ht rfl)) rfl ?_
      refine RG.op (ok_extract rfl (ht rfl)) rfl ?_
      refine RG.op (ok_assign (ht rfl)) rfl ?_
      refine RG.op (ok_assign (ht rfl)) rfl ?_
      refine RG.nil ?_
      refine AT.next ?_
      refine CG.seq ?_
      refine CG.seq ?_
      refine CG.region ?_
      refine RG.op (ok_move (ht rfl)) rfl ?_
      refine RG.op (ok_buildSlice (r := (rSl rpDValue)) (ys := [p]) (xs := [.tmp 39]) Try.underlying22 ti26 rfl rfl rfl rfl rfl ⟨(ht rfl), trivial⟩) rfl ?_
      refine RG.op (ok_move (ht rfl)) rfl ?_
      obtain ⟨r4, q_r4, h⟩ := bs h
      refine RG.op (ok_call cb20 (f20_ok _ _ q_r4) ⟨(ht rfl), (ht rfl), trivial⟩) rfl ?_
      refine RG.op (ok_assign (ht rfl)) rfl ?_
      refine RG.nil ?_
      refine AT.next ?_
      refine CG.seq ?_
      refine CG.region ?_
      refine RG.op (ok_move (ht rfl)) rfl ?_
      refine RG.op (ok_neqI (ht rfl) hI) rfl ?_
      refine RG.nil ?_
      refine AT.next ?_
      refine CG.cond (ht rfl) (fun hc => ?_) (fun hc => ?_)
      · have h := ct h hc
        refine CG.seq ?_
        refine CG.region ?_
        refine RG.op (ok_move (ht rfl)) rfl ?_
        refine RG.op (ok_lenSl Try.underlying26 (ht rfl)) rfl ?_
        refine RG.op (ok_eqlI (ht rfl) hI) rfl ?_
        refine RG.op (ok_move (ht rfl)) rfl ?_
        refine RG.opGt rfl rfl rfl rfl (fun hg => ok_move (ht rfl)) ?_
        refine RG.opGt rfl rfl rfl rfl (fun hg => ok_move (ht rfl)) ?_
        refine RG.opGt rfl rfl rfl rfl (fun hg => ok_eqlI (htO rfl hg) (htO rfl hg)) ?_
        refine RG.op (ok_pickAnd (ht rfl) (fun hb => (htO rfl hb))) rfl ?_
        refine RG.op (ok_move (ht rfl)) rfl ?_
        refine RG.opGt rfl rfl rfl rfl (fun hg => ok_move (ht rfl)) ?_
        refine RG.opGt rfl rfl rfl rfl (fun hg => ok_eqlI (htO rfl hg) hI) ?_
        refine RG.op (ok_pickAnd (ht rfl) (fun hb => (htO rfl hb))) rfl ?_
        refine RG.op (ok_move (ht rfl)) rfl ?_
        refine RG.opGt rfl rfl rfl rfl (fun hg => ok_move (ht rfl)) ?_
        refine RG.opGt rfl rfl rfl rfl (fun hg => ok_move (ht rfl)) ?_
        refine RG.opGt rfl rfl rfl rfl (fun hg => ok_eqlI (htO rfl hg) (htO rfl hg)) ?_
        refine RG.op (ok_pickAnd (ht rfl) (fun hb => (htO rfl hb))) rfl ?_
        refine RG.op (ok_assign (ht rfl)) rfl ?_
        refine RG.nil ?_
        refine AT.next ?_
        refine CG.ret ?_
        refine AT.then_ret ?_
        refine AT.drop ?_
        refine AT.drop ?_
        refine AT.drop ?_
        refine AT.drop ?_
        cases so h
        exact AT.ret1 rfl rfl
      · have h := cf h hc
        refine CG.skip ?_
        refine AT.next ?_
        refine CG.seq ?_
        refine CG.region ?_
        refine RG.op (ok_move (ht rfl)) rfl ?_
        refine RG.op (ok_eqlI (ht rfl) hI) rfl ?_
        refine RG.op (ok_move (ht rfl)) rfl ?_
        obtain ⟨t, q_t, h⟩ := bs h
        refine RG.opGt rfl rfl rfl rfl (fun hg => ok_move (ht rfl)) ?_
        refine RG.opGt rfl rfl rfl rfl (fun hg => ok_move (ht rfl)) ?_
        refine RG.opGt rfl rfl rfl rfl (fun hg => ok_move (ht rfl)) ?_
        obtain ⟨r5, h1t, h0t⟩ := og q_t
        have q_r5g := fun hb => (h1t hb).1
        refine RG.opGt rfl rfl rfl rfl (fun hg => ok_call cb21 (f21_ok _ _ (q_r5g hg)) ⟨(htO rfl hg), (htO rfl hg), trivial⟩) ?_
        obtain ⟨r6, h1t⟩ := og2 (fun hb => (h1t hb).2)
        have q_r6g := fun hb => (h1t hb).1
        refine RG.opGt rfl rfl rfl rfl (fun hg => ok_call cb13 (f13_ok _ _ (q_r6g hg)) ⟨(htO rfl hg), (htO rfl hg), trivial⟩) ?_
        refine RG.opGt rfl rfl rfl rfl (fun hg => ok_eqlI (htO rfl hg) hI) ?_
        refine RG.op (ok_pickAndM (ht rfl) (fun hb => (htO rfl hb)) (fun hb => (h1t hb).2) h0t) rfl ?_
        refine RG.op (ok_move (ht rfl)) rfl ?_
        refine RG.opGt rfl rfl rfl rfl (fun hg => ok_move (ht rfl)) ?_
        refine RG.opGt rfl rfl rfl rfl (fun hg => ok_eqlI (htO rfl hg) hI) ?_
        refine RG.op (ok_pickAnd (ht rfl) (fun hb => (htO rfl hb))) rfl ?_
        refine RG.op (ok_move (ht rfl)) rfl ?_
        obtain ⟨t1, q_t1, h⟩ := bs h
        refine RG.opGt rfl rfl rfl rfl (fun hg => ok_move (ht rfl)) ?_
        refine RG.opGt rfl rfl rfl rfl (fun hg => ok_move (ht rfl)) ?_
        refine RG.opGt rfl rfl rfl rfl (fun hg => ok_move (ht rfl)) ?_
        obtain ⟨r7, h1t1, h0t1⟩ := og q_t1
        have q_r7g := fun hb => (h1t1 hb).1
        refine RG.opGt rfl rfl rfl rfl (fun hg => ok_call cb22 (f22_ok _ _ (q_r7g hg)) ⟨(htO rfl hg), (htO rfl hg), trivial⟩) ?_
        refine RG.opGt rfl rfl rfl rfl (fun hg => ok_eqlI (htO rfl hg) (htO rfl hg)) ?_
        refine RG.op (ok_pickAndM (ht rfl) (fun hb => (htO rfl hb)) (fun hb => (h1t1 hb).2) h0t1) rfl ?_
        refine RG.op (ok_assign (ht rfl)) rfl ?_
        refine RG.nil ?_
        refine AT.next ?_
        refine CG.ret ?_
        refine AT.drop ?_
        refine AT.drop ?_
        refine AT.drop ?_
        refine AT.drop ?_
        cases so h
        exact AT.ret1 rfl rfl

set_option maxRecDepth 100000 in
theorem f48_own (l : (List (List DValue))) {R : (List (List DValue))} (h : row_sorted l = some R) : SpecO Try.prog 48 [tD (rSl (rSl rpDValue)) l] false (rSl rpDValue) 26 R := by
  refine SpecO.of Try.func48 rfl rfl rfl fun w0 S0 => ?_
  refine CG.seq ?_
  refine CG.region ?_
  refine RG.fresh false (rSl rpDValue) 26 ?_
  refine RG.op (ok_assign hVn) rfl ?_
  refine RG.nil ?_
  refine AT.next ?_
  refine CG.seq ?_
  refine CG.region ?_
  refine RG.op (ok_move (ht rfl)) rfl ?_
  obtain ⟨r, q_r, h⟩ := bs h
  refine RG.callO cb51 (f51_own _ q_r) ⟨(ht rfl), trivial⟩ rfl (fun l1 c => ?_)
  refine RG.op (ok_assign (ht rfl)) rfl ?_
  refine RG.nil ?_
  refine AT.next ?_
  refine CG.seq ?_
  refine CG.region ?_
  refine RG.op (ok_move (ht rfl)) rfl ?_
  obtain ⟨srt, q_srt, h⟩ := bs h
  refine RG.sortO (n := r.length) Try.sort52 ?_ cb52 ?_ q_srt ?_ ?_ ?_ ?_ ?_
  · rfl
  · rfl
  · exact (ht rfl)
  · rfl
  · exact (show HasTy _ _ _ ((tFun Try.prog (fun (x : (List DValue) × (List DValue)) => [tD (rSl rpDValue) x.1, tD (rSl rpDValue) x.2]) (fun (x : Int) => tD (rI .i64) x) (fun (x : (List DValue) × (List DValue)) => row_order x.1 x.2))) from (hFn cb38 fun x y h => f38_ok _ _ h))
  · rfl
  intro hl
  refine RG.relen hl 5 rfl ?_
  refine RG.relen hl 3 rfl ?_
  refine RG.relen hl 6 rfl ?_
  refine RG.nil ?_
  refine AT.next ?_
  refine CG.seq ?_
  refine CG.region ?_
  refine RG.op (ok_move (ht rfl)) rfl ?_
  refine RG.op (ok_assign (ht rfl)) rfl ?_
  refine RG.nil ?_
  refine AT.next ?_
  refine CG.ret ?_
  cases so h
  exact AT.retO rfl rfl
theorem f48_ok (l : (List (List DValue))) {R : (List (List DValue))} (h : row_sorted l = some R) : Spec Try.prog 48 [tD (rSl (rSl rpDValue)) l] (tD (rSl (rSl rpDValue)) R) := (f48_own _ h).spec

set_option maxRecDepth 100000 in
theorem f23_ok (l : (List (List DValue))) {R : (List (List DValue)) × Int} (h : row_Sorted l = some R) : Spec Try.prog 23 [tD (rSl (rSl rpDValue)) l] (tT [tD (rSl (rSl rpDValue)) R.1, tD (rI .i64) R.2]) := by
  refine Spec.of Try.func23 rfl rfl rfl fun w0 S0 => ?_
  refine CG.seq ?_
  refine CG.region ?_
  refine RG.op (ok_assign (show HasTy _ _ _ (tD (rSl (rSl rpDValue)) ([])) from hNil)) rfl ?_
  refine RG.op (ok_assign hI) rfl ?_
  refine RG.nil ?_
  refine AT.next ?_
  refine CG.seq ?_
  refine CG.seq ?_
  refine CG.region ?_
  refine RG.op (ok_move (ht rfl)) rfl ?_
  refine RG.op (ok_buildSlice (r := (rSl (rSl rpDValue))) (ys := [l]) (xs := [.tmp 5]) Try.underlying58 ti22 rfl rfl rfl rfl rfl ⟨(ht rfl), trivial⟩) rfl ?_
  obtain ⟨r, q_r, h⟩ := bs h
  refine RG.op (ok_call cb47 (f47_ok _ q_r) ⟨(ht rfl), trivial⟩) rfl ?_
  refine RG.op (ok_assign (ht rfl)) rfl ?_
  refine RG.nil ?_
  refine AT.next ?_
  refine CG.seq ?_
  refine CG.region ?_
  refine RG.op (ok_move (ht rfl)) rfl ?_
  refine RG.op (ok_neqI (ht rfl) hI) rfl ?_
  refine RG.nil ?_
  refine AT.next ?_
  refine CG.cond (ht rfl) (fun hc => ?_) (fun hc => ?_)
  · have h := ct h hc
    refine CG.seq ?_
    refine CG.region ?_
    refine RG.op (ok_move (ht rfl)) rfl ?_
    refine RG.op (ok_assign (show HasTy _ _ _ (tD (rSl (rSl rpDValue)) ([])) from hNil)) rfl ?_
    refine RG.op (ok_assign (ht rfl)) rfl ?_
    refine RG.nil ?_
    refine AT.next ?_
    refine CG.ret ?_
    refine AT.then_ret ?_
    cases so h
    exact AT.ret2 rfl rfl rfl
  · have h := cf h hc
    refine CG.skip ?_
    refine AT.next ?_
    refine CG.seq ?_
    refine CG.region ?_
    refine RG.op (ok_move (ht rfl)) rfl ?_
    obtain ⟨r1, q_r1, h⟩ := bs h
    refine RG.callO cb48 (f48_own _ q_r1) ⟨(ht rfl), trivial⟩ rfl (fun l1 c => ?_)
    refine RG.op (ok_assign (ht rfl)) rfl ?_
    refine RG.op (ok_assign hI) rfl ?_
    refine RG.nil ?_
    refine AT.next ?_
    refine CG.ret ?_
    refine AT.freeze ?_
    refine AT.tipAt 2 rfl ?_
    refine AT.tipAt 12 rfl ?_
    refine AT.dataAt 2 rfl ?_
    refine AT.drop ?_
    cases so h
    exact AT.ret2 rfl rfl rfl

set_option maxRecDepth 100000 in
theorem f24_ok (a1 : (List (List DValue))) (b : (List (List DValue))) {R : Bool × Int} (h : row_Alike a1 b = some R) : Spec Try.prog 24 [tD (rSl (rSl rpDValue)) a1, tD (rSl (rSl rpDValue)) b] (tT [tD rB R.1, tD (rI .i64) R.2]) := by
  refine Spec.of Try.func24 rfl rfl rfl fun w0 S0 => ?_
  refine CG.seq ?_
  refine CG.region ?_
  refine RG.op (ok_assign hB) rfl ?_
  refine RG.op (ok_assign hI) rfl ?_
  refine RG.nil ?_
  refine AT.next ?_
  refine CG.seq ?_
  refine CG.seq ?_
  refine CG.region ?_
  refine RG.op (ok_move (ht rfl)) rfl ?_
  refine RG.op (ok_move (ht rfl)) rfl ?_
  refine RG.op (ok_buildSlice (r := (rSl (rSl rpDValue))) (ys := [a1, b]) (xs := [.tmp 7, .tmp 8]) Try.underlying58 ti22 rfl rfl rfl rfl rfl ⟨(ht rfl), (ht rfl), trivial⟩) rfl ?_
  obtain ⟨r, q_r, h⟩ := bs h
  refine RG.op (ok_call cb47 (f47_ok _ q_r) ⟨(ht rfl), trivial⟩) rfl ?_
  refine RG.op (ok_assign (ht rfl)) rfl ?_
  refine RG.nil ?_
  refine AT.next ?_
  refine CG.seq ?_
  refine CG.region ?_
  refine RG.op (ok_move (ht rfl)) rfl ?_
  refine RG.op (ok_neqI (ht rfl) hI) rfl ?_
  refine RG.nil ?_
  refine AT.next ?_
  refine CG.cond (ht rfl) (fun hc => ?_) (fun hc => ?_)
  · have h := ct h hc
    refine CG.seq ?_
    refine CG.region ?_
    refine RG.op (ok_move (ht rfl)) rfl ?_
    refine RG.op (ok_assign hB) rfl ?_
    refine RG.op (ok_assign (ht rfl)) rfl ?_
    refine RG.nil ?_
    refine AT.next ?_
    refine CG.ret ?_
    refine AT.then_ret ?_
    cases so h
    exact AT.ret2 rfl rfl rfl
  · have h := cf h hc
    refine CG.skip ?_
    refine AT.next ?_
    refine CG.seq ?_
    refine CG.region ?_
    refine RG.op (ok_move (ht rfl)) rfl ?_
    obtain ⟨r1, q_r1, h⟩ := bs h
    refine RG.callO cb48 (f48_own _ q_r1) ⟨(ht rfl), trivial⟩ rfl (fun l c => ?_)
    refine RG.op (ok_move (ht rfl)) rfl ?_
    obtain ⟨r2, q_r2, h⟩ := bs h
    refine RG.callO cb48 (f48_own _ q_r2) ⟨(ht rfl), trivial⟩ rfl (fun l1 c1 => ?_)
    refine RG.front1 ?_
    refine RG.freeze ?_
    refine RG.tipAt 15 rfl ?_
    refine RG.front1 ?_
    refine RG.freeze ?_
    refine RG.tipAt 17 rfl ?_
    obtain ⟨r3, q_r3, h⟩ := bs h
    refine RG.op (ok_call cb15 (f15_ok _ _ q_r3) ⟨(tO_d (ht rfl)), (tO_d (ht rfl)), trivial⟩) rfl ?_
    refine RG.op (ok_assign (ht rfl)) rfl ?_
    refine RG.op (ok_assign hI) rfl ?_
    refine RG.nil ?_
    refine AT.next ?_
    refine CG.ret ?_
    refine AT.drop ?_
    refine AT.drop ?_
    cases so h
    exact AT.ret2 rfl rfl rfl

set_option maxRecDepth 100000 in
theorem f49_m (l : Option Nat) (c : Nat) (p : (List (List DValue))) (p1 : ((List DValue) → (List DValue) → Option Bool)) {R : (List (List DValue))} (h : slices_CompactFunc_api_Row_api_Row p p1 = some R) : SpecM Try.prog 49 [tV (oslV l c p.length), (tFun Try.prog (fun (x : (List DValue) × (List DValue)) => [tD (rSl rpDValue) x.1, tD (rSl rpDValue) x.2]) (fun (x : Bool) => tD rB x) (fun (x : (List DValue) × (List DValue)) => p1 x.1 x.2))] [arr (rSl rpDValue) 26 l c p] (fun i : Option Nat × Nat => tV (oslV i.1 i.2 R.length)) (fun i => [arr (rSl rpDValue) 26 i.1 i.2 R]) := by
  refine SpecM.of Try.func49 rfl rfl rfl fun w0 S0 => ?_
  refine CG.seq ?_
  refine CG.region ?_
  refine RG.fresh false (rSl rpDValue) 26 ?_
  refine RG.op (ok_assign hVn) rfl ?_
  refine RG.nil ?_
  refine AT.next ?_
  refine CG.seq ?_
  refine CG.seq ?_
  refine CG.region ?_
  refine RG.op (ok_move (ht rfl)) rfl ?_
  refine RG.op (ok_lenO Try.underlying22 (.tail _ (.head _)) (ht rfl)) rfl ?_
  refine RG.op (ok_lss (ht rfl) hI) rfl ?_
  refine RG.nil ?_
  refine AT.next ?_
  refine CG.cond (ht rfl) (fun hc => ?_) (fun hc => ?_)
  · have h := ct h hc
    refine CG.seq ?_
    refine CG.region ?_
    refine RG.op (ok_move (ht rfl)) rfl ?_
    refine RG.op (ok_assign (ht rfl)) rfl ?_
    refine RG.nil ?_
    refine AT.next ?_
    refine CG.ret ?_
    refine AT.then_ret ?_
    refine AT.drop ?_
    cases so h
    exact AT.retM1 rfl (l, c) rfl rfl (fun _ _ h => h)
  · have h := cf h hc
    refine CG.skip ?_
    refine AT.next ?_
    refine CG.seq ?_
    refine CG.seq ?_
    refine CG.region ?_
    refine RG.op (ok_assign hI) rfl ?_
    refine RG.nil ?_
    refine AT.next ?_
    refine CG.block ?_
    refine CG.have_lenA (.tail _ (.head _)) (fun hN => ?_)
    refine CG.loop ?_
    refine LG.drop ?_
    refine LG.sub (LG.list1 (Z := fun ls i  => (p.drop i = ls) ∧ slices_CompactFunc_api_Row_api_Row_l1 p p1 ls i  = some R) (Of := fun _ i  => [arr (rSl rpDValue) 26 l c p]) (Gf := fun _ i  => [(0, tV (oslV l c p.length)), (1, (tFun Try.prog (fun (x : (List DValue) × (List DValue)) => [tD (rSl rpDValue) x.1, tD (rSl rpDValue) x.2]) (fun (x : Bool) => tD rB x) (fun (x : (List DValue) × (List DValue)) => p1 x.1 x.2))), (5, tD (rI .i64) (i : Int))]) (fun i  h => ?_) (fun e tl ih i  h => ?_) (p.drop (1)) 1  ⟨rfl, h⟩) ⟨rfl, rfl, rfl, trivial⟩
    · obtain ⟨hx, h⟩ := h
      refine LG.unfold ?_
      refine CG.seq ?_
      refine CG.seq ?_
      refine CG.region ?_
      refine RG.op (ok_move (ht rfl)) rfl ?_
      refine RG.op (ok_move (ht rfl)) rfl ?_
      refine RG.op (ok_lenO Try.underlying22 (.head _) (ht rfl)) rfl ?_
      refine RG.op (ok_lss (ht rfl) (ht rfl)) rfl ?_
      refine RG.nil ?_
      refine AT.next ?_
      refine CG.condF (ht rfl) (dropF hx) ?_
      refine CG.exit ?_
      refine AT.then_exit (AT.then_exit (AT.in_exit ?_))
      refine AT.next ?_
      refine CG.seq ?_
      refine CG.region ?_
      refine RG.op (ok_move (ht rfl)) rfl ?_
      refine RG.op (ok_assign (ht rfl)) rfl ?_
      refine RG.nil ?_
      refine AT.next ?_
      refine CG.ret ?_
      cases so h
      exact AT.retM1 rfl (l, c) rfl rfl (fun _ _ h => h)
    · obtain ⟨hx, h⟩ := h
      refine LG.unfold ?_
      refine CG.seq ?_
      refine CG.seq ?_
      refine CG.region ?_
      refine RG.op (ok_move (ht rfl)) rfl ?_
      refine RG.op (ok_move (ht rfl)) rfl ?_
      refine RG.op (ok_lenO Try.underlying22 (.head _) (ht rfl)) rfl ?_
      refine RG.op (ok_lss (ht rfl) (ht rfl)) rfl ?_
      refine RG.nil ?_
      refine AT.next ?_
      refine CG.condT (ht rfl) (dropT hx) ?_
      refine CG.skip ?_
      refine AT.next ?_
      refine CG.seq ?_
      refine CG.block ?_
      refine CG.seq ?_
      obtain ⟨e1, q_e1, h⟩ := bs h
      obtain ⟨r, q_r, h⟩ := bs h
      refine CG.draw (ts := [(tFun Try.prog (fun (x : (List DValue) × (List DValue)) => [tD (rSl rpDValue) x.1, tD (rSl rpDValue) x.2]) (fun (x : Bool) => tD rB x) (fun (x : (List DValue) × (List DValue)) => p1 x.1 x.2)), tV (oslV l c p.length), tD (rI .i64) (i : Int), tV (eptr l ((i : Int).toNat * 1 + 0)), tD (rSl rpDValue) e, tV (oslV l c p.length), tD (rI .i64) (i : Int), tD (rI .i64) (IntKind.i64.wrap ((i : Int) - (1 : Int))), tV (eptr l ((IntKind.i64.wrap ((i : Int) - (1 : Int))).toNat * 1 + 0)), tD (rSl rpDValue) e1, tD rB r]) mixed rfl rfl
        ⟨⟨[⟨1, _, none⟩], _, rfl, ⟨rfl, trivial⟩, rfl, rfl, OpG.plain rfl (ok_move (ht rfl))⟩,
        ⟨⟨[⟨0, _, none⟩], _, rfl, ⟨rfl, trivial⟩, rfl, rfl, OpG.plain rfl (ok_move (ht rfl))⟩,
        ⟨⟨[⟨5, _, none⟩], _, rfl, ⟨rfl, trivial⟩, rfl, rfl, OpG.plain rfl (ok_move (ht rfl))⟩,
        ⟨⟨[⟨19, _, some 1⟩, ⟨20, _, some 2⟩], _, rfl, ⟨rfl, rfl, trivial⟩, rfl, rfl, OpG.plain rfl (ok_indexAddrO Try.underlying22 ti26 (.head _) (ht rfl) (ht rfl) (dropI hx))⟩,
        ⟨⟨[⟨21, _, some 3⟩], _, rfl, ⟨rfl, trivial⟩, rfl, rfl, OpG.plain rfl (ok_loadE ti26 rfl rfl fld_whole rfl (.head _) (dropI hx) (ht rfl))⟩,
        ⟨⟨[⟨0, _, none⟩], _, rfl, ⟨rfl, trivial⟩, rfl, rfl, OpG.plain rfl (ok_move (ht rfl))⟩,
        ⟨⟨[⟨5, _, none⟩], _, rfl, ⟨rfl, trivial⟩, rfl, rfl, OpG.plain rfl (ok_move (ht rfl))⟩,
        ⟨⟨[⟨24, _, some 6⟩], _, rfl, ⟨rfl, trivial⟩, rfl, rfl, OpG.plain rfl (ok_sub (ht rfl) hI)⟩,
        ⟨⟨[⟨23, _, some 5⟩, ⟨25, _, some 7⟩], _, rfl, ⟨rfl, rfl, trivial⟩, rfl, rfl, OpG.plain rfl (ok_indexAddrO Try.underlying22 ti26 (.head _) (ht rfl) (ht rfl) q_e1)⟩,
        ⟨⟨[⟨26, _, some 8⟩], _, rfl, ⟨rfl, trivial⟩, rfl, rfl, OpG.plain rfl (ok_loadE ti26 rfl rfl fld_whole rfl (.head _) q_e1 (ht rfl))⟩,
        ⟨⟨[⟨18, _, some 0⟩, ⟨22, _, some 4⟩, ⟨27, _, some 9⟩], _, rfl, ⟨rfl, rfl, rfl, trivial⟩, rfl, rfl, OpG.plain rfl (ok_callV (x := ((e, e1) : (List DValue) × (List DValue))) (ht rfl) q_r ⟨(ht rfl), (ht rfl), trivial⟩)⟩,
        trivial⟩⟩⟩⟩⟩⟩⟩⟩⟩⟩⟩ ?_
      refine AT.next ?_
      refine CG.cond (ht rfl) (fun hc => ?_) (fun hc => ?_)
      · have h := ct h hc
        refine CG.seq ?_
        refine CG.region ?_
        refine RG.op (ok_move (ht rfl)) rfl ?_
        refine RG.op (ok_move (ht rfl)) rfl ?_
        obtain ⟨y, q_y, h⟩ := bs h
        refine RG.op (ok_sliceLoO Try.underlying22 ti26 rfl (.head _) (ht rfl) (ht rfl) q_y) rfl ?_
        refine RG.have_view (.head _) q_y (fun hv => ?_)
        refine RG.op (ok_assign (ht rfl)) rfl ?_
        refine RG.nil ?_
        refine AT.next ?_
        refine CG.seq ?_
        refine CG.seq ?_
        refine CG.region ?_
        refine RG.op (ok_assign hI) rfl ?_
        refine RG.nil ?_
        refine AT.next ?_
        refine CG.block ?_
        refine CG.loop ?_
        refine LG.sub (LG.nat3 (Z := fun k i1 x x1 => (y.length - i1 = k) ∧ slices_CompactFunc_api_Row_api_Row_l2 p1 i y k i1 x x1 = some R) (Of := fun _ i1 x x1 => [arr (rSl rpDValue) 26 l c x]) (Gf := fun _ i1 x x1 => [(0, tV (oslV l c x.length)), (1, (tFun Try.prog (fun (x : (List DValue) × (List DValue)) => [tD (rSl rpDValue) x.1, tD (rSl rpDValue) x.2]) (fun (x : Bool) => tD rB x) (fun (x : (List DValue) × (List DValue)) => p1 x.1 x.2))), (5, tD (rI .i64) x1), (6, tV (vslV 1 l c (i : Int).toNat y.length)), (7, tD (rI .i64) (i1 : Int))]) (fun i1 x x1 h => ?_) (fun k1 ih1 i1 x x1 h => ?_) (y.length - 1) 1 p (i : Int) ⟨rfl, h⟩) ⟨rfl, rfl, rfl, rfl, rfl, trivial⟩
        · obtain ⟨hx1, h⟩ := h
          refine LG.unfold ?_
          refine CG.seq ?_
          refine CG.seq ?_
          refine CG.region ?_
          refine RG.op (ok_move (ht rfl)) rfl ?_
          refine RG.op (ok_move (ht rfl)) rfl ?_
          refine RG.op (ok_lenW Try.underlying22 hv.1 (ht rfl)) rfl ?_
          refine RG.op (ok_lss (ht rfl) (ht rfl)) rfl ?_
          refine RG.nil ?_
          refine AT.next ?_
          refine CG.condF (ht rfl) (natF hx1) ?_
          refine CG.exit ?_
          refine AT.then_exit (AT.then_exit (AT.in_exit ?_))
          refine AT.next ?_
          refine CG.seq ?_
          refine CG.region ?_
          refine RG.op (ok_move (ht rfl)) rfl ?_
          refine RG.op (ok_move (ht rfl)) rfl ?_
          obtain ⟨y1, q_y1, h⟩ := bs h
          refine RG.op (ok_sliceLoO Try.underlying22 ti26 rfl (.head _) (ht rfl) (ht rfl) q_y1) rfl ?_
          refine RG.have_view (.head _) q_y1 (fun hv1 => ?_)
          obtain ⟨cl, q_cl, h⟩ := bs h
          refine RG.clearV ti26 rfl rfl Try.underlying22 (fun _ => ⟨none, 0, rfl, Nat.le_refl _, Nat.zero_le _, .inl rfl⟩) rfl q_y1 (ht rfl) (so q_cl) ?_
          refine RG.relen2 (clear_len q_y1 (so q_cl)) 0 rfl ?_
          refine RG.relen2 (clear_len q_y1 (so q_cl)) 59 rfl ?_
          refine RG.nil ?_
          refine AT.next ?_
          refine CG.seq ?_
          refine CG.region ?_
          refine RG.op (ok_move (ht rfl)) rfl ?_
          refine RG.op (ok_move (ht rfl)) rfl ?_
          obtain ⟨y2, q_y2, h⟩ := bs h
          refine RG.op (ok_sliceHiO Try.underlying22 ti26 rfl (.head _) (ht rfl) (ht rfl) q_y2) rfl ?_
          refine RG.cut q_y2 ?_
          refine RG.op (ok_assign (ht rfl)) rfl ?_
          refine RG.nil ?_
          refine AT.next ?_
          refine CG.ret ?_
          refine AT.in_ret (AT.then_ret (AT.then_ret (AT.in_ret (AT.then_ret ?_))))
          cases so h
          exact AT.retM1 rfl (l, c) rfl rfl (fun _ _ h => h)
        · obtain ⟨hx1, h⟩ := h
          refine LG.unfold ?_
          refine CG.seq ?_
          refine CG.seq ?_
          refine CG.region ?_
          refine RG.op (ok_move (ht rfl)) rfl ?_
          refine RG.op (ok_move (ht rfl)) rfl ?_
          refine RG.op (ok_lenW Try.underlying22 hv.1 (ht rfl)) rfl ?_
          refine RG.op (ok_lss (ht rfl) (ht rfl)) rfl ?_
          refine RG.nil ?_
          refine AT.next ?_
          refine CG.condT (ht rfl) (natT hx1) ?_
          refine CG.skip ?_
          refine AT.next ?_
          refine CG.seq ?_
          refine CG.block ?_
          refine CG.seq ?_
          obtain ⟨e3, q_e3, h⟩ := bs h
          obtain ⟨e4, q_e4, h⟩ := bs h
          obtain ⟨r1, q_r1, h⟩ := bs h
          refine CG.draw (ts := [(tFun Try.prog (fun (x : (List DValue) × (List DValue)) => [tD (rSl rpDValue) x.1, tD (rSl rpDValue) x.2]) (fun (x : Bool) => tD rB x) (fun (x : (List DValue) × (List DValue)) => p1 x.1 x.2)), tV (vslV 1 l c (i : Int).toNat y.length), tD (rI .i64) (i1 : Int), tV (eptr l (((i : Int) + (i1 : Int)).toNat * 1 + 0)), tD (rSl rpDValue) e3, tV (vslV 1 l c (i : Int).toNat y.length), tD (rI .i64) (i1 : Int), tD (rI .i64) (IntKind.i64.wrap ((i1 : Int) - (1 : Int))), tV (eptr l (((i : Int) + (IntKind.i64.wrap ((i1 : Int) - (1 : Int)))).toNat * 1 + 0)), tD (rSl rpDValue) e4, tD rB r1, tD rB (!r1)]) mixed rfl rfl
            ⟨⟨[⟨1, _, none⟩], _, rfl, ⟨rfl, trivial⟩, rfl, rfl, OpG.plain rfl (ok_move (ht rfl))⟩,
            ⟨⟨[⟨6, _, none⟩], _, rfl, ⟨rfl, trivial⟩, rfl, rfl, OpG.plain rfl (ok_move (ht rfl))⟩,
            ⟨⟨[⟨7, _, none⟩], _, rfl, ⟨rfl, trivial⟩, rfl, rfl, OpG.plain rfl (ok_move (ht rfl))⟩,
            ⟨⟨[⟨39, _, some 1⟩, ⟨40, _, some 2⟩], _, rfl, ⟨rfl, rfl, trivial⟩, rfl, rfl, OpG.plain rfl (ok_indexAddrW Try.underlying22 ti26 rfl (.head _) (sliceF_lo q_y) (ht rfl) (ht rfl) q_e3)⟩,
            ⟨⟨[⟨41, _, some 3⟩], _, rfl, ⟨rfl, trivial⟩, rfl, rfl, OpG.plain rfl (ok_loadE ti26 rfl rfl fld_whole rfl (.head _) (idxV_some q_e3).2.2 (ht rfl))⟩,
            ⟨⟨[⟨6, _, none⟩], _, rfl, ⟨rfl, trivial⟩, rfl, rfl, OpG.plain rfl (ok_move (ht rfl))⟩,
            ⟨⟨[⟨7, _, none⟩], _, rfl, ⟨rfl, trivial⟩, rfl, rfl, OpG.plain rfl (ok_move (ht rfl))⟩,
            ⟨⟨[⟨44, _, some 6⟩], _, rfl, ⟨rfl, trivial⟩, rfl, rfl, OpG.plain rfl (ok_sub (ht rfl) hI)⟩,
            ⟨⟨[⟨43, _, some 5⟩, ⟨45, _, some 7⟩], _, rfl, ⟨rfl, rfl, trivial⟩, rfl, rfl, OpG.plain rfl (ok_indexAddrW Try.underlying22 ti26 rfl (.head _) (sliceF_lo q_y) (ht rfl) (ht rfl) q_e4)⟩,
            ⟨⟨[⟨46, _, some 8⟩], _, rfl, ⟨rfl, trivial⟩, rfl, rfl, OpG.plain rfl (ok_loadE ti26 rfl rfl fld_whole rfl (.head _) (idxV_some q_e4).2.2 (ht rfl))⟩,
            ⟨⟨[⟨38, _, some 0⟩, ⟨42, _, some 4⟩, ⟨47, _, some 9⟩], _, rfl, ⟨rfl, rfl, rfl, trivial⟩, rfl, rfl, OpG.plain rfl (ok_callV (x := ((e3, e4) : (List DValue) × (List DValue))) (ht rfl) q_r1 ⟨(ht rfl), (ht rfl), trivial⟩)⟩,
            ⟨⟨[⟨48, _, some 10⟩], _, rfl, ⟨rfl, trivial⟩, rfl, rfl, OpG.plain rfl (ok_not (ht rfl))⟩,
            trivial⟩⟩⟩⟩⟩⟩⟩⟩⟩⟩⟩⟩ ?_
          refine AT.next ?_
          refine CG.cond (ht rfl) (fun hc => ?_) (fun hc => ?_)
          · have h := ct h hc
            refine CG.seq ?_
            refine CG.region ?_
            refine RG.op (ok_move (ht rfl)) rfl ?_
            refine RG.op (ok_move (ht rfl)) rfl ?_
            refine RG.op (ok_move (ht rfl)) rfl ?_
            refine RG.op (ok_move (ht rfl)) rfl ?_
            obtain ⟨e5, q_e5, h⟩ := bs h
            refine RG.op (ok_indexAddrW Try.underlying22 ti26 rfl (.head _) (sliceF_lo q_y) (ht rfl) (ht rfl) q_e5) rfl ?_
            refine RG.op (ok_loadE ti26 rfl rfl fld_whole rfl (.head _) (idxV_some q_e5).2.2 (ht rfl)) rfl ?_
            obtain ⟨e6, q_e6, h⟩ := bs h
            refine RG.op (ok_indexAddrO Try.underlying22 ti26 (.head _) (ht rfl) (ht rfl) q_e6) rfl ?_
            obtain ⟨st, q_st, h⟩ := bs h
            refine RG.storeE ti26 rfl sfld_whole rfl q_e6 (so q_st) (ht rfl) (ht rfl) ?_
            refine RG.relen2 (set_len (so q_st)) 0 rfl ?_
            refine RG.relen2 (set_len (so q_st)) 50 rfl ?_
            refine RG.nil ?_
            refine AT.next ?_
            refine CG.region ?_
            refine RG.op (ok_move (ht rfl)) rfl ?_
            refine RG.op (ok_add (ht rfl) hI) rfl ?_
            refine RG.op (ok_assign (ht rfl)) rfl ?_
            refine RG.nil ?_
            refine AT.in_normal ?_
            refine AT.next ?_
            refine CG.region ?_
            refine RG.op (ok_move (ht rfl)) rfl ?_
            refine RG.op (ok_incN (natL hx1 (maxN hv.2)) (ht rfl) hI) rfl ?_
            refine RG.op (ok_assign (ht rfl)) rfl ?_
            refine RG.nil ?_
            exact AT.round (LG.sub (ih1 (i1 + 1) st (IntKind.i64.wrap (x1 + (1 : Int))) ⟨natS hx1, h⟩) ⟨rfl, rfl, rfl, rfl, rfl, trivial⟩)
          · have h := cf h hc
            refine CG.skip ?_
            refine AT.in_normal ?_
            refine AT.next ?_
            refine CG.region ?_
            refine RG.op (ok_move (ht rfl)) rfl ?_
            refine RG.op (ok_incN (natL hx1 (maxN hv.2)) (ht rfl) hI) rfl ?_
            refine RG.op (ok_assign (ht rfl)) rfl ?_
            refine RG.nil ?_
            exact AT.round (LG.sub (ih1 (i1 + 1) x x1 ⟨natS hx1, h⟩) ⟨rfl, rfl, rfl, rfl, rfl, trivial⟩)
      · have h := cf h hc
        refine CG.skip ?_
        refine AT.in_normal ?_
        refine AT.next ?_
        refine CG.region ?_
        refine RG.op (ok_move (ht rfl)) rfl ?_
        refine RG.op (ok_incN (dropL hx hN) (ht rfl) hI) rfl ?_
        refine RG.op (ok_assign (ht rfl)) rfl ?_
        refine RG.nil ?_
        exact AT.round (LG.sub (ih (i + 1)  ⟨dropS hx, h⟩) ⟨rfl, rfl, rfl, trivial⟩)

set_option maxRecDepth 100000 in
theorem f25_ok (l : (List (List DValue))) {R : (List (List DValue)) × Int} (h : row_Distinct l = some R) : Spec Try.prog 25 [tD (rSl (rSl rpDValue)) l] (tT [tD (rSl (rSl rpDValue)) R.1, tD (rI .i64) R.2]) := by
  refine Spec.of Try.func25 rfl rfl rfl fun w0 S0 => ?_
  refine CG.seq ?_
  refine CG.region ?_
  refine RG.op (ok_assign (show HasTy _ _ _ (tD (rSl (rSl rpDValue)) ([])) from hNil)) rfl ?_
  refine RG.op (ok_assign hI) rfl ?_
  refine RG.nil ?_
  refine AT.next ?_
  refine CG.seq ?_
  refine CG.seq ?_
  refine CG.region ?_
  refine RG.op (ok_move (ht rfl)) rfl ?_
  refine RG.op (ok_buildSlice (r := (rSl (rSl rpDValue))) (ys := [l]) (xs := [.tmp 5]) Try.underlying58 ti22 rfl rfl rfl rfl rfl ⟨(ht rfl), trivial⟩) rfl ?_
  obtain ⟨r, q_r, h⟩ := bs h
  refine RG.op (ok_call cb47 (f47_ok _ q_r) ⟨(ht rfl), trivial⟩) rfl ?_
  refine RG.op (ok_assign (ht rfl)) rfl ?_
  refine RG.nil ?_
  refine AT.next ?_
  refine CG.seq ?_
  refine CG.region ?_
  refine RG.op (ok_move (ht rfl)) rfl ?_
  refine RG.op (ok_neqI (ht rfl) hI) rfl ?_
  refine RG.nil ?_
  refine AT.next ?_
  refine CG.cond (ht rfl) (fun hc => ?_) (fun hc => ?_)
  · have h := ct h hc
    refine CG.seq ?_
    refine CG.region ?_
    refine RG.op (ok_move (ht rfl)) rfl ?_
    refine RG.op (ok_assign (show HasTy _ _ _ (tD (rSl (rSl rpDValue)) ([])) from hNil)) rfl ?_
    refine RG.op (ok_assign (ht rfl)) rfl ?_
    refine RG.nil ?_
    refine AT.next ?_
    refine CG.ret ?_
    refine AT.then_ret ?_
    cases so h
    exact AT.ret2 rfl rfl rfl
  · have h := cf h hc
    refine CG.skip ?_
    refine AT.next ?_
    refine CG.seq ?_
    refine CG.region ?_
    refine RG.op (ok_move (ht rfl)) rfl ?_
    obtain ⟨r1, q_r1, h⟩ := bs h
    refine RG.callO cb48 (f48_own _ q_r1) ⟨(ht rfl), trivial⟩ rfl (fun l1 c => ?_)
    obtain ⟨r2, q_r2, h⟩ := bs h
    refine RG.callM [arr (rSl rpDValue) 26 l1 c r1] _ rfl cb49 (f49_m l1 c _ _ q_r2) ⟨(ht rfl), (hFn cb40 fun x y h => f40_ok _ _ h), trivial⟩ rfl (fun i => ?_)
    obtain ⟨l2, c1⟩ := i
    refine (show RG _ _ _ _ [arr (rSl rpDValue) 26 l2 c1 r2] ((13, tV (oslV l2 c1 r2.length)) :: _) from ?_)
    refine RG.op (ok_assign (ht rfl)) rfl ?_
    refine RG.op (ok_assign hI) rfl ?_
    refine RG.nil ?_
    refine AT.next ?_
    refine CG.ret ?_
    refine AT.freeze ?_
    refine AT.tipAt 2 rfl ?_
    refine AT.tipAt 13 rfl ?_
    refine AT.dataAt 2 rfl ?_
    refine AT.drop ?_
    cases so h
    exact AT.ret2 rfl rfl rfl

set_option maxRecDepth 100000 in
theorem f6_ok (p : (List (List DValue))) {R : Bool} (h : law05_RowSets p = some R) : Spec Try.prog 6 [tD (rSl (rSl rpDValue)) p] (tD rB R) := by
  refine Spec.of Try.func6 rfl rfl rfl fun w0 S0 => ?_
  refine CG.seq ?_
  refine CG.region ?_
  refine RG.op (ok_assign hB) rfl ?_
  refine RG.nil ?_
  refine AT.next ?_
  refine CG.seq ?_
  refine CG.seq ?_
  refine CG.region ?_
  obtain ⟨r, q_r, h⟩ := bs h
  refine RG.op (ok_call cb9 (f9_ok  q_r) trivial) rfl ?_
  refine RG.op (ok_not (ht rfl)) rfl ?_
  refine RG.nil ?_
  refine AT.next ?_
  refine CG.cond (ht rfl) (fun hc => ?_) (fun hc => ?_)
  · have h := ct h hc
    refine CG.seq ?_
    refine CG.region ?_
    refine RG.op (ok_assign hB) rfl ?_
    refine RG.nil ?_
    refine AT.next ?_
    refine CG.ret ?_
    refine AT.then_ret ?_
    cases so h
    exact AT.ret1 rfl rfl
  · have h := cf h hc
    refine CG.skip ?_
    refine AT.next ?_
    refine CG.seq ?_
    refine CG.seq ?_
    refine CG.region ?_
    refine RG.op (ok_move (ht rfl)) rfl ?_
    obtain ⟨r1, q_r1, h⟩ := bs h
    refine RG.op (ok_call cb10 (f10_ok _ q_r1) ⟨(ht rfl), trivial⟩) rfl ?_
    refine RG.nil ?_
    refine AT.next ?_
    refine CG.cond (ht rfl) (fun hc => ?_) (fun hc => ?_)
    · have h := ct h hc
      refine CG.seq ?_
      refine CG.region ?_
      refine RG.op (ok_assign hB) rfl ?_
      refine RG.nil ?_
      refine AT.next ?_
      refine CG.ret ?_
      refine AT.then_ret ?_
      cases so h
      exact AT.ret1 rfl rfl
    · have h := cf h hc
      refine CG.skip ?_
      refine AT.next ?_
      refine CG.seq ?_
      refine CG.region ?_
      refine RG.op (ok_move (ht rfl)) rfl ?_
      obtain ⟨r2, q_r2, h⟩ := bs h
      refine RG.op (ok_call cb23 (f23_ok _ q_r2) ⟨(ht rfl), trivial⟩) rfl ?_
      refine RG.op (ok_move (ht rfl)) rfl ?_
      refine RG.op (ok_extract rfl (ht rfl)) rfl ?_
      refine RG.op (ok_extract rfl (ht rfl)) rfl ?_
      refine RG.op (ok_assign (ht rfl)) rfl ?_
      refine RG.op (ok_assign (ht rfl)) rfl ?_
      refine RG.nil ?_
      refine AT.next ?_
      refine CG.seq ?_
      refine CG.seq ?_
      refine CG.region ?_
      refine RG.op (ok_move (ht rfl)) rfl ?_
      refine RG.op (ok_neqI (ht rfl) hI) rfl ?_
      refine RG.nil ?_
      refine AT.next ?_
      refine CG.cond (ht rfl) (fun hc => ?_) (fun hc => ?_)
      · have h := ct h hc
        refine CG.seq ?_
        refine CG.region ?_
        refine RG.op (ok_move (ht rfl)) rfl ?_
        refine RG.op (ok_lenSl Try.underlying22 (ht rfl)) rfl ?_
        refine RG.op (ok_eqlI (ht rfl) hI) rfl ?_
        refine RG.op (ok_assign (ht rfl)) rfl ?_
        refine RG.nil ?_
        refine AT.next ?_
        refine CG.ret ?_
        refine AT.then_ret ?_
        cases so h
        exact AT.ret1 rfl rfl
      · have h := cf h hc
        refine CG.skip ?_
        refine AT.next ?_
        refine CG.seq ?_
        refine CG.region ?_
        refine RG.op (ok_move (ht rfl)) rfl ?_
        obtain ⟨r3, q_r3, h⟩ := bs h
        refine RG.op (ok_call cb23 (f23_ok _ q_r3) ⟨(ht rfl), trivial⟩) rfl ?_
        refine RG.op (ok_move (ht rfl)) rfl ?_
        refine RG.op (ok_extract rfl (ht rfl)) rfl ?_
        refine RG.op (ok_extract rfl (ht rfl)) rfl ?_
        refine RG.op (ok_assign (ht rfl)) rfl ?_
        refine RG.op (ok_assign (ht rfl)) rfl ?_
        refine RG.nil ?_
        refine AT.next ?_
        refine CG.seq ?_
        refine CG.region ?_
        refine RG.op (ok_move (ht rfl)) rfl ?_
        refine RG.op (ok_move (ht rfl)) rfl ?_
        obtain ⟨r4, q_r4, h⟩ := bs h
        refine RG.op (ok_call cb24 (f24_ok _ _ q_r4) ⟨(ht rfl), (ht rfl), trivial⟩) rfl ?_
        refine RG.op (ok_move (ht rfl)) rfl ?_
        refine RG.op (ok_extract rfl (ht rfl)) rfl ?_
        refine RG.op (ok_extract rfl (ht rfl)) rfl ?_
        refine RG.op (ok_assign (ht rfl)) rfl ?_
        refine RG.op (ok_assign (ht rfl)) rfl ?_
        refine RG.nil ?_
        refine AT.next ?_
        refine CG.seq ?_
        refine CG.region ?_
        refine RG.op (ok_move (ht rfl)) rfl ?_
        obtain ⟨r5, q_r5, h⟩ := bs h
        refine RG.op (ok_call cb25 (f25_ok _ q_r5) ⟨(ht rfl), trivial⟩) rfl ?_
        refine RG.op (ok_move (ht rfl)) rfl ?_
        refine RG.op (ok_extract rfl (ht rfl)) rfl ?_
        refine RG.op (ok_extract rfl (ht rfl)) rfl ?_
        refine RG.op (ok_assign (ht rfl)) rfl ?_
        refine RG.op (ok_assign (ht rfl)) rfl ?_
        refine RG.nil ?_
        refine AT.next ?_
        refine CG.seq ?_
        refine CG.seq ?_
        refine CG.region ?_
        refine RG.op (ok_move (ht rfl)) rfl ?_
        refine RG.op (ok_neqI (ht rfl) hI) rfl ?_
        refine RG.op (ok_move (ht rfl)) rfl ?_
        refine RG.opGf rfl rfl rfl rfl (fun hg => ok_move (ht rfl)) ?_
        refine RG.opGf rfl rfl rfl rfl (fun hg => ok_neqI (htO rfl hg) hI) ?_
        refine RG.op (ok_pickOr (ht rfl) (fun hb => (htO rfl (noti hb)))) rfl ?_
        refine RG.op (ok_move (ht rfl)) rfl ?_
        refine RG.opGf rfl rfl rfl rfl (fun hg => ok_move (ht rfl)) ?_
        refine RG.opGf rfl rfl rfl rfl (fun hg => ok_neqI (htO rfl hg) hI) ?_
        refine RG.op (ok_pickOr (ht rfl) (fun hb => (htO rfl (noti hb)))) rfl ?_
        refine RG.op (ok_move (ht rfl)) rfl ?_
        obtain ⟨t, q_t, h⟩ := bs h
        refine RG.opGf rfl rfl rfl rfl (fun hg => ok_move (ht rfl)) ?_
        refine RG.opGf rfl rfl rfl rfl (fun hg => ok_move (ht rfl)) ?_
        obtain ⟨r6, h1t, h0t⟩ := og q_t
        have q_r6g := fun hb => (h1t hb).1
        refine RG.opGf rfl rfl rfl rfl (fun hg => ok_call cb15 (f15_ok _ _ (q_r6g hg)) ⟨(htO rfl hg), (htO rfl hg), trivial⟩) ?_
        refine RG.opGf rfl rfl rfl rfl (fun hg => ok_not (htO rfl hg)) ?_
        refine RG.op (ok_pickOrM (ht rfl) (fun hb => (htO rfl (noti hb))) (fun hb => (h1t hb).2) h0t) rfl ?_
        refine RG.op (ok_move (ht rfl)) rfl ?_
        refine RG.opGf rfl rfl rfl rfl (fun hg => ok_move (ht rfl)) ?_
        refine RG.opGf rfl rfl rfl rfl (fun hg => ok_not (htO rfl hg)) ?_
        refine RG.op (ok_pickOr (ht rfl) (fun hb => (htO rfl (noti hb)))) rfl ?_
        refine RG.op (ok_move (ht rfl)) rfl ?_
        refine RG.opGf rfl rfl rfl rfl (fun hg => ok_move (ht rfl)) ?_
        refine RG.opGf rfl rfl rfl rfl (fun hg => ok_lenSl Try.underlying22 (htO rfl hg)) ?_
        refine RG.opGf rfl rfl rfl rfl (fun hg => ok_move (ht rfl)) ?_
        refine RG.opGf rfl rfl rfl rfl (fun hg => ok_lenSl Try.underlying22 (htO rfl hg)) ?_
        refine RG.opGf rfl rfl rfl rfl (fun hg => ok_neqI (htO rfl hg) (htO rfl hg)) ?_
        refine RG.op (ok_pickOr (ht rfl) (fun hb => (htO rfl (noti hb)))) rfl ?_
        refine RG.op (ok_move (ht rfl)) rfl ?_
        refine RG.opGf rfl rfl rfl rfl (fun hg => ok_move (ht rfl)) ?_
        refine RG.opGf rfl rfl rfl rfl (fun hg => ok_lenSl Try.underlying22 (htO rfl hg)) ?_
        refine RG.opGf rfl rfl rfl rfl (fun hg => ok_move (ht rfl)) ?_
        refine RG.opGf rfl rfl rfl rfl (fun hg => ok_lenSl Try.underlying22 (htO rfl hg)) ?_
        refine RG.opGf rfl rfl rfl rfl (fun hg => ok_gtr (htO rfl hg) (htO rfl hg)) ?_
        refine RG.op (ok_pickOr (ht rfl) (fun hb => (htO rfl (noti hb)))) rfl ?_
        refine RG.nil ?_
        refine AT.next ?_
        refine CG.cond (ht rfl) (fun hc => ?_) (fun hc => ?_)
        · have h := ct h hc
          refine CG.seq ?_
          refine CG.region ?_
          refine RG.op (ok_assign hB) rfl ?_
          refine RG.nil ?_
          refine AT.next ?_
          refine CG.ret ?_
          refine AT.then_ret ?_
          cases so h
          exact AT.ret1 rfl rfl
        · have h := cf h hc
          refine CG.skip ?_
          refine AT.next ?_
          refine CG.seq ?_
          refine CG.seq ?_
          refine CG.region ?_
          refine RG.op (ok_assign hI) rfl ?_
          refine RG.nil ?_
          refine AT.next ?_
          refine CG.block ?_
          refine CG.have_len (k := 3) rfl (fun hN => ?_)
          refine CG.loop ?_
          refine LG.sub (LG.list1 (Z := fun ls i  => (r2.1.drop i = ls) ∧ law05_RowSets_l1 p r2 r5 ls i  = some R) (Of := fun _ i  => []) (Gf := fun _ i  => [(0, tD (rSl (rSl rpDValue)) p), (3, tD (rSl (rSl rpDValue)) r2.1), (9, tD (rSl (rSl rpDValue)) r5.1), (11, tD (rI .i64) (i : Int))]) (fun i  h => ?_) (fun e tl ih i  h => ?_) (r2.1.drop (1)) 1  ⟨rfl, h⟩) ⟨rfl, rfl, rfl, rfl, trivial⟩
          · obtain ⟨hx, h⟩ := h
            refine LG.unfold ?_
            refine CG.seq ?_
            refine CG.seq ?_
            refine CG.region ?_
            refine RG.op (ok_move (ht rfl)) rfl ?_
            refine RG.op (ok_move (ht rfl)) rfl ?_
            refine RG.op (ok_lenSl Try.underlying22 (ht rfl)) rfl ?_
            refine RG.op (ok_lss (ht rfl) (ht rfl)) rfl ?_
            refine RG.nil ?_
            refine AT.next ?_
            refine CG.condF (ht rfl) (dropF hx) ?_
            refine CG.exit ?_
            refine AT.then_exit (AT.then_exit (AT.in_exit ?_))
            refine AT.next ?_
            refine CG.seq ?_
            refine CG.seq ?_
            refine CG.region ?_
            refine RG.op (ok_assign hI) rfl ?_
            refine RG.nil ?_
            refine AT.next ?_
            refine CG.block ?_
            refine CG.have_len (k := 9) rfl (fun hN1 => ?_)
            refine CG.loop ?_
            refine LG.sub (LG.list1 (Z := fun ls1 i1  => (r5.1.drop i1 = ls1) ∧ law05_RowSets_l2 p r5 ls1 i1  = some R) (Of := fun _ i1  => []) (Gf := fun _ i1  => [(0, tD (rSl (rSl rpDValue)) p), (9, tD (rSl (rSl rpDValue)) r5.1), (12, tD (rI .i64) (i1 : Int))]) (fun i1  h => ?_) (fun e1 tl1 ih1 i1  h => ?_) (r5.1.drop (1)) 1  ⟨rfl, h⟩) ⟨rfl, rfl, rfl, trivial⟩
            · obtain ⟨hx1, h⟩ := h
              refine LG.unfold ?_
              refine CG.seq ?_
              refine CG.seq ?_
              refine CG.region ?_
              refine RG.op (ok_move (ht rfl)) rfl ?_
              refine RG.op (ok_move (ht rfl)) rfl ?_
              refine RG.op (ok_lenSl Try.underlying22 (ht rfl)) rfl ?_
              refine RG.op (ok_lss (ht rfl) (ht rfl)) rfl ?_
              refine RG.nil ?_
              refine AT.next ?_
              refine CG.condF (ht rfl) (dropF hx1) ?_
              refine CG.exit ?_
              refine AT.then_exit (AT.then_exit (AT.in_exit ?_))
              refine AT.next ?_
              refine CG.seq ?_
              refine CG.seq ?_
              refine CG.region ?_
              refine RG.op (ok_move (ht rfl)) rfl ?_
              refine RG.op (ok_lenSl Try.underlying22 (ht rfl)) rfl ?_
              refine RG.op (ok_move hI) rfl ?_
              refine RG.nil ?_
              refine AT.next ?_
              refine CG.block ?_
              refine CG.have_len (k := 116) rfl (fun hN2 => ?_)
              refine CG.loop ?_
              refine LG.sub (LG.list1 (Z := fun ls2 i2  => (p.drop i2 = ls2) ∧ law05_RowSets_l3 r5 ls2  = some R) (Of := fun _ i2  => []) (Gf := fun _ i2  => [(9, tD (rSl (rSl rpDValue)) r5.1), (116, tD (rSl (rSl rpDValue)) p), (117, tD (rI .i64) (p.length : Int)), (118, tD (rI .i64) (i2 : Int))]) (fun i2  h => ?_) (fun e2 tl2 ih2 i2  h => ?_) p 0  ⟨rfl, h⟩) ⟨rfl, rfl, rfl, rfl, trivial⟩
              · obtain ⟨hx2, h⟩ := h
                refine LG.unfold ?_
                refine CG.seq ?_
                refine CG.region ?_
                refine RG.op (ok_lss (ht rfl) (ht rfl)) rfl ?_
                refine RG.nil ?_
                refine AT.next ?_
                refine CG.seq ?_
                refine CG.condF (ht rfl) (dropF hx2) ?_
                refine CG.exit ?_
                refine AT.then_exit (AT.then_exit (AT.in_exit ?_))
                refine AT.next ?_
                refine CG.seq ?_
                refine CG.region ?_
                refine RG.op (ok_assign hB) rfl ?_
                refine RG.nil ?_
                refine AT.next ?_
                refine CG.ret ?_
                cases so h
                exact AT.ret1 rfl rfl
              · obtain ⟨hx2, h⟩ := h
                refine LG.unfold ?_
                refine CG.seq ?_
                refine CG.region ?_
                refine RG.op (ok_lss (ht rfl) (ht rfl)) rfl ?_
                refine RG.nil ?_
                refine AT.next ?_
                refine CG.seq ?_
                refine CG.condT (ht rfl) (dropT hx2) ?_
                refine CG.skip ?_
                refine AT.next ?_
                refine CG.seq ?_
                refine CG.block ?_
                refine CG.seq ?_
                refine CG.region ?_
                refine RG.op (ok_indexAddr Try.underlying22 ti26 rfl (ht rfl) (ht rfl) (dropI hx2)) rfl ?_
                refine RG.op (ok_load ti26 rfl rfl (ht rfl)) rfl ?_
                refine RG.op (ok_assign (ht rfl)) rfl ?_
                refine RG.nil ?_
                refine AT.next ?_
                refine CG.seq ?_
                refine CG.region ?_
                refine RG.op (ok_assign hI) rfl ?_
                refine RG.nil ?_
                refine AT.next ?_
                refine CG.seq ?_
                refine CG.seq ?_
                refine CG.region ?_
                refine RG.op (ok_move (ht rfl)) rfl ?_
                refine RG.op (ok_lenSl Try.underlying22 (ht rfl)) rfl ?_
                refine RG.op (ok_move hI) rfl ?_
                refine RG.nil ?_
                refine AT.next ?_
                refine CG.block ?_
                refine CG.have_len (k := 122) rfl (fun hN3 => ?_)
                refine CG.loop ?_
                refine LG.sub (LG.list2 (Z := fun ls3 i3 x => (r5.1.drop i3 = ls3) ∧ law05_RowSets_l4 (law05_RowSets_l3 r5 tl2) e2 ls3 x = some R) (Of := fun _ i3 x => []) (Gf := fun _ i3 x => [(9, tD (rSl (rSl rpDValue)) r5.1), (14, tD (rSl rpDValue) e2), (15, tD (rI .i64) x), (116, tD (rSl (rSl rpDValue)) p), (117, tD (rI .i64) (p.length : Int)), (118, tD (rI .i64) (i2 : Int)), (122, tD (rSl (rSl rpDValue)) r5.1), (123, tD (rI .i64) (r5.1.length : Int)), (124, tD (rI .i64) (i3 : Int))]) (fun i3 x h => ?_) (fun e3 tl3 ih3 i3 x h => ?_) r5.1 0 (0 : Int) ⟨rfl, h⟩) ⟨rfl, rfl, rfl, rfl, rfl, rfl, rfl, rfl, rfl, trivial⟩
                · obtain ⟨hx3, h⟩ := h
                  refine LG.unfold ?_
                  refine CG.seq ?_
                  refine CG.region ?_
                  refine RG.op (ok_lss (ht rfl) (ht rfl)) rfl ?_
                  refine RG.nil ?_
                  refine AT.next ?_
                  refine CG.seq ?_
                  refine CG.condF (ht rfl) (dropF hx3) ?_
                  refine CG.exit ?_
                  refine AT.then_exit (AT.then_exit (AT.in_exit ?_))
                  refine AT.next ?_
                  refine CG.seq ?_
                  refine CG.region ?_
                  refine RG.op (ok_move (ht rfl)) rfl ?_
                  refine RG.op (ok_neqI (ht rfl) hI) rfl ?_
                  refine RG.nil ?_
                  refine AT.next ?_
                  refine CG.cond (ht rfl) (fun hc => ?_) (fun hc => ?_)
                  · have h := ct h hc
                    refine CG.seq ?_
                    refine CG.region ?_
                    refine RG.op (ok_assign hB) rfl ?_
                    refine RG.nil ?_
                    refine AT.next ?_
                    refine CG.ret ?_
                    refine AT.in_ret (AT.then_ret (AT.then_ret (AT.in_ret (AT.then_ret ?_))))
                    cases so h
                    exact AT.ret1 rfl rfl
                  · have h := cf h hc
                    refine CG.skip ?_
                    refine AT.in_normal ?_
                    refine AT.next ?_
                    refine CG.region ?_
                    refine RG.op (ok_incN (dropL hx2 hN2) (ht rfl) hI) rfl ?_
                    refine RG.op (ok_move (ht rfl)) rfl ?_
                    refine RG.nil ?_
                    exact AT.round (LG.sub (ih2 (i2 + 1)  ⟨dropS hx2, h⟩) ⟨rfl, rfl, rfl, rfl, trivial⟩)
                · obtain ⟨hx3, h⟩ := h
                  refine LG.unfold ?_
                  refine CG.seq ?_
                  refine CG.region ?_
                  refine RG.op (ok_lss (ht rfl) (ht rfl)) rfl ?_
                  refine RG.nil ?_
                  refine AT.next ?_
                  refine CG.seq ?_
                  refine CG.condT (ht rfl) (dropT hx3) ?_
                  refine CG.skip ?_
                  refine AT.next ?_
                  refine CG.seq ?_
                  refine CG.block ?_
                  refine CG.seq ?_
                  refine CG.region ?_
                  refine RG.op (ok_indexAddr Try.underlying22 ti26 rfl (ht rfl) (ht rfl) (dropI hx3)) rfl ?_
                  refine RG.op (ok_load ti26 rfl rfl (ht rfl)) rfl ?_
                  refine RG.op (ok_assign (ht rfl)) rfl ?_
                  refine RG.nil ?_
                  refine AT.next ?_
                  refine CG.seq ?_
                  refine CG.region ?_
                  refine RG.op (ok_move (ht rfl)) rfl ?_
                  refine RG.op (ok_move (ht rfl)) rfl ?_
                  obtain ⟨r7, q_r7, h⟩ := bs h
                  refine RG.op (ok_call cb14 (f14_ok _ _ q_r7) ⟨(ht rfl), (ht rfl), trivial⟩) rfl ?_
                  refine RG.op (ok_eqlI (ht rfl) hI) rfl ?_
                  refine RG.nil ?_
                  refine AT.next ?_
                  refine CG.cond (ht rfl) (fun hc => ?_) (fun hc => ?_)
                  · have h := ct h hc
                    refine CG.region ?_
                    refine RG.op (ok_move (ht rfl)) rfl ?_
                    refine RG.op (ok_add (ht rfl) hI) rfl ?_
                    refine RG.op (ok_assign (ht rfl)) rfl ?_
                    refine RG.nil ?_
                    refine AT.in_normal ?_
                    refine AT.next ?_
                    refine CG.region ?_
                    refine RG.op (ok_incN (dropL hx3 hN3) (ht rfl) hI) rfl ?_
                    refine RG.op (ok_move (ht rfl)) rfl ?_
                    refine RG.nil ?_
                    exact AT.round (LG.sub (ih3 (i3 + 1) (IntKind.i64.wrap (x + (1 : Int))) ⟨dropS hx3, h⟩) ⟨rfl, rfl, rfl, rfl, rfl, rfl, rfl, rfl, rfl, trivial⟩)
                  · have h := cf h hc
                    refine CG.skip ?_
                    refine AT.in_normal ?_
                    refine AT.next ?_
                    refine CG.region ?_
                    refine RG.op (ok_incN (dropL hx3 hN3) (ht rfl) hI) rfl ?_
                    refine RG.op (ok_move (ht rfl)) rfl ?_
                    refine RG.nil ?_
                    exact AT.round (LG.sub (ih3 (i3 + 1) x ⟨dropS hx3, h⟩) ⟨rfl, rfl, rfl, rfl, rfl, rfl, rfl, rfl, rfl, trivial⟩)
            · obtain ⟨hx1, h⟩ := h
              refine LG.unfold ?_
              refine CG.seq ?_
              refine CG.seq ?_
              refine CG.region ?_
              refine RG.op (ok_move (ht rfl)) rfl ?_
              refine RG.op (ok_move (ht rfl)) rfl ?_
              refine RG.op (ok_lenSl Try.underlying22 (ht rfl)) rfl ?_
              refine RG.op (ok_lss (ht rfl) (ht rfl)) rfl ?_
              refine RG.nil ?_
              refine AT.next ?_
              refine CG.condT (ht rfl) (dropT hx1) ?_
              refine CG.skip ?_
              refine AT.next ?_
              refine CG.seq ?_
              refine CG.block ?_
              refine CG.seq ?_
              obtain ⟨e4, q_e4, h⟩ := bs h
              obtain ⟨r8, q_r8, h⟩ := bs h
              refine CG.draw (ts := [tD (rSl (rSl rpDValue)) r5.1, tD (rI .i64) (i1 : Int), tD (rI .i64) (IntKind.i64.wrap ((i1 : Int) - (1 : Int))), tPtr (rSl rpDValue) e4, tD (rSl rpDValue) e4, tD (rSl (rSl rpDValue)) r5.1, tD (rI .i64) (i1 : Int), tPtr (rSl rpDValue) e1, tD (rSl rpDValue) e1, tD (rI .i64) r8, tD rB (decide ((0 : Int) ≤ r8))]) mixed rfl rfl
                ⟨⟨[⟨9, _, none⟩], _, rfl, ⟨rfl, trivial⟩, rfl, rfl, OpG.plain rfl (ok_move (ht rfl))⟩,
                ⟨⟨[⟨12, _, none⟩], _, rfl, ⟨rfl, trivial⟩, rfl, rfl, OpG.plain rfl (ok_move (ht rfl))⟩,
                ⟨⟨[⟨106, _, some 1⟩], _, rfl, ⟨rfl, trivial⟩, rfl, rfl, OpG.plain rfl (ok_sub (ht rfl) hI)⟩,
                ⟨⟨[⟨105, _, some 0⟩, ⟨107, _, some 2⟩], _, rfl, ⟨rfl, rfl, trivial⟩, rfl, rfl, OpG.plain rfl (ok_indexAddr Try.underlying22 ti26 rfl (ht rfl) (ht rfl) q_e4)⟩,
                ⟨⟨[⟨108, _, some 3⟩], _, rfl, ⟨rfl, trivial⟩, rfl, rfl, OpG.plain rfl (ok_load ti26 rfl rfl (ht rfl))⟩,
                ⟨⟨[⟨9, _, none⟩], _, rfl, ⟨rfl, trivial⟩, rfl, rfl, OpG.plain rfl (ok_move (ht rfl))⟩,
                ⟨⟨[⟨12, _, none⟩], _, rfl, ⟨rfl, trivial⟩, rfl, rfl, OpG.plain rfl (ok_move (ht rfl))⟩,
                ⟨⟨[⟨110, _, some 5⟩, ⟨111, _, some 6⟩], _, rfl, ⟨rfl, rfl, trivial⟩, rfl, rfl, OpG.plain rfl (ok_indexAddr Try.underlying22 ti26 rfl (ht rfl) (ht rfl) (dropI hx1))⟩,
                ⟨⟨[⟨112, _, some 7⟩], _, rfl, ⟨rfl, trivial⟩, rfl, rfl, OpG.plain rfl (ok_load ti26 rfl rfl (ht rfl))⟩,
                ⟨⟨[⟨109, _, some 4⟩, ⟨113, _, some 8⟩], _, rfl, ⟨rfl, rfl, trivial⟩, rfl, rfl, OpG.plain rfl (ok_call cb14 (f14_ok _ _ q_r8) ⟨(ht rfl), (ht rfl), trivial⟩)⟩,
                ⟨⟨[⟨114, _, some 9⟩], _, rfl, ⟨rfl, trivial⟩, rfl, rfl, OpG.plain rfl (ok_geq (ht rfl) hI)⟩,
                trivial⟩⟩⟩⟩⟩⟩⟩⟩⟩⟩⟩ ?_
              refine AT.next ?_
              refine CG.cond (ht rfl) (fun hc => ?_) (fun hc => ?_)
              · have h := ct h hc
                refine CG.seq ?_
                refine CG.region ?_
                refine RG.op (ok_assign hB) rfl ?_
                refine RG.nil ?_
                refine AT.next ?_
                refine CG.ret ?_
                refine AT.in_ret (AT.then_ret (AT.then_ret (AT.in_ret (AT.then_ret ?_))))
                cases so h
                exact AT.ret1 rfl rfl
              · have h := cf h hc
                refine CG.skip ?_
                refine AT.in_normal ?_
                refine AT.next ?_
                refine CG.region ?_
                refine RG.op (ok_move (ht rfl)) rfl ?_
                refine RG.op (ok_incN (dropL hx1 hN1) (ht rfl) hI) rfl ?_
                refine RG.op (ok_assign (ht rfl)) rfl ?_
                refine RG.nil ?_
                exact AT.round (LG.sub (ih1 (i1 + 1)  ⟨dropS hx1, h⟩) ⟨rfl, rfl, rfl, trivial⟩)
          · obtain ⟨hx, h⟩ := h
            refine LG.unfold ?_
            refine CG.seq ?_
            refine CG.seq ?_
            refine CG.region ?_
            refine RG.op (ok_move (ht rfl)) rfl ?_
            refine RG.op (ok_move (ht rfl)) rfl ?_
            refine RG.op (ok_lenSl Try.underlying22 (ht rfl)) rfl ?_
            refine RG.op (ok_lss (ht rfl) (ht rfl)) rfl ?_
            refine RG.nil ?_
            refine AT.next ?_
            refine CG.condT (ht rfl) (dropT hx) ?_
            refine CG.skip ?_
            refine AT.next ?_
            refine CG.seq ?_
            refine CG.block ?_
            refine CG.seq ?_
            obtain ⟨e5, q_e5, h⟩ := bs h
            obtain ⟨r9, q_r9, h⟩ := bs h
            refine CG.draw (ts := [tD (rSl (rSl rpDValue)) r2.1, tD (rI .i64) (i : Int), tD (rI .i64) (IntKind.i64.wrap ((i : Int) - (1 : Int))), tPtr (rSl rpDValue) e5, tD (rSl rpDValue) e5, tD (rSl (rSl rpDValue)) r2.1, tD (rI .i64) (i : Int), tPtr (rSl rpDValue) e, tD (rSl rpDValue) e, tD (rI .i64) r9, tD rB (decide ((0 : Int) < r9))]) mixed rfl rfl
              ⟨⟨[⟨3, _, none⟩], _, rfl, ⟨rfl, trivial⟩, rfl, rfl, OpG.plain rfl (ok_move (ht rfl))⟩,
              ⟨⟨[⟨11, _, none⟩], _, rfl, ⟨rfl, trivial⟩, rfl, rfl, OpG.plain rfl (ok_move (ht rfl))⟩,
              ⟨⟨[⟨89, _, some 1⟩], _, rfl, ⟨rfl, trivial⟩, rfl, rfl, OpG.plain rfl (ok_sub (ht rfl) hI)⟩,
              ⟨⟨[⟨88, _, some 0⟩, ⟨90, _, some 2⟩], _, rfl, ⟨rfl, rfl, trivial⟩, rfl, rfl, OpG.plain rfl (ok_indexAddr Try.underlying22 ti26 rfl (ht rfl) (ht rfl) q_e5)⟩,
              ⟨⟨[⟨91, _, some 3⟩], _, rfl, ⟨rfl, trivial⟩, rfl, rfl, OpG.plain rfl (ok_load ti26 rfl rfl (ht rfl))⟩,
              ⟨⟨[⟨3, _, none⟩], _, rfl, ⟨rfl, trivial⟩, rfl, rfl, OpG.plain rfl (ok_move (ht rfl))⟩,
              ⟨⟨[⟨11, _, none⟩], _, rfl, ⟨rfl, trivial⟩, rfl, rfl, OpG.plain rfl (ok_move (ht rfl))⟩,
              ⟨⟨[⟨93, _, some 5⟩, ⟨94, _, some 6⟩], _, rfl, ⟨rfl, rfl, trivial⟩, rfl, rfl, OpG.plain rfl (ok_indexAddr Try.underlying22 ti26 rfl (ht rfl) (ht rfl) (dropI hx))⟩,
              ⟨⟨[⟨95, _, some 7⟩], _, rfl, ⟨rfl, trivial⟩, rfl, rfl, OpG.plain rfl (ok_load ti26 rfl rfl (ht rfl))⟩,
              ⟨⟨[⟨92, _, some 4⟩, ⟨96, _, some 8⟩], _, rfl, ⟨rfl, rfl, trivial⟩, rfl, rfl, OpG.plain rfl (ok_call cb14 (f14_ok _ _ q_r9) ⟨(ht rfl), (ht rfl), trivial⟩)⟩,
              ⟨⟨[⟨97, _, some 9⟩], _, rfl, ⟨rfl, trivial⟩, rfl, rfl, OpG.plain rfl (ok_gtr (ht rfl) hI)⟩,
              trivial⟩⟩⟩⟩⟩⟩⟩⟩⟩⟩⟩ ?_
            refine AT.next ?_
            refine CG.cond (ht rfl) (fun hc => ?_) (fun hc => ?_)
            · have h := ct h hc
              refine CG.seq ?_
              refine CG.region ?_
              refine RG.op (ok_assign hB) rfl ?_
              refine RG.nil ?_
              refine AT.next ?_
              refine CG.ret ?_
              refine AT.in_ret (AT.then_ret (AT.then_ret (AT.in_ret (AT.then_ret ?_))))
              cases so h
              exact AT.ret1 rfl rfl
            · have h := cf h hc
              refine CG.skip ?_
              refine AT.in_normal ?_
              refine AT.next ?_
              refine CG.region ?_
              refine RG.op (ok_move (ht rfl)) rfl ?_
              refine RG.op (ok_incN (dropL hx hN) (ht rfl) hI) rfl ?_
              refine RG.op (ok_assign (ht rfl)) rfl ?_
              refine RG.nil ?_
              exact AT.round (LG.sub (ih (i + 1)  ⟨dropS hx, h⟩) ⟨rfl, rfl, rfl, rfl, trivial⟩)

end Go.Proofs.Ytchjhcgkfglgiaa
