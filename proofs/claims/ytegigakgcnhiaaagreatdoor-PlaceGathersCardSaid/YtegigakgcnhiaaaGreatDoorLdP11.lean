/- Facts of this claim: P11. -/
import Derived.Test.YtegigakgcnhiaaaGreatDoorLdT
import Derived.Test.YtegigakgcnhiaaaGreatDoorLdP10
namespace Go.Proofs.YtegigakgcnhiaaaGreatDoor
open Go

set_option maxRecDepth 100000 in
theorem f36_ok (c : DCatalog) (l : DLayout) {R : DBase} (h : ki c l = some R) : Spec Tryz.prog 36 [tD rpDCatalog c, tD rpDLayout l] (tD rpDBase R) := by
 refine Spec.of Tryz.func36 rfl rfl rfl fun w0 S0 => ?_;refine CG.seq ?_;refine CG.region ?_;refine RG.op (aS (ht rfl)) rfl ?_;refine RG.op (aS (ht rfl)) rfl ?_;refine RG.alloc (r := rpDBase) (x := (⟨[]⟩ : DBase)) cd (fun _ => fH _) rfl (fun b => ?_);refine RG.nil ?_;refine AT.next ?_;refine CG.seq ?_;refine CG.region ?_;refine RG.fresh true (rSl (rSl rpDValue)) 54 ?_;refine RG.alloc (r := rpOBase_0) (x := br (⟨[]⟩ : DBase) (aD none 0 (([] : List (List (List DValue))).length))) cd zrOBase_0 rfl (fun b1 => ?_);refine RG.nil ?_;refine AT.next ?_;refine CG.seq ?_;refine CG.seq ?_;refine CG.region ?_;refine RG.op (aa hI) rfl ?_;refine RG.nil ?_;refine AT.next ?_;refine CG.block ?_;refine CG.loop ?_;refine fh ?_;refine fh ?_;refine LG.front2 ?_;refine LG.sub (LG.ind4 (Z := fun n t out l1 c1 => cO c l n t out = some R) (Of := fun t out l1 c1 => [bx rpDBase 27 b (⟨[]⟩ : DBase), bx rpOBase_0 27 b1 (br out (aD l1 c1 out.Tables.length)), tip (rSl (rSl rpDValue)) 54 l1 c1 out.Tables]) (Gf := fun t out l1 c1 => [(2, aF rpDCatalog c), (3, aF rpDLayout l), (4, tV (aR b 0)), (5, tV (aR b1 0)), (6, tD (rI .i64) t)]) (fun t out l1 c1 h => nn h) (fun n ih t out l1 c1 h => ?_) bp (0 : Int) ({ (⟨[]⟩ : DBase) with Tables := ([] : List (List (List DValue))) } : DBase) none 0 h) ⟨rfl, rfl, rfl, rfl, rfl, trivial⟩;refine aq ?_;refine CG.seq ?_;refine CG.seq ?_;refine CG.region ?_;refine RG.op (ac (ht rfl)) rfl ?_;refine RG.op (aj dl rfl ba rfl (ht rfl)) rfl ?_;refine RG.op (ai iR rfl rfl (ht rfl)) rfl ?_;refine RG.op (au Tryz.underlying22 (ht rfl)) rfl ?_;refine RG.op (ay (ht rfl) (ht rfl)) rfl ?_;refine RG.nil ?_;refine AT.next ?_;refine CG.cond (ht rfl) (fun hc => ?_) (fun hc => ?_)
 ·have h := ct h hc;refine CG.skip ?_;refine AT.next ?_;refine CG.seq ?_;refine CG.block ?_;refine CG.seq ?_;refine CG.region ?_;refine RG.fresh false (rSl rpDValue) 45 ?_;refine RG.op (aa hVn) rfl ?_;refine RG.nil ?_;refine AT.next ?_;refine CG.seq ?_;refine CG.seq ?_;refine CG.region ?_;refine RG.op (aa hI) rfl ?_;refine RG.nil ?_;refine AT.next ?_;refine CG.block ?_;refine CG.loop ?_;refine LG.sub (LG.ind4 (Z := fun n2 rows l2 c2 n1 => ea l (cO c l n) t out n2 rows n1 = some R) (Of := fun rows l2 c2 n1 => [arr (rSl rpDValue) 45 l2 c2 rows, bx rpDBase 27 b (⟨[]⟩ : DBase), bx rpOBase_0 27 b1 (br out (aD l1 c1 out.Tables.length)), tip (rSl (rSl rpDValue)) 54 l1 c1 out.Tables]) (Gf := fun rows l2 c2 n1 => [(2, aF rpDCatalog c), (3, aF rpDLayout l), (4, tV (aR b 0)), (5, tV (aR b1 0)), (6, tD (rI .i64) t), (7, tV (aD l2 c2 rows.length)), (8, tD (rI .i64) n1)]) (fun rows l2 c2 n1 h => nn h) (fun n2 ih1 rows l2 c2 n1 h => ?_) bp ([] : List (List DValue)) none 0 (0 : Int) h) ⟨rfl, rfl, rfl, rfl, rfl, rfl, rfl, trivial⟩;refine aq ?_;refine CG.seq ?_;refine CG.seq ?_;refine CG.region ?_;refine RG.op (ac (ht rfl)) rfl ?_;refine RG.op (aj ck rfl aZ rfl (ht rfl)) rfl ?_;refine RG.op (ai fx rfl rfl (ht rfl)) rfl ?_;refine RG.op (au Tryz.underlying34 (ht rfl)) rfl ?_;refine RG.op (ay (ht rfl) (ht rfl)) rfl ?_;refine RG.nil ?_;refine AT.next ?_;refine CG.cond (ht rfl) (fun hc => ?_) (fun hc => ?_)
  ·have h := ct h hc;refine CG.skip ?_;refine AT.next ?_;refine CG.seq ?_;refine CG.block ?_;refine CG.region ?_;refine RG.op (ac (ht rfl)) rfl ?_;refine RG.op (aj ck rfl aZ rfl (ht rfl)) rfl ?_;refine RG.op (ai fx rfl rfl (ht rfl)) rfl ?_;refine RG.op (ac (ht rfl)) rfl ?_
   obtain ⟨e, q_e, h⟩ := bs h
   refine RG.op (am Tryz.underlying34 cd rfl (ht rfl) (ht rfl) q_e) rfl ?_;refine RG.op (aj ce rfl bt rfl (ht rfl)) rfl ?_;refine RG.op (ai fy rfl rfl (ht rfl)) rfl ?_;refine RG.op (ac (ht rfl)) rfl ?_
   obtain ⟨e1, q_e1, h⟩ := bs h
   refine RG.op (am Tryz.underlying25 cM rfl (ht rfl) (ht rfl) q_e1) rfl ?_;refine RG.op (ai cM rfl rfl (ht rfl)) rfl ?_
   obtain ⟨rows1, q_rows1, h⟩ := bs h
   refine RG.append cr rfl rfl rfl rfl Tryz.underlying54 rfl rfl (ht rfl) (ht rfl) q_rows1 (fun l3 c3 => ?_);refine RG.op (aa (ht rfl)) rfl ?_;refine RG.nil ?_;refine ap ?_;refine AT.next ?_;refine CG.region ?_;refine RG.op (ac (ht rfl)) rfl ?_;refine RG.op (cj (ht rfl) hI) rfl ?_;refine RG.op (aa (ht rfl)) rfl ?_;refine RG.nil ?_;exact AT.round (LG.sub (ih1 rows1 l3 c3 (IntKind.i64.wrap (n1 + (1 : Int))) h) ⟨rfl, rfl, rfl, rfl, rfl, rfl, rfl, trivial⟩)
  ·have h := cf h hc;refine CG.exit ?_;refine ah (ah (av ?_));refine AT.next ?_;refine CG.freeze ?_;refine CG.tipAt 7 rfl ?_
   obtain ⟨r, q_r, h⟩ := bs h
   refine CG.drawM 5 (ts := [tV (aR b1 0), tO (rSl (rSl rpDValue)) l1 c1 out.Tables, tO (rSl rpDValue) l2 c2 rows, tD (rSl (rSl rpDValue)) r, tD (rSl (rSl (rSl rpDValue))) ([r])]) mixed rfl rfl rfl
    ⟨⟨[⟨5, _, none⟩], _, rfl, ⟨rfl, trivial⟩, rfl, rfl, af rfl (bb (n := 0) ce rfl (ht rfl) rfl)⟩,
    ⟨⟨[⟨34, _, some 0⟩], _, rfl, ⟨rfl, trivial⟩, rfl, rfl, af rfl (ok_loadFT fy fT (.tail _ (.tail _ (.head _))) (.tail _ (.tail _ (.tail _ (.head _)))) rfl (ht rfl))⟩,
    ⟨⟨[⟨7, _, none⟩], _, rfl, ⟨rfl, trivial⟩, rfl, rfl, af rfl (ac (ht rfl))⟩,
    ⟨⟨[⟨36, _, some 2⟩], _, rfl, ⟨rfl, trivial⟩, rfl, rfl, af rfl (ax cb64 (f64_ok _ q_r) ⟨(tO_d (ht rfl)), trivial⟩)⟩,
    ⟨⟨[⟨37, _, some 3⟩], _, rfl, ⟨rfl, trivial⟩, rfl, rfl, af rfl (aO (r := (rSl (rSl rpDValue))) (ys := [r]) (xs := [.tmp 37]) Tryz.underlying25 cM rfl rfl rfl rfl rfl ⟨(ht rfl), trivial⟩)⟩,
    trivial⟩⟩⟩⟩⟩ ?_
   refine gP ?_
   obtain ⟨l4, q_l4, h⟩ := bs h
   refine RG.appendT cM rfl rfl rfl rfl Tryz.underlying25 rfl rfl (ht rfl) (ht rfl) q_l4 (fun l5 c4 => ?_);refine RG.op (bb (n := 0) ce rfl (ht rfl) rfl) rfl ?_;refine gP ?_;refine gO fy rfl (sxOBase_0_to_0_at_0 _ _ _) rfl (ht rfl) (hRV (tO_v (ht rfl))) ?_;refine RG.nil ?_;refine ap ?_;refine AT.next ?_;refine CG.region ?_;refine RG.op (ac (ht rfl)) rfl ?_;refine RG.op (cj (ht rfl) hI) rfl ?_;refine RG.op (aa (ht rfl)) rfl ?_;refine RG.nil ?_;refine iN ?_;refine AT.drop ?_;refine bl ?_;refine bl ?_;refine iN ?_;exact AT.round (LG.sub (ih (IntKind.i64.wrap (t + (1 : Int))) ({ out with Tables := l4 } : DBase) l5 c4 h) ⟨rfl, rfl, rfl, rfl, rfl, trivial⟩)
 ·have h := cf h hc;refine CG.exit ?_;refine ah (ah (av ?_));refine AT.next ?_;refine CG.seq ?_;refine CG.region ?_;refine er ?_;refine RG.op (ok_loadObj (q := rpDBase) (y := out) cd rfl rfl rfl rfl (.tail _ (.tail _ (.head _))) (fun _ _ _ ho h => cvOBase_0_to_D (own_tip ho (.head _)) h) (ht rfl)) rfl ?_;refine cL ?_;refine aH cd rfl aB rfl (ht rfl) (ht rfl) ?_;refine RG.settleB 4 rfl ?_;refine RG.nil ?_;refine AT.next ?_;refine CG.ret ?_;refine AT.drop ?_;refine AT.drop ?_;cases so h;exact fG rfl cd rfl rfl rfl

set_option maxRecDepth 100000 in
theorem f7_ok (c : DCatalog) (l : DLayout) (o : DLayout) {R : Bool} (h : dY c l o = some R) : Spec Tryz.prog 7 [tD rpDCatalog c, tD rpDLayout l, tD rpDLayout o] (tD rB R) := by
 refine Spec.of Tryz.func7 rfl rfl rfl fun w0 S0 => ?_;refine CG.seq ?_;refine CG.region ?_;refine RG.op (aS (ht rfl)) rfl ?_;refine RG.op (aS (ht rfl)) rfl ?_;refine RG.op (aS (ht rfl)) rfl ?_;refine RG.op (aa hB) rfl ?_;refine RG.nil ?_;refine AT.next ?_;refine CG.seq ?_;refine CG.seq ?_;refine CG.region ?_
 obtain ⟨r, q_r, h⟩ := bs h
 refine RG.op (ax cb9 (f9_ok  q_r) trivial) rfl ?_;refine RG.op (bq (ht rfl)) rfl ?_;refine RG.nil ?_;refine AT.next ?_;refine CG.cond (ht rfl) (fun hc => ?_) (fun hc => ?_)
 ·have h := ct h hc;refine CG.seq ?_;refine CG.region ?_;refine RG.op (aa hB) rfl ?_;refine RG.nil ?_;refine AT.next ?_;refine CG.ret ?_;refine ae ?_;cases so h;exact ak rfl rfl
 ·have h := cf h hc;refine CG.skip ?_;refine AT.next ?_;refine CG.seq ?_;refine CG.seq ?_;refine CG.region ?_;refine RG.op (ai f9 rfl rfl (ht rfl)) rfl ?_
  obtain ⟨r1, q_r1, h⟩ := bs h
  refine RG.op (ax cb10 (f10_ok _ q_r1) ⟨(ht rfl), trivial⟩) rfl ?_;refine RG.op (ac (ht rfl)) rfl ?_
  obtain ⟨t, q_t, h⟩ := bs h
  refine aE rfl rfl rfl rfl (fun hg => ai cv rfl rfl (ht rfl)) ?_
  obtain ⟨r2, h1t, h0t⟩ := og q_t
  have q_r2g := fun hb => (h1t hb).1
  refine aE rfl rfl rfl rfl (fun hg => ax cb20 (f20_ok _ (q_r2g hg)) ⟨(htO rfl hg), trivial⟩) ?_;refine RG.op (bX (ht rfl) (fun hb => (htO rfl (fV hb))) (fun hb => (h1t hb).2) h0t) rfl ?_;refine RG.op (ac (ht rfl)) rfl ?_
  obtain ⟨t1, q_t1, h⟩ := bs h
  refine aE rfl rfl rfl rfl (fun hg => ai cv rfl rfl (ht rfl)) ?_
  obtain ⟨r3, h1t1, h0t1⟩ := og q_t1
  have q_r3g := fun hb => (h1t1 hb).1
  refine aE rfl rfl rfl rfl (fun hg => ax cb20 (f20_ok _ (q_r3g hg)) ⟨(htO rfl hg), trivial⟩) ?_;refine RG.op (bX (ht rfl) (fun hb => (htO rfl (fV hb))) (fun hb => (h1t1 hb).2) h0t1) rfl ?_;refine RG.nil ?_;refine AT.next ?_;refine CG.cond (ht rfl) (fun hc => ?_) (fun hc => ?_)
  ·have h := ct h hc;refine CG.seq ?_;refine CG.region ?_;refine RG.op (aa hB) rfl ?_;refine RG.nil ?_;refine AT.next ?_;refine CG.ret ?_;refine ae ?_;cases so h;exact ak rfl rfl
  ·have h := cf h hc;refine CG.skip ?_;refine AT.next ?_;refine CG.seq ?_;refine CG.region ?_;refine RG.op (ai f9 rfl rfl (ht rfl)) rfl ?_;refine RG.op (ai cv rfl rfl (ht rfl)) rfl ?_
   obtain ⟨r4, q_r4, h⟩ := bs h
   refine RG.op (ax cb28 (f28_ok _ _ q_r4) ⟨(ht rfl), (ht rfl), trivial⟩) rfl ?_;refine RG.op (aa (ht rfl)) rfl ?_;refine RG.nil ?_;refine AT.next ?_;refine CG.seq ?_;refine CG.region ?_;refine RG.op (ai f9 rfl rfl (ht rfl)) rfl ?_;refine RG.op (ai cv rfl rfl (ht rfl)) rfl ?_
   obtain ⟨r5, q_r5, h⟩ := bs h
   refine RG.op (ax cb31 (f31_ok _ _ q_r5) ⟨(ht rfl), (ht rfl), trivial⟩) rfl ?_;refine RG.op (ac (ht rfl)) rfl ?_;refine RG.op (bE rfl (ht rfl)) rfl ?_;refine RG.op (bE rfl (ht rfl)) rfl ?_;refine RG.op (aa (ht rfl)) rfl ?_;refine RG.op (aa (ht rfl)) rfl ?_;refine RG.nil ?_;refine AT.next ?_;refine CG.seq ?_;refine CG.region ?_;refine RG.op (ai f9 rfl rfl (ht rfl)) rfl ?_;refine RG.op (ai cv rfl rfl (ht rfl)) rfl ?_
   obtain ⟨r6, q_r6, h⟩ := bs h
   refine RG.op (ax cb27 (f27_ok _ _ q_r6) ⟨(ht rfl), (ht rfl), trivial⟩) rfl ?_;refine RG.op (ac (ht rfl)) rfl ?_;refine RG.op (bE rfl (ht rfl)) rfl ?_;refine RG.op (bE rfl (ht rfl)) rfl ?_;refine RG.alloc (r := rpDBase) (x := (⟨[]⟩ : DBase)) cd (fun _ => fH _) rfl (fun b => ?_);refine aH cd rfl aB rfl (ht rfl) (ht rfl) ?_;refine RG.settleB 10 rfl ?_;refine RG.op (aa (ht rfl)) rfl ?_;refine RG.nil ?_;refine AT.next ?_;refine CG.seq ?_;refine CG.seq ?_
   obtain ⟨r7, q_r7, h⟩ := bs h
   obtain ⟨r8, q_r8, h⟩ := bs h
   obtain ⟨t2, q_t2, h⟩ := bs h
   obtain ⟨r9, h1t2, h0t2⟩ := og q_t2
   have q_r9g := fun hb => (h1t2 hb).1
   obtain ⟨t3, q_t3, h⟩ := bs h
   obtain ⟨r10, h1t3, h0t3⟩ := og q_t3
   have q_r10g := fun hb => (h1t3 hb).1
   obtain ⟨t4, q_t4, h⟩ := bs h
   obtain ⟨r11, h1t4, h0t4⟩ := og q_t4
   have q_r11g := fun hb => (h1t4 hb).1
   refine cn (ts := [tD rpDLayout l, tD rpDLayout o, tD rB r7, tD rpDLayout l, tD rpDLayout o, tD rB r8, tD rB (r7 != r8), tD rB (r7 != r8), bj (r7 != r8) (tD rpDLayout l), bj (r7 != r8) (tD rB r9), tD rB t2, tD rB t2, bj t2 (tD rpDLayout o), bj t2 (tD rB r10), tD rB t3, tD rB t3, bj (!t3) (tD rpDLayout l), bj (!t3) (tD rpDLayout l), bj (!t3) (tD rB r11), bj (!t3) (tD rB (!r11)), tD rB t4]) mixed rfl rfl
    ⟨⟨[⟨4, _, none⟩], _, rfl, ⟨rfl, trivial⟩, rfl, rfl, af rfl (ai cv rfl rfl (ht rfl))⟩,
    ⟨⟨[⟨5, _, none⟩], _, rfl, ⟨rfl, trivial⟩, rfl, rfl, af rfl (ai cv rfl rfl (ht rfl))⟩,
    ⟨⟨[⟨40, _, some 0⟩, ⟨41, _, some 1⟩], _, rfl, ⟨rfl, rfl, trivial⟩, rfl, rfl, af rfl (ax cb32 (f32_ok _ _ q_r7) ⟨(ht rfl), (ht rfl), trivial⟩)⟩,
    ⟨⟨[⟨4, _, none⟩], _, rfl, ⟨rfl, trivial⟩, rfl, rfl, af rfl (ai cv rfl rfl (ht rfl))⟩,
    ⟨⟨[⟨5, _, none⟩], _, rfl, ⟨rfl, trivial⟩, rfl, rfl, af rfl (ai cv rfl rfl (ht rfl))⟩,
    ⟨⟨[⟨43, _, some 3⟩, ⟨44, _, some 4⟩], _, rfl, ⟨rfl, rfl, trivial⟩, rfl, rfl, af rfl (ax cb15 (f15_ok _ _ q_r8) ⟨(ht rfl), (ht rfl), trivial⟩)⟩,
    ⟨⟨[⟨42, _, some 2⟩, ⟨45, _, some 5⟩], _, rfl, ⟨rfl, rfl, trivial⟩, rfl, rfl, af rfl (ok_neqB Tryz.underlying4 (ht rfl) (ht rfl))⟩,
    ⟨⟨[⟨46, _, some 6⟩], _, rfl, ⟨rfl, trivial⟩, rfl, rfl, af rfl (ac (ht rfl))⟩,
    ⟨⟨[⟨4, _, none⟩, ⟨47, _, some 7⟩], _, rfl, ⟨rfl, rfl, trivial⟩, rfl, rfl, cX rfl rfl rfl rfl (fun hg => ai cv rfl rfl (ht rfl))⟩,
    ⟨⟨[⟨48, _, some 8⟩, ⟨47, _, some 7⟩], _, rfl, ⟨rfl, rfl, trivial⟩, rfl, rfl, cX rfl rfl rfl rfl (fun hg => ax cb33 (f33_ok _ (q_r9g hg)) ⟨(htO rfl hg), trivial⟩)⟩,
    ⟨⟨[⟨47, _, some 7⟩, ⟨49, _, some 9⟩], _, rfl, ⟨rfl, rfl, trivial⟩, rfl, rfl, af rfl (bw (ht rfl) (fun hb => (htO rfl hb)) (fun hb => (h1t2 hb).2) h0t2)⟩,
    ⟨⟨[⟨50, _, some 10⟩], _, rfl, ⟨rfl, trivial⟩, rfl, rfl, af rfl (ac (ht rfl))⟩,
    ⟨⟨[⟨5, _, none⟩, ⟨51, _, some 11⟩], _, rfl, ⟨rfl, rfl, trivial⟩, rfl, rfl, cX rfl rfl rfl rfl (fun hg => ai cv rfl rfl (ht rfl))⟩,
    ⟨⟨[⟨52, _, some 12⟩, ⟨51, _, some 11⟩], _, rfl, ⟨rfl, rfl, trivial⟩, rfl, rfl, cX rfl rfl rfl rfl (fun hg => ax cb33 (f33_ok _ (q_r10g hg)) ⟨(htO rfl hg), trivial⟩)⟩,
    ⟨⟨[⟨51, _, some 11⟩, ⟨53, _, some 13⟩], _, rfl, ⟨rfl, rfl, trivial⟩, rfl, rfl, af rfl (bw (ht rfl) (fun hb => (htO rfl hb)) (fun hb => (h1t3 hb).2) h0t3)⟩,
    ⟨⟨[⟨54, _, some 14⟩], _, rfl, ⟨rfl, trivial⟩, rfl, rfl, af rfl (ac (ht rfl))⟩,
    ⟨⟨[⟨4, _, none⟩, ⟨55, _, some 15⟩], _, rfl, ⟨rfl, rfl, trivial⟩, rfl, rfl, cA rfl rfl rfl rfl (fun hg => ai cv rfl rfl (ht rfl))⟩,
    ⟨⟨[⟨4, _, none⟩, ⟨55, _, some 15⟩], _, rfl, ⟨rfl, rfl, trivial⟩, rfl, rfl, cA rfl rfl rfl rfl (fun hg => ai cv rfl rfl (ht rfl))⟩,
    ⟨⟨[⟨56, _, some 16⟩, ⟨57, _, some 17⟩, ⟨55, _, some 15⟩], _, rfl, ⟨rfl, rfl, rfl, trivial⟩, rfl, rfl, cA rfl rfl rfl rfl (fun hg => ax cb32 (f32_ok _ _ (q_r11g hg)) ⟨(htO rfl hg), (htO rfl hg), trivial⟩)⟩,
    ⟨⟨[⟨58, _, some 18⟩, ⟨55, _, some 15⟩], _, rfl, ⟨rfl, rfl, trivial⟩, rfl, rfl, cA rfl rfl rfl rfl (fun hg => bq (htO rfl hg))⟩,
    ⟨⟨[⟨55, _, some 15⟩, ⟨59, _, some 19⟩], _, rfl, ⟨rfl, rfl, trivial⟩, rfl, rfl, af rfl (bX (ht rfl) (fun hb => (htO rfl (fV hb))) (fun hb => (h1t4 hb).2) h0t4)⟩,
    trivial⟩⟩⟩⟩⟩⟩⟩⟩⟩⟩⟩⟩⟩⟩⟩⟩⟩⟩⟩⟩⟩ ?_
   refine AT.next ?_;refine CG.cond (ht rfl) (fun hc => ?_) (fun hc => ?_)
   ·have h := ct h hc;refine CG.seq ?_;refine CG.region ?_;refine RG.op (aa hB) rfl ?_;refine RG.nil ?_;refine AT.next ?_;refine CG.ret ?_;refine ae ?_;cases so h;exact ak rfl rfl
   ·have h := cf h hc;refine CG.skip ?_;refine AT.next ?_;refine CG.seq ?_;refine CG.seq ?_;refine CG.region ?_;refine RG.op (ai f9 rfl rfl (ht rfl)) rfl ?_;refine RG.op (ai cv rfl rfl (ht rfl)) rfl ?_
    obtain ⟨r12, q_r12, h⟩ := bs h
    refine RG.op (ax cb24 (f24_ok _ _ q_r12) ⟨(ht rfl), (ht rfl), trivial⟩) rfl ?_;refine RG.op (aa (ht rfl)) rfl ?_;refine RG.nil ?_;refine AT.next ?_;refine CG.seq ?_;refine CG.region ?_;refine RG.op (ac (ht rfl)) rfl ?_;refine RG.op (aW (ht rfl) hI) rfl ?_;refine RG.nil ?_;refine AT.next ?_;refine CG.cond (ht rfl) (fun hc => ?_) (fun hc => ?_)
    ·have h := ct h hc;refine CG.seq ?_;refine CG.region ?_;refine RG.op (ac (ht rfl)) rfl ?_;refine RG.op (ac (ht rfl)) rfl ?_;refine RG.op (a7 (ht rfl) (ht rfl)) rfl ?_;refine RG.op (ac (ht rfl)) rfl ?_;refine aw rfl rfl rfl rfl (fun hg => ac (ht rfl)) ?_;refine aw rfl rfl rfl rfl (fun hg => bq (htO rfl hg)) ?_;refine RG.op (aT (ht rfl) (fun hb => (htO rfl hb))) rfl ?_;refine RG.op (ac (ht rfl)) rfl ?_;refine aw rfl rfl rfl rfl (fun hg => ac (ht rfl)) ?_;refine aw rfl rfl rfl rfl (fun hg => ac (ht rfl)) ?_;refine aw rfl rfl rfl rfl (fun hg => a7 (htO rfl hg) (htO rfl hg)) ?_;refine RG.op (aT (ht rfl) (fun hb => (htO rfl hb))) rfl ?_;refine RG.op (ac (ht rfl)) rfl ?_;refine aw rfl rfl rfl rfl (fun hg => aj ce rfl bt rfl (ht rfl)) ?_;refine aw rfl rfl rfl rfl (fun hg => ai fy rfl rfl (htO rfl hg)) ?_;refine aw rfl rfl rfl rfl (fun hg => au Tryz.underlying25 (htO rfl hg)) ?_;refine aw rfl rfl rfl rfl (fun hg => a7 (htO rfl hg) hI) ?_;refine RG.op (aT (ht rfl) (fun hb => (htO rfl hb))) rfl ?_;refine RG.op (ac (ht rfl)) rfl ?_;refine aw rfl rfl rfl rfl (fun hg => ac (ht rfl)) ?_;refine aw rfl rfl rfl rfl (fun hg => ac (ht rfl)) ?_;refine aw rfl rfl rfl rfl (fun hg => a7 (htO rfl hg) (htO rfl hg)) ?_;refine RG.op (aT (ht rfl) (fun hb => (htO rfl hb))) rfl ?_;refine RG.op (aa (ht rfl)) rfl ?_;refine RG.nil ?_;refine AT.next ?_;refine CG.ret ?_;refine ae ?_;cases so h;exact ak rfl rfl
    ·have h := cf h hc;refine CG.skip ?_;refine AT.next ?_;refine CG.seq ?_;refine CG.seq ?_;refine CG.region ?_;refine RG.op (ai f9 rfl rfl (ht rfl)) rfl ?_;refine RG.op (ai cv rfl rfl (ht rfl)) rfl ?_
     obtain ⟨r13, q_r13, h⟩ := bs h
     refine RG.op (ax cb34 (f34_ok _ _ q_r13) ⟨(ht rfl), (ht rfl), trivial⟩) rfl ?_;refine RG.op (bq (ht rfl)) rfl ?_;refine RG.nil ?_;refine AT.next ?_;refine CG.cond (ht rfl) (fun hc => ?_) (fun hc => ?_)
     ·have h := ct h hc;refine CG.seq ?_;refine CG.region ?_;refine RG.op (ac (ht rfl)) rfl ?_;refine RG.op (a7 (ht rfl) hI) rfl ?_;refine RG.op (ac (ht rfl)) rfl ?_;refine aw rfl rfl rfl rfl (fun hg => ac (ht rfl)) ?_;refine aw rfl rfl rfl rfl (fun hg => bq (htO rfl hg)) ?_;refine RG.op (aT (ht rfl) (fun hb => (htO rfl hb))) rfl ?_;refine RG.op (ac (ht rfl)) rfl ?_;refine aw rfl rfl rfl rfl (fun hg => ac (ht rfl)) ?_;refine aw rfl rfl rfl rfl (fun hg => a7 (htO rfl hg) hI) ?_;refine RG.op (aT (ht rfl) (fun hb => (htO rfl hb))) rfl ?_;refine RG.op (ac (ht rfl)) rfl ?_;refine aw rfl rfl rfl rfl (fun hg => aj ce rfl bt rfl (ht rfl)) ?_;refine aw rfl rfl rfl rfl (fun hg => ai fy rfl rfl (htO rfl hg)) ?_;refine aw rfl rfl rfl rfl (fun hg => au Tryz.underlying25 (htO rfl hg)) ?_;refine aw rfl rfl rfl rfl (fun hg => a7 (htO rfl hg) hI) ?_;refine RG.op (aT (ht rfl) (fun hb => (htO rfl hb))) rfl ?_;refine RG.op (ac (ht rfl)) rfl ?_;refine aw rfl rfl rfl rfl (fun hg => ac (ht rfl)) ?_;refine aw rfl rfl rfl rfl (fun hg => a7 (htO rfl hg) hI) ?_;refine RG.op (aT (ht rfl) (fun hb => (htO rfl hb))) rfl ?_;refine RG.op (aa (ht rfl)) rfl ?_;refine RG.nil ?_;refine AT.next ?_;refine CG.ret ?_;refine ae ?_;cases so h;exact ak rfl rfl
     ·have h := cf h hc;refine CG.skip ?_;refine AT.next ?_;refine CG.seq ?_
      obtain ⟨t5, q_t5, h⟩ := bs h
      obtain ⟨r14, h1t5, h0t5⟩ := og q_t5
      have q_r14g := fun hb => (h1t5 hb).1
      obtain ⟨r15, h1t5⟩ := og2 (fun hb => (h1t5 hb).2)
      have q_r15g := fun hb => (h1t5 hb).1
      refine cn (ts := [tD (rI .i64) r4, tD rB (r4 == (0 : Int)), tD rB (r4 == (0 : Int)), bj (r4 == (0 : Int)) (tD rB r5.1), tD rB ((r4 == (0 : Int)) && r5.1), tD rB ((r4 == (0 : Int)) && r5.1), bj ((r4 == (0 : Int)) && r5.1) (tD (rI .i64) r5.2), bj ((r4 == (0 : Int)) && r5.1) (tD rB (r5.2 == (0 : Int))), tD rB (((r4 == (0 : Int)) && r5.1) && (r5.2 == (0 : Int))), tD rB (((r4 == (0 : Int)) && r5.1) && (r5.2 == (0 : Int))), bj (((r4 == (0 : Int)) && r5.1) && (r5.2 == (0 : Int))) (tD (rI .i64) r6.2), bj (((r4 == (0 : Int)) && r5.1) && (r5.2 == (0 : Int))) (tD rB (r6.2 == (0 : Int))), tD rB ((((r4 == (0 : Int)) && r5.1) && (r5.2 == (0 : Int))) && (r6.2 == (0 : Int))), tD rB ((((r4 == (0 : Int)) && r5.1) && (r5.2 == (0 : Int))) && (r6.2 == (0 : Int))), bj ((((r4 == (0 : Int)) && r5.1) && (r5.2 == (0 : Int))) && (r6.2 == (0 : Int))) (tD rpDBase r6.1), bj ((((r4 == (0 : Int)) && r5.1) && (r5.2 == (0 : Int))) && (r6.2 == (0 : Int))) (tD rpDCatalog c), bj ((((r4 == (0 : Int)) && r5.1) && (r5.2 == (0 : Int))) && (r6.2 == (0 : Int))) (tD rpDLayout l), bj ((((r4 == (0 : Int)) && r5.1) && (r5.2 == (0 : Int))) && (r6.2 == (0 : Int))) (tD rpDBase r14), bj ((((r4 == (0 : Int)) && r5.1) && (r5.2 == (0 : Int))) && (r6.2 == (0 : Int))) (tD rB r15), tD rB t5, tD rB t5]) mixed rfl rfl
       ⟨⟨[⟨7, _, none⟩], _, rfl, ⟨rfl, trivial⟩, rfl, rfl, af rfl (ac (ht rfl))⟩,
       ⟨⟨[⟨113, _, some 0⟩], _, rfl, ⟨rfl, trivial⟩, rfl, rfl, af rfl (a7 (ht rfl) hI)⟩,
       ⟨⟨[⟨114, _, some 1⟩], _, rfl, ⟨rfl, trivial⟩, rfl, rfl, af rfl (ac (ht rfl))⟩,
       ⟨⟨[⟨8, _, none⟩, ⟨115, _, some 2⟩], _, rfl, ⟨rfl, rfl, trivial⟩, rfl, rfl, cX rfl rfl rfl rfl (fun hg => ac (ht rfl))⟩,
       ⟨⟨[⟨115, _, some 2⟩, ⟨116, _, some 3⟩], _, rfl, ⟨rfl, rfl, trivial⟩, rfl, rfl, af rfl (aT (ht rfl) (fun hb => (htO rfl hb)))⟩,
       ⟨⟨[⟨117, _, some 4⟩], _, rfl, ⟨rfl, trivial⟩, rfl, rfl, af rfl (ac (ht rfl))⟩,
       ⟨⟨[⟨9, _, none⟩, ⟨118, _, some 5⟩], _, rfl, ⟨rfl, rfl, trivial⟩, rfl, rfl, cX rfl rfl rfl rfl (fun hg => ac (ht rfl))⟩,
       ⟨⟨[⟨119, _, some 6⟩, ⟨118, _, some 5⟩], _, rfl, ⟨rfl, rfl, trivial⟩, rfl, rfl, cX rfl rfl rfl rfl (fun hg => a7 (htO rfl hg) hI)⟩,
       ⟨⟨[⟨118, _, some 5⟩, ⟨120, _, some 7⟩], _, rfl, ⟨rfl, rfl, trivial⟩, rfl, rfl, af rfl (aT (ht rfl) (fun hb => (htO rfl hb)))⟩,
       ⟨⟨[⟨121, _, some 8⟩], _, rfl, ⟨rfl, trivial⟩, rfl, rfl, af rfl (ac (ht rfl))⟩,
       ⟨⟨[⟨11, _, none⟩, ⟨122, _, some 9⟩], _, rfl, ⟨rfl, rfl, trivial⟩, rfl, rfl, cX rfl rfl rfl rfl (fun hg => ac (ht rfl))⟩,
       ⟨⟨[⟨123, _, some 10⟩, ⟨122, _, some 9⟩], _, rfl, ⟨rfl, rfl, trivial⟩, rfl, rfl, cX rfl rfl rfl rfl (fun hg => a7 (htO rfl hg) hI)⟩,
       ⟨⟨[⟨122, _, some 9⟩, ⟨124, _, some 11⟩], _, rfl, ⟨rfl, rfl, trivial⟩, rfl, rfl, af rfl (aT (ht rfl) (fun hb => (htO rfl hb)))⟩,
       ⟨⟨[⟨125, _, some 12⟩], _, rfl, ⟨rfl, trivial⟩, rfl, rfl, af rfl (ac (ht rfl))⟩,
       ⟨⟨[⟨10, _, none⟩, ⟨126, _, some 13⟩], _, rfl, ⟨rfl, rfl, trivial⟩, rfl, rfl, cX rfl rfl rfl rfl (fun hg => ai cd rfl rfl (ht rfl))⟩,
       ⟨⟨[⟨3, _, none⟩, ⟨126, _, some 13⟩], _, rfl, ⟨rfl, rfl, trivial⟩, rfl, rfl, cX rfl rfl rfl rfl (fun hg => ai f9 rfl rfl (ht rfl))⟩,
       ⟨⟨[⟨4, _, none⟩, ⟨126, _, some 13⟩], _, rfl, ⟨rfl, rfl, trivial⟩, rfl, rfl, cX rfl rfl rfl rfl (fun hg => ai cv rfl rfl (ht rfl))⟩,
       ⟨⟨[⟨128, _, some 15⟩, ⟨129, _, some 16⟩, ⟨126, _, some 13⟩], _, rfl, ⟨rfl, rfl, rfl, trivial⟩, rfl, rfl, cX rfl rfl rfl rfl (fun hg => ax cb36 (f36_ok _ _ (q_r14g hg)) ⟨(htO rfl hg), (htO rfl hg), trivial⟩)⟩,
       ⟨⟨[⟨127, _, some 14⟩, ⟨130, _, some 17⟩, ⟨126, _, some 13⟩], _, rfl, ⟨rfl, rfl, rfl, trivial⟩, rfl, rfl, cX rfl rfl rfl rfl (fun hg => ax cb35 (f35_ok _ _ (q_r15g hg)) ⟨(htO rfl hg), (htO rfl hg), trivial⟩)⟩,
       ⟨⟨[⟨126, _, some 13⟩, ⟨131, _, some 18⟩], _, rfl, ⟨rfl, rfl, trivial⟩, rfl, rfl, af rfl (bw (ht rfl) (fun hb => (htO rfl hb)) (fun hb => (h1t5 hb).2) h0t5)⟩,
       ⟨⟨[⟨132, _, some 19⟩], _, rfl, ⟨rfl, trivial⟩, rfl, rfl, af rfl (aa (ht rfl))⟩,
       trivial⟩⟩⟩⟩⟩⟩⟩⟩⟩⟩⟩⟩⟩⟩⟩⟩⟩⟩⟩⟩⟩ ?_
      refine AT.next ?_;refine CG.ret ?_;cases so h;exact ak rfl rfl

end Go.Proofs.YtegigakgcnhiaaaGreatDoor

