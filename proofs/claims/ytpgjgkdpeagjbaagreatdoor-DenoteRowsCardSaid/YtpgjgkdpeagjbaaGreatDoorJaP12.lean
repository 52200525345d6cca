/- eJ of this claim: P12. -/
import Derived.Test.YtpgjgkdpeagjbaaGreatDoorJaT
import Derived.Test.YtpgjgkdpeagjbaaGreatDoorJaP11
set_option linter.all false
namespace Go.Proofs.YtpgjgkdpeagjbaaGreatDoor
open Go
set_option maxRecDepth 100000

def VZ s{R}(h:gS s=some R):fR aU 104 [cr (eM) s] false eM 50 R:=by
 refine fR.of Tryz.func104 J J J fun w0 S0=>Z<|bQ false eM 50<|T (bp qa)<|bB<|aE<|Q J<|wI uz (Y J) J fun isnil hisnil=>bB<|rJ (Y J) (fun hc=>?_) (fun hc=>?_)
 ·have V:=hisnil hc
  have h:some ([]:List jt)=some R:=by simpa [gS,app,V] using h
  exact Z<|bQ false eM 50<|T (bp qa)<|cK<|af<|so h▸fY J J
 ·exact dZ<|Z<|mo (r:=eM) (ys:=([]:List jt)) (xs:=[]) uz vu J J J J J trivial J fun l c=>Q J<|ci h fun x q_x h=>bW vu J J J J uz J J (Y J) (Y J) q_x fun l1 c1=>aM J<|so h▸fY J J
def VY s{R}(h:gc s=some R):fR aU 105 [cr (cm) s] false cm 42 R:=by
 refine fR.of Tryz.func105 J J J fun w0 S0=>Z<|bQ false cm 42<|T (bp qa)<|bB<|aE<|Q J<|wI vk (Y J) J fun isnil hisnil=>bB<|rJ (Y J) (fun hc=>?_) (fun hc=>?_)
 ·have V:=hisnil hc
  have h:some ([]:List cy)=some R:=by simpa [gc,app,V] using h
  exact Z<|bQ false cm 42<|T (bp qa)<|cK<|af<|so h▸fY J J
 ·exact dZ<|Z<|mo (r:=cm) (ys:=([]:List cy)) (xs:=[]) vk jk J J J J J trivial J fun l c=>Q J<|ci h fun x q_x h=>bW jk J J J J vk J J (Y J) (Y J) q_x fun l1 c1=>aM J<|so h▸fY J J
def ab7 n by1{R}(h:vC n by1=some R):bY aU 54 [tD aW n,bD by1] (tD aW R):=by
 refine co Tryz.func54 J<|Z<|vI (Y J) J fun b=>aQ iE mS J fun b1=>bB ?_;refine fi (aF:=fun n1=>rE by1 n1=some R) (Of:=fun n1=>[bx aW 47 b n1,bx aW 47 b1 Lf]) (Gf:=fun n1=>[(1,bD by1),(2,tV (ba b 0)),(4,tV (ba b1 0))]) (fun n1 h=>?_) (fun h2=>?_)
 ·skip
  refine fi (aF:=fun n2=>pm n2=some R) (Of:=fun n2=>[bx aW 47 b n2,bx aW 47 b1 Lf]) (Gf:=fun n2=>[(2,tV (ba b 0)),(4,tV (ba b1 0))]) (fun n2 h=>?_) (fun K1=>?_)
  ·skip
   refine aA<|ci h fun r q_r h=>ci h fun r1 q_r1 h=>ci h fun r2 q_r2 h=>?_
   refine BN 10 (ts:=[tV (ba b 4),kq n2.Kinds,kq r,tV (ba b 7),kq n2.Keys,kq r1,tV (ba b 10),cr (gU) n2.Order,cr (gU) r2,tV (ba b 4)]) mixed J J J
    ⟨jH 2 J J (tp 4 pU J J J),
    ⟨cT 23 0 J J (bR eQ J J iZ (.head _) (Y J)),
    ⟨cT 24 1 J J (bo Wh (VL _ q_r) ⟨(Y J),O⟩),
    ⟨jH 2 J J (tp 7 pT J J J),
    ⟨cT 26 3 J J (bR eQ J J iY (.head _) (Y J)),
    ⟨cT 27 4 J J (bo Wh (VL _ q_r1) ⟨(Y J),O⟩),
    ⟨jH 2 J J (tp 10 pX J J J),
    ⟨cT 29 6 J J (bR Cy J J kh (.head _) (Y J)),
    ⟨cT 30 7 J J (bo afP (Zu _ q_r2) ⟨(Y J),O⟩),
    ⟨jH 2 J J (tp 4 pU J J J),
    O⟩⟩⟩⟩⟩⟩⟩⟩⟩⟩ ?_
   refine be eQ CD J<|eZ 7 pT J<|be eQ Hj J<|eZ 10 pX J<|be Cy FJ J<|bB<|Z<|eZ 6 rZ J<|eZ 6 la J<|T (bR uD J J (yq kK gj) (.head _) (Y J))<|lI h Ww (OZ _) (bj J) fun r3 h l c=>eZ 6 rZ J<|eZ 6 la J<|gm<|dn 38 J<|bu<|dA uD J (J0 kK CC Bd) J (Y J) (km (Y J))<|bB<|aA<|ci h fun r4 q_r4 h=>?_;refine ci h fun r5 q_r5 h=>?_
   refine lS 7 [tc (tV (ba b 8)),tc (cr (eM) (({(aq.mk n2.Op n2.A n2.B n2.Table r n2.Left n2.Cond r1 n2.Aggs n2.Items r2 n2.Limit)with Cond:=({(aq.mk n2.Op n2.A n2.B n2.Table r n2.Left n2.Cond r1 n2.Aggs n2.Items r2 n2.Limit).Cond with Nodes:=r3}:cy)}:aq).Aggs)),([2],fun s=>tV (bw ((s.getD 0 sF).h 0).1 ((s.getD 0 sF).h 0).2 r4.length)),tc (tV (ba b 9)),tc (cr (cm) (({(aq.mk n2.Op n2.A n2.B n2.Table r n2.Left n2.Cond r1 n2.Aggs n2.Items r2 n2.Limit)with Cond:=({(aq.mk n2.Op n2.A n2.B n2.Table r n2.Left n2.Cond r1 n2.Aggs n2.Items r2 n2.Limit).Cond with Nodes:=r3}:cy)}:aq).Items)),([5],fun s=>tV (bw ((s.getD 0 sF).h 0).1 ((s.getD 0 sF).h 0).2 r5.length)),tc (tV (ba b 8))] [false,false,true,false,false,true,false] [([],fun _=>[bx aW 47 b ({(aq.mk n2.Op n2.A n2.B n2.Table r n2.Left n2.Cond r1 n2.Aggs n2.Items r2 n2.Limit)with Cond:=({(aq.mk n2.Op n2.A n2.B n2.Table r n2.Left n2.Cond r1 n2.Aggs n2.Items r2 n2.Limit).Cond with Nodes:=r3}:cy)}:aq),gO cx 81 l c r3,bx aW 47 b1 Lf]),([2],fun sg=>[ff eM 50 ((sg 2).h 0).1 ((sg 2).h 0).2 r4,bx aW 47 b ({(aq.mk n2.Op n2.A n2.B n2.Table r n2.Left n2.Cond r1 n2.Aggs n2.Items r2 n2.Limit)with Cond:=({(aq.mk n2.Op n2.A n2.B n2.Table r n2.Left n2.Cond r1 n2.Aggs n2.Items r2 n2.Limit).Cond with Nodes:=r3}:cy)}:aq),gO cx 81 l c r3,bx aW 47 b1 Lf]),([2,5],fun sg=>[ff cm 42 ((sg 5).h 0).1 ((sg 5).h 0).2 r5,ff eM 50 ((sg 2).h 0).1 ((sg 2).h 0).2 r4,bx aW 47 b ({(aq.mk n2.Op n2.A n2.B n2.Table r n2.Left n2.Cond r1 n2.Aggs n2.Items r2 n2.Limit)with Cond:=({(aq.mk n2.Op n2.A n2.B n2.Table r n2.Left n2.Cond r1 n2.Aggs n2.Items r2 n2.Limit).Cond with Nodes:=r3}:cy)}:aq),gO cx 81 l c r3,bx aW 47 b1 Lf])] (fun _=>J) mixed J J J J
    ⟨⟨[⟨2,fun _=>tV (ba b 0),none⟩],_,[[]],J,⟨(fun _=>J),O⟩,J,J,J,J,J,⟨fun sg=>ai J (tp 8 oM J J J),O⟩⟩,
    ⟨⟨[⟨41,fun _=>tV (ba b 8),some 0⟩],_,[[]],J,⟨(fun _=>J),O⟩,J,J,J,J,J,⟨fun sg=>ai J (bR zY J J kJ (.head _) (Y J)),O⟩⟩,
    ⟨⟨[⟨42,fun _=>tD (f9 eM) (({(aq.mk n2.Op n2.A n2.B n2.Table r n2.Left n2.Cond r1 n2.Aggs n2.Items r2 n2.Limit)with Cond:=({(aq.mk n2.Op n2.A n2.B n2.Table r n2.Left n2.Cond r1 n2.Aggs n2.Items r2 n2.Limit).Cond with Nodes:=r3}:cy)}:aq).Aggs),some 1⟩],_,[([],[2])],J,⟨(fun _=>J),O⟩,J,J,J,J,J,⟨fun sg=>dS J (KD (xs:=[.tmp 42]) (ts:=[tD (f9 eM) (({(aq.mk n2.Op n2.A n2.B n2.Table r n2.Left n2.Cond r1 n2.Aggs n2.Items r2 n2.Limit)with Cond:=({(aq.mk n2.Op n2.A n2.B n2.Table r n2.Left n2.Cond r1 n2.Aggs n2.Items r2 n2.Limit).Cond with Nodes:=r3}:cy)}:aq).Aggs)]) afO (VZ _ q_r4) ⟨(Y J),O⟩),O⟩⟩,
    ⟨⟨[⟨2,fun _=>tV (ba b 0),none⟩],_,[[],[2]],J,⟨(fun _=>J),O⟩,J,J,J,J,J,⟨fun sg=>ai J (tp 9 pS J J J),fun sg=>ai J (tp 9 pS J J J),O⟩⟩,
    ⟨⟨[⟨44,fun _=>tV (ba b 9),some 3⟩],_,[[],[2]],J,⟨(fun _=>J),O⟩,J,J,J,J,J,⟨fun sg=>ai J (bR zX J J kI (.head _) (Y J)),fun sg=>ai J (bR zX J J kI (.tail _ (.head _)) (Y J)),O⟩⟩,
    ⟨⟨[⟨45,fun _=>tD (f9 cm) (({(aq.mk n2.Op n2.A n2.B n2.Table r n2.Left n2.Cond r1 n2.Aggs n2.Items r2 n2.Limit)with Cond:=({(aq.mk n2.Op n2.A n2.B n2.Table r n2.Left n2.Cond r1 n2.Aggs n2.Items r2 n2.Limit).Cond with Nodes:=r3}:cy)}:aq).Items),some 4⟩],_,[([2],[2,5])],J,⟨(fun _=>J),O⟩,J,J,J,J,J,⟨fun sg=>dS J (KD (xs:=[.tmp 45]) (ts:=[tD (f9 cm) (({(aq.mk n2.Op n2.A n2.B n2.Table r n2.Left n2.Cond r1 n2.Aggs n2.Items r2 n2.Limit)with Cond:=({(aq.mk n2.Op n2.A n2.B n2.Table r n2.Left n2.Cond r1 n2.Aggs n2.Items r2 n2.Limit).Cond with Nodes:=r3}:cy)}:aq).Items)]) afN (VY _ q_r5) ⟨(Y J),O⟩),O⟩⟩,
    ⟨⟨[⟨2,fun _=>tV (ba b 0),none⟩],_,[[2],[2,5]],J,⟨(fun _=>J),O⟩,J,J,J,J,J,⟨fun sg=>ai J (tp 8 oM J J J),fun sg=>ai J (tp 8 oM J J J),O⟩⟩,
    O⟩⟩⟩⟩⟩⟩⟩ (fun sg=>?_)
   refine(show RG _ _ _ _ [_,_,_,_,_] _ from ?_);refine gk<|zz zY J (CB _ _) J (Y J) (Uz (Y J))<|eZ 9 pS J<|zz zX J (yS _ _ _) J (Y J) (Uz (Y J))<|bB<|aE<|eZ 8 oM J<|T (tS zY wA (.head _) J (Y J))<|T (fO uz (.tail _ (.tail _ (.head _))) (Y J))<|T (cv hI)<|bB<|am<|o7 (.tail _ (.tail _ (.head _))) fun hN=>bA<|om<|mI<|fh<|mR<|mR<|om ?_;refine aD (yB (aF:=fun ls i n3 l1 c1 l2 c2=>(r4.drop i=ls)/\pj ls i n3=some R) (Of:=fun _ i n3 l1 c1 l2 c2=>[bx aW 47 b1 Lf,bx mV 47 b (qK n3 (bw l1 c1 n3.Aggs.length) (bw l2 c2 n3.Items.length)),ff eM 50 l1 c1 n3.Aggs,ff cm 42 l2 c2 n3.Items]) (Gf:=fun _ i n3 l1 c1 l2 c2=>[(2,tV (ba b 0)),(4,tV (ba b1 0)),(51,kP r4),(52,bD (i:Int))]) (fun i n3 l1 c1 l2 c2 h=>?_) (fun e tl ih i n3 l1 c1 l2 c2 h=>?_) r4 0 ({({({(aq.mk n2.Op n2.A n2.B n2.Table r n2.Left n2.Cond r1 n2.Aggs n2.Items r2 n2.Limit)with Cond:=({(aq.mk n2.Op n2.A n2.B n2.Table r n2.Left n2.Cond r1 n2.Aggs n2.Items r2 n2.Limit).Cond with Nodes:=r3}:cy)}:aq)with Aggs:=r4}:aq)with Items:=r5}:aq) ((sg 2).h 0).1 ((sg 2).h 0).2 ((sg 5).h 0).1 ((sg 5).h 0).2 ⟨J,h⟩) (bf J)
   ·obtain⟨V,h⟩:=h
    refine eY V J<|ap<|aE<|eZ 9 pS J<|T (tS zX wz (.tail _ (.head _)) J (Y J))<|T (fO vk (.tail _ (.tail _ (.tail _ (.head _)))) (Y J))<|T (cv hI)<|bB<|am<|o7 (.tail _ (.tail _ (.tail _ (.head _)))) fun hN1=>?_;refine bA ?_;refine aD (yB (aF:=fun ls1 i1 n4 l3 c3 l4 c4=>(n3.Items.drop i1=ls1)/\pi ls1 i1 n4=some R) (Of:=fun _ i1 n4 l3 c3 l4 c4=>[bx aW 47 b1 Lf,bx mV 47 b (qK n4 (bw l3 c3 n4.Aggs.length) (bw l4 c4 n4.Items.length)),ff eM 50 l3 c3 n4.Aggs,ff cm 42 l4 c4 n4.Items]) (Gf:=fun _ i1 n4 l3 c3 l4 c4=>[(2,tV (ba b 0)),(4,tV (ba b1 0)),(72,kP n3.Items),(73,bD (i1:Int))]) (fun i1 n4 l3 c3 l4 c4 h=>?_) (fun e1 tl1 ih1 i1 n4 l3 c3 l4 c4 h=>?_) n3.Items 0 n3 l1 c1 l2 c2 ⟨J,h⟩) (bf J)
    ·obtain⟨hx1,h⟩:=h
     refine eY hx1 J<|ap<|Z<|gk<|gm<|oj<|gm<|T (CR (q:=aW) (y:=n4) iE J J J J (.tail _ (.tail _ (.tail _ (.head _)))) (fun _ _ _ ho h=>Ek (Gv ho (.tail _ (.head _))) (Gv ho (.head _)) h) (Y J))<|gk<|be iE ah J<|aV 4 J<|aY ?_;exact ap<|fD<|aG<|aG<|aG<|so h▸fT J iE J J J
    ·obtain⟨hx1,h⟩:=h
     refine eX hx1 J<|aA<|am<|ax J<|aC J<|ci h fun e2 q_e2 h=>ci h fun r6 q_r6 h=>?_
     refine BN 12 (ts:=[tV (ba b 9),my l4 c4 n4.Items,bD (i1:Int),tV (ba b 9),my l4 c4 n4.Items,bD (i1:Int),tV (sa l4 ((i1:Int).toNat*1+0)),tV (sa l4 ((i1:Int).toNat*1+0)),cr (cx) e2.Nodes,cr (cx) r6,tV (sa l4 ((i1:Int).toNat*1+0)),tV (sa l4 ((i1:Int).toNat*1+0))]) mixed J J J
      ⟨jH 2 J J (tp 9 pS J J J),
      ⟨cT 76 0 J J (tS zX wz (.tail _ (.head _)) J (Y J)),
      ⟨dc J J,
      ⟨jH 2 J J (tp 9 pS J J J),
      ⟨cT 79 3 J J (tS zX wz (.tail _ (.head _)) J (Y J)),
      ⟨dc J J,
      ⟨cM 80 4 81 5 J J J (cn vk jk (.tail _ (.tail _ (.tail _ (.head _)))) (Y J) (Y J) q_e2),
      ⟨cT 82 6 J J (pH (o:=(i1:Int).toNat*1+0) (n:=(i1:Int).toNat*1+0) la J (.tail _ (.tail _ (.tail _ (.head _)))) q_e2 (Y J) J),
      ⟨cT 83 7 J J (eE (r:=cm) (i:=(i1:Int)) (foff:=0) uD J J gj J (.tail _ (.tail _ (.tail _ (.head _)))) q_e2 (Y J)),
      ⟨cT 84 8 J J (bo Ww (SD _ q_r6) ⟨(Y J),O⟩),
      ⟨cM 77 1 78 2 J J J (cn vk jk (.tail _ (.tail _ (.tail _ (.head _)))) (Y J) (Y J) q_e2),
      ⟨cT 86 10 J J (pH (o:=(i1:Int).toNat*1+0) (n:=(i1:Int).toNat*1+0) la J (.tail _ (.tail _ (.tail _ (.head _)))) q_e2 (Y J) J),
      O⟩⟩⟩⟩⟩⟩⟩⟩⟩⟩⟩⟩ ?_
     refine oj<|ci h fun st q_st h=>sD uD J Bd J q_e2 (so q_st) (Y J) (Y J)<|g9 (li (so q_st)) 77 J<|g9 (li (so q_st)) 80 J<|IU (O' :=[ff cm 42 l4 c4 st,bx aW 47 b1 Lf,bx mV 47 b (qK n4 (bw l3 c3 n4.Aggs.length) (bw l4 c4 st.length)),ff eM 50 l3 c3 n4.Aggs]) (by rw [li (so q_st)])<|aY<|dR hx1 hN1 J<|db<|db<|db ?_;exact aR (aD (ih1 (i1+1) ({n4 with Items:=st}:aq) l3 c3 l4 c4 ⟨cH hx1,h⟩) (bf J))
   ·obtain⟨V,h⟩:=h
    refine eX V J<|aA<|am<|ax J<|aC J<|ci h fun e3 q_e3 h=>ci h fun r7 q_r7 h=>?_
    refine BN 14 (ts:=[tV (ba b 8),my l1 c1 n3.Aggs,bD (i:Int),tV (ba b 8),my l1 c1 n3.Aggs,bD (i:Int),tV (sa l1 ((i:Int).toNat*2+0)),tV (sa l1 ((i:Int).toNat*2+1)),tV (sa l1 ((i:Int).toNat*2+1)),cr (cx) e3.Arg.Nodes,cr (cx) r7,tV (sa l1 ((i:Int).toNat*2+0)),tV (sa l1 ((i:Int).toNat*2+1)),tV (sa l1 ((i:Int).toNat*2+1))]) mixed J J J
     ⟨jH 2 J J (tp 8 oM J J J),
     ⟨cT 55 0 J J (tS zY wA (.tail _ (.head _)) J (Y J)),
     ⟨dc J J,
     ⟨jH 2 J J (tp 8 oM J J J),
     ⟨cT 58 3 J J (tS zY wA (.tail _ (.head _)) J (Y J)),
     ⟨dc J J,
     ⟨cM 59 4 60 5 J J J (cn uz vu (.tail _ (.tail _ (.head _))) (Y J) (Y J) q_e3),
     ⟨cT 61 6 J J (pH (o:=(i:Int).toNat*2+0) (n:=(i:Int).toNat*2+1) xH J (.tail _ (.tail _ (.head _))) q_e3 (Y J) J),
     ⟨cT 62 7 J J (pH (o:=(i:Int).toNat*2+1) (n:=(i:Int).toNat*2+1) la J (.tail _ (.tail _ (.head _))) q_e3 (Y J) J),
     ⟨cT 63 8 J J (eE (r:=eM) (i:=(i:Int)) (foff:=1) uD J J (yq ro gj) J (.tail _ (.tail _ (.head _))) q_e3 (Y J)),
     ⟨cT 64 9 J J (bo Ww (SD _ q_r7) ⟨(Y J),O⟩),
     ⟨cM 56 1 57 2 J J J (cn uz vu (.tail _ (.tail _ (.head _))) (Y J) (Y J) q_e3),
     ⟨cT 66 11 J J (pH (o:=(i:Int).toNat*2+0) (n:=(i:Int).toNat*2+1) xH J (.tail _ (.tail _ (.head _))) q_e3 (Y J) J),
     ⟨cT 67 12 J J (pH (o:=(i:Int).toNat*2+1) (n:=(i:Int).toNat*2+1) la J (.tail _ (.tail _ (.head _))) q_e3 (Y J) J),
     O⟩⟩⟩⟩⟩⟩⟩⟩⟩⟩⟩⟩⟩⟩ ?_
    refine gk<|ci h fun st1 q_st1 h=>sD uD J (J0 ro NM Bd) J q_e3 (so q_st1) (Y J) (Y J)<|g9 (li (so q_st1)) 56 J<|g9 (li (so q_st1)) 59 J<|IU (O' :=[ff eM 50 l1 c1 st1,bx aW 47 b1 Lf,bx mV 47 b (qK n3 (bw l1 c1 st1.length) (bw l2 c2 n3.Items.length)),ff cm 42 l2 c2 n3.Items]) (by rw [li (so q_st1)])<|aY<|dR V hN J<|db<|bK<|db<|db ?_;exact aR (aD (ih (i+1) ({n3 with Aggs:=st1}:aq) l1 c1 l2 c2 ⟨cH V,h⟩) (bf J))
  ·skip
   refine Z<|eZ 2 mL J<|T (bR cj J J fW (.head _) (Y J))<|T (eF (Y J) hI)<|bE h J (fun h=>?_) (fun h=>?_)
   ·refine au<|eZ 2 mL J<|T (bR cj J J fW (.head _) (Y J))<|Q J<|T (eG (Y J) (Y J))<|eZ 2 mL J<|be cj CE J<|aY ?_;exact ce (K1 (aq.mk n1.Op n1.A (IntKind.i64.wrap (n1.B+by1)) n1.Table n1.Kinds n1.Left n1.Cond n1.Keys n1.Aggs n1.Items n1.Order n1.Limit) h) (bf J)
   ·refine bc ?_;exact ce (K1 n1 h) (bf J)
 ·skip
  refine Z<|eZ 1 iO J<|T (bR cj J J de (.tail _ (.head _)) (Y J))<|T (eF (Y J) hI)<|bE h J (fun h=>?_) (fun h=>?_)
  ·refine au<|eZ 1 iO J<|T (bR cj J J de (.tail _ (.head _)) (Y J))<|Q J<|T (eG (Y J) (Y J))<|eZ 1 iO J<|bu<|be cj Hk J<|aY ?_;exact ce (h2 (aq.mk n.Op (IntKind.i64.wrap (n.A+by1)) n.B n.Table n.Kinds n.Left n.Cond n.Keys n.Aggs n.Items n.Order n.Limit) h) (bf J)
  ·refine bc<|bK ?_;exact ce (h2 n h) (bf J)

def ack l place{R}(h:wv l place=some R):bY aU 31 [tD cX l,bD place] (tT [tD cX R.1,bD R.2]):=by
 refine co Tryz.func31 J<|Z<|bO J<|aQ ny v7 J fun b=>bh<|bB<|Z<|bn ny J<|bS h acU (QM _) (bj J) fun r h=>Q J<|bv J J<|bv J J<|bv J J<|dC J<|dC J<|aC J<|aA<|am ?_;refine ax J<|T (dY (Y J))<|aC J<|gp h J (fun h=>?_) (fun h=>?_)
 ·exact Z<|T (bM ny abJ v7 J)<|be ny ah J<|cd<|bT<|aB 4 J<|so h▸bq J J ⟨aT ny J J J,aN J,O⟩
 ·refine ax J<|T (du (Y J) hI)<|Q J<|aO J (cG J)<|aO J (cZ mM gi J J)<|aO J (cN wR J J)<|aO J (jJ tm J)<|aO J (fun H=>eF (bG J H) (bG J H))<|fj J<|aC J<|gp h J (fun h=>?_) (fun h=>?_)
  ·exact Z<|T (bM ny abJ v7 J)<|be ny ah J<|cd<|bT<|aB 4 J<|so h▸bq J J ⟨aT ny J J J,aN J,O⟩
  ·refine bc<|ay<|ap<|Z<|bQ true aW 47<|aQ (r:=rP) (x:=tW (⟨[]⟩:cC) (bw none 0 (([]:List aq).length))) ny PG J fun b1=>bB<|aE<|Q J<|T (LO (Y J))<|bg uv D2 eQ J<|Q J<|ci h fun e q_e h=>cW fz cj J q_e<|aC J<|am ?_;refine bA<|fh<|fh<|mR ?_;refine aD (zA (aF:=fun n i out l1 c=>pI l place e n i out=some R) (Of:=fun i out l1 c=>[bx cX 24 b (⟨[]⟩:cC),bx rP 24 b1 (tW out (bw l1 c out.Nodes.length)),gO aW 47 l1 c out.Nodes]) (Gf:=fun i out l1 c=>[(1,bD place),(2,bF cX l),(4,tV (ba b 0)),(6,bF cg r.1),(9,tV (ba b1 0)),(10,bD i)]) (fun i out l1 c h=>nn h) (fun n ih i out l1 c h=>?_) fm e ({(⟨[]⟩:cC)with Nodes:=([]:List aq)}:cC) none 0 h) (bf J);refine cU<|aE<|Q J<|Q J<|T (jm (Y J) (Y J))<|bE h J (fun h=>?_) (fun h=>?_)
   ·refine dZ<|aA<|am<|ci h fun e1 q_e1 h=>ci h fun r1 q_r1 h=>?_
    refine BN 17 (ts:=[tV (ba b1 0),tO aW l1 c out.Nodes,bF (f9 aW) l.Nodes,cr (aW) l.Nodes,bD i,bF aW e1,tD aW e1,bF cg r.1,bF cg r.1,bF sH r.1.first,kq r.1.first,bD place,bF cI e,bD e,bD (IntKind.i64.wrap (0-e)),tD aW r1,cr (aW) ([r1])]) mixed J J J
     ⟨jH 9 J J (tp 0 mM J J J),
     ⟨cT 44 0 J J (Kk wR Mi (.tail _ (.head _)) (.tail _ (.tail _ (.head _))) J (Y J)),
     ⟨jH 2 J J (ic mM gi J J),
     ⟨dh 2 wR J J,
     ⟨dc J J,
     ⟨cM 47 3 48 4 J J J (zW tm iE J J J q_e1),
     ⟨dh 5 iE J J,
     ⟨dc J J,
     ⟨cT 51 7 J J (LO (Y J)),
     ⟨cT 52 8 J J (ic uv D2 J J),
     ⟨dh 9 eQ J J,
     ⟨dc J J,
     ⟨cM 54 10 55 11 J J J (zW fz cj J J J q_e),
     ⟨dh 12 cj J J,
     ⟨cT 57 13 J J (LQ (Y J)),
     ⟨cM 50 6 58 14 J J J (bo agI (ab7 _ _ q_r1) ⟨(Y J),(Y J),O⟩),
     ⟨cT 59 15 J J (aI (r:=aW) (ys:=[r1]) (xs:=[.tmp 59]) tm iE J J J J J ⟨(Y J),O⟩),
     O⟩⟩⟩⟩⟩⟩⟩⟩⟩⟩⟩⟩⟩⟩⟩⟩⟩ ?_
    refine gk<|ci h fun l2 q_l2 h=>IW iE J J J J tm J J (Y J) (Y J) q_l2 fun l3 c1=>eZ 0 mM J<|gk<|zz wR J (Aq _ _ _) J (Y J) (Uz (Nw (Y J)))<|aY<|ay<|ap<|au<|Q J<|T (eG (Y J) hI)<|dC J<|aY<|bK<|bK<|aP ?_;exact aR (aD (ih (IntKind.i64.wrap (i+(1:Int))) ({out with Nodes:=l2}:cC) l3 c1 h) (bf J))
   ·exact d7<|aH<|aH<|cF<|ap<|Z<|gk<|T (CR (q:=cX) (y:=out) ny J J J J (.tail _ (.tail _ (.head _))) (fun _ _ _ ho h=>Gm (Gv ho (.head _)) h) (Y J))<|bu<|be ny ah J<|cd<|aB 4 J<|aG<|aG<|so h▸bq J J ⟨aT ny J J J,aN J,O⟩

def acj l{R}(h:uO l=some R):bY aU 32 [tD cX l] (tT [kq R.1,bD R.2]):=by
 refine co Tryz.func32 J<|Z<|bO J<|dO cI<|bh<|bB<|Z<|bn ny J<|bS h acU (QM _) (bj J) fun r h=>Q J<|bv J J<|bv J J<|bv J J<|dC J<|dC J<|aC J<|aA<|aA ?_;refine au<|Q J<|T (dY (Y J))<|bE h J (fun h=>?_) (fun h=>?_)
 ·exact Z<|dO cI<|cd<|af<|so h▸bH J J J
 ·exact dZ<|ax J<|T (LO (Y J))<|bg oP Mj we J<|Q J<|ci h fun e q_e h=>cW xP eQ J q_e<|lI h Wh (Mq _) (bj J) fun r1 h l1 c=>dC J<|cd<|dU<|bN 2 J<|bN 22 J<|dQ 2 J<|aG<|so h▸bH J J J

def aak l b{R}(h:mn l b=some R):bY aU 8 [tD cX l,tD fX b] (tT [cr (cu) R.1,bD R.2]):=by
 refine co Tryz.func8 J<|Z<|bO J<|bO J<|dO (cu)<|bh<|bB<|aE<|bn ny J<|bS h aeM (VQ _) (bj J) fun r h=>Q J<|bv J J<|bv J J<|dC J<|aC J<|Z ?_;refine Q J<|eN J<|bE h J (fun h=>?_) (fun h=>?_)
 ·exact ax J<|dO (cu)<|aM J<|af<|so h▸bH J J J
 ·refine dZ<|aE<|bn ny J<|bn xz J<|bS h cb9 (aaj _ _) (bj J) fun r1 h=>T (dY (Y J))<|bE h J (fun h=>?_) (fun h=>?_)
  ·exact Z<|dO (cu)<|cd<|af<|so h▸bH J J J
  ·refine dZ<|Z<|bn xz J<|T (bM (r:=rH hX [(1,.slice none 0 0),(2,.slice none 0 0)]) (y:=(⟨b,[],[]⟩:fy)) afZ af6 (zH aaZ ⟨J,J,O⟩) (⟨_,_,_,_,_,J,aaa UZ J J,J,(Y J),J⟩))<|vI (Y J) J fun b1=>bQ true ei 32<|bQ true cI 3 ?_;refine(show RG _ _ _ _ [_,_,_] _ from ?_);refine aC J<|Z<|C2 (ED (fun y:(fy->aq->Option (((List (List ac))×Int)×fy))=>gq aU uB (lM b1) u7 y)) tE J fun b2=>Q J ?_
   refine ru ((show cz _ _ _ _ (gq aU uB (lM b1) u7 aa6)from lK ag6 (Y J) (fun c x R h i=>by
     obtain⟨r,I,rfl⟩:=yK.1 h
     exact j8 (Ob:=fun j=>lM b1 c j) (i:=i) (adX _ i c _ I)))) J ?_
   refine gw (γ:=(fun y:(fy->aq->Option (((List (List ac))×Int)×fy))=>gq aU uB (lM b1) u7 y)) (y:=aa6) Dl (fH mK) (Y J) (p9 hI) (Y J) fun os=>Q J ?_
   refine ru ((show cz _ _ _ _ (gq aU uB (lM b1) u7 aa5)from lK ag5 (Y J) (fun c x R h i=>by
     obtain⟨r,I,rfl⟩:=yK.1 h
     exact j8 (Ob:=fun j=>lM b1 c j) (i:=i) (adW _ i c _ I)))) J ?_
   refine gw (γ:=(fun y:(fy->aq->Option (((List (List ac))×Int)×fy))=>gq aU uB (lM b1) u7 y)) (y:=aa5) Dl (fH mK) (Y J) (p9 hI) (Y J) fun os1=>Q J ?_
   refine ru ((show cz _ _ _ _ (gq aU uB (lM b1) u7 aba)from lK ag4 (Y J) (fun c x R h i=>by
     obtain⟨r,I,rfl⟩:=yK.1 h
     exact j8 (Ob:=fun j=>lM b1 c j) (i:=i) (adV _ i c _ I)))) J ?_
   refine gw (γ:=(fun y:(fy->aq->Option (((List (List ac))×Int)×fy))=>gq aU uB (lM b1) u7 y)) (y:=aba) Dl (fH mK) (Y J) (p9 hI) (Y J) fun os2=>Q J ?_
   refine ru ((show cz _ _ _ _ (gq aU uB (lM b1) u7 aa7)from lK ag3 (Y J) (fun c x R h i=>by
     obtain⟨r,I,rfl⟩:=yK.1 h
     exact j8 (Ob:=fun j=>lM b1 c j) (i:=i) (adU _ i c _ I)))) J ?_
   refine gw (γ:=(fun y:(fy->aq->Option (((List (List ac))×Int)×fy))=>gq aU uB (lM b1) u7 y)) (y:=aa7) Dl (fH mK) (Y J) (p9 hI) (Y J) fun os3=>Q J ?_
   refine ru ((show cz _ _ _ _ (gq aU uB (lM b1) u7 abb)from lK ag2 (Y J) (fun c x R h i=>by
     obtain⟨r,I,rfl⟩:=yK.1 h
     exact j8 (Ob:=fun j=>lM b1 c j) (i:=i) (adT _ i c _ I)))) J ?_
   refine gw (γ:=(fun y:(fy->aq->Option (((List (List ac))×Int)×fy))=>gq aU uB (lM b1) u7 y)) (y:=abb) Dl (fH mK) (Y J) (p9 hI) (Y J) fun os4=>Q J ?_
   refine ru ((show cz _ _ _ _ (gq aU uB (lM b1) u7 abc)from lK ag1 (Y J) (fun c x R h i=>by
     obtain⟨r,I,rfl⟩:=yK.1 h
     exact j8 (Ob:=fun j=>lM b1 c j) (i:=i) (adS _ i c _ I)))) J ?_
   refine gw (γ:=(fun y:(fy->aq->Option (((List (List ac))×Int)×fy))=>gq aU uB (lM b1) u7 y)) (y:=abc) Dl (fH mK) (Y J) (p9 hI) (Y J) fun os5=>Q J ?_
   refine ru ((show cz _ _ _ _ (gq aU uB (lM b1) u7 aa9)from lK ag0 (Y J) (fun c x R h i=>by
     obtain⟨r,I,rfl⟩:=yK.1 h
     exact j8 (Ob:=fun j=>lM b1 c j) (i:=i) (adR _ i c _ I)))) J ?_
   refine gw (γ:=(fun y:(fy->aq->Option (((List (List ac))×Int)×fy))=>gq aU uB (lM b1) u7 y)) (y:=aa9) Dl (fH mK) (Y J) (p9 hI) (Y J) fun os6=>Q J ?_
   refine ru ((show cz _ _ _ _ (gq aU uB (lM b1) u7 aa8)from lK agZ (Y J) (fun c x R h i=>by
     obtain⟨r,I,rfl⟩:=yK.1 h
     exact j8 (Ob:=fun j=>lM b1 c j) (i:=i) (adQ _ i c _ I)))) J ?_
   refine gw (γ:=(fun y:(fy->aq->Option (((List (List ac))×Int)×fy))=>gq aU uB (lM b1) u7 y)) (y:=aa8) Dl (fH mK) (Y J) (p9 hI) (Y J) fun os7=>Q J<|aC J<|aE<|bg mM gi wR J<|ck tm J<|T (cv hI)<|bB<|am<|aZ (k:=52) J fun hN=>bA<|fh<|mR<|om<|om ?_;refine aD (yB (aF:=fun ls i ob l1 c l2 c1=>(l.Nodes.drop i=ls)/\iz l ls i ob=some R) (Of:=fun _ i ob l1 c l2 c1=>[tZ (ED (fun y:(fy->aq->Option (((List (List ac))×Int)×fy))=>gq aU uB (lM b1) u7 y)) tE b2 none os7 Z1,bx (rH hX [(1,bw l1 c ob.rows.length),(2,bw l2 c1 ob.width.length)]) 65 b1 ob,gO ei 32 l1 c ob.rows,gO cI 3 l2 c1 ob.width]) (Gf:=fun _ i ob l1 c l2 c1=>[(2,bF cX l),(8,tV (ba b1 0)),(9,tV (tY b2)),(52,cr (aW) l.Nodes),(53,kP l.Nodes),(54,bD (i:Int))]) (fun i ob l1 c l2 c1 h=>?_) (fun e tl ih i ob l1 c l2 c1 h=>?_) l.Nodes 0 (⟨b,[],[]⟩:fy) none 0 none 0 ⟨J,h⟩) (bf J)
   ·obtain⟨V,h⟩:=h
    refine eY V J<|ap<|aA<|ci h fun e1 q_e1 h=>?_
    refine iQ (ts:=[_,_,_,_,_,_,_,_,_,_,_,_,_,_]) mixed J J
     ⟨dc J J,
     ⟨cT 119 0 J J (ee (Y J)),
     ⟨cT 120 1 J J (tp 1 ub J J J),
     ⟨cT 121 2 J J (eD q6 J (.tail _ (.head _)) (.tail _ (.tail _ (.head _))) (Y J)),
     ⟨dc J J,
     ⟨cT 123 4 J J (ee (Y J)),
     ⟨cT 124 5 J J (tp 1 ub J J J),
     ⟨cT 125 6 J J (eD q6 J (.tail _ (.head _)) (.tail _ (.tail _ (.head _))) (Y J)),
     ⟨cT 126 7 J J (kZ lr (km (Y J))),
     ⟨cT 127 8 J J (dX (Y J) hI),
     ⟨cM 122 3 128 9 J J J (bm lr gb J (km (Y J)) (Y J) q_e1),
     ⟨dh 10 gb J J,
     ⟨cT 130 11 J J (sE J),
     ⟨PI J (Z2),
     O⟩⟩⟩⟩⟩⟩⟩⟩⟩⟩⟩⟩⟩⟩ ?_
    exact ap<|fD<|aG<|aG<|aG<|aG<|so h▸bH J J J
   ·obtain⟨V,h⟩:=h
    refine eX V J<|aA<|am<|ax J<|cW tm iE J (cD V)<|aQ iE mS J fun b3=>dC J<|be iE ah J<|aV 11 J<|bB<|aA ?_;refine au<|Q J<|bg oN gJ cj J<|T (Qv (γ:=(fun y:(fy->aq->Option (((List (List ac))×Int)×fy))=>gq aU uB (lM b1) (fun(x:(List (List ac))×Int)=>tT [tD ei x.1,tD cI x.2]) y)) (z:=fun _ _=>none) Dl (fH mK) afV (fun _=>JT) (.head _) (Y J) (p9 (Y J)))<|bn iE J<|ci h fun r2 q_r2 h=>C3 (EffOK.fr3 (EffOK.fr3 (EffOK.fr3 (Ec (args:=uB) (Ob:=lM b1) (res:=u7) (f:=((rm Z1 e.Op).getD (fun _ _=>none))) (x:=ob) (y:=((e):aq)) (R:=r2) (i:=(oiL [(l1,c),(l2,c1)])) (xs:=[.tmp 64]) _ J (Y J) q_r2 ⟨(Y J),O⟩ (fun _=>J))))) J fun i1=>?_;refine(show RG _ _ _ _ [_,_,_,_] ((65,tT [cr (cu) r2.1.1,bD r2.1.2])::_)from ?_);refine Q J<|bv J J<|bv J J<|dC J<|aC J ?_;refine fi (aF:=fun e2=>qy l (iz l tl) i e r2 e2=some R) (Of:=fun e2=>[tZ (ED (fun y:(fy->aq->Option (((List (List ac))×Int)×fy))=>gq aU uB (lM b1) u7 y)) tE b2 none os7 Z1,bx (rH hX [(1,bw (i1.h 0).1 (i1.h 0).2 r2.2.rows.length),(2,bw (i1.h 1).1 (i1.h 1).2 r2.2.width.length)]) 65 b1 r2.2,gO ei 32 (i1.h 0).1 (i1.h 0).2 r2.2.rows,gO cI 3 (i1.h 1).1 (i1.h 1).2 r2.2.width]) (Gf:=fun e2=>[(2,bF cX l),(8,tV (ba b1 0)),(9,tV (tY b2)),(10,bD (i:Int)),(11,bF aW e),(12,cr (cu) r2.1.1),(13,bD e2),(52,cr (aW) l.Nodes),(53,kP l.Nodes),(54,bD (i:Int))]) (fun e2 h=>?_) (fun h2=>?_)
    ·skip
     refine aE<|Q J<|eN J<|bE h J (fun h=>?_) (fun h=>?_)
     ·exact ax J<|dO (cu)<|aM J<|af<|bT<|af<|bT<|aG<|aG<|aG<|aG<|so h▸bH J J J
     ·refine dZ ?_;refine fi (aF:=fun rows=>qx l (iz l tl) i r2 rows=some R) (Of:=fun rows=>[tZ (ED (fun y:(fy->aq->Option (((List (List ac))×Int)×fy))=>gq aU uB (lM b1) u7 y)) tE b2 none os7 Z1,bx (rH hX [(1,bw (i1.h 0).1 (i1.h 0).2 r2.2.rows.length),(2,bw (i1.h 1).1 (i1.h 1).2 r2.2.width.length)]) 65 b1 r2.2,gO ei 32 (i1.h 0).1 (i1.h 0).2 r2.2.rows,gO cI 3 (i1.h 1).1 (i1.h 1).2 r2.2.width]) (Gf:=fun rows=>[(2,bF cX l),(8,tV (ba b1 0)),(9,tV (tY b2)),(10,bD (i:Int)),(12,cr (cu) rows),(52,cr (aW) l.Nodes),(53,kP l.Nodes),(54,bD (i:Int))]) (fun rows h=>?_) (fun K1=>?_)
      ·skip
       refine Z<|bn ny J<|Q J<|bS h agX (ack _ _) (bj J) fun r3 h=>Q J<|bv J J<|bv J J<|aQ ny v7 J fun b4=>be ny ah J<|aV 14 J<|aC J<|Z<|bn ny J<|bS h agW (acj _) (bj J) fun r4 h=>Q J<|bv J J<|bv J J<|dC J ?_;refine aC J<|ci h fun l3 q_l3 h=>ci h fun l4 q_l4 h=>?_
       refine lS 20 [tc (tV (ba b1 0)),tc (tV (ba b1 0)),tc (tV (ba b1 0)),tc (tV (ba b1 0)),tc (tV (ba b1 1)),tc (tO ei (i1.h 0).1 (i1.h 0).2 r2.2.rows),tc (cr (cu) rows),tc (cr (ei) ([rows])),([8],fun s=>tO ei ((s.getD 0 sF).h 0).1 ((s.getD 0 sF).h 0).2 l3),tc (tV (ba b1 0)),tc (tV (ba b1 0)),tc (tV (ba b1 2)),tc (tO cI (i1.h 1).1 (i1.h 1).2 r2.2.width),tc (kq r4.1),tc (kP r4.1),tc (kq ([(r4.1.length:Int)])),([16],fun s=>tO cI ((s.getD 0 sF).h 0).1 ((s.getD 0 sF).h 0).2 l4),tc (tV (ba b1 0)),tc (tV (ba b1 1)),tc (Ap)] [false,false,false,false,false,false,false,false,true,false,false,false,false,false,false,false,true,false,false,true] [([],fun _=>[tZ (ED (fun y:(fy->aq->Option (((List (List ac))×Int)×fy))=>gq aU uB (lM b1) u7 y)) tE b2 none os7 Z1,bx (rH hX [(1,bw (i1.h 0).1 (i1.h 0).2 r2.2.rows.length),(2,bw (i1.h 1).1 (i1.h 1).2 r2.2.width.length)]) 65 b1 r2.2,gO ei 32 (i1.h 0).1 (i1.h 0).2 r2.2.rows,gO cI 3 (i1.h 1).1 (i1.h 1).2 r2.2.width]),([8],fun sg=>[gO ei 32 ((sg 8).h 0).1 ((sg 8).h 0).2 l3,tZ (ED (fun y:(fy->aq->Option (((List (List ac))×Int)×fy))=>gq aU uB (lM b1) u7 y)) tE b2 none os7 Z1,bx (rH hX [(1,bw (i1.h 0).1 (i1.h 0).2 r2.2.rows.length),(2,bw (i1.h 1).1 (i1.h 1).2 r2.2.width.length)]) 65 b1 r2.2,gO cI 3 (i1.h 1).1 (i1.h 1).2 r2.2.width]),([8,16],fun sg=>[gO cI 3 ((sg 16).h 0).1 ((sg 16).h 0).2 l4,gO ei 32 ((sg 8).h 0).1 ((sg 8).h 0).2 l3,tZ (ED (fun y:(fy->aq->Option (((List (List ac))×Int)×fy))=>gq aU uB (lM b1) u7 y)) tE b2 none os7 Z1,bx (rH hX [(1,bw (i1.h 0).1 (i1.h 0).2 r2.2.rows.length),(2,bw (i1.h 1).1 (i1.h 1).2 r2.2.width.length)]) 65 b1 r2.2]),([8,16,19],fun sg=>[bx (rH hX [(1,bw ((sg 8).h 0).1 ((sg 8).h 0).2 l3.length),(2,bw (i1.h 1).1 (i1.h 1).2 r2.2.width.length)]) 65 b1 ({r2.2 with rows:=l3}:fy),gO cI 3 ((sg 16).h 0).1 ((sg 16).h 0).2 l4,gO ei 32 ((sg 8).h 0).1 ((sg 8).h 0).2 l3,tZ (ED (fun y:(fy->aq->Option (((List (List ac))×Int)×fy))=>gq aU uB (lM b1) u7 y)) tE b2 none os7 Z1])] (fun _=>J) mixed J J J J
        ⟨⟨[⟨8,fun _=>tV (ba b1 0),none⟩],_,[[],[8],[8,16]],J,⟨(fun _=>J),O⟩,J,J,J,J,J,⟨fun sg=>ai J (gL J),fun sg=>ai J (gL J),fun sg=>ai J (gL J),O⟩⟩,
        ⟨⟨[⟨8,fun _=>tV (ba b1 0),none⟩],_,[[],[8],[8,16],[8,16,19]],J,⟨(fun _=>J),O⟩,J,J,J,J,J,⟨fun sg=>ai J (gL J),fun sg=>ai J (gL J),fun sg=>ai J (gL J),fun sg=>ai J (gL J),O⟩⟩,
        ⟨⟨[⟨8,fun _=>tV (ba b1 0),none⟩],_,[[]],J,⟨(fun _=>J),O⟩,J,J,J,J,J,⟨fun sg=>ai J (gL J),O⟩⟩,
        ⟨⟨[⟨99,fun _=>tV (ba b1 0),some 2⟩],_,[[]],J,⟨(fun _=>J),O⟩,J,J,J,J,J,⟨fun sg=>ai J (ee (Y J)),O⟩⟩,
        ⟨⟨[⟨100,fun _=>tV (ba b1 0),some 3⟩],_,[[]],J,⟨(fun _=>J),O⟩,J,J,J,J,J,⟨fun sg=>ai J (tp 1 ub J J J),O⟩⟩,
        ⟨⟨[⟨101,fun _=>tV (ba b1 1),some 4⟩],_,[[]],J,⟨(fun _=>J),O⟩,J,J,J,J,J,⟨fun sg=>ai J (eD q6 J (.tail _ (.head _)) (.tail _ (.tail _ (.head _))) (Y J)),O⟩⟩,
        ⟨⟨[⟨12,fun _=>tD ei rows,none⟩],_,[[]],J,⟨(fun _=>J),O⟩,J,J,J,J,J,⟨fun sg=>ai J (gL J),O⟩⟩,
        ⟨⟨[⟨103,fun _=>tD ei rows,some 6⟩],_,[[]],J,⟨(fun _=>J),O⟩,J,J,J,J,J,⟨fun sg=>ai J (aI (r:=ei) (ys:=[rows]) (xs:=[.tmp 103]) lr gb J J J J J ⟨(Y J),O⟩),O⟩⟩,
        ⟨⟨[⟨102,fun _=>tO ei (i1.h 0).1 (i1.h 0).2 r2.2.rows,some 5⟩,⟨104,fun _=>tD (f9 ei) ([rows]),some 7⟩],_,[([],[8])],J,⟨(fun _=>J),(fun _=>J),O⟩,J,J,J,J,J,⟨fun sg=>dS J (EffOK.fr2 (xp gb J J J J lr J (Y J) (Y J) q_l3)),O⟩⟩,
        ⟨⟨[⟨8,fun _=>tV (ba b1 0),none⟩],_,[[],[8]],J,⟨(fun _=>J),O⟩,J,J,J,J,J,⟨fun sg=>ai J (gL J),fun sg=>ai J (gL J),O⟩⟩,
        ⟨⟨[⟨106,fun _=>tV (ba b1 0),some 9⟩],_,[[],[8]],J,⟨(fun _=>J),O⟩,J,J,J,J,J,⟨fun sg=>ai J (ee (Y J)),fun sg=>ai J (ee (Y J)),O⟩⟩,
        ⟨⟨[⟨107,fun _=>tV (ba b1 0),some 10⟩],_,[[],[8]],J,⟨(fun _=>J),O⟩,J,J,J,J,J,⟨fun sg=>ai J (tp 2 Mk J J J),fun sg=>ai J (tp 2 Mk J J J),O⟩⟩,
        ⟨⟨[⟨108,fun _=>tV (ba b1 2),some 11⟩],_,[[],[8]],J,⟨(fun _=>J),O⟩,J,J,J,J,J,⟨fun sg=>ai J (eD eQ J (.tail _ (.head _)) (.tail _ (.tail _ (.tail _ (.head _)))) (Y J)),fun sg=>ai J (eD eQ J (.tail _ (.tail _ (.head _))) (.tail _ (.tail _ (.tail _ (.head _)))) (Y J)),O⟩⟩,
        ⟨⟨[⟨16,fun _=>tD Ak r4.1,none⟩],_,[[],[8]],J,⟨(fun _=>J),O⟩,J,J,J,J,J,⟨fun sg=>ai J (gL J),fun sg=>ai J (gL J),O⟩⟩,
        ⟨⟨[⟨110,fun _=>tD Ak r4.1,some 13⟩],_,[[],[8]],J,⟨(fun _=>J),O⟩,J,J,J,J,J,⟨fun sg=>ai J (UC fz J),fun sg=>ai J (UC fz J),O⟩⟩,
        ⟨⟨[⟨111,fun _=>tD cI (r4.1.length:Int),some 14⟩],_,[[],[8]],J,⟨(fun _=>J),O⟩,J,J,J,J,J,⟨fun sg=>ai J (aI (r:=cI) (ys:=[(r4.1.length:Int)]) (xs:=[.tmp 111]) fz cj J J J J J ⟨(Y J),O⟩),fun sg=>ai J (aI (r:=cI) (ys:=[(r4.1.length:Int)]) (xs:=[.tmp 111]) fz cj J J J J J ⟨(Y J),O⟩),O⟩⟩,
        ⟨⟨[⟨109,fun _=>tO cI (i1.h 1).1 (i1.h 1).2 r2.2.width,some 12⟩,⟨112,fun _=>tD Ak ([(r4.1.length:Int)]),some 15⟩],_,[([8],[8,16])],J,⟨(fun _=>J),(fun _=>J),O⟩,J,J,J,J,J,⟨fun sg=>dS J (EffOK.fr3 (xp cj J J J J fz J (Y J) (Y J) q_l4)),O⟩⟩,
        ⟨⟨[⟨97,fun _=>tV (ba b1 0),some 0⟩],_,[[8,16]],J,⟨(fun _=>J),O⟩,J,J,J,J,J,⟨fun sg=>ai J (ee (Y J)),O⟩⟩,
        ⟨⟨[⟨114,fun _=>tV (ba b1 0),some 17⟩],_,[[8,16]],J,⟨(fun _=>J),O⟩,J,J,J,J,J,⟨fun sg=>ai J (tp 1 ub J J J),O⟩⟩,
        ⟨⟨[⟨115,fun _=>tV (ba b1 1),some 18⟩,⟨105,fun sg=>tO ei ((sg 8).h 0).1 ((sg 8).h 0).2 l3,some 8⟩],_,[([8,16],[8,16,19])],J,⟨(fun _=>J),(fun _=>J),O⟩,J,J,J,J,J,⟨fun sg=>dS J (EffOK.fr3 (zt (hs' :=[(1,bw ((sg 8).h 0).1 ((sg 8).h 0).2 l3.length),(2,bw (i1.h 1).1 (i1.h 1).2 r2.2.width.length)]) (u:=bw ((sg 8).h 0).1 ((sg 8).h 0).2 l3.length) q6 J J UY J ⟨.inl ⟨J,J,J⟩,.inr ⟨J,J⟩,O⟩ (Y J) (km (Y J)) (Nw (Y J)))),O⟩⟩,
        O⟩⟩⟩⟩⟩⟩⟩⟩⟩⟩⟩⟩⟩⟩⟩⟩⟩⟩⟩⟩ (fun sg=>?_)
       refine(show RG _ _ _ _ [_,_,_,_] _ from ?_);refine T (ee (Y J))<|eZ 2 Mk J<|o6 (zt (hs' :=[(1,bw ((sg 8).h 0).1 ((sg 8).h 0).2 l3.length),(2,bw ((sg 16).h 0).1 ((sg 16).h 0).2 l4.length)]) (u:=bw ((sg 16).h 0).1 ((sg 16).h 0).2 l4.length) eQ J J UX J ⟨.inr ⟨J,J⟩,.inl ⟨J,J,J⟩,O⟩ (Y J) (km (Y J)) (Nw (Y J))) fun i2=>?_;refine(show RG _ _ _ _ [_,_,_,_] _ from ?_);refine aY<|dR V hN J<|bK<|aP<|aP<|db ?_;exact aR (aD (ih (i+1) ({({r2.2 with rows:=l3}:fy)with width:=l4}:fy) ((sg 8).h 0).1 ((sg 8).h 0).2 ((sg 16).h 0).1 ((sg 16).h 0).2 ⟨cH V,h⟩) (bf J))
      ·skip
       refine Z<|bg oN gJ cj J<|eN J<|bE h J (fun h=>?_) (fun h=>?_)
       ·refine au<|Q J<|bS h agY (acl _) (bj J) fun r5 h=>Q J<|bv J J<|bv J J<|dC J<|aY ?_;exact ce (K1 r5.1 h) (bf J)
       ·refine bc ?_;exact ce (K1 r2.1.1 h) (bf J)
    ·skip
     refine ax J<|bP J<|Q J<|aw J (cG J)<|aw J (jJ eK J)<|aw J (fun H=>dy (bG J H) hI)<|dv J<|bE h J (fun h=>?_) (fun h=>?_)
     ·refine au<|bh<|aY<|aP<|aP<|aP<|db ?_;exact ce (h2 (3:Int) h) (bf J)
     ·refine bc<|aP<|aP<|aP<|db ?_;exact ce (h2 r2.1.2 h) (bf J)

end Go.Proofs.YtpgjgkdpeagjbaaGreatDoor

