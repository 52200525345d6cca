/- cF of this claim: P1. -/
import Derived.Test.YtmogpgcfognefaaGreatDoorNbT
import Derived.Test.YtmogpgcfognefaaGreatDoorNbP0
set_option linter.all false
namespace Go.Proofs.YtmogpgcfognefaaGreatDoor
open Go
set_option maxRecDepth 100000

theorem AA(e:bk){R:Int}(h:lU e=some R):bg aP 66 [tD bc e] (cd R):=by
 refine bg.of Tryz.func66 J J J fun w0 S0=>aq<|zo J (mp J)<|zo J (fg)<|ap<|ae<|aq<|zo J (bE gj J J)<|bP h fun r q_r h=>zo J (aO Kz (EE _ q_r) ⟨(ht J),be⟩)<|aA J<|zo J (lv J J)<|zo J (lv J J)<|bu J<|bu J<|ap<|aq<|aA J<|zo J (d7 (ht J)) ?_;refine ap<|dQ h J (fun h=>?_) (fun h=>?_)
 ·refine aq<|zo J (fg)<|ap<|am<|aa ?_;cases so h;exact aH J J
 ·refine eK<|aq<|zo J (fg)<|ap<|am ?_;cases so h;exact aH J J

theorem LN(l:Option Nat)(c:Nat)(s:(List Int)){R:(List Int)}(h:gY s=some R):fQ aP 117 [n6 l c s] [cr bU 3 l c s] (fun i:OI=>n6 (i.h 0).1 (i.h 0).2 R) (fun i=>[cr bU 3 (i.h 0).1 (i.h 0).2 R]):=by
 refine fQ.of Tryz.func117 J J J fun w0 S0=>aq<|ci false bU 3<|zo J (aZ q5)<|ap<|ae<|aq<|aA J<|zo J (em dp (.tail _ (.head _)) (ht J))<|zo J (fH (ht J) hI)<|ap<|dQ h J (fun h=>?_) (fun h=>?_)
 ·refine aq<|aA J<|bu J<|ap<|am<|aa<|bw ?_;cases so h;exact cZ J (oi l c) J J (fun _ _ h=>h)
 ·refine eK<|ae<|aq<|zo J (fg)<|ap<|av<|hU (.tail _ (.head _)) fun hN=>bO<|nk ?_;refine aM (eC (Z:=fun ls i=>(s.drop i=ls)∧dF s ls i=some R) (Of:=fun _ i=>[cr bU 3 l c s]) (Gf:=fun _ i=>[(0,n6 l c s),(3,cd (i:Int))]) (fun i h=>?_) (fun e tl ih i h=>?_) (s.drop (1)) 1 ⟨J,h⟩) (bh J)
  ·obtain⟨hx,h⟩:=h
   refine au<|ae<|aq<|aA J<|aA J<|zo J (em dp (.head _) (ht J))<|zo J (fM J J)<|ap<|bt (ht J) (du hx)<|bn ?_;refine ac (ac (aG ?_));refine an<|aq<|aA rfl<|bu rfl<|ap<|am ?_;cases so h;exact cZ J (oi l c) J J (fun _ _ h=>h)
  ·obtain⟨hx,h⟩:=h
   refine au<|ae<|aq<|aA J<|aA J<|zo J (em dp (.head _) (ht J))<|zo J (fM J J)<|ap<|br (ht J) (dn hx)<|eK<|ae<|av<|ae<|bP h fun e1 q_e1 h=>?_
   refine eN (ts:=[_,_,_,_,_,_,_,_,_,_]) mixed J J
    ⟨iD 0 J J J (cN J),
    ⟨iD 3 J J J (cN J),
    ⟨fB 16 0 17 1 J J J J (cz dp bJ (.head _) (ht J) (ht J) (dB hx)),
    ⟨cR 18 2 J J J (dR (r:=bU) (i:=(i:Int)) (foff:=0) bJ J J cV J (.head _) (dB hx) (ht J)),
    ⟨iD 0 J J J (cN J),
    ⟨iD 3 J J J (cN J),
    ⟨cR 21 5 J J J (gy (ht J) hI),
    ⟨fB 20 4 22 6 J J J J (cz dp bJ (.head _) (ht J) (ht J) q_e1),
    ⟨cR 23 7 J J J (dR (r:=bU) (i:=(IntKind.i64.wrap ((i:Int)-(1:Int)))) (foff:=0) bJ J J cV J (.head _) q_e1 (ht J)),
    ⟨fB 19 3 24 8 J J J J (bv (ht J) (ht J)),
    be⟩⟩⟩⟩⟩⟩⟩⟩⟩⟩ ?_
   refine an<|dQ h rfl (fun h=>?_) (fun h=>?_)
   ·refine aq<|aA J<|aA J<|bP h fun y q_y h=>zo J (md dp bJ J (.head _) (ht J) (ht J) q_y)<|mH (.head _) q_y fun hv=>bu J<|ap<|ae<|aq<|zo J (fg)<|ap<|av<|bO ?_;refine aM (EQ (Z:=fun k1 i1 s1 k=>(y.length-i1=k1)∧dg i y k1 i1 s1 k=some R) (Of:=fun _ i1 s1 k=>[cr bU 3 l c s1]) (Gf:=fun _ i1 s1 k=>[(0,n6 l c s1),(3,cd k),(4,tV (kz 1 l c (i:Int).toNat y.length)),(5,cd (i1:Int))]) (fun i1 s1 k h=>?_) (fun k2 ih1 i1 s1 k h=>?_) (y.length-1) 1 s (i:Int) ⟨J,h⟩) (bh J)
    ·obtain⟨hx1,h⟩:=h
     refine au<|ae<|aq<|aA J<|aA J<|zo J (Ee dp hv.1 (ht J))<|zo J (fM J J)<|ap<|bt (ht J) (Lf hx1)<|bn ?_;refine ac (ac (aG ?_));refine an<|aq<|aA rfl<|aA rfl<|bP h fun y1 q_y1 h=>zo J (md dp bJ J (.head _) (ht J) (ht J) q_y1)<|mH (.head _) q_y1 fun hv1=>bP h fun cl q_cl h=>Gb bJ J J dp (fun _=>J) J q_y1 (ht J) (so q_cl)<|iM (zw q_y1 (so q_cl)) 0 J<|iM (zw q_y1 (so q_cl)) 54 J<|ap<|aq<|aA J<|aA J<|bP h fun y2 q_y2 h=>zo J (kP dp bJ J (.head _) (ht J) (ht J) q_y2)<|xQ q_y2<|bu J<|ap ?_;refine am ?_;refine aF (aa (aa (aF (aa ?_))));cases so h;exact cZ J (oi l c) J J (fun _ _ h=>h)
    ·obtain⟨hx1,h⟩:=h
     refine au<|ae<|aq<|aA J<|aA J<|zo J (Ee dp hv.1 (ht J))<|zo J (fM J J)<|ap<|br (ht J) (Le hx1)<|eK<|ae<|av<|ae<|bP h fun e3 q_e3 h=>bP h fun e4 q_e4 h=>?_
     refine eN (ts:=[_,_,_,_,_,_,_,_,_,_]) mixed J J
      ⟨iD 4 J J J (cN J),
      ⟨iD 5 J J J (cN J),
      ⟨fB 35 0 36 1 J J J J (pg dp bJ J (.head _) (uE q_y) (ht J) (ht J) q_e3),
      ⟨cR 37 2 J J J (dR (r:=bU) (i:=((i:Int)+(i1:Int))) (foff:=0) bJ J J cV J (.head _) (rL q_e3).2.2 (ht J)),
      ⟨iD 4 J J J (cN J),
      ⟨iD 5 J J J (cN J),
      ⟨cR 40 5 J J J (gy (ht J) hI),
      ⟨fB 39 4 41 6 J J J J (pg dp bJ J (.head _) (uE q_y) (ht J) (ht J) q_e4),
      ⟨cR 42 7 J J J (dR (r:=bU) (i:=((i:Int)+(IntKind.i64.wrap ((i1:Int)-(1:Int))))) (foff:=0) bJ J J cV J (.head _) (rL q_e4).2.2 (ht J)),
      ⟨fB 38 3 43 8 J J J J (dd (ht J) (ht J)),
      be⟩⟩⟩⟩⟩⟩⟩⟩⟩⟩ ?_
     refine an<|dQ h rfl (fun h=>?_) (fun h=>?_)
     ·refine aq<|aA J<|aA J<|aA J<|aA J<|bP h fun e5 q_e5 h=>zo J (pg dp bJ J (.head _) (uE q_y) (ht J) (ht J) q_e5)<|zo J (dR (r:=bU) (i:=((i:Int)+(i1:Int))) (foff:=0) bJ J J cV J (.head _) (rL q_e5).2.2 (ht J))<|bP h fun e6 q_e6 h=>zo J (cz dp bJ (.head _) (ht J) (ht J) q_e6)<|bP h fun st q_st h=>ku bJ J ax J q_e6 (so q_st) (ht J) (ht J)<|iM (gK (so q_st)) 0 J<|iM (gK (so q_st)) 45 J<|ap<|ak<|aA J<|zo J (nF (ht J) hI)<|bu J<|aK<|al<|an ?_;refine ak<|aA J<|zo J (tE (Ix hx1 (Lg hv.2)) (ht J) hI)<|bu J<|aK ?_;exact aW (aM (ih1 (i1+1) st (IntKind.i64.wrap (k+(1:Int))) ⟨Iw hx1,h⟩) (bh J))
     ·refine bC<|al<|an<|ak<|aA rfl<|zo rfl (tE (Ix hx1 (Lg hv.2)) (ht rfl) hI)<|bu rfl<|aK ?_;exact aW (aM (ih1 (i1+1) s1 k ⟨Iw hx1,h⟩) (bh J))
   ·refine bC<|al<|an<|ak<|aA rfl<|zo rfl (lk (cQ hx hN) rfl)<|bu rfl<|aK ?_;exact aW (aM (ih (i+1) ⟨cP hx,h⟩) (bh J))

theorem IJ(e:bk){R:(List Int)}(h:pD e=some R):fx aP 67 [tD bc e] false bU 3 R:=by
 refine fx.of Tryz.func67 J J J fun w0 S0=>aq<|zo J (mp J)<|ci false bU 3<|zo J (aZ q5)<|ap<|ae<|aq<|zo J (bE gj J J)<|bP h fun r q_r h=>zo J (aO JX (AA _ q_r) ⟨(ht J),be⟩)<|zo J (s3 J)<|ap<|dQ h J (fun h=>?_) (fun h=>?_)
 ·refine aq<|ci false bU 3<|zo J (aZ q5)<|ap<|am<|aa ?_;cases so h;exact gN J J
 ·refine eK<|aq<|ci false bU 3<|zo J (aZ q5)<|ap<|ae<|aq<|zo J (bZ fv c9 J J)<|zo J (bE mo J J)<|zo J (jL jv J)<|zo J (bj hI)<|ap<|av<|aY (k:=10) J fun hN=>bO<|dV<|nk ?_;refine aM (oD (Z:=fun ls i out l c=>(e.Nodes.drop i=ls)∧jY ls out=some R) (Of:=fun _ i out l c=>[cr bU 3 l c out]) (Gf:=fun _ i out l c=>[(3,n6 l c out),(10,fX (aQ) e.Nodes),(11,jt e.Nodes),(12,cd (i:Int))]) (fun i out l c h=>?_) (fun e1 tl ih i out l c h=>?_) e.Nodes 0 mP none 0 ⟨J,h⟩) (bh J)
  ·obtain⟨hx,h⟩:=h
   refine au<|aq<|zo J (fM J J)<|ap<|ae<|bt (ht J) (du hx)<|bn ?_;refine ac (ac (aG ?_));refine an<|aq<|aA rfl<|bP h fun MD q_srt h=>?_;refine HF (n:=out.length) (ys:=MD) yH ?_ On ?_ ?_ ?_ ?_ ?_
   ·rfl
   ·exact q_srt
   ·exact(ht J)
   ·rfl
   ·rfl
   intro hl
   refine Ce hl 3 J<|Ce hl 25 J<|ap<|aq<|aA J<|bP h fun r1 q_r1 h=>Cj [cr bU 3 l c MD] _ J Ol (LN l c _ q_r1) ⟨(ht J),be⟩ J fun i1=>?_;refine(show RG _ _ _ _ [cr bU 3 (i1.h 0).1 (i1.h 0).2 r1] ((28,n6 (i1.h 0).1 (i1.h 0).2 r1)::_)from ?_);refine bu J<|ap<|am ?_;cases so h;exact gN J J
  ·obtain⟨hx,h⟩:=h
   refine au<|aq<|zo J (fM J J)<|ap<|ae<|br (ht J) (dn hx)<|eK<|ae<|av<|aq<|zo J (j8 jv dy J J J (dB hx))<|zo J (bE dy J J)<|aX (r:=aQ) (x:=Cu) dy (fun _=>np _) J fun b=>aC dy J ax J (ht J) (ht J)<|aT 5 J<|ap<|aq<|zo J (bZ js eI J J) ?_;refine zo J (bE bJ J J)<|zo J (j6 J)<|ap<|dQ h J (fun h=>?_) (fun h=>?_)
   ·refine ak<|aA J<|zo J (bZ mC iw J J)<|zo J (bE bJ J J)<|zo J (bF (r:=bU) (ys:=[e1.Col]) (xs:=[.tmp 21]) dp bJ J J J J J ⟨(ht J),be⟩)<|bP h fun out1 q_out1 h=>dj bJ J J J J dp J J (ht J) (ht J) q_out1 fun l2 c2=>bu J<|aK<|al<|an<|ak<|zo rfl (lk (cQ hx hN) rfl)<|aA rfl<|aK ?_;exact aW (aM (ih (i+1) out1 l2 c2 ⟨cP hx,h⟩) (bh J))
   ·refine bC<|al<|an<|ak<|zo rfl (lk (cQ hx hN) rfl)<|aA rfl<|aK ?_;exact aW (aM (ih (i+1) out l c ⟨cP hx,h⟩) (bh J))
theorem wj(s:(List Int)){R:(List Int)}(h:cx s=some R):fx aP 48 [lW s] false bU 3 R:=by
 refine fx.of Tryz.func48 J J J fun w0 S0=>aq<|ci false bU 3<|zo J (aZ q5)<|ap<|ae<|aq<|aA J<|Ci dp (ht J) J fun isnil hisnil=>ap<|nl (ht J) (fun hc=>?_) (fun hc=>?_)
 ·have hx:=hisnil hc
  have h:some mP=some R:=by simpa [cx,nK,hx] using h
  refine aq<|ci false bU 3<|zo J (aZ q5)<|ap<|am<|aa ?_;cases so h;exact gN J J
 ·refine eK<|aq<|fR (r:=bU) (ys:=mP) (xs:=[]) dp bJ J J J J J trivial J fun l c=>aA J<|bP h fun x q_x h=>dj bJ J J J J dp J J (ht J) (ht J) q_x fun l1 c1=>bu J<|ap<|am ?_;cases so h;exact gN J J
theorem Nf{l:Option Nat}{c:Nat}{xs s:List Int}{lo:Int}{R:List Int}(hs:cy xs lo (xs.length:Int)=some s)(h:cx s=some R):fQ aP 48 [tV (kz 1 l c lo.toNat s.length)] [cr bU 3 l c xs] (fun i:OI=>n6 (i.h 0).1 (i.h 0).2 R) (fun i=>[cr bU 3 (i.h 0).1 (i.h 0).2 R,cr bU 3 l c xs]):=by
 refine fQ.of Tryz.func48 J J J fun w0 S0=>aq<|zo J (aZ q5)<|ap<|ae<|aq<|aA J<|Ga (r:=bU) dp (.head _) hs (ht J) J fun isnil hisnil=>ap<|nl (ht J) (fun hc=>?_) (fun hc=>?_)
 ·have hx:=hisnil hc
  have h:some mP=some R:=by simpa [cx,nK,hx] using h
  refine aq<|ci false bU 3<|zo J (aZ q5)<|ap<|am<|aa ?_;cases so h;exact cZ J (oi none 0) J J (fun _ _ h=>h)
 ·refine eK<|aq<|fR (r:=bU) (ys:=mP) (xs:=[]) dp bJ J J J J J trivial J fun l1 c1=>aA J<|bP h fun x q_x h=>DE bJ J J J J dp J J (ht J) (.tail _ (.head _)) hs (ht J) q_x fun l2 c2=>bu J<|ap<|am ?_;cases so h;exact cZ J (oi l2 c2) J J (fun _ _ h=>h)

theorem LL(b:Nat)(l:Option Nat)(c:Nat)(stack:(List Int))(k:Int){R:(List Int)×(List Int)}(h:lG stack k=some R):fQ aP 251 [cd k,tV (aD b 0)] [bx rV 29 b (ai l c stack.length),cr bU 3 l c stack] (fun i:OI=>lW R.1) (fun i=>[bx rV 29 b (ai (i.h 0).1 (i.h 0).2 R.2.length),cr bU 3 (i.h 0).1 (i.h 0).2 R.2]):=by
 refine fQ.of Tryz.func251 J J J fun w0 S0=>aq<|zo J (aZ (show ay _ _ _ (lW ([]))from uR))<|ap<|aq<|zo J (py bV (.head _) (ht J))<|zo J (py bV (.head _) (ht J))<|zo J (em dp (.tail _ (.head _)) (ht J))<|aA J<|zo J (gy (ht J) (ht J))<|bP h fun y q_y h=>zo J (md dp bJ J (.tail _ (.head _)) (ht J) (ht J) q_y)<|mH (.tail _ (.head _)) q_y fun hv=>bT<|bP h fun r q_r h=>Cj [cr bU 3 l c stack] _ J Hy (Nf q_y q_r) ⟨(ht J),be⟩ J fun i=>?_;refine(show RG _ _ _ _ [cr bU 3 (i.h 0).1 (i.h 0).2 r,cr bU 3 l c stack,bx rV 29 b (ai l c stack.length)] _ from ?_);refine bu J<|ap<|aq<|zo J (py bV (.tail _ (.tail _ (.head _))) (ht J))<|zo J (py bV (.tail _ (.tail _ (.head _))) (ht J))<|zo J (em dp (.tail _ (.head _)) (ht J))<|aA J<|zo J (gy (ht J) (ht J))<|bP h fun y1 q_y1 h=>zo J (kP dp bJ J (.tail _ (.head _)) (ht J) (ht J) q_y1)<|bT<|xQ q_y1<|kw<|aC bV J ax J (ht J) (Aq (ht J))<|ap<|aq<|aA J<|bu J<|ap ?_;refine am<|aJ<|ii<|jK 3 J<|jK 11 J<|jK 4 J<|jK 18 J<|rR 3 J<|bw<|bf<|bf ?_;cases so h;exact cZ J (oi l c) J J (fun _ _ h=>h)

theorem I4(e:bk)(do1:(bq→(List Int)→Option (Int×Int))){R:Int×Int}(h:lB e do1=some R):bg aP 216 [tD bc e,(fC aP H8 H7 (fun(x:bq×(List Int))=>do1 x.1 x.2))] (tT [cd R.1,cd R.2]):=by
 refine bg.of Tryz.func216 J J J fun w0 S0=>aq<|zo J (mp J)<|zo J (fg)<|zo J (fg)<|ap<|ya<|aq<|ci false bU 3<|aX (x:=ai none 0 0) bV (fun _=>K6) J fun b=>ap<|aq<|zo J (fg)<|ap<|aq<|zo J (GY (cts:=[tV (aD b 0)]) (caps:=[.tmp 6]) ⟨(ht J),be⟩)<|bu J ?_;refine ap<|aq<|zo J (fg)<|ap<|ae<|yb<|an<|ae<|aq<|zo rfl (bZ fv c9 rfl rfl)<|zo rfl (bE mo rfl rfl)<|zo rfl (jL jv rfl)<|zo rfl (bj hI)<|ap ?_;refine Gm (Z:=fun bad stack l c=>jE bad stack=some R) (Of:=fun bad stack l c=>[bx rV 29 b (ai l c stack.length),cr bU 3 l c stack]) (Gf:=fun bad stack l c=>[(6,tV (aD b 0)),(7,cd 0),(9,cd bad)]) (fun bad stack l c h=>?_) (fun K=>?_)
 ·skip
  refine an<|ae<|aq<|aA rfl<|zo rfl (s3 rfl)<|ap<|dQ h rfl (fun h=>?_) (fun h=>?_)
  ·refine aq<|aA J<|aA J<|bu J<|bu J<|ap<|am ?_;refine aa (mj ?_);refine bw<|bw ?_;cases so h;exact fW J J J
  ·refine eK<|aq<|zo J (py bV (.head _) (ht J))<|bP h fun e1 q_e1 h=>zo J (cz dp bJ (.tail _ (.head _)) (ht J) hI q_e1)<|zo J (dR (r:=bU) (i:=(0:Int)) (foff:=0) bJ J J cV J (.tail _ (.head _)) q_e1 (ht J))<|bu J<|zo J (fg)<|ap<|am<|mj<|bw<|bw ?_;cases so h;exact fW J J J
 ·skip
  refine aY (k:=16) J fun hN=>bO ?_;refine aM (xV (Z:=fun ls i bad1 stack1 l1 c1=>(e.Nodes.drop i=ls)∧fm do1 ls bad1 stack1=some R) (Of:=fun _ i bad1 stack1 l1 c1=>[bx rV 29 b (ai l1 c1 stack1.length),cr bU 3 l1 c1 stack1]) (Gf:=fun _ i bad1 stack1 l1 c1=>[(1,(fC aP H8 H7 (fun(x:bq×(List Int))=>do1 x.1 x.2))),(6,tV (aD b 0)),(7,cd 0),(8,tC 251 [tV (aD b 0)]),(9,cd bad1),(16,fX (aQ) e.Nodes),(17,jt e.Nodes),(18,cd (i:Int))]) (fun i bad1 stack1 l1 c1 h=>?_) (fun e2 tl ih i bad1 stack1 l1 c1 h=>?_) e.Nodes 0 (0:Int) mP none 0 ⟨J,h⟩) (bh J)
  ·obtain⟨hx,h⟩:=h
   refine au<|aq<|zo J (fM J J)<|ap<|ae<|bt (ht J) (du hx)<|bn ?_;refine ac (ac (aG ?_));exact cb (K bad1 stack1 l1 c1 h) (bh J)
  ·obtain⟨hx,h⟩:=h
   refine au<|aq<|zo J (fM J J)<|ap<|ae<|br (ht J) (dn hx)<|eK<|ae<|av<|aq<|zo J (j8 jv dy J J J (dB hx))<|zo J (bE dy J J)<|aX (r:=aQ) (x:=Cu) dy (fun _=>np _) J fun b1=>aC dy J ax J (ht J) (ht J)<|aT 11 J<|ap<|ae<|bP h fun r q_r h=>bP h fun r1 q_r1 h=>?_
   obtain⟨r2,q_r2,h⟩:=bs h
   refine nB 12 [tc ((fC aP H8 H7 (fun(x:bq×(List Int))=>do1 x.1 x.2))),tc (tD aQ e2),tc (tC 251 [tV (aD b 0)]),tc (bB bU e2.Tag),tc (cd e2.Tag),tc (cd r),tc (lW r1.1),tc (tT [cd r2.1,cd r2.2]),tc (tT [cd r2.1,cd r2.2]),tc (cd r2.1),tc (cd r2.2),tc (cd r2.1)] [false,false,false,false,false,false,true,false,false,false,false,false] [fun _=>[bx rV 29 b (ai l1 c1 stack1.length),cr bU 3 l1 c1 stack1],fun sg=>[bx rV 29 b (ai ((sg 6).h 0).1 ((sg 6).h 0).2 r1.2.length),cr bU 3 ((sg 6).h 0).1 ((sg 6).h 0).2 r1.2]] J mixed J J J J J
    ⟨⟨[⟨1,fun _=>(fC aP KM KK (fun(x:bq×(List Int))=>do1 x.1 x.2)),none⟩],_,0,1,J,⟨(fun _=>J),be⟩,J,J,J,J,J,fun _ sg _ _=>ah J (cN J)⟩,
    ⟨⟨[⟨11,fun _=>bB aQ e2,none⟩],_,0,1,J,⟨(fun _=>J),be⟩,J,J,J,J,J,fun _ sg _ _=>ah J (bE dy J J)⟩,
    ⟨⟨[⟨8,fun _=>tC 251 [tV (aD b 0)],none⟩],_,0,0,J,⟨(fun _=>J),be⟩,J,J,J,J,J,fun _ sg _ _=>ah J (cN J)⟩,
    ⟨⟨[⟨11,fun _=>bB aQ e2,none⟩],_,0,0,J,⟨(fun _=>J),be⟩,J,J,J,J,J,fun _ sg _ _=>ah J (bZ js eI J J)⟩,
    ⟨⟨[⟨26,fun _=>bB bU e2.Tag,some 3⟩],_,0,0,J,⟨(fun _=>J),be⟩,J,J,J,J,J,fun _ sg _ _=>ah J (bE bJ J J)⟩,
    ⟨⟨[⟨27,fun _=>tD bU e2.Tag,some 4⟩],_,0,0,J,⟨(fun _=>J),be⟩,J,J,J,J,J,fun _ sg _ _=>ah J (aO Ky (ED _ q_r) ⟨(ht J),be⟩)⟩,
    ⟨⟨[⟨25,fun _=>tC 251 [tV (aD b 0)],some 2⟩,⟨28,fun _=>tD bU r,some 5⟩],_,J,⟨(fun _=>J),(fun _=>J),be⟩,J,J,J,fun sg=>eJ J (EffOK.fr1 (EffOK.fr1 (F2 (xs:=[.tmp 28]) (ts:=[tD bU r]) (cts:=[tV (aD b 0)]) [bx rV 29 b (ai l1 c1 stack1.length),cr bU 3 l1 c1 stack1] _ J Nt (LL b l1 c1 _ _ q_r1) (ht J) ⟨(ht J),be⟩ (fun _=>J))))⟩,
    ⟨⟨[⟨23,fun _=>(fC aP KM KK (fun(x:bq×(List Int))=>do1 x.1 x.2)),some 0⟩,⟨24,fun _=>tD aQ e2,some 1⟩,⟨29,fun _=>tD pP r1.1,some 6⟩],_,1,1,J,⟨(fun _=>J),(fun _=>J),(fun _=>J),be⟩,J,J,J,J,J,fun _ sg _ _=>ah J (gz (args:=KM) (res:=KK) (f:=(fun(x:bq×(List Int))=>do1 x.1 x.2)) (x:=((e2,r1.1):bq×(List Int))) (ht J) q_r2 ⟨(ht J),(ht J),be⟩)⟩,
    ⟨⟨[⟨30,fun _=>tT [tD bU r2.1,tD bU r2.2],some 7⟩],_,1,1,J,⟨(fun _=>J),be⟩,J,J,J,J,J,fun _ sg _ _=>ah J (cN J)⟩,
    ⟨⟨[⟨22,fun _=>tT [tD bU r2.1,tD bU r2.2],some 8⟩],_,1,1,J,⟨(fun _=>J),be⟩,J,J,J,J,J,fun _ sg _ _=>ah J (lv J J)⟩,
    ⟨⟨[⟨22,fun _=>tT [tD bU r2.1,tD bU r2.2],some 8⟩],_,1,1,J,⟨(fun _=>J),be⟩,J,J,J,J,J,fun _ sg _ _=>ah J (lv J J)⟩,
    ⟨⟨[⟨31,fun _=>tD bU r2.1,some 9⟩],_,1,1,J,⟨(fun _=>J),be⟩,J,J,J,J,J,fun _ sg _ _=>ah J (yk J)⟩,
    be⟩⟩⟩⟩⟩⟩⟩⟩⟩⟩⟩⟩ (fun sg=>?_)
   refine(show RG _ _ _ _ [bx rV 29 b (ai ((sg 6).h 0).1 ((sg 6).h 0).2 r1.2.length),cr bU 3 ((sg 6).h 0).1 ((sg 6).h 0).2 r1.2] _ from ?_);refine bu J<|ap<|ae<|aq<|aA J<|zo J (s3 J)<|ap<|dQ h J (fun h=>?_) (fun h=>?_)
   ·refine aq<|aA J<|bu J<|ap<|bn ?_;refine ac (bM J (ac (ac (aG ?_))));exact cb (K r2.2 r1.2 ((sg 6).h 0).1 ((sg 6).h 0).2 h) (bh J)
   ·refine eK<|ak<|zo J (py bV (.head _) (ht J))<|aA J<|zo J (bF (r:=bU) (ys:=[r2.1]) (xs:=[.tmp 37]) dp bJ J J J J J ⟨(ht J),be⟩)<|bT<|bP h fun l2 q_l2 h=>dj bJ J J J J dp J J (ht J) (ht J) q_l2 fun l3 c2=>bT<|aC bV J ax J (ht J) (Aq (ht J))<|aK<|al<|an<|ak<|zo rfl (lk (cQ hx hN) rfl)<|aA rfl<|aK ?_;exact aW (aM (ih (i+1) bad1 l2 l3 c2 ⟨cP hx,h⟩) (bh J))

theorem Ev(tag:Int){R:Bool}(h:nJ tag=some R):bg aP 213 [cd tag] (ij R):=by
 refine bg.of Tryz.func213 J J J fun w0 S0=>aq<|zo J (fP)<|ap<|aq<|aA J<|zo J (j6 J)<|aA J<|cD J J (fun hg=>cN J)<|cD J J (fun hg=>ev (aI J hg) hI)<|cD J J (fun hg=>bj (aI J hg))<|ef J J J J (fun hg=>cN J)<|ef J J J J (fun hg=>jB (aI J hg) hI)<|cD J J (fun hg=>kR (aI J hg) (fun hb=>(aI J (oI hg hb))))<|zo J (pn J J)<|bu J<|ap<|am ?_;cases so h;exact aH J J

theorem I3(kinds:(List Int))(n:bq)(l:(List Int)){R:Int×Int}(h:gE kinds n l=some R):bg aP 217 [tD aQ n,lW l,bB gH kinds] (tT [cd R.1,cd R.2]):=by
 refine bg.of Tryz.func217 J J J fun w0 S0=>aq<|zo J (mp J)<|zo J (fg)<|zo J (fg)<|ap<|aq<|zo J (fg)<|ap<|ae<|aq<|aA J<|zo J (jL dp J)<|zo J (bj hI)<|ap<|av<|aY (k:=12) J fun hN=>bO ?_;refine aM (ki (Z:=fun ls i own=>(l.drop i=ls)∧jG kinds n ls own=some R) (Of:=fun _ i own=>[]) (Gf:=fun _ i own=>[(2,bB gH kinds),(3,bB aQ n),(7,cd own),(12,lW l),(13,jt l),(14,cd (i:Int))]) (fun i own h=>?_) (fun e tl ih i own h=>?_) l 0 (0:Int) ⟨J,h⟩) (bh J)
 ·obtain⟨hx,h⟩:=h
  refine au<|aq<|zo J (fM J J)<|ap<|ae<|bt (ht J) (du hx)<|bn ?_;refine ac (ac (aG ?_));refine an<|aq<|aA rfl<|bu rfl<|ap<|aq<|zo rfl (fg)<|ap<|ae<|av<|aq<|zo rfl (bZ js eI rfl rfl)<|zo rfl (bE bJ rfl rfl)<|zo rfl (j6 rfl)<|bu rfl<|ap<|dQ h rfl (fun h=>?_) (fun h=>?_)
  ·refine aq<|zo J (bZ tU lS J J)<|zo J (bZ uV qd J J)<|zo J (bE bJ J J)<|bu J<|zo J (fg)<|ap<|am ?_;refine aF (aa ?_);cases so h;exact fW J J J
  ·refine aq<|zo J (bZ js eI J J)<|zo J (bE bJ J J)<|zo J (j6 J)<|bu J<|ap<|dQ h J (fun h=>?_) (fun h=>?_)
   ·refine aq<|zo J (bE bV J J)<|zo J (bZ mC iw J J)<|zo J (bE bJ J J)<|bP h fun e1 q_e1 h=>zo J (j8 dp bJ J J J q_e1)<|zo J (bE bJ J J)<|bu J<|zo J (fg)<|ap<|am ?_;refine aF (aa ?_);cases so h;exact fW J J J
   ·refine aq<|zo J (bZ js eI J J)<|zo J (bE bJ J J)<|bP h fun r q_r h=>zo J (aO Kq (Ev _ q_r) ⟨(ht J),be⟩)<|bu J<|ap<|dQ h J (fun h=>?_) (fun h=>?_)
    ·refine ak<|zo J (fg)<|zo J (fg)<|aK<|al<|an<|ae<|aq<|aA rfl<|zo rfl (j6 rfl)<|aA rfl<|cD rfl rfl (fun hg=>cN J)<|cD J J (fun hg=>dd (aI J hg) hI)<|cD J J (fun hg=>bj (aI J hg))<|ef J J J J (fun hg=>cN J)<|ef J J J J (fun hg=>cN J)<|ef J J J J (fun hg=>dd (aI J hg) (aI J hg))<|cD J J (fun hg=>kR (aI J hg) (fun hb=>(aI J (oI hg hb))))<|zo J (pn J J)<|ap<|dQ h J (fun h=>?_) (fun h=>?_)
     ·refine aq<|zo J (fg)<|zo J (fg)<|ap<|am<|aa ?_;cases so h;exact fW J J J
     ·refine eK<|aq<|aA J<|bu J<|zo J (fg)<|ap<|am ?_;cases so h;exact fW J J J
    ·refine aq<|zo J (bZ js eI J J)<|zo J (bE bJ J J)<|zo J (j6 J)<|aA J<|cD J J (fun hg=>bZ js eI J J)<|cD J J (fun hg=>aL bJ J J (aI J hg))<|cD J J (fun hg=>bv (aI J hg) hI)<|zo J (pn J J)<|aA J<|cD J J (fun hg=>bZ js eI J J)<|cD J J (fun hg=>aL bJ J J (aI J hg))<|cD J J (fun hg=>bv (aI J hg) hI)<|zo J (pn J J)<|bu J<|ap<|dQ h J (fun h=>?_) (fun h=>?_)
     ·refine ak<|zo J (fg)<|aK<|al<|an<|ae<|aq<|aA rfl<|zo rfl (j6 rfl)<|aA rfl<|cD rfl rfl (fun hg=>cN J)<|cD J J (fun hg=>dd (aI J hg) hI)<|cD J J (fun hg=>bj (aI J hg))<|ef J J J J (fun hg=>cN J)<|ef J J J J (fun hg=>cN J)<|ef J J J J (fun hg=>dd (aI J hg) (aI J hg))<|cD J J (fun hg=>kR (aI J hg) (fun hb=>(aI J (oI hg hb))))<|zo J (pn J J)<|ap<|dQ h J (fun h=>?_) (fun h=>?_)
      ·refine aq<|zo J (fg)<|zo J (fg)<|ap<|am<|aa ?_;cases so h;exact fW J J J
      ·refine eK<|aq<|aA J<|bu J<|zo J (fg)<|ap<|am ?_;cases so h;exact fW J J J
     ·refine bC<|al<|an<|ae<|aq<|aA rfl<|zo rfl (j6 rfl)<|aA rfl<|cD rfl rfl (fun hg=>cN J)<|cD J J (fun hg=>dd (aI J hg) hI)<|cD J J (fun hg=>bj (aI J hg))<|ef J J J J (fun hg=>cN J)<|ef J J J J (fun hg=>cN J)<|ef J J J J (fun hg=>dd (aI J hg) (aI J hg))<|cD J J (fun hg=>kR (aI J hg) (fun hb=>(aI J (oI hg hb))))<|zo J (pn J J)<|ap<|dQ h J (fun h=>?_) (fun h=>?_)
      ·refine aq<|zo J (fg)<|zo J (fg)<|ap<|am<|aa ?_;cases so h;exact fW J J J
      ·refine eK<|aq<|aA J<|bu J<|zo J (fg)<|ap<|am ?_;cases so h;exact fW J J J
 ·obtain⟨hx,h⟩:=h
  refine au<|aq<|zo J (fM J J)<|ap<|ae<|br (ht J) (dn hx)<|eK<|ae<|av<|aq<|zo J (j8 dp bJ J J J (dB hx))<|zo J (bE bJ J J)<|bu J<|ap<|av<|aq<|aA J<|zo J (j6 J) ?_;refine aA J<|cD J J (fun hg=>cN J)<|cD J J (fun hg=>cN J)<|cD J J (fun hg=>bv (aI J hg) (aI J hg))<|zo J (pn J J)<|bu J<|ap<|dQ h J (fun h=>?_) (fun h=>?_)
  ·refine bC<|al<|al<|an<|ak<|zo rfl (lk (cQ hx hN) rfl)<|aA rfl<|aK ?_;exact aW (aM (ih (i+1) own ⟨cP hx,h⟩) (bh J))
  ·refine aq<|aA J<|zo J (j6 J)<|bu J<|ap<|dQ h J (fun h=>?_) (fun h=>?_)
   ·refine ak<|aA J<|bu J<|aK<|al<|al<|an<|ak<|zo rfl (lk (cQ hx hN) rfl)<|aA rfl<|aK ?_;exact aW (aM (ih (i+1) e ⟨cP hx,h⟩) (bh J))
   ·refine ak<|zo J (fg)<|aK<|al<|al<|an<|ak<|zo rfl (lk (cQ hx hN) rfl)<|aA rfl<|aK ?_;exact aW (aM (ih (i+1) nO ⟨cP hx,h⟩) (bh J))

theorem wk(e:bk)(kinds:(List Int)){R:Int×Int}(h:mh e kinds=some R):bg aP 160 [tD bc e,lW kinds] (tT [cd R.1,cd R.2]):=by
 refine bg.of Tryz.func160 J J J fun w0 S0=>aq<|zo J (mp J)<|zo J (mp J)<|zo J (fg)<|zo J (fg)<|ap<|ae<|aq<|zo J (bE gj J J)<|bP h fun r q_r h=>zo J (aO JX (AA _ q_r) ⟨(ht J),be⟩)<|bu J<|ap<|aq<|aA J<|zo J (s3 J)<|ap ?_;refine dQ h J (fun h=>?_) (fun h=>?_)
 ·refine aq<|aA J<|zo J (fg)<|bu J<|ap<|am<|aa ?_;cases so h;exact fW J J J
 ·refine eK<|ae<|aq<|zo J (bE bV J J)<|zo J (jL dp J)<|zo J (bj hI)<|ap<|av<|aY (k:=16) J fun hN=>bO ?_;refine aM (eC (Z:=fun ls i=>(kinds.drop i=ls)∧mD e kinds ls=some R) (Of:=fun _ i=>[]) (Gf:=fun _ i=>[(2,bB bc e),(3,bB gH kinds),(16,lW kinds),(17,jt kinds),(18,cd (i:Int))]) (fun i h=>?_) (fun e1 tl ih i h=>?_) kinds 0 ⟨J,h⟩) (bh J)
  ·obtain⟨hx,h⟩:=h
   refine au<|aq<|zo J (fM J J)<|ap<|ae<|bt (ht J) (du hx)<|bn ?_;refine ac (ac (aG ?_));refine an<|ae<|aq<|zo rfl (bE gj rfl rfl)<|bP h fun r1 q_r1 h=>jb Px (IJ _ q_r1) ⟨(ht J),be⟩ J fun l c=>zo J (em dp (.head _) (ht J))<|zo J (bj hI)<|ap<|av<|hU (.head _) fun hN1=>bO ?_;refine aM (eC (Z:=fun ls1 i1=>(r1.drop i1=ls1)∧jX e kinds ls1=some R) (Of:=fun _ i1=>[cr bU 3 l c r1]) (Gf:=fun _ i1=>[(2,bB bc e),(3,bB gH kinds),(30,n6 l c r1),(31,jt r1),(32,cd (i1:Int))]) (fun i1 h=>?_) (fun e2 tl1 ih1 i1 h=>?_) r1 0 ⟨J,h⟩) (bh J)
   ·obtain⟨hx1,h⟩:=h
    refine au<|aq<|zo J (fM J J)<|ap<|ae<|bt (ht J) (du hx1)<|bn ?_;refine ac (ac (aG ?_));refine an<|aq<|zo rfl (bE gj rfl rfl)<|zo rfl ((show bS _ _ _ _ ((fC aP H8 H7 (fun(x:bq×(List Int))=>(gE kinds) x.1 x.2)))from hZ (cts:=[bB gH kinds]) (caps:=[.tmp 3]) NB ⟨(ht J),be⟩ (fun x y h=>I3 _ _ _ h)))<|bP h fun r2 q_r2 h=>zo J (aO NC (I4 _ _ q_r2) ⟨(ht J),(ht J),be⟩)<|zo J (lv J J)<|zo J (lv J J)<|bu J<|bu J<|ap<|am<|bw ?_;cases so h;exact fW J J J
   ·obtain⟨hx1,h⟩:=h
    refine au<|aq<|zo J (fM J J)<|ap<|ae<|br (ht J) (dn hx1)<|eK<|ae<|av<|aq<|zo J (cz dp bJ (.head _) (ht J) (ht J) (dB hx1))<|zo J (dR (r:=bU) (i:=(i1:Int)) (foff:=0) bJ J J cV J (.head _) (dB hx1) (ht J))<|bu J<|ap<|aq<|aA J<|zo J (bE bV J J)<|zo J (jL dp J) ?_;refine zo J (ev (ht J) (ht J))<|ap<|dQ h J (fun h=>?_) (fun h=>?_)
    ·refine aq<|zo J (fg)<|zo J (fg)<|ap<|am ?_;refine aF (aa (aa (aF (aa ?_))));refine bw ?_;cases so h;exact fW J J J
    ·refine bC<|al<|an<|ak<|zo rfl (lk (cQ hx1 hN1) rfl)<|aA rfl<|aK ?_;exact aW (aM (ih1 (i1+1) ⟨cP hx1,h⟩) (bh J))
  ·obtain⟨hx,h⟩:=h
   refine au<|aq<|zo J (fM J J)<|ap<|ae<|br (ht J) (dn hx)<|eK<|ae<|av<|aq<|zo J (j8 dp bJ J J J (dB hx))<|zo J (bE bJ J J)<|bu J<|ap<|aq<|aA J<|zo J (fH (ht J) hI)<|aA J ?_;refine cD J J (fun hg=>cN J)<|cD J J (fun hg=>iu (aI J hg) hI)<|zo J (pn J J)<|ap<|dQ h J (fun h=>?_) (fun h=>?_)
   ·refine aq<|zo J (fg)<|zo J (fg)<|ap<|am ?_;refine aF (aa (aa (aF (aa ?_))));cases so h;exact fW J J J
   ·refine bC<|al<|an<|ak<|zo rfl (lk (cQ hx hN) rfl)<|aA rfl<|aK ?_;exact aW (aM (ih (i+1) ⟨cP hx,h⟩) (bh J))

end Go.Proofs.YtmogpgcfognefaaGreatDoor

