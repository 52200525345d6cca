/- db of this claim: P5. -/
import Derived.Test.YtbmmihfagmchaaaGreatRaT
import Derived.Test.YtbmmihfagmchaaaGreatRaP4
set_option linter.all false
namespace Go.Proofs.YtbmmihfagmchaaaGreat
open Go
set_option maxRecDepth 100000

def CO n l{R}(h:qM n l=some R):cj bf 84 [X ap n,eE (aE) l] (tT [X aE R.1,bX R.2]):=by
 refine de Tryz.func84 J<|T<|nO (D J) J fun b=>av cV dF J fun b1=>cx<|bO<|T<|bD 1 g9 J<|aU<|cy bR J kd J (D J) hI<|bD 2 mo J<|cy bR J kc J (D J) hI<|bO<|T<|bE true ap 55<|av (r:=gC) (x:=ib th (aM none 0 (DG.length))) cV tR J fun b2=>bO<|aF ?_;refine aW J<|cM Tryz.underlying160 J<|K (bS hI)<|bO<|am<|br (k:=18) J fun hN=>bP<|cr<|cr<|fO<|fO ?_;refine aN (yY (hg:=fun ls i n1 x out l1 c=>(l.drop i=ls)/\lH ls i n1 x out=some R) (Of:=fun _ i n1 x out l1 c=>[bx ap 55 b n1,bx aE 39 b1 x,bx gC 39 b2 (ib out (aM l1 c out.Nodes.length)),tip ap 55 l1 c out.Nodes]) (Gf:=fun _ i n1 x out l1 c=>[(2,tV (aq b 0)),(4,tV (aq b1 0)),(6,tV (aq b2 0)),(18,eE (aE) l),(19,f6 l),(20,bX (i:Int))]) (fun i n1 x out l1 c h=>?_) (fun e tl ih i n1 x out l1 c h=>?_) l 0 (an.mk n.Op lM lM n.Table n.Kinds n.Left n.Cond n.Keys n.Aggs n.Items n.Order n.Limit) th ({th with Nodes:=DG}:bB) none 0 ⟨J,h⟩) (bk J)
 ·obtain⟨I,h⟩:=h
  refine dt I J<|au<|aF<|cq h fun r q_r h=>?_
  refine jr 5 (ts:=[tV (aq b2 0),tO ap l1 c out.Nodes,X ap n1,X ap r,eE (ap) ([r])]) mixed J J J
   ⟨lV 6 J J (pr 0 fv J J J),
   ⟨dg 66 0 J J (dj lY jy (.tail _ (.tail _ (.head _))) (.tail _ (.tail _ (.tail _ (.head _)))) J (D J)),
   ⟨lV 2 J J (be dK J J bC (.head _) (D J)),
   ⟨dg 68 2 J J (cg Gv (zN _ _ q_r) ⟨(D J),hI,aX⟩),
   ⟨dg 69 3 J J (aQ (r:=ap) (ys:=[r]) (xs:=[.tmp 69]) kZ dK J J J J J ⟨(D J),aX⟩),
   aX⟩⟩⟩⟩⟩ ?_
  refine cT<|cq h fun l2 q_l2 h=>dU dK J J J J kZ J J (D J) (D J) q_l2 fun l3 c1=>bD 0 fv J<|cT<|c8 lY J (i8 _ _ _) J (D J) (uH (oz (D J)))<|bO<|ba<|aU<|K (fq (q:=aE) (y:=({out with Nodes:=l2}:bB)) cV J J J J (.tail _ (.head _)) (fun _ _ _ ho h=>mq (hZ ho (.head _)) h) (D J))<|da h EU (xe _) (bQ J) fun r1 h=>bg J<|bM J J<|bM J J<|f9 J<|aP J<|T ?_;refine bg J<|gk J<|cw h J (fun h=>?_) (fun h=>?_)
  ·exact T<|K (bz cV yF dF J)<|bg J<|cT<|aR cV aa J<|bt J<|ak<|aG 4 J<|aH<|aH<|aH<|so h▸bv J J ⟨bb cV J J J,aS J,aX⟩
  ·exact gg<|T<|K (fq (q:=aE) (y:=({out with Nodes:=l2}:bB)) cV J J J J (.tail _ (.head _)) (fun _ _ _ ho h=>mq (hZ ho (.head _)) h) (D J))<|cT<|aR cV aa J<|dh<|aG 4 J<|aH<|aH<|aH<|so h▸bv J J ⟨bb cV J J J,aS J,aX⟩
 ·obtain⟨I,h⟩:=h
  refine dr I J<|aF<|am<|aW J<|ej Tryz.underlying160 cV J (dm I)<|av cV dF J fun b3=>f9 J<|aR cV aa J<|aB 8 J<|bO<|aF ?_;refine T<|bn cV J<|da h EU (xe _) (bQ J) fun r2 h=>bg J<|bM J J<|bM J J<|f9 J<|aP J<|aW J<|gk J<|cw h J (fun h=>?_) (fun h=>?_)
  ·exact T<|K (bz cV yF dF J)<|bg J<|aU<|aR cV aa J<|bt J<|ak<|cZ<|ak<|cZ<|aG 4 J<|aH<|aH<|aH<|so h▸bv J J ⟨bb cV J J J,aS J,aX⟩
  ·refine gg<|T<|bD 0 fv J<|K (dj lY jy (.tail _ (.tail _ (.head _))) (.tail _ (.tail _ (.tail _ (.head _)))) J (D J))<|K (fc kZ (i7 (D J)))<|aP J<|ba<|bw fv dT lY J<|cM kZ J<|K (bS hI)<|bO<|am<|br (k:=38) J fun hN1=>bP ?_;refine aN (kY (hg:=fun ls1 i1 out1 l4 c2=>(e.Nodes.drop i1=ls1)/\n5 (lH tl) i n1 x out ls1 out1=some R) (Of:=fun _ i1 out1 l4 c2=>[bx ap 55 b n1,bx aE 39 b1 x,bx gC 39 b2 (ib out1 (aM l4 c2 out1.Nodes.length)),tip ap 55 l4 c2 out1.Nodes]) (Gf:=fun _ i1 out1 l4 c2=>[(2,tV (aq b 0)),(4,tV (aq b1 0)),(6,tV (aq b2 0)),(7,bX (i:Int)),(11,f6 out.Nodes),(18,eE (aE) l),(19,f6 l),(20,bX (i:Int)),(38,eE (ap) e.Nodes),(39,f6 e.Nodes),(40,bX (i1:Int))]) (fun i1 out1 l4 c2 h=>?_) (fun e1 tl1 ih1 i1 out1 l4 c2 h=>?_) e.Nodes 0 out l1 c ⟨J,h⟩) (bk J)
   ·obtain⟨hx1,h⟩:=h
    refine dt hx1 J<|au<|aW J<|cb J<|cw h J (fun h=>?_) (fun h=>?_)
    ·refine aC<|bD 0 fv J<|K (dj lY jy (.tail _ (.tail _ (.head _))) (.tail _ (.tail _ (.tail _ (.head _)))) J (D J))<|K (fc kZ (i7 (D J)))<|K (cY (D J) hI)<|bD 1 g9 J<|aR bR kd J<|bc<|cP I hN J ?_;exact aY (aN (ih (i+1) (an.mk n1.Op (IntKind.i64.wrap ((out1.Nodes.length:Int)-(1:Int))) n1.B n1.Table n1.Kinds n1.Left n1.Cond n1.Keys n1.Aggs n1.Items n1.Order n1.Limit) x out1 l4 c2 ⟨cI I,h⟩) (bk J))
    ·refine aC<|bD 0 fv J<|K (dj lY jy (.tail _ (.tail _ (.head _))) (.tail _ (.tail _ (.tail _ (.head _)))) J (D J))<|K (fc kZ (i7 (D J)))<|K (cY (D J) hI)<|bD 2 mo J<|aR bR kc J<|bc<|cP I hN J ?_;exact aY (aN (ih (i+1) (an.mk n1.Op n1.A (IntKind.i64.wrap ((out1.Nodes.length:Int)-(1:Int))) n1.Table n1.Kinds n1.Left n1.Cond n1.Keys n1.Aggs n1.Items n1.Order n1.Limit) x out1 l4 c2 ⟨cI I,h⟩) (bk J))
   ·obtain⟨hx1,h⟩:=h
    refine dr hx1 J<|aF<|am<|T<|ej kZ dK J (dm hx1)<|av dK fP J fun b4=>aR dK aa J<|aB 13 J<|bO<|cq h fun r3 q_r3 h=>?_
    refine jr 6 (ts:=[tV (aq b2 0),tO ap l4 c2 out1.Nodes,X ap e1,f6 out.Nodes,X ap r3,eE (ap) ([r3])]) mixed J J J
     ⟨lV 6 J J (pr 0 fv J J J),
     ⟨dg 44 0 J J (dj lY jy (.tail _ (.tail _ (.head _))) (.tail _ (.tail _ (.tail _ (.head _)))) J (D J)),
     ⟨lV 13 J J (lc dK J J),
     ⟨gK J J,
     ⟨eI 46 2 47 3 J J J (cg Gv (zN _ _ q_r3) ⟨(D J),(D J),aX⟩),
     ⟨dg 48 4 J J (aQ (r:=ap) (ys:=[r3]) (xs:=[.tmp 48]) kZ dK J J J J J ⟨(D J),aX⟩),
     aX⟩⟩⟩⟩⟩⟩ ?_
    refine cT<|cq h fun l5 q_l5 h=>dU dK J J J J kZ J J (D J) (D J) q_l5 fun l6 c3=>bD 0 fv J<|cT<|c8 lY J (i8 _ _ _) J (D J) (uH (oz (D J)))<|bc<|cP hx1 hN1 J<|bm<|bm<|bq<|bq ?_;exact aY (aN (ih1 (i1+1) ({out1 with Nodes:=l5}:bB) l6 c3 ⟨cI hx1,h⟩) (bk J))

def F6 n a1 b{R}(h:vV n a1 b=some R):cj bf 62 [X ap n,X aE a1,X aE b] (tT [X aE R.1,bX R.2]):=by
 refine de Tryz.func62 J<|T<|cA J<|cA J<|cA J<|av cV dF J fun b1=>cx<|bO<|T<|bn dK J<|bn cV J<|bn cV J<|K (aQ (r:=aE) (ys:=[a1,b]) (xs:=[.tmp 9,.tmp 10]) Tryz.underlying160 cV J J J J J ⟨(D J),(D J),aX⟩)<|da h Ht (CO _ _) (bQ J) fun r h=>bM J J<|bM J J<|aR cV aa J<|aB 6 J<|f9 J<|bc ?_;exact au<|hJ<|so h▸bv J J ⟨bb cV J J J,aS J,aX⟩

def F5 n a1{R}(h:vW n a1=some R):cj bf 63 [X ap n,X aE a1] (tT [X aE R.1,bX R.2]):=by
 exact de Tryz.func63 J<|T<|cA J<|cA J<|av cV dF J fun b=>cx<|bO<|T<|bn dK J<|bn cV J<|K (aQ (r:=aE) (ys:=[a1]) (xs:=[.tmp 7]) Tryz.underlying160 cV J J J J J ⟨(D J),aX⟩)<|da h Ht (CO _ _) (bQ J) fun r h=>bM J J<|bM J J<|aR cV aa J<|aB 4 J<|bt J<|so h▸bv J J ⟨bb cV J J J,aS J,aX⟩

def uO n parts{R}(h:js n parts=some R):cj bf 37 [X ap n,eE (al) parts] (tT [X al R.1,ec R.2]):=by
 refine de Tryz.func37 J<|T<|cA J<|av bo dn J fun b=>cu<|bO<|T<|K (bz cV yF dF J)<|av cV dF J fun b1=>aR cV aa J<|cx<|bO ?_;refine BT (hg:=fun e l=>md parts e l=some R) (Of:=fun e l=>[bx al 87 b rW,bx aE 39 b1 l]) (Gf:=fun e l=>[(1,eE (al) parts),(4,tV (aq b 0)),(6,tV (aq b1 0)),(7,bX e)]) (fun e l h=>?_) (fun ae=>?_)
 ·skip
  refine ba<|bg J<|gk J<|cw h J (fun h=>?_) (fun h=>?_)
  ·exact T<|K (bz bo FS dn J)<|aR bo aa J<|cu<|cU<|ak<|aG 4 J<|aH<|so h▸bv J J ⟨bb bo J J J,aS J,aX⟩
  ·refine gg<|aF<|cq h fun e1 q_e1 h=>?_
   refine jr 11 (ts:=[X aE l,tV (aq b1 0),eE (ap) l.Nodes,tV (aq b1 0),eE (ap) l.Nodes,f6 l.Nodes,bX (IntKind.i64.wrap ((l.Nodes.length:Int)-(1:Int))),bp ap e1,X ap e1,eE (al) parts,X al (⟨l,e1,parts⟩:ay)]) mixed J J J
    ⟨lV 6 J J (be cV J J bC (.tail _ (.head _)) (D J)),
    ⟨lV 6 J J (pr 0 fv J J J),
    ⟨dg 38 1 J J (be lY J J dT (.tail _ (.head _)) (D J)),
    ⟨lV 6 J J (pr 0 fv J J J),
    ⟨dg 40 3 J J (be lY J J dT (.tail _ (.head _)) (D J)),
    ⟨dg 41 4 J J (GG kZ J),
    ⟨dg 42 5 J J (cY (D J) hI),
    ⟨eI 39 2 43 6 J J J (DV kZ dK J J J q_e1),
    ⟨ga 7 dK J J,
    ⟨gK J J,
    ⟨GP 37 0 45 8 46 9 J J J J (bz (y:=(⟨l,e1,parts⟩:ay)) bo FS dn (⟨_,_,_,_,_,J,Bl,J,(D J),⟨_,_,_,_,_,J,Bk,J,(D J),⟨_,_,_,_,_,J,Bj,J,(D J),J⟩⟩⟩)),
    aX⟩⟩⟩⟩⟩⟩⟩⟩⟩⟩⟩ ?_
   exact aR bo aa J<|cu<|cU<|aG 4 J<|aH<|so h▸bv J J ⟨bb bo J J J,aS J,aX⟩
 ·skip
  refine aW J<|cM kb J<|cb J<|cw h J (fun h=>?_) (fun h=>?_)
  ·refine cq h fun e2 q_e2 h=>cq h fun e3 q_e3 h=>cq h fun r q_r h=>?_
   refine gw 14 [tc (X ap n),tc (eE (al) parts),tc (bp al e2),tc (bp aE e2.Logic),tc (X aE e2.Logic),tc (eE (al) parts),tc (bp al e3),tc (bp aE e3.Logic),tc (X aE e3.Logic),tc (tT [X aE r.1,bX r.2]),tc (tT [X aE r.1,bX r.2]),tc (X aE r.1),tc (bX r.2),tc (qF)] [false,false,false,false,false,false,false,false,false,false,false,false,false,true] [fun _=>[bx aE 39 b1 th,bx al 87 b rW],fun sg=>[bx aE 39 b1 r.1,bx al 87 b rW]] J mixed J J J J J
    ⟨⟨[⟨2,fun _=>bp ap n,none⟩],_,0,0,J,⟨(fun _=>J),aX⟩,J,J,J,J,J,fun _ sg _ _=>ac J (lc dK J J)⟩,
    ⟨⟨[⟨1,fun _=>X vk parts,none⟩],_,0,0,J,⟨(fun _=>J),aX⟩,J,J,J,J,J,fun _ sg _ _=>ac J (jJ J)⟩,
    ⟨⟨[⟨14,fun _=>X vk parts,some 1⟩],_,0,0,J,⟨(fun _=>J),aX⟩,J,J,J,J,J,fun _ sg _ _=>ac J (bj kb bo J (D J) hI q_e2)⟩,
    ⟨⟨[⟨15,fun _=>bp al e2,some 2⟩],_,0,0,J,⟨(fun _=>J),aX⟩,J,J,J,J,J,fun _ sg _ _=>ac J (jK sy mJ J J)⟩,
    ⟨⟨[⟨16,fun _=>bp aE e2.Logic,some 3⟩],_,0,0,J,⟨(fun _=>J),aX⟩,J,J,J,J,J,fun _ sg _ _=>ac J (lc cV J J)⟩,
    ⟨⟨[⟨1,fun _=>X vk parts,none⟩],_,0,0,J,⟨(fun _=>J),aX⟩,J,J,J,J,J,fun _ sg _ _=>ac J (jJ J)⟩,
    ⟨⟨[⟨18,fun _=>X vk parts,some 5⟩],_,0,0,J,⟨(fun _=>J),aX⟩,J,J,J,J,J,fun _ sg _ _=>ac J (bj kb bo J (D J) hI q_e3)⟩,
    ⟨⟨[⟨19,fun _=>bp al e3,some 6⟩],_,0,0,J,⟨(fun _=>J),aX⟩,J,J,J,J,J,fun _ sg _ _=>ac J (jK sy mJ J J)⟩,
    ⟨⟨[⟨20,fun _=>bp aE e3.Logic,some 7⟩],_,0,0,J,⟨(fun _=>J),aX⟩,J,J,J,J,J,fun _ sg _ _=>ac J (lc cV J J)⟩,
    ⟨⟨[⟨13,fun _=>X ap n,some 0⟩,⟨17,fun _=>X aE e2.Logic,some 4⟩,⟨21,fun _=>X aE e3.Logic,some 8⟩],_,0,0,J,⟨(fun _=>J),(fun _=>J),(fun _=>J),aX⟩,J,J,J,J,J,fun _ sg _ _=>ac J (cg I2 (F6 _ _ _ q_r) ⟨(D J),(D J),(D J),aX⟩)⟩,
    ⟨⟨[⟨22,fun _=>tT [X aE r.1,X ce r.2],some 9⟩],_,0,0,J,⟨(fun _=>J),aX⟩,J,J,J,J,J,fun _ sg _ _=>ac J (jJ J)⟩,
    ⟨⟨[⟨12,fun _=>tT [X aE r.1,X ce r.2],some 10⟩],_,0,0,J,⟨(fun _=>J),aX⟩,J,J,J,J,J,fun _ sg _ _=>ac J (vc J J)⟩,
    ⟨⟨[⟨12,fun _=>tT [X aE r.1,X ce r.2],some 10⟩],_,0,1,J,⟨(fun _=>J),aX⟩,J,J,J,J,J,fun _ sg _ _=>ac J (vc J J)⟩,
    ⟨⟨[⟨6,fun _=>tV (aq b1 0),none⟩,⟨23,fun _=>X aE r.1,some 11⟩],_,J,⟨(fun _=>J),(fun _=>J),aX⟩,J,J,J,fun sg=>ck J (eQ cV J (lZ aa) J (D J) (D J))⟩,
    aX⟩⟩⟩⟩⟩⟩⟩⟩⟩⟩⟩⟩⟩⟩ (fun sg=>?_)
   refine(show RG _ _ _ _ [_,_] _ from ?_);refine f9 J<|bc<|bm ?_;exact bY (ae r.2 r.1 h) (bk J)
  ·refine cq h fun e4 q_e4 h=>cq h fun r1 q_r1 h=>?_
   refine gw 10 [tc (X ap n),tc (eE (al) parts),tc (bp al e4),tc (bp aE e4.Logic),tc (X aE e4.Logic),tc (tT [X aE r1.1,bX r1.2]),tc (tT [X aE r1.1,bX r1.2]),tc (X aE r1.1),tc (bX r1.2),tc (qF)] [false,false,false,false,false,false,false,false,false,true] [fun _=>[bx aE 39 b1 th,bx al 87 b rW],fun sg1=>[bx aE 39 b1 r1.1,bx al 87 b rW]] J mixed J J J J J
    ⟨⟨[⟨2,fun _=>bp ap n,none⟩],_,0,0,J,⟨(fun _=>J),aX⟩,J,J,J,J,J,fun _ sg1 _ _=>ac J (lc dK J J)⟩,
    ⟨⟨[⟨1,fun _=>X vk parts,none⟩],_,0,0,J,⟨(fun _=>J),aX⟩,J,J,J,J,J,fun _ sg1 _ _=>ac J (jJ J)⟩,
    ⟨⟨[⟨27,fun _=>X vk parts,some 1⟩],_,0,0,J,⟨(fun _=>J),aX⟩,J,J,J,J,J,fun _ sg1 _ _=>ac J (bj kb bo J (D J) hI q_e4)⟩,
    ⟨⟨[⟨28,fun _=>bp al e4,some 2⟩],_,0,0,J,⟨(fun _=>J),aX⟩,J,J,J,J,J,fun _ sg1 _ _=>ac J (jK sy mJ J J)⟩,
    ⟨⟨[⟨29,fun _=>bp aE e4.Logic,some 3⟩],_,0,0,J,⟨(fun _=>J),aX⟩,J,J,J,J,J,fun _ sg1 _ _=>ac J (lc cV J J)⟩,
    ⟨⟨[⟨26,fun _=>X ap n,some 0⟩,⟨30,fun _=>X aE e4.Logic,some 4⟩],_,0,0,J,⟨(fun _=>J),(fun _=>J),aX⟩,J,J,J,J,J,fun _ sg1 _ _=>ac J (cg I1 (F5 _ _ q_r1) ⟨(D J),(D J),aX⟩)⟩,
    ⟨⟨[⟨31,fun _=>tT [X aE r1.1,X ce r1.2],some 5⟩],_,0,0,J,⟨(fun _=>J),aX⟩,J,J,J,J,J,fun _ sg1 _ _=>ac J (jJ J)⟩,
    ⟨⟨[⟨25,fun _=>tT [X aE r1.1,X ce r1.2],some 6⟩],_,0,0,J,⟨(fun _=>J),aX⟩,J,J,J,J,J,fun _ sg1 _ _=>ac J (vc J J)⟩,
    ⟨⟨[⟨25,fun _=>tT [X aE r1.1,X ce r1.2],some 6⟩],_,0,1,J,⟨(fun _=>J),aX⟩,J,J,J,J,J,fun _ sg1 _ _=>ac J (vc J J)⟩,
    ⟨⟨[⟨6,fun _=>tV (aq b1 0),none⟩,⟨32,fun _=>X aE r1.1,some 7⟩],_,J,⟨(fun _=>J),(fun _=>J),aX⟩,J,J,J,fun sg1=>ck J (eQ cV J (lZ aa) J (D J) (D J))⟩,
    aX⟩⟩⟩⟩⟩⟩⟩⟩⟩⟩ (fun sg1=>?_)
   refine(show RG _ _ _ _ [_,_] _ from ?_);refine f9 J<|bc<|bm ?_;exact bY (ae r1.2 r1.1 h) (bk J)

def Fb{rec__:Option (List (Int×(ay->Bool->Option (ay×Int))))}(hr__: ∀{R:(List (Int×(ay->Bool->Option (ay×Int))))},rec__=some R->cj bf 65 [] (B5 (fun y:(ay->Bool->Option (ay×Int))=>xR bf A5 A6 (fun(x:ay×Bool)=>y x.1 x.2)) nR R)) t deep{R}(h:me rec__ t deep=some R):cj bf 40 [X al t,ec deep] (tT [X al R.1,bX R.2]):=by
 refine de Tryz.func40 J<|T<|cA J<|av bo dn J fun b=>cx<|bO<|aF<|aF<|cq h fun r q_r h=>?_
 refine eC (ts:=[_,_,_,_,_,_]) mixed J J
  ⟨Cd J (cg IZ (hr__ q_r) trivial),
  ⟨lV 2 J J (jK fd c9 J J),
  ⟨dg 8 1 J J (jK kP er J J),
  ⟨ga 2 bR J J,
  ⟨eI 7 0 10 3 J J J (yp (args:=(fun(x:ay×Bool)=>[X al x.1,X rB x.2])) (res:=(fun(x:ay×Int)=>tT [X al x.1,X ce x.2])) (F:=(fun y:(ay->Bool->Option (ay×Int))=>(fun(x:ay×Bool)=>y x.1 x.2))) Tryz.underlying118 (im mL) Io (D J) (qN (D J))),
  ⟨dg 11 4 J J (re J),
  aX⟩⟩⟩⟩⟩⟩ ?_
 refine au<|aW J<|K (Br ⟨_,_,_,Tryz.underlying93⟩ (D J))<|cw h J (fun h=>?_) (fun h=>?_)
 ·exact aW J<|bn bo J<|bg J<|cq h fun r1 q_r1 h=>K (Bt (args:=(fun(x:ay×Bool)=>[X al x.1,X rB x.2])) (res:=(fun(x:ay×Int)=>tT [X al x.1,X ce x.2])) (f:=(fun z=>((oL r t.root.Op)).bind fun y=>((fun(x:ay×Bool)=>y x.1 x.2)) z)) (x:=((t,deep):ay×Bool)) (hFo (D J)) q_r1 ⟨(D J),(D J),aX⟩)<|bM J J<|bM J J<|aR bo aa J<|bt J<|ak<|aG 4 J<|so h▸bv J J ⟨bb bo J J J,aS J,aX⟩
 ·exact gg<|T<|bn bo J<|aR bo aa J<|dh<|aG 4 J<|so h▸bv J J ⟨bb bo J J J,aS J,aX⟩

def Fc{rec__:Option (List (Int×(ay->Bool->Option (ay×Int))))}(hr__: ∀{R:(List (Int×(ay->Bool->Option (ay×Int))))},rec__=some R->cj bf 65 [] (B5 (fun y:(ay->Bool->Option (ay×Int))=>xR bf A5 A6 (fun(x:ay×Bool)=>y x.1 x.2)) nR R)) t{R}(h:mP rec__ t=some R):cj bf 38 [X al t] (tT [X al R.1,ec R.2]):=by
 refine de Tryz.func38 J<|T<|nO (D J) J fun b=>av bo dn J fun b1=>cu<|bO<|u8<|aF<|u9<|au<|aF<|am<|bP<|cr ?_;refine aN (AS (hg:=fun n t1 x=>l0 rec__ n t1 x=some R) (Of:=fun t1 x=>[bx al 87 b t1,bx al 87 b1 x]) (Gf:=fun t1 x=>[(1,tV (aq b 0)),(2,tV (aq b1 0))]) (fun t1 x h=>nn h) (fun n ih t1 x h=>?_) mG t rW h) (bk J);refine fN<|am<|T<|K (be bo J J bC (.head _) (D J))<|da h Hx (Fb hr__ _ _) (bQ J) fun r h=>bg J<|bM J J<|bM J J<|av bo dn J fun b2=>aR bo aa J<|aB 4 J<|aP J<|ba<|bg J<|bO<|am<|aF ?_;refine aC<|cb J<|aP J<|jH h J (fun h=>?_) (fun h=>?_)
 ·exact d8<|bA J<|ax<|bA J<|ax<|cE<|au<|T<|K (be bo J J bC (.head _) (D J))<|aU<|aR bo aa J<|cu<|cU<|mK<|aG 2 J<|aH<|so h▸bv J J ⟨bb bo J J J,aS J,aX⟩
 ·refine T<|cb J<|aP J<|jH h J (fun h=>?_) (fun h=>?_)
  ·exact T<|K (be bo J J bC (.head _) (D J))<|aU<|aR bo aa J<|cu<|cU<|cZ<|cZ<|cZ<|mK<|aG 2 J<|aH<|so h▸bv J J ⟨bb bo J J J,aS J,aX⟩
  ·refine bH<|aO<|au<|aC<|bn bo J<|aR bo aa J<|bc<|aO ?_;exact aY (aN (ih r.1 x h) (bk J))

def EI b{R}(h:t6 b=some R):cj bf 119 [ec b] (X cH R):=by
 refine de Tryz.func119 J<|T<|av jM gQ J fun b1=>bO<|T<|K (bz (y:=Cc) jM yD gQ (⟨_,_,_,_,_,J,mO,J,hI,J⟩))<|av jM gQ J fun b2=>aR jM aa J<|bO ?_;refine eT (hg:=fun v=>nT v=some R) (Of:=fun v=>[bx cH 61 b1 A8,bx cH 61 b2 v]) (Gf:=fun v=>[(2,tV (aq b1 0)),(3,tV (aq b2 0))]) (fun v h=>?_) (fun ae=>?_)
 ·skip
  exact T<|K (be jM J J bC (.tail _ (.head _)) (D J))<|aR jM aa J<|aB 2 J<|cU<|aH<|so h▸eD J jM J J J
 ·skip
  refine aW J<|cw h J (fun h=>?_) (fun h=>?_)
  ·refine aC<|bD 1 pL J<|cy DZ J oC J (D J) hI<|bc<|bm ?_;exact bY (ae (bT.mk Cc.Kind (1:Int) Cc.U Cc.S) h) (bk J)
  ·refine bH<|bm ?_;exact bY (ae Cc h) (bk J)

def AF l{R}(h:qU l=some R):cj bf 143 [eE (hf) l] (tT [bX R.1,bX R.2]):=by
 refine de Tryz.func143 J<|T<|cx<|cx<|bO<|T<|cx<|bO<|ba<|bg J<|cM gx J<|K (bS hI)<|bO<|am<|br (k:=8) J fun hN=>bP ?_;refine aN (gv (hg:=fun ls i n=>(l.drop i=ls)/\n8 ls n=some R) (Of:=fun _ i n=>[]) (Gf:=fun _ i n=>[(4,bX n),(8,eE (hf) l),(9,f6 l),(10,bX (i:Int))]) (fun i n h=>?_) (fun e tl ih i n h=>?_) l 0 (0:Int) ⟨J,h⟩) (bk J)
 ·obtain⟨I,h⟩:=h
  exact dt I J<|au<|aW J<|f9 J<|dh<|so h▸dE J J J
 ·obtain⟨I,h⟩:=h
  refine dr I J<|aF<|am<|T<|ej gx aL J (dm I)<|av aL bU J fun b=>aR aL aa J<|aB 6 J<|bO<|ba ?_;refine bn aL J<|da h BG (sA _) (bQ J) fun r h=>aP J<|aW J<|gk J<|cw h J (fun h=>?_) (fun h=>?_)
  ·exact aW J<|cx<|bt J<|ak<|cZ<|ak<|cZ<|so h▸dE J J J
  ·refine gg<|aC<|bg J<|bw bZ bL ee J<|cM hM J<|K (eh (D J) (D J))<|f9 J<|bc<|cP I hN J ?_;exact aY (aN (ih (i+1) (IntKind.i64.wrap (n+(e.Nodes.length:Int))) ⟨cI I,h⟩) (bk J))

def Gj(l:Option Nat)(c:Nat) out e{R}(h:wb out e=some R):df bf 156 [n9 l c out,X hf e] [tip ai 63 l c out] (fun i:OI=>tO ai (i.h 0).1 (i.h 0).2 R) (fun i=>[tip ai 63 (i.h 0).1 (i.h 0).2 R]):=by
 refine df.of Tryz.func156 J J J fun w0 S0=>Du 0 J<|T<|cA J<|bE false ai 63<|K (bF pl)<|bO<|aW J<|K (fc hM (i7 (D J)))<|aP J<|ba<|bw bZ bL ee J<|cM hM J<|K (bS hI)<|bc ?_;refine au<|am<|br (k:=11) J fun hN=>bP<|jD ?_;refine aN (kY (hg:=fun ls i out1 l1 c1=>(e.Nodes.drop i=ls)/\jz out ls out1=some R) (Of:=fun _ i out1 l1 c1=>[tip ai 63 l1 c1 out1]) (Gf:=fun _ i out1 l1 c1=>[(0,tO ai l1 c1 out1),(5,f6 out),(11,eE (ai) e.Nodes),(12,f6 e.Nodes),(13,bX (i:Int))]) (fun i out1 l1 c1 h=>?_) (fun e1 tl ih i out1 l1 c1 h=>?_) e.Nodes 0 out l c ⟨J,h⟩) (bk J)
 ·obtain⟨I,h⟩:=h
  exact dt I J<|au<|aW J<|bt J<|so h▸j9 J (oi l1 c1) J J (fun _ _ h=>h)
 ·obtain⟨I,h⟩:=h
  refine dr I J<|aF<|am<|T<|ej hM cO J (dm I)<|av cO dS J fun b=>aR cO aa J<|bO ?_;refine eT (hg:=fun n=>oV out (jz out tl) out1 n=some R) (Of:=fun n=>[tip ai 63 l1 c1 out1,bx ai 63 b n]) (Gf:=fun n=>[(0,tO ai l1 c1 out1),(5,f6 out),(7,tV (aq b 0)),(11,eE (ai) e.Nodes),(12,f6 e.Nodes),(13,bX (i:Int))]) (fun n h=>?_) (fun ae=>?_)
  ·skip
   refine eT (hg:=fun n1=>oU (jz out tl) out1 n1=some R) (Of:=fun n1=>[tip ai 63 l1 c1 out1,bx ai 63 b n1]) (Gf:=fun n1=>[(0,tO ai l1 c1 out1),(5,f6 out),(7,tV (aq b 0)),(11,eE (ai) e.Nodes),(12,f6 e.Nodes),(13,bX (i:Int))]) (fun n1 h=>?_) (fun K1=>?_)
   ·skip
    refine aC<|bg J<|K (be cO J J bC (.tail _ (.head _)) (D J))<|K (aQ (r:=ai) (ys:=[n1]) (xs:=[.tmp 34]) hM cO J J J J J ⟨(D J),aX⟩)<|cq h fun out2 q_out2 h=>dU cO J J J J hM J J (D J) (D J) q_out2 fun l2 c2=>f9 J<|bc<|cP I hN J<|bm<|aH ?_;exact aY (aN (ih (i+1) out2 l2 c2 ⟨cI I,h⟩) (bk J))
   ·skip
    refine T<|bD 2 gG J<|K (be bR J J ea (.tail _ (.head _)) (D J))<|K (dB (D J) hI)<|cw h J (fun h=>?_) (fun h=>?_)
    ·refine aC<|bD 2 gG J<|K (be bR J J ea (.tail _ (.head _)) (D J))<|bg J<|K (eh (D J) (D J))<|bD 2 gG J<|aU<|aR bR ke J<|bc<|bm ?_;exact bY (K1 (aj.mk n.Tag n.L (IntKind.i64.wrap (n.R+(out.length:Int))) n.Col n.Value) h) (bk J)
    ·refine bH ?_;exact bY (K1 n h) (bk J)
  ·skip
   refine T<|bD 1 gH J<|K (be bR J J eb (.head _) (D J))<|K (dB (D J) hI)<|cw h J (fun h=>?_) (fun h=>?_)
   ·refine aC<|bD 1 gH J<|K (be bR J J eb (.head _) (D J))<|bg J<|K (eh (D J) (D J))<|bD 1 gH J<|aR bR kf J<|bc<|bm ?_;exact bY (ae (aj.mk e1.Tag (IntKind.i64.wrap (e1.L+(out.length:Int))) e1.R e1.Col e1.Value) h) (bk J)
   ·refine bH<|bm ?_;exact bY (ae e1 h) (bk J)

def AE root l{R}(h:pN root l=some R):cj bf 144 [X ai root,eE (hf) l] (X hf R):=by
 refine de Tryz.func144 J<|T<|nO (D J) J fun b=>av aL bU J fun b1=>bO<|T<|bE false ai 63<|K (bF pl)<|bO<|T<|K (p5 (r:=ce) (ys:=[lM,lM]) (xs:=[.const (.int .i64 (-1)),.const (.int .i64 (-1))]) tL bR J rg J J ⟨hI,hI,aX⟩)<|av (r:=wC) (x:=(List.replicate 2 (0:Int))) rg (fun _=>rM (r:=ce) 2 (fun _=>J) _) J fun b2=>aR rg aa J<|bO<|ba<|bg J ?_;refine cM gx J<|K (bS hI)<|bO<|am<|br (k:=10) J fun hN=>bP<|cr<|BO<|Ds 5 J<|cr<|dp<|fO<|fO ?_;refine aN (j8 (hg:=fun ls i out l1 c at1=>(l.drop i=ls)/\m9 root ls i out at1=some R) (Of:=fun _ i out l1 c at1=>[tip ai 63 l1 c out,bx ai 63 b root,bx hf 27 b1 fQ,bx wC 116 b2 at1]) (Gf:=fun _ i out l1 c at1=>[(2,tV (aq b 0)),(4,tV (aq b1 0)),(5,tO ai l1 c out),(6,tV (aq b2 0)),(10,eE (hf) l),(11,f6 l),(12,bX (i:Int))]) (fun i out l1 c at1 h=>?_) (fun e tl ih i out l1 c at1 h=>?_) l 0 xJ none 0 ([lM,lM]) ⟨J,h⟩) (bk J)
 ·obtain⟨I,h⟩:=h
  refine dt I J<|au<|aF<|cq h fun e1 q_e1 h=>cq h fun e2 q_e2 h=>?_
  refine gw 6 [tc (tV (aq b2 ((0:Int).toNat*1))),tc (bX e1),tc (tV (aq b2 ((1:Int).toNat*1))),tc (bX e2),tc (tV (aq b 1)),tc (qF)] [false,false,false,false,false,true] [fun _=>[tip ai 63 l1 c out,bx ai 63 b root,bx hf 27 b1 fQ,bx wC 116 b2 at1],fun sg=>[bx ai 63 b ({root with L:=e1}:aj),tip ai 63 l1 c out,bx hf 27 b1 fQ,bx wC 116 b2 at1]] J mixed J J J J J
   ⟨⟨[⟨6,fun _=>tV (aq b2 0),none⟩],_,0,0,J,⟨(fun _=>J),aX⟩,J,J,J,J,J,qD (fun sg=>ac J (cm tL bR (.tail _ (.tail _ (.tail _ (.head _)))) (D J) hI q_e1))⟩,
   ⟨⟨[⟨26,fun _=>tV (aq b2 ((0:Int).toNat*1)),some 0⟩],_,0,0,J,⟨(fun _=>J),aX⟩,J,J,J,J,J,qD (fun sg=>ac J (uA bR J J (.tail _ (.tail _ (.tail _ (.head _)))) q_e1 (D J)))⟩,
   ⟨⟨[⟨6,fun _=>tV (aq b2 0),none⟩],_,0,1,J,⟨(fun _=>J),aX⟩,J,J,J,J,J,vn (fun sg=>ac J (cm tL bR (.tail _ (.tail _ (.tail _ (.head _)))) (D J) hI q_e2)) (qD (fun sg=>ac J (cm tL bR (.tail _ (.tail _ (.tail _ (.head _)))) (D J) hI q_e2)))⟩,
   ⟨⟨[⟨28,fun _=>tV (aq b2 ((1:Int).toNat*1)),some 2⟩],_,0,1,J,⟨(fun _=>J),aX⟩,J,J,J,J,J,vn (fun sg=>ac J (uA bR J J (.tail _ (.tail _ (.tail _ (.head _)))) q_e2 (D J))) (qD (fun sg=>ac J (uA bR J J (.tail _ (.tail _ (.tail _ (.head _)))) q_e2 (D J))))⟩,
   ⟨⟨[⟨2,fun _=>tV (aq b 0),none⟩],_,0,0,J,⟨(fun _=>J),aX⟩,J,J,J,J,J,fun _ sg _ _=>ac J (pr 1 gH J J J)⟩,
   ⟨⟨[⟨30,fun _=>tV (aq b 1),some 4⟩,⟨27,fun _=>X ce e1,some 1⟩],_,J,⟨(fun _=>J),(fun _=>J),aX⟩,J,J,J,fun sg=>ck J (EffOK.fr1 (eQ bR J (lZ kf) J (D J) (D J)))⟩,
   aX⟩⟩⟩⟩⟩⟩ (fun sg=>?_)
  refine(show RG _ _ _ _ [_,_,_,_] _ from ?_);exact bD 2 gG J<|aR bR ke J<|bO<|aW J<|K (be (x:=(aj.mk ({root with L:=e1}:aj).Tag ({root with L:=e1}:aj).L e2 ({root with L:=e1}:aj).Col ({root with L:=e1}:aj).Value)) cO J J bC (.head _) (D J))<|K (aQ (r:=ai) (ys:=[(aj.mk ({root with L:=e1}:aj).Tag ({root with L:=e1}:aj).L e2 ({root with L:=e1}:aj).Col ({root with L:=e1}:aj).Value)]) (xs:=[.tmp 33]) hM cO J J J J J ⟨(D J),aX⟩)<|aU<|cq h fun l2 q_l2 h=>dU cO J J J J hM J J (D J) (D J) q_l2 fun l3 c1=>K (bz (y:=(⟨l2⟩:af)) aL pg bU (⟨_,_,_,_,_,J,mI,J,(i7 (D J)),J⟩))<|cn<|aR aL aa J<|aB 4 J<|cU<|aH<|aH<|aH<|so h▸eD J aL J J J
 ·obtain⟨I,h⟩:=h
  refine dr I J<|aF<|am<|aW J<|ej gx aL J (dm I)<|av aL bU J fun b3=>f9 J<|aR aL aa J<|aB 8 J<|bO<|aF ?_;refine aC<|bg J<|bn aL J<|cq h fun r q_r h=>pS [tip ai 63 l1 c out] _ J HF (Gj l1 c _ _ q_r) ⟨(oz (D J)),(D J),aX⟩ J fun i1=>?_;refine(show RG _ _ _ _ [_,_,_,_] ((19,tO ai (i1.h 0).1 (i1.h 0).2 r)::_)from ?_);refine aP J<|aC<|bg J<|bg J<|K (fc hM (i7 (D J)))<|K (cY (D J) hI)<|cq h fun e3 q_e3 h=>K (cm tL bR (.tail _ (.tail _ (.tail _ (.head _)))) (D J) (D J) q_e3)<|cT<|cq h fun ar q_ar h=>BK bR J q_e3 (so q_ar) (D J) (D J)<|bc<|cP I hN J<|bq<|bq<|bq ?_;exact aY (aN (ih (i+1) r (i1.h 0).1 (i1.h 0).2 ar ⟨cI I,h⟩) (bk J))

end Go.Proofs.YtbmmihfagmchaaaGreat

