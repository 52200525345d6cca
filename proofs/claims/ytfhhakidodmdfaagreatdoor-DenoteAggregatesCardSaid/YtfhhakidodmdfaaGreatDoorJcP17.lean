/- di of this claim: P17. -/
import Derived.Test.YtfhhakidodmdfaaGreatDoorJcT
import Derived.Test.YtfhhakidodmdfaaGreatDoorJcP16
set_option linter.all false
namespace Go.Proofs.YtfhhakidodmdfaaGreatDoor
open Go
set_option maxRecDepth 100000

theorem yf(n:Int){R:ac}(h:jQ n=some R):aR aU 78 [bM n] (tD af R):=by
 refine aR.of Tryz.func78 J J J fun w0 S0=>av<|aP (r:=af) (x:=d3) au (fun _=>aJ _) J fun b=>aq<|av<|aE J<|zo J (bB (y:=(⟨(2:Int),n,(0:Int),[]⟩:ac)) au gW aJ (⟨_,_,_,_,_,J,jV,J,hI,⟨_,_,_,_,_,J,lL,J,(ht J),J⟩⟩))<|am au J ai J (ht J) (ht J)<|aY 2 J<|aq<|aj ?_;cases so h;exact eP J au J J J

theorem I4(v:ac){R:Bool}(h:n7 v=some R):aR aU 143 [tD af v] (hJ R):=by
 refine aR.of Tryz.func143 J J J fun w0 S0=>av<|zo J (gi J)<|zo J (jU)<|aq<|av<|zo J (bh au J J)<|bo h fun r q_r h=>zo J (ap Cz (rm _ q_r) ⟨(ht J),aL⟩)<|aE J<|co J J (fun hg=>bX cz br J J)<|co J J (fun hg=>bj cg J J (bm J hg))<|co J J (fun hg=>cd (bm J hg) hI)<|co J J (fun hg=>bJ (bm J hg))<|fg J J J J (fun hg=>bX cz br J J)<|fg J J J J (fun hg=>bj cg J J (bm J hg))<|fg J J J J (fun hg=>cd (bm J hg) hI)<|co J J (fun hg=>pT (bm J hg) (fun hb=>(bm J (qD hg (qo hb)))))<|zo J (pH J J)<|bg J<|aQ ?_;refine ax<|aj ?_;cases so h;exact aH J J

theorem DZ(n:Int)(u:Int){R:cu}(h:qm n u=some R):aR aU 147 [bM n,tD ni u] (tD bU R):=by
 refine aR.of Tryz.func147 J J J fun w0 S0=>av<|aP (r:=bU) (x:=qQ) fS (fun _=>sD _) J fun b=>aq<|av<|aP (r:=bU) (x:=qQ) fS (fun _=>sD _) J fun b1=>aq<|av<|aE J<|zo J (mQ vh uW (ht J))<|aE J<|bg J<|bg J<|aq ?_;refine vV (Z:=fun high low b2=>mE high low b2=some R) (Of:=fun high low b2=>[bx bU 187 b qQ,bx bU 187 b1 b2]) (Gf:=fun high low b2=>[(4,tV (aS b 0)),(5,tV (aS b1 0)),(6,tD ni high),(7,tD ni low)]) (fun high low b2 h=>?_) (fun K=>?_)
 ·skip
  refine av<|aE J<|zo J (Ch (ht J) hI (by decide))<|aE J<|zo J (sE (ht J) hI (by decide))<|aE J<|zo J (Ch (ht J) hI (by decide))<|aE J<|zo J (sE (ht J) hI (by decide))<|zo J (je 0 ge J J J)<|zo J (fO (n:=8) (off:=0) pi fU (ht J) hI (by decide))<|nd (EffOK.fr1 (om (q:=ni) (off:=0+(0:Int).toNat*1) (y0:=((low).tmod (4294967296:Int))) fU J (rR (off:=0) (mi jq eM J J) (rQ (by decide)) (oS qg) (oH (by decide)) J) (uN (d:=0) (sz:=1) (n:=8) (by decide) J) (ht J) (ht J))) fun _=>?_;refine(show RG _ _ _ _ [bx bU 187 b1 ({b2 with D:=(b2.D.set (0:Int).toNat ((low).tmod (4294967296:Int)))}:cu),bx bU 187 b qQ] _ from ?_);refine zo J (je 0 ge J J J)<|zo J (fO (n:=8) (off:=0) pi fU (ht J) hI (by decide))<|nd (om (q:=ni) (off:=0+(1:Int).toNat*1) (y0:=((low).fdiv AQ)) fU J (rR (off:=0) (mi jq eM J J) (rQ (by decide)) (oS qg) (oH (by decide)) J) (uN (d:=0) (sz:=1) (n:=8) (by decide) J) (ht J) (ht J)) fun _=>?_;refine(show RG _ _ _ _ [bx bU 187 b1 ({({b2 with D:=(b2.D.set (0:Int).toNat ((low).tmod (4294967296:Int)))}:cu)with D:=((({b2 with D:=(b2.D.set (0:Int).toNat ((low).tmod (4294967296:Int)))}:cu).D).set (1:Int).toNat ((low).fdiv AQ))}:cu),bx bU 187 b qQ] _ from ?_);refine zo J (je 0 ge J J J)<|zo J (fO (n:=8) (off:=0) pi fU (ht J) hI (by decide))<|nd (om (q:=ni) (off:=0+(2:Int).toNat*1) (y0:=((high).tmod (4294967296:Int))) fU J (rR (off:=0) (mi jq eM J J) (rQ (by decide)) (oS qg) (oH (by decide)) J) (uN (d:=0) (sz:=1) (n:=8) (by decide) J) (ht J) (ht J)) fun _=>?_;refine(show RG _ _ _ _ [bx bU 187 b1 ({({({b2 with D:=(b2.D.set (0:Int).toNat ((low).tmod (4294967296:Int)))}:cu)with D:=((({b2 with D:=(b2.D.set (0:Int).toNat ((low).tmod (4294967296:Int)))}:cu).D).set (1:Int).toNat ((low).fdiv AQ))}:cu)with D:=((({({b2 with D:=(b2.D.set (0:Int).toNat ((low).tmod (4294967296:Int)))}:cu)with D:=((({b2 with D:=(b2.D.set (0:Int).toNat ((low).tmod (4294967296:Int)))}:cu).D).set (1:Int).toNat ((low).fdiv AQ))}:cu).D).set (2:Int).toNat ((high).tmod (4294967296:Int)))}:cu),bx bU 187 b qQ] _ from ?_);refine zo J (je 0 ge J J J)<|zo J (fO (n:=8) (off:=0) pi fU (ht J) hI (by decide))<|nd (om (q:=ni) (off:=0+(3:Int).toNat*1) (y0:=((high).fdiv AQ)) fU J (rR (off:=0) (mi jq eM J J) (rQ (by decide)) (oS qg) (oH (by decide)) J) (uN (d:=0) (sz:=1) (n:=8) (by decide) J) (ht J) (ht J)) fun _=>?_;refine(show RG _ _ _ _ [bx bU 187 b1 ({({({({b2 with D:=(b2.D.set (0:Int).toNat ((low).tmod (4294967296:Int)))}:cu)with D:=((({b2 with D:=(b2.D.set (0:Int).toNat ((low).tmod (4294967296:Int)))}:cu).D).set (1:Int).toNat ((low).fdiv AQ))}:cu)with D:=((({({b2 with D:=(b2.D.set (0:Int).toNat ((low).tmod (4294967296:Int)))}:cu)with D:=((({b2 with D:=(b2.D.set (0:Int).toNat ((low).tmod (4294967296:Int)))}:cu).D).set (1:Int).toNat ((low).fdiv AQ))}:cu).D).set (2:Int).toNat ((high).tmod (4294967296:Int)))}:cu)with D:=((({({({b2 with D:=(b2.D.set (0:Int).toNat ((low).tmod (4294967296:Int)))}:cu)with D:=((({b2 with D:=(b2.D.set (0:Int).toNat ((low).tmod (4294967296:Int)))}:cu).D).set (1:Int).toNat ((low).fdiv AQ))}:cu)with D:=((({({b2 with D:=(b2.D.set (0:Int).toNat ((low).tmod (4294967296:Int)))}:cu)with D:=((({b2 with D:=(b2.D.set (0:Int).toNat ((low).tmod (4294967296:Int)))}:cu).D).set (1:Int).toNat ((low).fdiv AQ))}:cu).D).set (2:Int).toNat ((high).tmod (4294967296:Int)))}:cu).D).set (3:Int).toNat ((high).fdiv AQ))}:cu),bx bU 187 b qQ] _ from ?_);refine aq<|av<|zo J (bE fS J J bw (.head _) (ht J))<|bq<|am fS J ai J (ht J) (ht J)<|aY 4 J<|aq<|aj<|aZ ?_;cases so h;exact eP J fS J J J
 ·skip
  refine av<|aE J<|zo J (dJ (ht J) hI)<|aq<|ce h J (fun h=>?_) (fun h=>?_)
  ·refine av<|zo J (je 8 lD J J J)<|am yy J vq J (ht J) hB<|aq<|av<|aE J<|zo J (Iv (ht J))<|aE J<|zo J (Iv (ht J))<|bg J<|bg J<|aq<|av<|aE J<|zo J (fV (ht J) hI)<|bg J<|aq<|ah ?_;refine aA<|aE J<|zo J (hM J)<|aq<|ce h J (fun h=>?_) (fun h=>?_)
   ·refine aA<|aE J<|zo J (fV (ht J) hI)<|bg J<|aQ<|bI ?_;exact ci (K (IntKind.u64.wrap ((ea .xor .u64 (if IntKind.u64.signed then -1 else IntKind.u64.max) (IntKind.u64.wrap n))+(1:Int))) (IntKind.u64.wrap ((ea .xor .u64 (if IntKind.u64.signed then -1 else IntKind.u64.max) u)+(1:Int))) (cu.mk qQ.D true) h) (bD J)
   ·refine bA<|bI ?_;exact ci (K (ea .xor .u64 (if IntKind.u64.signed then -1 else IntKind.u64.max) (IntKind.u64.wrap n)) (IntKind.u64.wrap ((ea .xor .u64 (if IntKind.u64.signed then -1 else IntKind.u64.max) u)+(1:Int))) (cu.mk qQ.D true) h) (bD J)
  ·refine bA<|bI ?_;exact ci (K (IntKind.u64.wrap n) u qQ h) (bD J)

theorem rG(n:Int){R:cu}(h:fN n=some R):aR aU 145 [bM n] (tD bU R):=by
 refine aR.of Tryz.func145 J J J fun w0 S0=>av<|aP (r:=bU) (x:=qQ) fS (fun _=>sD _) J fun b=>aq<|ah<|av<|aE J<|zo J (dJ (ht J) hI)<|aq<|ce h J (fun h=>?_) (fun h=>?_)
 ·refine av<|aE J<|zo J (mQ vh uW (ht J))<|bo h fun r q_r h=>zo J (ap Pp (DZ _ _ q_r) ⟨hI,(ht J),aL⟩)<|am fS J ai J (ht J) (ht J)<|aq<|aj<|ae<|aF 2 J ?_;cases so h;exact eP J fS J J J
 ·refine df<|av<|aE J<|zo J (mQ vh uW (ht J))<|bo h fun r1 q_r1 h=>zo J (ap Pp (DZ _ _ q_r1) ⟨hI,(ht J),aL⟩)<|am fS J ai J (ht J) (ht J)<|aq<|aj<|aF 2 J ?_;cases so h;exact eP J fS J J J

theorem Vs(a1:cu)(b:cu){R:Bool}(h:qY a1 b=some R):aR aU 227 [tD bU a1,tD bU b] (hJ R):=by
 refine aR.of Tryz.func227 J J J fun w0 S0=>av<|zo J (gi J)<|zo J (gi J)<|zo J (jU)<|aq<|ah<|av<|zo J (bW)<|aq<|aC<|bQ ?_;refine ba (D4 (Z:=fun n i=>kE a1 b n i=some R) (Of:=fun i=>[]) (Gf:=fun i=>[(2,bN bU a1),(3,bN bU b),(5,bM i)]) (fun i h=>nn h) (fun n ih i h=>?_) ir (7:Int) h) (bD J);refine aG<|ah<|av<|aE J<|zo J (gh (ht J) hI)<|aq<|ce h J (fun h=>?_) (fun h=>?_)
 ·refine df<|ah<|aC<|ah<|bo h fun e q_e h=>bo h fun e1 q_e1 h=>?_
  refine cD (ts:=[_,_,_,_,_,_,_,_,_]) mixed J J
   ⟨dB 5 J J J (cX J),
   ⟨dB 2 J J J (bX ge eM J J),
   ⟨cK 11 1 10 0 J J J J (ek pi fU J (ht J) (ht J) q_e),
   ⟨bT 12 2 J J J (bh fU J J),
   ⟨dB 5 J J J (cX J),
   ⟨dB 3 J J J (bX ge eM J J),
   ⟨cK 15 5 14 4 J J J J (ek pi fU J (ht J) (ht J) q_e1),
   ⟨bT 16 6 J J J (bh fU J J),
   ⟨cK 13 3 17 7 J J J J (c9 (ht J) (ht J)),
   aL⟩⟩⟩⟩⟩⟩⟩⟩⟩ ?_
  refine ax<|ce h rfl (fun h=>?_) (fun h=>?_)
  ·refine ah ?_
   refine cD (ts:=[_,_,_,_,_,_,_,_,_,_]) mixed J J
    ⟨dB 5 J J J (cX J),
    ⟨dB 2 J J J (bX ge eM J J),
    ⟨cK 20 1 19 0 J J J J (ek pi fU J (ht J) (ht J) q_e),
    ⟨bT 21 2 J J J (bh fU J J),
    ⟨dB 5 J J J (cX J),
    ⟨dB 3 J J J (bX ge eM J J),
    ⟨cK 24 5 23 4 J J J J (ek pi fU J (ht J) (ht J) q_e1),
    ⟨bT 25 6 J J J (bh fU J J),
    ⟨cK 22 3 26 7 J J J J (fY J J),
    ⟨bT 27 8 J J J (rN J),
    aL⟩⟩⟩⟩⟩⟩⟩⟩⟩⟩ ?_
   refine ax<|aj ?_;refine aB (ae (ae (aB (ae ?_))));cases so h;exact aH J J
  ·refine bA<|aw<|ax<|aA<|aE rfl<|zo rfl (ft (ht rfl) hI)<|bg rfl<|aQ ?_;exact bn (ba (ih (IntKind.i64.wrap (i-(1:Int))) h) (bD J))
 ·refine bG ?_;refine ak (ak (aV ?_));refine ax<|av<|zo rfl (jU)<|aq<|aj ?_;cases so h;exact aH J J

theorem I0(a1:cu){R:Bool}(h:qX a1=some R):aR aU 228 [tD bU a1] (hJ R):=by
 refine aR.of Tryz.func228 J J J fun w0 S0=>av<|zo J (gi J)<|zo J (jU)<|aq<|av<|zo J (bX ge eM J J)<|zo J (bh Re J J)<|zo J (ET (r:=ni) (x:=PJ) pi fU J Re (fun _=>BL (r:=ni) 8 (fun _=>J) _) J)<|zo J (pc aaw (ht J) (ht J))<|bg J<|aq<|aj ?_;cases so h;exact aH J J

theorem I3(a1:cu)(b:cu){R:cu}(h:lN a1 b=some R):aR aU 146 [tD bU a1,tD bU b] (tD bU R):=by
 refine aR.of Tryz.func146 J J J fun w0 S0=>av<|s6 (ht J) J fun b1=>s6 (ht J) J fun b2=>aP (r:=bU) (x:=qQ) fS (fun _=>sD _) J fun b3=>aq ?_;refine HE (Z:=fun a2 b4=>gZ a2 b4=some R) (Of:=fun a2 b4=>[bx bU 187 b1 a2,bx bU 187 b2 b4,bx bU 187 b3 qQ]) (Gf:=fun a2 b4=>[(2,tV (aS b1 0)),(3,tV (aS b2 0)),(4,tV (aS b3 0))]) (fun a2 b4 h=>?_) (fun K=>?_)
 ·skip
  refine av<|zo J (je 8 lD J J J)<|zo J (bE yy J J mj (.head _) (ht J))<|zo J (bB (y:=(⟨PJ,a2.Below⟩:cu)) fS W0 sD (⟨_,_,_,_,_,J,vq,J,(ht J),J⟩))<|aP (r:=bU) (x:=qQ) fS (fun _=>sD _) J fun b5=>am fS J ai J (ht J) (ht J)<|aq<|av<|zo J (bW)<|aq<|ah<|av<|zo J (bJ hI)<|aq<|aC<|bQ<|mw<|mw ?_;refine mw ?_;refine ba (BS (Z:=fun k i carry out=>(8-i=k)∧gw a2 b4 k i carry out=some R) (Of:=fun _ i carry out=>[bx bU 187 b1 a2,bx bU 187 b2 b4,bx bU 187 b3 qQ,bx bU 187 b5 out]) (Gf:=fun _ i carry out=>[(2,tV (aS b1 0)),(3,tV (aS b2 0)),(4,tV (aS b3 0)),(5,tV (aS b5 0)),(6,tD ni carry),(25,bM (i:Int))]) (fun i carry out h=>?_) (fun k1 ih i carry out h=>?_) 8 0 (0:Int) (⟨PJ,a2.Below⟩:cu) ⟨J,h⟩) (bD J)
  ·obtain⟨hx,h⟩:=h
   refine aG<|av<|zo J (dJ (ht J) hI)<|aq<|ah<|bL (ht J) (Qg hx)<|bG ?_;refine ak (ak (aV ?_));refine ax<|av<|zo rfl (je 8 lD rfl rfl rfl)<|zo rfl (bE yy rfl rfl mj (.tail _ (.tail _ (.tail _ (.head _)))) (ht rfl))<|aE rfl<|bo h fun t q_t h=>co J J (fun hg=>bE fS J J bw (.tail _ (.tail _ (.tail _ (.head _)))) (ht J)) ?_
   obtain⟨r,h1t,h0t⟩:=og q_t
   have q_rg:=fun hb=>(h1t hb).1
   refine co J J (fun hg=>ap S3 (I0 _ (q_rg hg)) ⟨(bm J hg),aL⟩)<|co J J (fun hg=>cx (bm J hg))<|zo J (cH (ht J) (fun hb=>(bm J hb)) (fun hb=>(h1t hb).2) h0t)<|zo J (je 8 lD J J J)<|oM<|am yy J vq J (ht J) (ht J)<|aq<|av<|zo J (bE fS J J bw (.head _) (ht J))<|oM<|am fS J ai J (ht J) (ht J)<|aY 4 J<|aq<|aj<|aZ<|aZ<|aZ ?_;cases so h;exact eP J fS J J J
  ·obtain⟨hx,h⟩:=h
   refine aG<|av<|zo J (dJ (ht J) hI)<|aq<|ah<|bK (ht J) (Qf hx)<|df<|ah<|aC<|av<|aE J<|bg J<|aq<|av<|zo J (je 8 lD J J J)<|zo J (bE yy J J mj (.head _) (ht J))<|zo J (je 8 lD J J J)<|zo J (bE yy J J mj (.tail _ (.head _)) (ht J)) ?_;refine zo J (Iu CX (ht J) (ht J))<|aq<|ce h J (fun h=>?_) (fun h=>?_)
   ·refine ah<|bo h fun u q_u h=>bo h fun e1 q_e1 h=>bo h fun u1 q_u1 h=>bo h fun e2 q_e2 h=>?_
    refine cD (ts:=[_,_,_,_,_,_,_,_,_,_,_,_]) mixed J J
     ⟨dB 7 J J J (cX J),
     ⟨dB 2 J J J (je 0 ge J J J),
     ⟨cK 34 1 33 0 J J J J (fO (n:=8) (off:=0) pi fU (ht J) (ht J) (g9 q_u)),
     ⟨bT 35 2 J J J (xW (q:=ni) (off:=0+(i:Int).toNat*1) fU J J (.head _) (yd (mi jq eM J J) q_e1) (ht J)),
     ⟨dB 7 J J J (cX J),
     ⟨dB 3 J J J (je 0 ge J J J),
     ⟨cK 38 5 37 4 J J J J (fO (n:=8) (off:=0) pi fU (ht J) (ht J) (g9 q_u1)),
     ⟨bT 39 6 J J J (xW (q:=ni) (off:=0+(i:Int).toNat*1) fU J J (.tail _ (.head _)) (yd (mi jq eM J J) q_e2) (ht J)),
     ⟨cK 36 3 40 7 J J J J (fV (ht J) (ht J)),
     ⟨dB 6 J J J (cX J),
     ⟨cK 41 8 42 9 J J J J (fV (ht J) (ht J)),
     ⟨bT 43 10 J J J (rN J),
     aL⟩⟩⟩⟩⟩⟩⟩⟩⟩⟩⟩⟩ ?_
    refine ax<|aA<|aE rfl<|aE rfl<|zo rfl (Ch (ht rfl) hI (by decide))<|aE rfl<|zo rfl (sE (ht rfl) hI (by decide))<|zo rfl (je 0 ge rfl rfl rfl)<|bo h fun u2 q_u2 h=>zo J (fO (n:=8) (off:=0) pi fU (ht J) (ht J) (g9 q_u2))<|nd (EffOK.fr3 (om (q:=ni) (off:=0+(i:Int).toNat*1) (y0:=(((IntKind.u64.wrap ((IntKind.u64.wrap (e1+e2))+carry))).tmod (4294967296:Int))) fU J (rR (off:=0) (mi jq eM J J) (rQ (g9 q_u2)) (oS qg) (oH (g9 q_u2)) J) (uN (d:=0) (sz:=1) (n:=8) (g9 q_u2) J) (ht J) (ht J))) fun _=>?_;refine(show RG _ _ _ _ [bx bU 187 b5 ({out with D:=(out.D.set (i:Int).toNat (((IntKind.u64.wrap ((IntKind.u64.wrap (e1+e2))+carry))).tmod (4294967296:Int)))}:cu),bx bU 187 b1 a2,bx bU 187 b2 b4,bx bU 187 b3 qQ] _ from ?_);refine bg J<|aQ<|aw<|ax<|aA<|zo rfl (rF (Iz hx (by decide)) (ht rfl) hI)<|aE rfl<|aQ<|cy<|cy<|cy ?_;exact bn (ba (ih (i+1) (((IntKind.u64.wrap ((IntKind.u64.wrap (e1+e2))+carry))).fdiv AQ) ({out with D:=(out.D.set (i:Int).toNat (((IntKind.u64.wrap ((IntKind.u64.wrap (e1+e2))+carry))).tmod (4294967296:Int)))}:cu) ⟨Iy hx,h⟩) (bD J))
   ·refine ah<|bo h fun u3 q_u3 h=>bo h fun e3 q_e3 h=>bo h fun u4 q_u4 h=>bo h fun e4 q_e4 h=>?_
    refine cD (ts:=[_,_,_,_,_,_,_,_,_,_,_,_,_]) mixed J J
     ⟨dB 7 J J J (cX J),
     ⟨dB 2 J J J (je 0 ge J J J),
     ⟨cK 52 1 51 0 J J J J (fO (n:=8) (off:=0) pi fU (ht J) (ht J) (g9 q_u3)),
     ⟨bT 53 2 J J J (xW (q:=ni) (off:=0+(i:Int).toNat*1) fU J J (.head _) (yd (mi jq eM J J) q_e3) (ht J)),
     ⟨bT 54 3 J J J (fV (ht J) hI),
     ⟨dB 7 J J J (cX J),
     ⟨dB 3 J J J (je 0 ge J J J),
     ⟨cK 57 6 56 5 J J J J (fO (n:=8) (off:=0) pi fU (ht J) (ht J) (g9 q_u4)),
     ⟨bT 58 7 J J J (xW (q:=ni) (off:=0+(i:Int).toNat*1) fU J J (.tail _ (.head _)) (yd (mi jq eM J J) q_e4) (ht J)),
     ⟨cK 55 4 59 8 J J J J (ft (ht J) (ht J)),
     ⟨dB 6 J J J (cX J),
     ⟨cK 60 9 61 10 J J J J (ft (ht J) (ht J)),
     ⟨bT 62 11 J J J (rN J),
     aL⟩⟩⟩⟩⟩⟩⟩⟩⟩⟩⟩⟩⟩ ?_
    refine ax<|aA<|aE rfl<|aE rfl<|zo rfl (Ch (ht rfl) hI (by decide))<|aE rfl<|zo rfl (sE (ht rfl) hI (by decide))<|zo rfl (ft hI (ht rfl))<|zo rfl (je 0 ge rfl rfl rfl)<|bo h fun u5 q_u5 h=>zo J (fO (n:=8) (off:=0) pi fU (ht J) (ht J) (g9 q_u5))<|nd (EffOK.fr3 (om (q:=ni) (off:=0+(i:Int).toNat*1) (y0:=(((IntKind.u64.wrap ((IntKind.u64.wrap ((IntKind.u64.wrap (e3+(4294967296:Int)))-e4))-carry))).tmod (4294967296:Int))) fU J (rR (off:=0) (mi jq eM J J) (rQ (g9 q_u5)) (oS qg) (oH (g9 q_u5)) J) (uN (d:=0) (sz:=1) (n:=8) (g9 q_u5) J) (ht J) (ht J))) fun _=>?_;refine(show RG _ _ _ _ [bx bU 187 b5 ({out with D:=(out.D.set (i:Int).toNat (((IntKind.u64.wrap ((IntKind.u64.wrap ((IntKind.u64.wrap (e3+(4294967296:Int)))-e4))-carry))).tmod (4294967296:Int)))}:cu),bx bU 187 b1 a2,bx bU 187 b2 b4,bx bU 187 b3 qQ] _ from ?_);refine bg J<|aQ<|aw<|ax<|aA<|zo rfl (rF (Iz hx (by decide)) (ht rfl) hI)<|aE rfl<|aQ<|cy<|cy<|cy ?_;exact bn (ba (ih (i+1) (IntKind.u64.wrap ((1:Int)-(((IntKind.u64.wrap ((IntKind.u64.wrap ((IntKind.u64.wrap (e3+(4294967296:Int)))-e4))-carry))).fdiv AQ))) ({out with D:=(out.D.set (i:Int).toNat (((IntKind.u64.wrap ((IntKind.u64.wrap ((IntKind.u64.wrap (e3+(4294967296:Int)))-e4))-carry))).tmod (4294967296:Int)))}:cu) ⟨Iy hx,h⟩) (bD J))
 ·skip
  refine av<|zo J (je 8 lD J J J)<|zo J (bE yy J J mj (.tail _ (.tail _ (.head _))) (ht J))<|zo J (je 8 lD J J J)<|zo J (bE yy J J mj (.tail _ (.head _)) (ht J))<|zo J (Bc CX (ht J) (ht J))<|aE J<|bo h fun t1 q_t1 h=>co J J (fun hg=>bE fS J J bw (.tail _ (.tail _ (.head _))) (ht J))<|co J J (fun hg=>bE fS J J bw (.tail _ (.head _)) (ht J)) ?_
  obtain⟨r1,h1t1,h0t1⟩:=og q_t1
  have q_r1g:=fun hb=>(h1t1 hb).1
  refine co J J (fun hg=>ap aby (Vs _ _ (q_r1g hg)) ⟨(bm J hg),(bm J hg),aL⟩)<|zo J (cH (ht J) (fun hb=>(bm J hb)) (fun hb=>(h1t1 hb).2) h0t1)<|aq<|ce h J (fun h=>?_) (fun h=>?_)
  ·refine aA<|zo J (bE fS J J bw (.tail _ (.head _)) (ht J))<|zo J (bE fS J J bw (.tail _ (.tail _ (.head _))) (ht J))<|gj<|am fS J ai J (ht J) (ht J)<|gj<|am fS J ai J (ht J) (ht J)<|aQ<|aM<|bI<|aM ?_;exact ci (K b a1 h) (bD J)
  ·refine bA<|bI<|aM ?_;exact ci (K a1 b h) (bD J)

theorem OY(a1:cu){R:Int×Int×Bool}(h:tN a1=some R):aR aU 226 [tD bU a1] (tT [bM R.1,tD ni R.2.1,hJ R.2.2]):=by
 refine aR.of Tryz.func226 J J J fun w0 S0=>av<|zo J (gi J)<|zo J (bW)<|zo J (bW)<|zo J (jU)<|aq<|ah<|bo h fun e q_e h=>bo h fun e1 q_e1 h=>bo h fun e2 q_e2 h=>bo h fun e3 q_e3 h=>?_
 refine cD (ts:=[_,_,_,_,_,_,_,_,_,_,_,_,_,_,_,_,_,_]) mixed J J
  ⟨dB 1 J J J (bX ge eM J J),
  ⟨bT 8 0 J J J (ek pi fU J (ht J) hI q_e),
  ⟨bT 9 1 J J J (bh fU J J),
  ⟨bT 10 2 J J J (Io (ht J) hI (by decide)),
  ⟨dB 1 J J J (bX ge eM J J),
  ⟨bT 12 4 J J J (ek pi fU J (ht J) hI q_e1),
  ⟨bT 13 5 J J J (bh fU J J),
  ⟨cK 11 3 14 6 J J J J (fV (ht J) (ht J)),
  ⟨dB 1 J J J (bX ge eM J J),
  ⟨bT 16 8 J J J (ek pi fU J (ht J) hI q_e2),
  ⟨bT 17 9 J J J (bh fU J J),
  ⟨bT 18 10 J J J (Io (ht J) hI (by decide)),
  ⟨dB 1 J J J (bX ge eM J J),
  ⟨bT 20 12 J J J (ek pi fU J (ht J) hI q_e3),
  ⟨bT 21 13 J J J (bh fU J J),
  ⟨cK 19 11 22 14 J J J J (fV (ht J) (ht J)),
  ⟨bT 15 7 J J J (rN J),
  ⟨bT 23 15 J J J (rN J),
  aL⟩⟩⟩⟩⟩⟩⟩⟩⟩⟩⟩⟩⟩⟩⟩⟩⟩⟩ ?_
 refine ax<|ah<|av<|zo rfl (bW)<|aq<|aC<|bQ ?_;refine ba (PA (Z:=fun k i=>(8-i=k)∧fa a1 e e1 e2 e3 k i=some R) (Of:=fun _ i=>[]) (Gf:=fun _ i=>[(1,bN bU a1),(5,tD ni (IntKind.u64.wrap ((IntKind.u64.wrap (e*2^zZ))+e1))),(6,tD ni (IntKind.u64.wrap ((IntKind.u64.wrap (e2*2^zZ))+e3))),(7,bM (i:Int))]) (fun i h=>?_) (fun k1 ih i h=>?_) (8-4) 4 ⟨J,h⟩) (bD J)
 ·obtain⟨hx,h⟩:=h
  refine aG<|ah<|av<|aE J<|zo J (dJ (ht J) hI)<|aq<|bL (ht J) (Qg hx)<|bG ?_;refine ak (ak (aV ?_));refine ax ?_;refine HE (Z:=fun high low=>kF a1 high low=some R) (Of:=fun high low=>[]) (Gf:=fun high low=>[(1,bN bU a1),(5,tD ni high),(6,tD ni low)]) (fun high low h=>?_) (fun K=>?_)
  ·skip
   refine ah ?_
   refine cD (ts:=[_,_,_,_,_,_,_,_,_,_,_,_]) mixed J J
    ⟨dB 5 J J J (cX J),
    ⟨bT 45 0 J J J (mQ uW vh (ht J)),
    ⟨dB 6 J J J (cX J),
    ⟨dB 5 J J J (cX J),
    ⟨bT 48 3 J J J (mQ uW vh (ht J)),
    ⟨bT 49 4 J J J (dJ (ht J) hI),
    ⟨dB 1 J J J (bX lD mj J J),
    ⟨bT 51 6 J J J (bh yy J J),
    ⟨cK 50 5 52 7 J J J J (Iu CX (ht J) (ht J)),
    ⟨bT 46 1 J J J (rN J),
    ⟨bT 47 2 J J J (rN J),
    ⟨bT 53 8 J J J (rN J),
    aL⟩⟩⟩⟩⟩⟩⟩⟩⟩⟩⟩⟩ ?_
   refine ax<|aj ?_;cases so h;exact PH J J J J
  ·skip
   refine av<|zo J (bX lD mj J J)<|zo J (bh yy J J)<|aq<|ce h J (fun h=>?_) (fun h=>?_)
   ·refine av<|aE J<|zo J (Iv (ht J))<|aE J<|zo J (Iv (ht J))<|bg J<|bg J<|aq<|av<|aE J<|zo J (fV (ht J) hI)<|bg J<|aq<|av<|aE J<|zo J (hM J)<|aq<|ce h J (fun h=>?_) (fun h=>?_)
    ·refine aA<|aE J<|zo J (fV (ht J) hI)<|bg J<|aQ ?_;exact ci (K (IntKind.u64.wrap ((ea .xor .u64 (if IntKind.u64.signed then -1 else IntKind.u64.max) (IntKind.u64.wrap ((IntKind.u64.wrap (e*2^zZ))+e1)))+(1:Int))) (IntKind.u64.wrap ((ea .xor .u64 (if IntKind.u64.signed then -1 else IntKind.u64.max) (IntKind.u64.wrap ((IntKind.u64.wrap (e2*2^zZ))+e3)))+(1:Int))) h) (bD J)
    ·refine bA ?_;exact ci (K (ea .xor .u64 (if IntKind.u64.signed then -1 else IntKind.u64.max) (IntKind.u64.wrap ((IntKind.u64.wrap (e*2^zZ))+e1))) (IntKind.u64.wrap ((ea .xor .u64 (if IntKind.u64.signed then -1 else IntKind.u64.max) (IntKind.u64.wrap ((IntKind.u64.wrap (e2*2^zZ))+e3)))+(1:Int))) h) (bD J)
   ·refine bA ?_;exact ci (K (IntKind.u64.wrap ((IntKind.u64.wrap (e*2^zZ))+e1)) (IntKind.u64.wrap ((IntKind.u64.wrap (e2*2^zZ))+e3)) h) (bD J)
 ·obtain⟨hx,h⟩:=h
  refine aG<|ah<|av<|aE J<|zo J (dJ (ht J) hI)<|aq<|bK (ht J) (Qf hx)<|df<|ah<|aC<|av<|aE J<|zo J (bX ge eM J J)<|bo h fun e5 q_e5 h=>zo J (ek pi fU J (ht J) (ht J) q_e5)<|zo J (bh fU J J)<|zo J (sx J)<|aq<|ce h J (fun h=>?_) (fun h=>?_)
  ·refine av<|zo J (bW)<|zo J (bW)<|zo J (jU)<|aq<|aj ?_;refine aB (ae (ae (aB (ae ?_))));cases so h;exact PH J J J J
  ·refine bA<|aw<|ax<|aA<|aE rfl<|zo rfl (rF (Iz hx (by decide)) (ht rfl) hI)<|bg rfl<|aQ ?_;exact bn (ba (ih (i+1) ⟨Iy hx,h⟩) (bD J))

theorem Bs(a1:cu){R:Int×Bool}(h:ij a1=some R):aR aU 148 [tD bU a1] (tT [bM R.1,hJ R.2]):=by
 refine aR.of Tryz.func148 J J J fun w0 S0=>av<|zo J (gi J)<|zo J (bW)<|zo J (jU)<|aq<|av<|zo J (bh fS J J)<|bo h fun r q_r h=>zo J (ap Xx (OY _ q_r) ⟨(ht J),aL⟩)<|aE J<|zo J (dX J J)<|zo J (dX J J)<|zo J (dX J J)<|bg J<|bg J<|bg J<|aq<|av ?_;refine aE J<|zo J (mQ uW vh (ht J))<|bg J<|aq<|av<|aE J<|aE J<|aE J<|co J J (fun hg=>cX J)<|co J J (fun hg=>cd (bm J hg) hI)<|co J J (fun hg=>bJ (bm J hg))<|cG J J J J (fun hg=>cX J)<|cG J J J J (fun hg=>gh (bm J hg) hI)<|co J J (fun hg=>jo (bm J hg) (fun hb=>(bm J (qD hg hb))))<|co J J (fun hg=>bJ (bm J hg))<|fg J J J J (fun hg=>cX J)<|fg J J J J (fun hg=>cd (bm J hg) hI)<|fg J J J J (fun hg=>bJ (bm J hg))<|cG J J J J (fun hg=>cX J)<|cG J J J J (fun hg=>dJ (bm J hg) hI)<|fg J J J J (fun hg=>jo (bm J hg) (fun hb=>(bm J (qD hg hb))))<|co J J (fun hg=>pT (bm J hg) (fun hb=>(bm J (qD hg (qo hb))))) ?_;refine zo J (pH J J)<|bg J<|bg J<|aq<|aj ?_;cases so h;exact cW J J J

theorem U5(a1:cu){R:cu}(h:ql a1=some R):aR aU 291 [tD bU a1] (tD bU R):=by
 refine aR.of Tryz.func291 J J J fun w0 S0=>av<|s6 (ht J) J fun b=>aP (r:=bU) (x:=qQ) fS (fun _=>sD _) J fun b1=>aq<|av<|zo J (je 8 lD J J J)<|zo J (bE yy J J mj (.tail _ (.head _)) (ht J))<|zo J (cx (ht J))<|aE J<|bo h fun t q_t h=>co J J (fun hg=>bE fS J J bw (.tail _ (.head _)) (ht J)) ?_
 obtain⟨r,h1t,h0t⟩:=og q_t
 have q_rg:=fun hb=>(h1t hb).1
 refine co J J (fun hg=>ap S3 (I0 _ (q_rg hg)) ⟨(bm J hg),aL⟩)<|co J J (fun hg=>cx (bm J hg))<|zo J (cH (ht J) (fun hb=>(bm J hb)) (fun hb=>(h1t hb).2) h0t)<|zo J (je 8 lD J J J)<|bq<|am yy J vq J (ht J) (ht J)<|aq<|av<|zo J (bE fS J J bw (.head _) (ht J))<|bq<|am fS J ai J (ht J) (ht J)<|aY 2 J<|aq<|aj<|aZ ?_;cases so h;exact eP J fS J J J

theorem U4(a1:cu)(b:cu){R:cu}(h:rZ a1 b=some R):aR aU 292 [tD bU a1,tD bU b] (tD bU R):=by
 refine aR.of Tryz.func292 J J J fun w0 S0=>av<|zo J (gi J)<|zo J (gi J)<|aP (r:=bU) (x:=qQ) fS (fun _=>sD _) J fun b1=>aq<|av<|aP (r:=bU) (x:=qQ) fS (fun _=>sD _) J fun b2=>aq<|ah<|av<|zo J (bJ hI)<|aq<|aC<|bQ<|iq ?_;refine ba (Pz (Z:=fun k i out=>(4-i=k)∧eI a1 b k i out=some R) (Of:=fun _ i out=>[bx bU 187 b1 qQ,bx bU 187 b2 out]) (Gf:=fun _ i out=>[(2,bN bU a1),(3,bN bU b),(4,tV (aS b1 0)),(5,tV (aS b2 0)),(10,bM (i:Int))]) (fun i out h=>?_) (fun k1 ih i out h=>?_) 4 0 qQ ⟨J,h⟩) (bD J)
 ·obtain⟨hx,h⟩:=h
  refine aG<|av<|zo J (dJ (ht J) hI)<|aq<|ah<|bL (ht J) (Qg hx)<|bG ?_;refine ak (ak (aV ?_));refine ax<|av<|zo rfl (bX lD mj rfl rfl)<|zo rfl (bh yy rfl rfl)<|zo rfl (bX lD mj rfl rfl)<|zo rfl (bh yy rfl rfl)<|zo rfl (Bc CX (ht rfl) (ht rfl))<|aE rfl<|bo h fun t q_t h=>co J J (fun hg=>bE fS J J bw (.tail _ (.head _)) (ht J)) ?_
  obtain⟨r,h1t,h0t⟩:=og q_t
  have q_rg:=fun hb=>(h1t hb).1
  refine co J J (fun hg=>ap S3 (I0 _ (q_rg hg)) ⟨(bm J hg),aL⟩)<|co J J (fun hg=>cx (bm J hg))<|zo J (cH (ht J) (fun hb=>(bm J hb)) (fun hb=>(h1t hb).2) h0t)<|zo J (je 8 lD J J J)<|bq<|am yy J vq J (ht J) (ht J)<|aq<|av<|zo J (bE fS J J bw (.head _) (ht J))<|bq<|am fS J ai J (ht J) (ht J)<|aY 4 J<|aq<|aj<|aZ ?_;cases so h;exact eP J fS J J J
 ·obtain⟨hx,h⟩:=h
  refine aG<|av<|zo J (dJ (ht J) hI)<|aq<|ah<|bK (ht J) (Qf hx)<|df<|ah<|aC<|av<|aE J<|bg J<|aq<|av<|zo J (bW)<|aq<|ah ?_;refine av<|zo J (bJ hI)<|aq<|aC<|bQ ?_;refine ba (BS (Z:=fun k2 i1 carry out1=>(4-i1=k2)∧iK a1 b (eI a1 b k1) i k2 i1 carry out1=some R) (Of:=fun _ i1 carry out1=>[bx bU 187 b1 qQ,bx bU 187 b2 out1]) (Gf:=fun _ i1 carry out1=>[(2,bN bU a1),(3,bN bU b),(4,tV (aS b1 0)),(5,tV (aS b2 0)),(6,bM (i:Int)),(7,tD ni carry),(10,bM (i:Int)),(13,bM (i1:Int))]) (fun i1 carry out1 h=>?_) (fun k3 ih1 i1 carry out1 h=>?_) 4 0 (0:Int) out ⟨J,h⟩) (bD J)
  ·obtain⟨hx1,h⟩:=h
   refine aG<|av<|zo J (dJ (ht J) hI)<|aq<|ah<|bL (ht J) (Qg hx1)<|bG ?_;refine ak (ak (aV ?_));refine ax<|aA<|aE rfl<|zo rfl (fV (ht rfl) hI)<|aE rfl<|zo rfl (je 0 ge rfl rfl rfl)<|bo h fun u q_u h=>zo J (fO (n:=8) (off:=0) pi fU (ht J) (ht J) (g9 q_u))<|nd (EffOK.fr1 (om (q:=ni) (off:=0+(IntKind.i64.wrap ((i:Int)+(4:Int))).toNat*1) (y0:=carry) fU J (rR (off:=0) (mi jq eM J J) (rQ (g9 q_u)) (oS qg) (oH (g9 q_u)) J) (uN (d:=0) (sz:=1) (n:=8) (g9 q_u) J) (ht J) (ht J))) fun _=>?_;refine(show RG _ _ _ _ [bx bU 187 b2 ({out1 with D:=(out1.D.set (IntKind.i64.wrap ((i:Int)+(4:Int))).toNat carry)}:cu),bx bU 187 b1 qQ] _ from ?_);refine aQ<|aw<|ax<|aA<|zo rfl (rF (Iz hx (by decide)) (ht rfl) hI)<|aE rfl<|aQ<|bI ?_;exact bn (ba (ih (i+1) ({out1 with D:=(out1.D.set (IntKind.i64.wrap ((i:Int)+(4:Int))).toNat carry)}:cu) ⟨Iy hx,h⟩) (bD J))
  ·obtain⟨hx1,h⟩:=h
   refine aG<|av<|zo J (dJ (ht J) hI)<|aq<|ah<|bK (ht J) (Qf hx1)<|df<|ah<|aC<|av<|aE J<|bg J<|aq<|ah<|bo h fun u1 q_u1 h=>bo h fun e2 q_e2 h=>bo h fun e3 q_e3 h=>bo h fun e4 q_e4 h=>?_
   refine cD (ts:=[_,_,_,_,_,_,_,_,_,_,_,_,_,_,_,_,_,_,_]) mixed J J
    ⟨dB 6 J J J (cX J),
    ⟨dB 8 J J J (cX J),
    ⟨cK 16 0 17 1 J J J J (fV (ht J) (ht J)),
    ⟨dB 5 J J J (je 0 ge J J J),
    ⟨cK 19 3 18 2 J J J J (fO (n:=8) (off:=0) pi fU (ht J) (ht J) (g9 q_u1)),
    ⟨bT 20 4 J J J (xW (q:=ni) (off:=0+(IntKind.i64.wrap ((i:Int)+(i1:Int))).toNat*1) fU J J (.tail _ (.head _)) (yd (mi jq eM J J) q_e2) (ht J)),
    ⟨dB 6 J J J (cX J),
    ⟨dB 2 J J J (bX ge eM J J),
    ⟨cK 23 7 22 6 J J J J (ek pi fU J (ht J) (ht J) q_e3),
    ⟨bT 24 8 J J J (bh fU J J),
    ⟨dB 8 J J J (cX J),
    ⟨dB 3 J J J (bX ge eM J J),
    ⟨cK 27 11 26 10 J J J J (ek pi fU J (ht J) (ht J) q_e4),
    ⟨bT 28 12 J J J (bh fU J J),
    ⟨cK 25 9 29 13 J J J J (xV (ht J) (ht J)),
    ⟨cK 21 5 30 14 J J J J (fV (ht J) (ht J)),
    ⟨dB 7 J J J (cX J),
    ⟨cK 31 15 32 16 J J J J (fV (ht J) (ht J)),
    ⟨bT 33 17 J J J (rN J),
    aL⟩⟩⟩⟩⟩⟩⟩⟩⟩⟩⟩⟩⟩⟩⟩⟩⟩⟩⟩ ?_
   refine ax<|aA<|aE rfl<|aE rfl<|zo rfl (fV (ht rfl) (ht rfl))<|aE rfl<|zo rfl (Ch (ht rfl) hI (by decide))<|aE rfl<|zo rfl (sE (ht rfl) hI (by decide))<|zo rfl (je 0 ge rfl rfl rfl)<|bo h fun u2 q_u2 h=>zo J (fO (n:=8) (off:=0) pi fU (ht J) (ht J) (g9 q_u2))<|nd (EffOK.fr1 (om (q:=ni) (off:=0+(IntKind.i64.wrap ((i:Int)+(i1:Int))).toNat*1) (y0:=(((IntKind.u64.wrap ((IntKind.u64.wrap (e2+(IntKind.u64.wrap (e3*e4))))+carry))).tmod (4294967296:Int))) fU J (rR (off:=0) (mi jq eM J J) (rQ (g9 q_u2)) (oS qg) (oH (g9 q_u2)) J) (uN (d:=0) (sz:=1) (n:=8) (g9 q_u2) J) (ht J) (ht J))) fun _=>?_;refine(show RG _ _ _ _ [bx bU 187 b2 ({out1 with D:=(out1.D.set (IntKind.i64.wrap ((i:Int)+(i1:Int))).toNat (((IntKind.u64.wrap ((IntKind.u64.wrap (e2+(IntKind.u64.wrap (e3*e4))))+carry))).tmod (4294967296:Int)))}:cu),bx bU 187 b1 qQ] _ from ?_);refine bg J<|aQ<|aw<|ax<|aA<|zo rfl (rF (Iz hx1 (by decide)) (ht rfl) hI)<|aE rfl<|aQ<|bI ?_;exact bn (ba (ih1 (i1+1) (((IntKind.u64.wrap ((IntKind.u64.wrap (e2+(IntKind.u64.wrap (e3*e4))))+carry))).fdiv AQ) ({out1 with D:=(out1.D.set (IntKind.i64.wrap ((i:Int)+(i1:Int))).toNat (((IntKind.u64.wrap ((IntKind.u64.wrap (e2+(IntKind.u64.wrap (e3*e4))))+carry))).tmod (4294967296:Int)))}:cu) ⟨Iy hx1,h⟩) (bD J))

end Go.Proofs.YtfhhakidodmdfaaGreatDoor

