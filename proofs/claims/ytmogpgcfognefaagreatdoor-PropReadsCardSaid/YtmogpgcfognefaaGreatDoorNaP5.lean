/- cG of this claim: P5. -/
import Derived.Test.YtmogpgcfognefaaGreatDoorNaT
import Derived.Test.YtmogpgcfognefaaGreatDoorNaP4
set_option linter.all false
namespace Go.Proofs.YtmogpgcfognefaaGreatDoor
open Go
set_option maxRecDepth 100000

theorem HG(nodes:(List aF)){R:(List (List Int))×Int×Int}(h:lT nodes=some R):bg aP 16 [fE (aE) nodes] (tT [fE (gz) R.1,ce R.2.1,ce R.2.2]):=by
 refine bg.of Tryz.func16 J J J fun w0 S0=>au<|zo J (ba (show ay _ _ _ (fE (gz) ([]))from uX))<|zo J (fi)<|zo J (fi)<|ap<|yu<|ae<|au<|aA J<|zo J (jk mp J)<|zo J (fz (ht J) hI)<|aA J<|cQ J J (fun hg=>cM J)<|cQ J J (fun hg=>bS mp (aJ J hg))<|cQ J J (fun hg=>gZ (aJ J hg) hI)<|zo J (pr J J)<|ap<|dN h J (fun h=>?_) (fun h=>?_)
 ·refine au<|zo J (ba (show ay _ _ _ (fE (gz) ([]))from uX))<|zo J (fi)<|zo J (fi)<|ap<|am ?_;refine aa (mo ?_);cases so h;exact mQ J J J J
 ·refine eK<|au<|aA J<|zo J (cY (r:=rH aN [(1,.slice none 0 0),(2,.slice none 0 0)]) (y:=(⟨nodes,[],[],Bh,[],[],[]⟩:af)) MX Nj (zH Ik ⟨J,J,aY⟩) (⟨_,_,_,_,_,J,MZ FL J J,J,(ht J),J⟩))<|wF (ht J) J fun b=>cm true gz 29<|cm false bW 3 ?_;refine(show RG _ _ _ _ [cu bW 3 none 0 mW,gX gz 29 none 0 KW,bx (rH aN [(1,ai none 0 KW.length),(2,ai none 0 mW.length)]) 124 b (⟨nodes,[],[],Bh,[],[],[]⟩:af)] _ from ?_);refine bv J<|ap<|au<|bO h fun r q_r h=>zo J (aL PW (LX q_r) trivial)<|bv J<|ap<|au<|zo J (fi)<|ap<|ae<|yw<|an<|ae<|au<|aA rfl<|zo rfl (jk mp rfl)<|zo rfl (bj hI) ?_;refine ap ?_;refine z6 (Z:=fun wrong ob l c l1 c1=>lD nodes wrong ob=some R) (Of:=fun wrong ob l c l1 c1=>[bx (rH aN [(1,ai l c ob.kinds.length),(2,ai l1 c1 ob.open_.length)]) 124 b ob,gX gz 29 l c ob.kinds,cu bW 3 l1 c1 ob.open_]) (Gf:=fun wrong ob l c l1 c1=>[(0,fE (aE) nodes),(5,tV (aD b 0)),(7,ce wrong)]) (fun wrong ob l c l1 c1 h=>?_) (fun K=>?_)
  ·skip
   refine an ?_;refine gj (Z:=fun wrong1=>kp ob wrong1=some R) (Of:=fun wrong1=>[bx (rH aN [(1,ai l c ob.kinds.length),(2,ai l1 c1 ob.open_.length)]) 124 b ob,gX gz 29 l c ob.kinds,cu bW 3 l1 c1 ob.open_]) (Gf:=fun wrong1=>[(5,tV (aD b 0)),(7,ce wrong1)]) (fun wrong1 h=>?_) (fun K1=>?_)
   ·skip
    refine ae<|au<|aA J<|zo J (ek (ht J) hI)<|ap<|dN h J (fun h=>?_) (fun h=>?_)
    ·refine au<|aA J<|zo J (ba (show ay _ _ _ (fE (gz) ([]))from uX))<|bv J<|zo J (fi)<|ap<|am ?_;refine aa (mo ?_);refine bl<|bl<|bl ?_;cases so h;exact mQ J J J J
    ·refine eK<|au<|cm false gz 29<|zo J (ba q6)<|ap<|ae<|au<|aA J<|zo J (aS (ht J))<|zo J (eY 1 wz J J J)<|zo J (xz yG J (.tail _ (.head _)) (.tail _ (.tail _ (.head _))) (ht J))<|zo J (bS pR (wV (ht J)))<|zo J (bj hI)<|ap<|av<|GF<|GG 61 J<|aX (k:=61) J fun hN=>bK ?_;refine ep<|dM<|ep<|ep ?_;refine aM (pL (Z:=fun ls i out l2 c2=>(ob.kinds.drop i=ls)∧ko ls out=some R) (Of:=fun _ i out l2 c2=>[cu gz 29 l2 c2 out,bx (rH aN [(1,ai l c ob.kinds.length),(2,ai l1 c1 ob.open_.length)]) 124 b ob,gX gz 29 l c ob.kinds,cu bW 3 l1 c1 ob.open_]) (Gf:=fun _ i out l2 c2=>[(10,oc l2 c2 out),(61,fE (gz) ob.kinds),(62,je ob.kinds),(63,ce (i:Int))]) (fun i out l2 c2 h=>?_) (fun e tl ih i out l2 c2 h=>?_) ob.kinds 0 KW none 0 ⟨J,h⟩) (bh J)
     ·obtain⟨hx,h⟩:=h
      refine aq<|au<|zo J (fx J J)<|ap<|ae<|br (ht J) (dp hx)<|bk ?_;refine ac (ac (aG ?_));refine an<|au<|aA rfl<|bv rfl<|zo rfl (fi)<|zo rfl (fi)<|ap<|am<|mo<|ii<|jL 10 rfl<|jL 73 rfl<|jL 2 rfl<|rP 2 rfl<|bl<|bl<|bl<|bl ?_;cases so h;exact mQ J J J J
     ·obtain⟨hx,h⟩:=h
      refine aq<|au<|zo J (fx J J)<|ap<|ae<|bq (ht J) (dh hx)<|eK<|ae<|av<|au<|zo J (ka pR bT J J J (dy hx))<|zo J (bC bT J J)<|bv J<|ap<|ak<|aA J<|aA J<|bO h fun r1 q_r1 h=>jb HV (wA _ q_r1) ⟨(ht J),aY⟩ J fun l3 c3=>?_;refine kx<|ro 69 J<|zo J (bX (r:=pT) (ys:=[r1]) (xs:=[.tmp 69]) pR bT J J J J J ⟨(wV (ht J)),aY⟩)<|bM<|bO h fun out1 q_out1 h=>dk bT J J J J pR J J (ht J) (ht J) q_out1 fun l4 c4=>bv J<|aK<|al<|an<|ak<|zo rfl (lb (cL hx hN) rfl)<|aA rfl<|aK<|bf<|bl ?_;exact aW (aM (ih (i+1) out1 l4 c4 ⟨cK hx,h⟩) (bh J))
   ·skip
    refine au<|aA J<|zo J (fz (ht J) hI)<|aA J<|bE J J (fun hg=>cM J)<|bE J J (fun hg=>aS (aJ J hg))<|bE J J (fun hg=>bB (n:=2) n7 J (aJ J hg) J)<|bE J J (fun hg=>kV bT J (.head _) (aJ J hg))<|bE J J (fun hg=>ee dr (.tail _ (.tail _ (.head _))) (aJ J hg))<|bE J J (fun hg=>dn (aJ J hg) hI)<|zo J (kM J J)<|ap<|dN h J (fun h=>?_) (fun h=>?_)
    ·refine ak<|aA J<|zo J (jk mp J)<|zo J (gE (ht J) hI)<|bv J<|aK ?_;exact cg (K1 (IntKind.i64.wrap ((nodes.length:Int)-(1:Int))) h) (bh J)
    ·refine bD ?_;exact cg (K1 wrong h) (bh J)
  ·skip
   refine aX (k:=25) J fun hN1=>bK<|dM<|kz ?_;refine aM (ym (Z:=fun ls1 i1 wrong2 ob1 l5 c5 l6 c6=>(nodes.drop i1=ls1)∧km nodes r ls1 i1 wrong2 ob1=some R) (Of:=fun _ i1 wrong2 ob1 l5 c5 l6 c6=>[bx (rH aN [(1,ai l5 c5 ob1.kinds.length),(2,ai l6 c6 ob1.open_.length)]) 124 b ob1,gX gz 29 l5 c5 ob1.kinds,cu bW 3 l6 c6 ob1.open_]) (Gf:=fun _ i1 wrong2 ob1 l5 c5 l6 c6=>[(0,fE (aE) nodes),(5,tV (aD b 0)),(6,Ii (fun y:(af→Unit→Option (Bool×af))=>lQ (fun bb=>gV aP (fun(x:Unit)=>[tV (aD bb 0)]) (du bb) lZ y)) Ai r),(7,ce wrong2),(25,fE (aE) nodes),(26,je nodes),(27,ce (i1:Int))]) (fun i1 wrong2 ob1 l5 c5 l6 c6 h=>?_) (fun e1 tl1 ih1 i1 wrong2 ob1 l5 c5 l6 c6 h=>?_) nodes 0 tf (⟨nodes,[],[],Bh,[],[],[]⟩:af) none 0 none 0 ⟨J,h⟩) (bh J)
   ·obtain⟨hx1,h⟩:=h
    refine aq<|au<|zo J (fx J J)<|ap<|ae<|br (ht J) (dp hx1)<|bk ?_;refine ac (ac (aG ?_));exact cg (K wrong2 ob1 l5 c5 l6 c6 h) (bh J)
   ·obtain⟨hx1,h⟩:=h
    refine aq<|au<|zo J (fx J J)<|ap<|ae<|bq (ht J) (dh hx1)<|eK<|ae<|av<|au<|aA J<|zo J (ka mp eu J J J (dy hx1))<|zo J (bC eu J J)<|aZ (r:=aE) (x:=Bh) eu (fun _=>fF _) J fun b1=>bv J<|aC eu J aw J (ht J) (ht J)<|aU 9 J<|ap<|ae ?_;refine ak<|aA J<|aA J<|aA J<|zo J (cc hJ cV J J)<|zo J (bC bL J J)<|zo J (vz (γ:=(fun y:(af→Unit→Option (Bool×af))=>lQ (fun bb=>gV aP (fun(x:Unit)=>[tV (aD bb 0)]) (du bb) yB y))) (z:=(fun _ _=>none)) vZ (fv kL) Mw (fun _ _=>Fx) (ht J) (n6 (ht J)))<|bO h fun r2 q_r2 h=>yh (EffOK.fr2 (EffOK.fr2 (EffOK.fr2 (zP (xs:=[.tmp 32,.tmp 33,.tmp 37]) (ts:=[tV (aD b 0),ce (i1:Int),lQ (fun bb=>gV aP (fun(x:Unit)=>[tV (aD bb 0)]) (du bb) lZ ((kE r e1.Op).getD (fun _ _=>none)))]) (du b ob1 (F3 [(l5,c5),(l6,c6)])) _ J PV (NB b (F3 [(l5,c5),(l6,c6)]) ob1 _ _ q_r2) ⟨(ht J),(ht J),(ht J),aY⟩ (fun _=>J))))) J fun i2=>?_;refine(show RG _ _ _ _ [bx (rH aN [(1,ai (i2.h 0).1 (i2.h 0).2 r2.2.kinds.length),(2,ai (i2.h 1).1 (i2.h 1).2 r2.2.open_.length)]) 124 b r2.2,gX gz 29 (i2.h 0).1 (i2.h 0).2 r2.2.kinds,cu bW 3 (i2.h 1).1 (i2.h 1).2 r2.2.open_] ((38,gU r2.1)::_)from ?_);refine zo J (d9 (ht J))<|ap<|dN h J (fun h=>?_) (fun h=>?_)
    ·refine au<|aA J<|bv J<|ap<|bk ?_;refine bR J (ac (ac (aG ?_)));exact cg (K (i1:Int) r2.2 (i2.h 0).1 (i2.h 0).2 (i2.h 1).1 (i2.h 1).2 h) (bh J)
    ·refine bD<|al<|an<|ak<|zo rfl (lb (cL hx1 hN1) rfl)<|aA rfl<|aK ?_;exact aW (aM (ih1 (i1+1) wrong2 r2.2 (i2.h 0).1 (i2.h 0).2 (i2.h 1).1 (i2.h 1).2 ⟨cK hx1,h⟩) (bh J))

theorem EJ(c:Int){R:Bool}(h:pE c=some R):bg aP 226 [tD (rI .i32) c] (gU R):=by
 refine bg.of Tryz.func226 J J J fun w0 S0=>au<|zo J (fC)<|ap<|au<|aA J<|zo J (ek (ht J) hI)<|aA J<|bE J J (fun hg=>cM J)<|bE J J (fun hg=>jh (aJ J hg) hI)<|zo J (kM J J)<|bv J<|ap<|am ?_;cases so h;exact aH J J

theorem Ja(s:(List ji))(v:ji){R:Int}(h:ip s v=some R):bg aP 279 [fE (rS) s,tD rS v] (ce R):=by
 refine bg.of Tryz.func279 J J J fun w0 S0=>au<|zo J (fi)<|ap<|ae<|au<|aA J<|zo J (jk Tryz.underlying90 J)<|zo J (bj hI)<|ap<|av<|aX (k:=6) J fun hN=>bK ?_;refine aM (eh (Z:=fun ls i=>(s.drop i=ls)∧dH v ls i=some R) (Of:=fun _ i=>[]) (Gf:=fun _ i=>[(0,fE (rS) s),(1,tD rS v),(7,je s),(8,ce (i:Int))]) (fun i h=>?_) (fun e tl ih i h=>?_) s 0 ⟨J,h⟩) (bh J)
 ·obtain⟨hx,h⟩:=h
  refine aq<|au<|zo J (fx J J)<|ap<|ae<|br (ht J) (dp hx)<|bk ?_;refine ac (ac (aG ?_));refine an<|au<|zo rfl (fi)<|ap<|am ?_;cases so h;exact aH J J
 ·obtain⟨hx,h⟩:=h
  refine aq<|au<|zo J (fx J J)<|ap<|ae<|bq (ht J) (dh hx)<|eK<|ae<|av<|au<|aA J<|bv J<|ap<|au<|aA J<|aA J<|aA J<|zo J (ka Tryz.underlying90 C0 J J J (dy hx)) ?_;refine zo J (bC C0 J J)<|zo J (wt (ht J) (ht J))<|ap<|dN h J (fun h=>?_) (fun h=>?_)
  ·refine au<|aA J<|bv J<|ap<|am ?_;refine aB (aa (aa (aB (aa ?_))));cases so h;exact aH J J
  ·refine bD<|al<|an<|ak<|zo rfl (lb (cL hx hN) rfl)<|aA rfl<|aK ?_;exact aW (aM (ih (i+1) ⟨cK hx,h⟩) (bh J))

theorem Jd(s:(List ji))(v:ji){R:Bool}(h:gB s v=some R):bg aP 256 [fE (rS) s,tD rS v] (gU R):=by
 refine bg.of Tryz.func256 J J J fun w0 S0=>au<|zo J (fC)<|ap<|au<|aA J<|aA J<|bO h fun r q_r h=>zo J (aL NL (Ja _ _ q_r) ⟨(ht J),(ht J),aY⟩)<|zo J (ek (ht J) hI)<|bv J<|ap<|am ?_;cases so h;exact aH J J

theorem Jj(s:ji){R:Bool}(h:p7 s=some R):bg aP 227 [tD rS s] (gU R):=by
 refine bg.of Tryz.func227 J J J fun w0 S0=>au<|zo J (fC)<|ap<|au<|zo J (zW (r:=lR rS 28) (x:=Na) gm2 gr2 (FW Tryz.underlying292 C0 J KC))<|aA J<|bO h fun r q_r h=>zo J (aL NO (Jd _ _ q_r) ⟨(ht J),(ht J),aY⟩)<|bv J<|ap<|am ?_;cases so h;exact aH J J

theorem Ji(s:ji){R:ji}(h:gO s=some R):bg aP 228 [tD rS s] (tD rS R):=by
 unfold gO at h
 split at h
 ·rename_i hl
  cases h
  refine Ct fun w hw=>?_
  have:=Any.strings_ToUpper_any pp upX ⟨s.toArray⟩ w (by rw [E0];exact hl) hw.1 hw.2
  simp only [List.toList_toArray]at this
  exact this
 ·cases h

theorem Jh(c:Int){R:Bool}(h:rE c=some R):bg aP 229 [tD (rI .i32) c] (gU R):=by
 refine bg.of Tryz.func229 J J J fun w0 S0=>au<|zo J (fC)<|ap<|au<|aA J<|zo J (ek (ht J) hI)<|aA J<|bE J J (fun hg=>cM J)<|bE J J (fun hg=>jh (aJ J hg) hI)<|zo J (kM J J)<|bv J<|ap<|am ?_;cases so h;exact aH J J

theorem AW(s:ji){R:Bool}(h:m7 s=some R):bg aP 169 [tD rS s] (gU R):=by
 refine bg.of Tryz.func169 J J J fun w0 S0=>au<|zo J (fC)<|ap<|ae<|au<|aA J<|zo J (wt (ht J) hS)<|aA J<|cQ J J (fun hg=>cM J)<|cQ J J (fun hg=>AF jQ (aJ J hg))<|cQ J J (fun hg=>gZ (aJ J hg) hI)<|zo J (pr J J)<|aA J<|bO h fun t q_t h=>cQ J J (fun hg=>cM J) ?_
 obtain⟨b,h1t,h0t⟩:=og q_t
 have q_bg:=fun hb=>(h1t hb).1
 refine cQ J J (fun hg=>FZ jQ (aJ J hg) hI (q_bg hg))<|cQ J J (fun hg=>IM Tryz.underlying5 Tryz.underlying21 (aJ J hg)) ?_
 obtain⟨r,h1t⟩:=IQ (fun hb=>(h1t hb).2)
 have q_rg:=fun hb=>(h1t hb).1
 refine cQ J J (fun hg=>aL KE (EJ _ (q_rg hg)) ⟨(aJ J hg),aY⟩)<|cQ J J (fun hg=>d9 (aJ J hg))<|zo J (eN (ht J) (fun hb=>(aJ J (m6 hb))) (fun hb=>(h1t hb).2) h0t)<|aA J<|bO h fun t1 q_t1 h=>cQ J J (fun hg=>cM J) ?_
 obtain⟨r1,h1t1,h0t1⟩:=og q_t1
 have q_r1g:=fun hb=>(h1t1 hb).1
 refine cQ J J (fun hg=>aL NV (Ji _ (q_r1g hg)) ⟨(aJ J hg),aY⟩) ?_
 obtain⟨r2,h1t1⟩:=IQ (fun hb=>(h1t1 hb).2)
 have q_r2g:=fun hb=>(h1t1 hb).1
 refine cQ J J (fun hg=>aL NW (Jj _ (q_r2g hg)) ⟨(aJ J hg),aY⟩)<|zo J (eN (ht J) (fun hb=>(aJ J (m6 hb))) (fun hb=>(h1t1 hb).2) h0t1)<|ap<|dN h J (fun h=>?_) (fun h=>?_)
 ·refine au<|zo J (fC)<|ap<|am<|aa ?_;cases so h;exact aH J J
 ·refine eK<|ae<|au<|aA J<|Cx jQ (ht J) J fun rg=>ap<|av<|bK ?_;refine aM (Ml (β:=Int×Int) (Z:=fun ls=>lF ls=some R) (Of:=fun ls=>[yI rg s ls]) (Gf:=[(25,tV (aD rg 0))]) (fun ls h ih=>?_) (BE s) h) (bh J);refine aq<|au ?_;refine DQ (ht J) J (fun hl=>?_) (fun e tl hk=>?_)
  ·subst hl
   refine zo J (AG (ht J))<|ap<|ae<|br (ht J) J<|bk ?_;refine ac (ac (aG ?_));refine an<|au<|zo rfl (fC)<|ap<|am<|bl ?_;cases so h;exact aH J J
  ·subst hk
   refine zo J (sj (i:=0) J (ht J))<|ap<|ae<|bq (ht J) J<|eK<|av<|au<|zo J (sj (i:=2) J (ht J))<|bv J<|ap<|au<|aA J<|bO h fun r3 q_r3 h=>zo J (aL NU (Jh _ q_r3) ⟨(ht J),aY⟩)<|zo J (d9 (ht J))<|aA J<|bO h fun t2 q_t2 h=>bE J J (fun hg=>cM J) ?_
   obtain⟨r4,h1t2,h0t2⟩:=og q_t2
   have q_r4g:=fun hb=>(h1t2 hb).1
   refine bE J J (fun hg=>aL KE (EJ _ (q_r4g hg)) ⟨(aJ J hg),aY⟩)<|bE J J (fun hg=>d9 (aJ J hg))<|zo J (dm (ht J) (fun hb=>(aJ J hb)) (fun hb=>(h1t2 hb).2) h0t2)<|aA J<|bE J J (fun hg=>cM J)<|bE J J (fun hg=>dn (aJ J hg) hI)<|zo J (kM J J)<|ap<|dN h J (fun h=>?_) (fun h=>?_)
   ·refine au<|zo J (fC)<|ap<|am ?_;refine aB (aa (aB (aa ?_)));refine bl ?_;cases so h;exact aH J J
   ·refine bD<|al ?_;exact aW (aM (ih tl (by simp) h) (bh J))

theorem Jc(s:(List aV))(f:(aV→Option Bool)){R:Int}(h:ev s f=some R):bg aP 263 [fE (bZ) s,(fH aP wa lZ (fun(x:aV)=>f x))] (ce R):=by
 refine bg.of Tryz.func263 J J J fun w0 S0=>au<|zo J (fi)<|ap<|ae<|au<|aA J<|zo J (jk qK J)<|zo J (bj hI)<|ap<|av<|aX (k:=6) J fun hN=>bK ?_;refine aM (eh (Z:=fun ls i=>(s.drop i=ls)∧ci f ls i=some R) (Of:=fun _ i=>[]) (Gf:=fun _ i=>[(0,fE (bZ) s),(1,(fH aP wa lZ (fun(x:aV)=>f x))),(7,je s),(8,ce (i:Int))]) (fun i h=>?_) (fun e tl ih i h=>?_) s 0 ⟨J,h⟩) (bh J)
 ·obtain⟨hx,h⟩:=h
  refine aq<|au<|zo J (fx J J)<|ap<|ae<|br (ht J) (dp hx)<|bk ?_;refine ac (ac (aG ?_));refine an<|au<|zo rfl (fi)<|ap<|am ?_;cases so h;exact aH J J
 ·obtain⟨hx,h⟩:=h
  refine aq<|au<|zo J (fx J J)<|ap<|ae<|bq (ht J) (dh hx)<|eK<|ae<|av<|au<|aA J<|bv J<|ap<|au<|aA J<|aA J<|aA J<|zo J (ka qK nY J J J (dy hx)) ?_;refine zo J (bC nY J J)<|bO h fun r q_r h=>zo J (gF (args:=wa) (res:=yB) (f:=(fun(x:aV)=>f x)) (x:=((e):aV)) (ht J) q_r ⟨(ht J),aY⟩)<|ap<|dN h J (fun h=>?_) (fun h=>?_)
  ·refine au<|aA J<|bv J<|ap<|am ?_;refine aB (aa (aa (aB (aa ?_))));cases so h;exact aH J J
  ·refine bD<|al<|an<|ak<|zo rfl (lb (cL hx hN) rfl)<|aA rfl<|aK ?_;exact aW (aM (ih (i+1) ⟨cK hx,h⟩) (bh J))

theorem Jb(of:(aV→Option ji))(name:ji)(p:aV){R:Bool}(h:dL of name p=some R):bg aP 264 [tD bZ p,bz (rT ((fH aP wa rR (fun(x:aV)=>of x)))) (),bz rS name] (gU R):=by
 refine bg.of Tryz.func264 J J J fun w0 S0=>au<|zo J (ms J)<|zo J (fC)<|ap<|ae<|bO h fun r q_r h=>?_
 refine eQ (ts:=[_,_,_,_,_,_]) mixed J J
  ⟨ij 1 J J J (xA MR (ht J)),
  ⟨ij 3 J J J (bC nY J J),
  ⟨fG 5 0 6 1 J J J J (gF (args:=wa) (res:=rR) (f:=(fun(x:aV)=>of x)) (x:=((p):aV)) (ht J) q_r ⟨(ht J),aY⟩),
  ⟨ij 2 J J J (bC C0 J J),
  ⟨fG 7 2 8 3 J J J J (wt (ht J) (ht J)),
  ⟨cO 9 4 J J J (yD J),
  aY⟩⟩⟩⟩⟩⟩ ?_
 refine an<|am ?_;cases so h;exact aH J J

theorem Jg(l:(List aV))(of:(aV→Option ji))(name:ji){R:Int×Bool}(h:gN l of name=some R):bg aP 230 [fE (bZ) l,(fH aP wa rR (fun(x:aV)=>of x)),tD rS name] (tT [ce R.1,gU R.2]):=by
 refine bg.of Tryz.func230 J J J fun w0 S0=>au<|zo J (Ex (ht J))<|zo J (ms J)<|zo J (fi)<|zo J (fC)<|ap<|au<|aA J<|zo J ((show bU _ _ _ _ ((fH aP wa lZ (fun(x:aV)=>(dL of name) x)))from hY (cts:=[bz (rT ((fH aP wa rR (fun(x:aV)=>of x)))) (),bz rS name]) (caps:=[.tmp 4,.tmp 5]) NM ⟨(ht J),(ht J),aY⟩ (fun x y h=>Jb _ _ _ h)))<|bO h fun r q_r h=>zo J (aL NN (Jc _ _ q_r) ⟨(ht J),(ht J),aY⟩)<|bv J<|ap<|au<|aA J<|zo J (AD (ht J) hI)<|aA J<|zo J (ek (ht J) hI) ?_;refine bv J<|bv J<|ap<|am ?_;cases so h;exact fY J J J

theorem Jz(l:(List aV))(of:(aV→Option ji)){R:Bool}(h:jH l of=some R):bg aP 170 [fE (bZ) l,(fH aP wa rR (fun(x:aV)=>of x))] (gU R):=by
 refine bg.of Tryz.func170 J J J fun w0 S0=>au<|zo J (fC)<|ap<|ae<|au<|aA J<|zo J (jk qK J)<|zo J (bj hI)<|ap<|av<|aX (k:=9) J fun hN=>bK ?_;refine aM (eh (Z:=fun ls i=>(l.drop i=ls)∧eE l of ls i=some R) (Of:=fun _ i=>[]) (Gf:=fun _ i=>[(0,fE (bZ) l),(1,(fH aP wa rR (fun(x:aV)=>of x))),(9,fE (bZ) l),(10,je l),(11,ce (i:Int))]) (fun i h=>?_) (fun e tl ih i h=>?_) l 0 ⟨J,h⟩) (bh J)
 ·obtain⟨hx,h⟩:=h
  refine aq<|au<|zo J (fx J J)<|ap<|ae<|br (ht J) (dp hx)<|bk ?_;refine ac (ac (aG ?_));refine an<|au<|zo rfl (fC)<|ap<|am ?_;cases so h;exact aH J J
 ·obtain⟨hx,h⟩:=h
  refine aq<|au<|zo J (fx J J)<|ap<|ae<|bq (ht J) (dh hx)<|eK<|ae<|av<|au<|aA J<|zo J (ka qK nY J J J (dy hx))<|zo J (bC nY J J)<|aZ (r:=bZ) (x:=KY) nY (fun _=>px _) J fun b=>bv J<|aC nY J aw J (ht J) (ht J)<|aU 6 J<|ap<|ae ?_;refine ak<|aA J<|aA J<|aA J<|zo J (bC nY J J)<|bO h fun r q_r h=>zo J (gF (args:=wa) (res:=rR) (f:=(fun(x:aV)=>of x)) (x:=((e):aV)) (ht J) q_r ⟨(ht J),aY⟩)<|bO h fun r1 q_r1 h=>zo J (aL NT (Jg _ _ _ q_r1) ⟨(ht J),(ht J),(ht J),aY⟩)<|aA J<|zo J (lA J J)<|zo J (lA J J)<|bv J<|bv J<|ap<|au<|aA J<|aA J<|zo J (dn (ht J) (ht J))<|aA J<|bO h fun t q_t h=>cQ J J (fun hg=>cM J) ?_;refine cQ J J (fun hg=>bC nY J J) ?_
  obtain⟨r2,h1t,h0t⟩:=og q_t
  have q_r2g:=fun hb=>(h1t hb).1
  refine cQ J J (fun hg=>gF (args:=wa) (res:=rR) (f:=(fun(x:aV)=>of x)) (x:=((e):aV)) (aJ J hg) (q_r2g hg) ⟨(aJ J hg),aY⟩) ?_
  obtain⟨r3,h1t⟩:=IQ (fun hb=>(h1t hb).2)
  have q_r3g:=fun hb=>(h1t hb).1
  refine cQ J J (fun hg=>aL HW (AW _ (q_r3g hg)) ⟨(aJ J hg),aY⟩)<|cQ J J (fun hg=>d9 (aJ J hg))<|zo J (eN (ht J) (fun hb=>(aJ J (m6 hb))) (fun hb=>(h1t hb).2) h0t)<|ap<|dN h J (fun h=>?_) (fun h=>?_)
  ·refine au<|zo J (fC)<|ap<|am ?_;refine aB (aa (aa (aB (aa ?_))));cases so h;exact aH J J
  ·refine bD<|al<|an<|ak<|zo rfl (lb (cL hx hN) rfl)<|aA rfl<|aK ?_;exact aW (aM (ih (i+1) ⟨cK hx,h⟩) (bh J))

theorem Jy(c:aV){R:ji}(h:dS c=some R):bg aP 171 [tD bZ c] (tD rS R):=by
 refine bg.of Tryz.func171 J J J fun w0 S0=>au<|zo J (ms J)<|zo J (ba hS)<|ap<|au<|zo J (cc LJ Cb J J)<|zo J (bC C0 J J)<|bv J<|ap<|am ?_;cases so h;exact aH J J

theorem Jx(kind:Int){R:ji}(h:n9 kind=some R):bg aP 172 [ce kind] (tD rS R):=by
 refine bg.of Tryz.func172 J J J fun w0 S0=>au<|zo J (ba hS)<|ap<|ae<|au<|zo J (zW (r:=(lR pY 3)) (x:=LA) gm0 gr0 (aO MQ J J KC))<|zo J (bj hI)<|ap<|av<|bK ?_;refine aM (Fa (Z:=fun k i=>(3-i=k)∧gS kind k i=some R) (Of:=fun _ i=>[]) (Gf:=fun _ i=>[(0,ce kind),(5,tD (lR pY 3) LA),(6,ce (i:Int))]) (fun i h=>?_) (fun k1 ih i h=>?_) 3 0 ⟨J,h⟩) (bh J)
 ·obtain⟨hx,h⟩:=h
  refine aq<|au<|zo J (fz (ht J) hI)<|ap<|ae<|br (ht J) (Lu hx)<|bk ?_;refine ac (ac (aG ?_));refine an<|au<|zo rfl (ba hS)<|ap<|am ?_;cases so h;exact aH J J
 ·obtain⟨hx,h⟩:=h
  refine aq<|au<|zo J (fz (ht J) hI)<|ap<|ae<|bq (ht J) (Lt hx)<|eK<|ae<|av<|au<|bO h fun e1 q_e1 h=>zo J (F0 Tryz.underlying271 G0 J J (ht J) (ht J) q_e1)<|aZ (r:=pY) (x:=(⟨[],(0:Int)⟩:yr)) G0 (fun _=>Il _) J fun b=>aC G0 J aw J (ht J) (ht J)<|aU 4 J<|ap<|au<|zo J (cc IY Gg J J) ?_;refine zo J (bC bL J J)<|aA J<|zo J (bG (ht J) (ht J))<|ap<|dN h J (fun h=>?_) (fun h=>?_)
  ·refine au<|zo J (cc IZ Gh J J)<|zo J (bC C0 J J)<|bv J<|ap<|am ?_;refine aB (aa (aa (aB (aa ?_))));cases so h;exact aH J J
  ·refine bD<|al<|an<|ak<|zo rfl (tG (IS hx (by decide)) (ht rfl) hI)<|aA rfl<|aK ?_;exact aW (aM (ih (i+1) ⟨IR hx,h⟩) (bh J))

theorem JX(t:bp){R:Int}(h:j8 t=some R):bg aP 106 [tD ck t] (ce R):=by
 refine bg.of Tryz.func106 J J J fun w0 S0=>au<|zo J (ms J)<|zo J (fi)<|ap<|au<|zo J (cc HB xO J J)<|zo J (bC C0 J J)<|bO h fun r q_r h=>zo J (aL HW (AW _ q_r) ⟨(ht J),aY⟩)<|aA J<|bE J J (fun hg=>cc re lV J J)<|bE J J (fun hg=>aO Bx J J (aJ J hg))<|bE J J (fun hg=>bS qK (aJ J hg))<|bE J J (fun hg=>ek (aJ J hg) hI)<|zo J (kM J J)<|aA J<|bE J J (fun hg=>cc re lV J J)<|bE J J (fun hg=>aO Bx J J (aJ J hg))<|bE J J (fun hg=>bS qK (aJ J hg))<|bE J J (fun hg=>jh (aJ J hg) hI) ?_;refine zo J (kM J J)<|aA J<|bO h fun t1 q_t1 h=>bE J J (fun hg=>cc re lV J J)<|bE J J (fun hg=>aO Bx J J (aJ J hg)) ?_
 obtain⟨r1,h1t1,h0t1⟩:=og q_t1
 have q_r1g:=fun hb=>(h1t1 hb).1
 refine bE J J (fun hg=>aL Og (Jz _ _ (q_r1g hg)) ⟨(aJ J hg),(AM Oe fun x y h=>Jy _ h),aY⟩)<|zo J (dm (ht J) (fun hb=>(aJ J hb)) (fun hb=>(h1t1 hb).2) h0t1)<|bv J<|ap<|ae<|au<|zo J (cc re lV J J)<|zo J (bC Bx J J)<|zo J (jk qK J)<|zo J (bj hI)<|ap<|av<|aX (k:=29) J fun hN=>bK ?_;refine aM (jd (Z:=fun ls i ok=>(t.Columns.drop i=ls)∧eV t ls ok=some R) (Of:=fun _ i ok=>[]) (Gf:=fun _ i ok=>[(1,bz ck t),(3,gU ok),(29,fE (bZ) t.Columns),(30,je t.Columns),(31,ce (i:Int))]) (fun i ok h=>?_) (fun e tl ih i ok h=>?_) t.Columns 0 t1 ⟨J,h⟩) (bh J)
 ·obtain⟨hx,h⟩:=h
  refine aq<|au<|zo J (fx J J)<|ap<|ae<|br (ht J) (dp hx)<|bk ?_;refine ac (ac (aG ?_));refine an<|ae<|au<|zo rfl (cc xS qd rfl rfl)<|zo rfl (bC bT rfl rfl)<|zo rfl (jk dr rfl)<|zo rfl (bj hI)<|ap<|av<|aX (k:=44) J fun hN1=>bK ?_;refine aM (jd (Z:=fun ls1 i1 ok1=>(t.Keys.drop i1=ls1)∧ea t ls1 i1 ok1=some R) (Of:=fun _ i1 ok1=>[]) (Gf:=fun _ i1 ok1=>[(1,bz ck t),(3,gU ok1),(44,lx t.Keys),(45,je t.Keys),(46,ce (i1:Int))]) (fun i1 ok1 h=>?_) (fun e1 tl1 ih1 i1 ok1 h=>?_) t.Keys 0 ok ⟨J,h⟩) (bh J)
  ·obtain⟨hx1,h⟩:=h
   refine aq<|au<|zo J (fx J J)<|ap<|ae<|br (ht J) (dp hx1)<|bk ?_;refine ac (ac (aG ?_));refine an<|ae<|au<|aA rfl<|zo rfl (d9 (ht rfl))<|ap<|dN h rfl (fun h=>?_) (fun h=>?_)
   ·refine au<|zo J (fi)<|ap<|am<|aa ?_;cases so h;exact aH J J
   ·refine eK<|au<|zo J (fi)<|ap<|am ?_;cases so h;exact aH J J
  ·obtain⟨hx1,h⟩:=h
   refine aq<|au<|zo J (fx J J)<|ap<|ae<|bq (ht J) (dh hx1)<|eK<|ae<|av<|au<|aA J<|zo J (ka dr bL J J J (dy hx1))<|zo J (bC bL J J)<|bv J<|bv J<|ap<|ak<|aA J<|aA J ?_;refine bE J J (fun hg=>cM J)<|bE J J (fun hg=>ek (aJ J hg) hI)<|zo J (kM J J)<|aA J<|bE J J (fun hg=>cM J)<|bE J J (fun hg=>cc re lV J J)<|bE J J (fun hg=>aO Bx J J (aJ J hg))<|bE J J (fun hg=>bS qK (aJ J hg))<|bE J J (fun hg=>fz (aJ J hg) (aJ J hg))<|zo J (kM J J)<|aA J<|bO h fun t2 q_t2 h=>bE J J (fun hg=>cM J)<|bE J J (fun hg=>bG (aJ J hg) hI)<|bE J J (fun hg=>bj (aJ J hg)) ?_
   obtain⟨t3,h1t2,h0t2⟩:=og q_t2
   have q_t3g:=fun hb=>(h1t2 hb).1
   refine bw J J J J (fun hg=>cc xS qd J J)<|bw J J J J (fun hg=>aO bT J J (aJ J hg))<|bw J J J J (fun hg=>cM J)<|bw J J J J (fun hg=>gE (aJ J hg) hI) ?_
   obtain⟨e2,h1t3,h0t3⟩:=Pf q_t3g
   have q_e2g:=fun hb=>(h1t3 hb).1
   refine bw J J J J (fun hg=>cr dr bL J (aJ J hg) (aJ J hg) (q_e2g hg))<|bw J J J J (fun hg=>aO bL J J (aJ J hg))<|bw J J J J (fun hg=>cM J)<|bw J J J J (fun hg=>fz (aJ J hg) (aJ J hg))<|bE J J (fun hg=>eN (aJ J hg) (fun hb=>(aJ J (oO hg (m6 hb)))) (fun hb=>(h1t3 (oO hg hb)).2) (fun hb=>h0t3 hg hb))<|zo J (dm (ht J) (fun hb=>(aJ J hb)) (fun hb=>(h1t2 hb).2) h0t2)<|bv J<|aK<|al<|an<|ak<|zo rfl (lb (cL hx1 hN1) rfl)<|aA rfl<|aK ?_;exact aW (aM (ih1 (i1+1) t2 ⟨cK hx1,h⟩) (bh J))
 ·obtain⟨hx,h⟩:=h
  refine aq<|au<|zo J (fx J J)<|ap<|ae<|bq (ht J) (dh hx)<|eK<|ae<|av<|au<|zo J (ka qK nY J J J (dy hx))<|zo J (bC nY J J)<|aZ (r:=bZ) (x:=KY) nY (fun _=>px _) J fun b=>aC nY J aw J (ht J) (ht J)<|aU 5 J<|ap<|ak<|aA J<|aA J ?_;refine bO h fun t4 q_t4 h=>bE J J (fun hg=>cc HA vG J J)<|bE J J (fun hg=>aO bL J J (aJ J hg)) ?_
  obtain⟨r2,h1t4,h0t4⟩:=og q_t4
  have q_r2g:=fun hb=>(h1t4 hb).1
  refine bE J J (fun hg=>aL Od (Jx _ (q_r2g hg)) ⟨(aJ J hg),aY⟩)<|bE J J (fun hg=>IK (aJ J hg) hS)<|zo J (dm (ht J) (fun hb=>(aJ J hb)) (fun hb=>(h1t4 hb).2) h0t4)<|bv J<|aK<|al<|an<|ak<|zo rfl (lb (cL hx hN) rfl)<|aA rfl<|aK ?_;exact aW (aM (ih (i+1) t4 ⟨cK hx,h⟩) (bh J))

theorem JY(t:bp){R:Bool}(h:iO t=some R):bg aP 105 [tD ck t] (gU R):=by
 refine bg.of Tryz.func105 J J J fun w0 S0=>au<|zo J (ms J)<|zo J (fC)<|ap<|au<|zo J (bC oo J J)<|bO h fun r q_r h=>zo J (aL OQ (JX _ q_r) ⟨(ht J),aY⟩)<|zo J (uz J)<|bv J<|ap<|am ?_;cases so h;exact aH J J

theorem EM(s:(List bp))(f:(bp→Option Bool)){R:Int}(h:cR s f=some R):bg aP 173 [fE (ck) s,(fH aP D9 lZ (fun(x:bp)=>f x))] (ce R):=by
 refine bg.of Tryz.func173 J J J fun w0 S0=>au<|zo J (fi)<|ap<|ae<|au<|aA J<|zo J (jk qD J)<|zo J (bj hI)<|ap<|av<|aX (k:=6) J fun hN=>bK ?_;refine aM (eh (Z:=fun ls i=>(s.drop i=ls)∧bH f ls i=some R) (Of:=fun _ i=>[]) (Gf:=fun _ i=>[(0,fE (ck) s),(1,(fH aP D9 lZ (fun(x:bp)=>f x))),(7,je s),(8,ce (i:Int))]) (fun i h=>?_) (fun e tl ih i h=>?_) s 0 ⟨J,h⟩) (bh J)
 ·obtain⟨hx,h⟩:=h
  refine aq<|au<|zo J (fx J J)<|ap<|ae<|br (ht J) (dp hx)<|bk ?_;refine ac (ac (aG ?_));refine an<|au<|zo rfl (fi)<|ap<|am ?_;cases so h;exact aH J J
 ·obtain⟨hx,h⟩:=h
  refine aq<|au<|zo J (fx J J)<|ap<|ae<|bq (ht J) (dh hx)<|eK<|ae<|av<|au<|aA J<|bv J<|ap<|au<|aA J<|aA J<|aA J<|zo J (ka qD oo J J J (dy hx)) ?_;refine zo J (bC oo J J)<|bO h fun r q_r h=>zo J (gF (args:=D9) (res:=yB) (f:=(fun(x:bp)=>f x)) (x:=((e):bp)) (ht J) q_r ⟨(ht J),aY⟩)<|ap<|dN h J (fun h=>?_) (fun h=>?_)
  ·refine au<|aA J<|bv J<|ap<|am ?_;refine aB (aa (aa (aB (aa ?_))));cases so h;exact aH J J
  ·refine bD<|al<|an<|ak<|zo rfl (lb (cL hx hN) rfl)<|aA rfl<|aK ?_;exact aW (aM (ih (i+1) ⟨cK hx,h⟩) (bh J))

end Go.Proofs.YtmogpgcfognefaaGreatDoor

