/- dr of this claim: P15. -/
import Derived.Test.YtnmjbolollcokaaGreatDoorRdT
import Derived.Test.YtnmjbolollcokaaGreatDoorRdP14
set_option linter.all false
namespace Go.Proofs.YtnmjbolollcokaaGreatDoor
open Go
set_option maxRecDepth 100000

theorem Q7: ∀(fu:Nat) (l:bR) (at1:Int) {R:(List Int)×Bool} (h:cO fu l at1=some R),bo bl 78 [tD ck l,cb at1] (tT [dI R.1,gq R.2]):=by
 intro fu
 induction fu with
 |zero=>intro l at1 R h;exact(nn h).elim
 |succ fu ih=>
  intro l at1 R h
  refine bo.of Tryz.func78 J J J fun w0 S0=>aw<|zo J (jt J)<|zo J (aU (show aZ _ _ _ mJ from jr))<|zo J (ez)<|au<|ac<|aw<|zo J (bm lx J J)<|aE J<|bz h fun r q_r h=>zo J (aC Jf (LM _ _ q_r) ⟨(ht J),(ht J),aT⟩)<|zo J (iz J)<|aE J<|bz h fun t q_t h=>ci J J (fun hg=>bD jn dM J J)<|ci J J (fun hg=>aI iB J J (aS J hg))<|ci J J (fun hg=>cG J) ?_
  obtain⟨e,h1t,h0t⟩:=og q_t
  have q_eg:=fun hb=>(h1t hb).1
  refine ci J J (fun hg=>aQ om cz J (aS J hg) (aS J hg) (q_eg hg))<|ci J J (fun hg=>aI cz J J (aS J hg)) ?_
  obtain⟨r1,h1t⟩:=OR (fun hb=>(h1t hb).2)
  have q_r1g:=fun hb=>(h1t hb).1
  refine ci J J (fun hg=>aC XI (R9 _ (q_r1g hg)) ⟨(aS J hg),aT⟩)<|ci J J (fun hg=>dh (aS J hg))<|zo J (dj (ht J) (fun hb=>(aS J (nZ hb))) (fun hb=>(h1t hb).2) h0t)<|au<|cE h J (fun h=>?_) (fun h=>?_)
  ·refine aw<|zo J (aU (show aZ _ _ _ mJ from jr))<|zo J (ez)<|au<|ak<|M ?_;cases so h;exact co J J J
  ·refine dz<|aw<|zo J (bD jn dM J J)<|zo J (bm iB J J)<|aE J<|bz h fun e1 q_e1 h=>zo J (iQ om cz J J J q_e1)<|zo J (bm cz J J)<|bj (r:=ah) (x:=zk) cz (fun _=>iT _) J fun b=>ai cz J aj J (ht J) (ht J)<|bh 6 J<|au<|aw<|zo J (aU (show aZ _ _ _ mJ from jr))<|zo J (aU (show aZ _ _ _ mJ from jr))<|au ?_;refine dD (Z:=fun a1=>eI (cO fu) l at1 e1 a1=some R) (Of:=fun a1=>[]) (Gf:=fun a1=>[(1,cb at1),(2,bt ck l),(6,bt ah e1),(7,dI a1),(8,dI ([]))]) (fun a1 h=>?_) (fun K=>?_)
   ·skip
    refine dD (Z:=fun b1=>gz l at1 e1 a1 b1=some R) (Of:=fun b1=>[]) (Gf:=fun b1=>[(1,cb at1),(2,bt ck l),(6,bt ah e1),(7,dI a1),(8,dI b1)]) (fun b1 h=>?_) (fun K1=>?_)
    ·skip
     refine aw<|zo J (bm cz J J)<|aE J<|aE J<|bz h fun r2 q_r2 h=>zo J (aC XH (R8 _ _ _ q_r2) ⟨(ht J),(ht J),(ht J),aT⟩)<|aE J<|zo J (kG J J)<|zo J (kG J J)<|bu J<|bu J<|au<|ac<|aw<|zo J (bD lh eP J J)<|zo J (bm bA J J)<|zo J (iz J)<|aE J<|bX J J (fun hg=>cG J)<|bX J J (fun hg=>bD jn dM J J)<|bX J J (fun hg=>aI iB J J (aS J hg)) ?_;refine bX J J (fun hg=>bU om (aS J hg))<|bX J J (fun hg=>dL (aS J hg) hI)<|bX J J (fun hg=>cF (aS J hg) (aS J hg))<|zo J (mI J J)<|aE J<|ci J J (fun hg=>cG J)<|ci J J (fun hg=>bU dc (aS J hg))<|ci J J (fun hg=>d5 (aS J hg) hI)<|zo J (nW J J)<|au<|cE h J (fun h=>?_) (fun h=>?_)
     ·refine aw<|zo J (aU (show aZ _ _ _ mJ from jr))<|zo J (ez)<|au<|ak<|M ?_;cases so h;exact co J J J
     ·refine dz<|aw<|aE J<|aE J<|bu J<|bu J<|au<|ak ?_;cases so h;exact co J J J
    ·skip
     refine aw<|zo J (bD iy d9 J J)<|zo J (bm bA J J)<|zo J (cU (ht J) hI)<|au<|cE h J (fun h=>?_) (fun h=>?_)
     ·refine aw<|zo J (bm lx J J)<|zo J (bD iy d9 J J)<|zo J (bm bA J J)<|bz h fun r3 q_r3 h=>zo J (aC Sn (ih _ _ q_r3) ⟨(ht J),(ht J),aT⟩)<|aE J<|zo J (kG J J)<|zo J (kG J J)<|bu J<|bu J<|au<|ac<|aw<|aE J<|zo J (dh (ht J))<|au<|cE h J (fun h=>?_) (fun h=>?_)
      ·refine aw<|zo J (aU (show aZ _ _ _ mJ from jr))<|zo J (ez)<|au<|ak ?_;refine M (M ?_);cases so h;exact co J J J
      ·refine dz<|am<|aE J<|bu J<|aJ ?_;exact bJ (K1 r3.1 h) (bg J)
     ·refine bk ?_;exact bJ (K1 ([]) h) (bg J)
   ·skip
    refine aw<|zo J (bD fC cY J J)<|zo J (bm bA J J)<|zo J (cU (ht J) hI)<|au<|cE h J (fun h=>?_) (fun h=>?_)
    ·refine aw<|zo J (bm lx J J)<|zo J (bD fC cY J J)<|zo J (bm bA J J)<|bz h fun r4 q_r4 h=>zo J (aC Sn (ih _ _ q_r4) ⟨(ht J),(ht J),aT⟩)<|aE J<|zo J (kG J J)<|zo J (kG J J)<|bu J<|bu J<|au<|ac<|aw<|aE J<|zo J (dh (ht J))<|au<|cE h J (fun h=>?_) (fun h=>?_)
     ·refine aw<|zo J (aU (show aZ _ _ _ mJ from jr))<|zo J (ez)<|au<|ak ?_;refine M (M ?_);cases so h;exact co J J J
     ·refine dz<|am<|aE J<|bu J<|aJ ?_;exact bJ (K r4.1 h) (bg J)
    ·refine bk ?_;exact bJ (K ([]) h) (bg J)
theorem Pn(l:bR)(at1:Int){R:(List Int)×Bool}(h:lM l at1=some R):bo bl 78 [tD ck l,cb at1] (tT [dI R.1,gq R.2]):=Q7 cZ l at1 h

theorem Ul(l:bR){R:Int}(h:qh l=some R):bo bl 75 [tD ck l] (cb R):=by
 refine bo.of Tryz.func75 J J J fun w0 S0=>aw<|zo J (jt J)<|zo J (dB)<|au<|aw<|zo J (bD jn dM J J)<|zo J (bm iB J J)<|zo J (fW om J)<|bu J<|au<|ac<|aw<|aE J<|zo J (eO (ht J) hI)<|aE J<|ci J J (fun hg=>cG J)<|ci J J (fun hg=>d5 (aS J hg) hI)<|zo J (nW J J) ?_;refine au<|cE h J (fun h=>?_) (fun h=>?_)
 ·refine aw<|zo J (dB)<|au<|ak<|M ?_;cases so h;exact aF J J
 ·refine dz<|ac<|aw<|zo J (dB)<|au<|ax<|br (k:=8) J fun hN=>bB ?_;refine aP (em (Z:=fun ls i=>(l.Nodes.drop i=ls)∧fj l ls i=some R) (Of:=fun _ i=>[]) (Gf:=fun _ i=>[(1,bt ck l),(3,jV l.Nodes),(4,cb (i:Int))]) (fun i h=>?_) (fun e tl ih i h=>?_) l.Nodes 0 ⟨J,h⟩) (bg J)
  ·obtain⟨hx,h⟩:=h
   refine aB<|ac<|aw<|aE J<|aE J<|zo J (ft J J)<|au<|bP (ht J) (dU hx)<|bp ?_;refine ae (ae (aK ?_));refine aq<|ac<|aw<|zo rfl (bm lx rfl rfl)<|aE rfl<|zo rfl (dL (ht rfl) hI)<|bz h fun r q_r h=>zo J (aC Jf (LM _ _ q_r) ⟨(ht J),(ht J),aT⟩)<|aE J<|zo J (cF (ht J) (ht J))<|au<|cE h J (fun h=>?_) (fun h=>?_)
   ·refine aw<|aE J<|zo J (dL (ht J) hI)<|bu J<|au<|ak<|M ?_;cases so h;exact aF J J
   ·refine dz<|aw<|zo J (dB)<|au<|ak ?_;cases so h;exact aF J J
  ·obtain⟨hx,h⟩:=h
   refine aB<|ac<|aw<|aE J<|aE J<|zo J (ft J J)<|au<|bO (ht J) (dN hx)<|dz<|ac<|ax<|aw<|zo J (bm lx J J)<|aE J<|bz h fun r1 q_r1 h=>zo J (aC Sn (Pn _ _ q_r1) ⟨(ht J),(ht J),aT⟩)<|aE J<|zo J (kG J J)<|zo J (kG J J)<|bu J ?_;refine bu J<|au<|aw<|aE J<|zo J (dh (ht J))<|au<|cE h J (fun h=>?_) (fun h=>?_)
   ·refine aw<|aE J<|bu J<|au<|ak ?_;refine ay (M (M (ay (M ?_))));cases so h;exact aF J J
   ·refine bk<|an<|aq<|am<|aE rfl<|zo rfl (nh (dm hx hN) rfl)<|bu rfl<|aJ ?_;exact be (aP (ih (i+1) ⟨dl hx,h⟩) (bg J))

theorem UB(l:bR){R:Bool}(h:uF l=some R):bo bl 39 [tD ck l] (gq R):=by
 refine bo.of Tryz.func39 J J J fun w0 S0=>aw<|zo J (jt J)<|zo J (ez)<|au<|aw<|zo J (bm lx J J)<|bz h fun r q_r h=>zo J (aC Yw (Ul _ q_r) ⟨(ht J),aT⟩)<|zo J (eO (ht J) hI)<|bu J<|au<|ak ?_;cases so h;exact aF J J

theorem Hj(c:Int){R:Bool}(h:sr c=some R):bo bl 181 [tD (rI .u8) c] (gq R):=by
 refine bo.of Tryz.func181 J J J fun w0 S0=>aw<|zo J (ez)<|au<|aw<|aE J<|zo J (cU (ht J) hI)<|aE J<|bX J J (fun hg=>cG J)<|bX J J (fun hg=>g9 (aS J hg) hI)<|zo J (mI J J)<|bu J<|au<|ak ?_;cases so h;exact aF J J

theorem Ru(l:(List jb))(s:jb){R:Bool}(h:Bv l s=some R):bo bl 227 [fc (rS) l,tD rS s] (gq R):=by
 refine bo.of Tryz.func227 J J J fun w0 S0=>aw<|zo J (ez)<|au<|ac<|aw<|zo J (dB)<|au<|ax<|br (k:=0) J fun hN=>bB ?_;refine aP (em (Z:=fun ls i=>(l.drop i=ls)∧qC s ls=some R) (Of:=fun _ i=>[]) (Gf:=fun _ i=>[(0,fc (rS) l),(1,tD rS s),(5,cb (i:Int))]) (fun i h=>?_) (fun e tl ih i h=>?_) l 0 ⟨J,h⟩) (bg J)
 ·obtain⟨hx,h⟩:=h
  refine aB<|ac<|aw<|aE J<|aE J<|zo J (fW Fe J)<|zo J (ft J J)<|au<|bP (ht J) (dU hx)<|bp ?_;refine ae (ae (aK ?_));refine aq<|aw<|zo rfl (ez)<|au<|ak ?_;cases so h;exact aF J J
 ·obtain⟨hx,h⟩:=h
  refine aB<|ac<|aw<|aE J<|aE J<|zo J (fW Fe J)<|zo J (ft J J)<|au<|bO (ht J) (dN hx)<|dz<|ac<|ax<|aw<|aE J<|aE J<|zo J (iQ Fe A9 J J J (dO hx))<|zo J (bm A9 J J)<|aE J<|zo J (qI (ht J) (ht J))<|aJ ?_;refine aq<|cE h rfl (fun h=>?_) (fun h=>?_)
  ·refine aw<|zo J (ez)<|au<|ak ?_;refine ay (M (M (ay (M ?_))));cases so h;exact aF J J
  ·refine bk<|an<|aq<|am<|aE rfl<|zo rfl (nh (dm hx hN) rfl)<|bu rfl<|aJ ?_;exact be (aP (ih (i+1) ⟨dl hx,h⟩) (bg J))

theorem Pu{R:(List jb)}(h:xA=some R):gK bl 228 [] false rS 9 R:=by
 refine gK.of Tryz.func228 J J J fun w0 S0=>aw<|cd false rS 9<|zo J (aU s6)<|au<|aw<|jT (r:=rS) (ys:=[[83,69,76,69,67,84],[68,73,83,84,73,78,67,84],[70,82,79,77],[76,69,70,84],[74,79,73,78],[79,78],[87,72,69,82,69],[71,82,79,85,80],[66,89],[72,65,86,73,78,71],[85,78,73,79,78],[65,76,76],[79,82,68,69,82],[76,73,77,73,84],[65,83,67],[68,69,83,67],[65,83],[65,78,68],[79,82],[78,79,84],[73,83],[78,85,76,76],[84,82,85,69],[70,65,76,83,69],[67,79,85,78,84],[83,85,77],[77,73,78],[77,65,88]]) (xs:=[.const (.string ⟨#[83,69,76,69,67,84]⟩),.const (.string ⟨#[68,73,83,84,73,78,67,84]⟩),.const (.string ⟨#[70,82,79,77]⟩),.const (.string ⟨#[76,69,70,84]⟩),.const (.string ⟨#[74,79,73,78]⟩),.const (.string ⟨#[79,78]⟩),.const (.string ⟨#[87,72,69,82,69]⟩),.const (.string ⟨#[71,82,79,85,80]⟩),.const (.string ⟨#[66,89]⟩),.const (.string ⟨#[72,65,86,73,78,71]⟩),.const (.string ⟨#[85,78,73,79,78]⟩),.const (.string ⟨#[65,76,76]⟩),.const (.string ⟨#[79,82,68,69,82]⟩),.const (.string ⟨#[76,73,77,73,84]⟩),.const (.string ⟨#[65,83,67]⟩),.const (.string ⟨#[68,69,83,67]⟩),.const (.string ⟨#[65,83]⟩),.const (.string ⟨#[65,78,68]⟩),.const (.string ⟨#[79,82]⟩),.const (.string ⟨#[78,79,84]⟩),.const (.string ⟨#[73,83]⟩),.const (.string ⟨#[78,85,76,76]⟩),.const (.string ⟨#[84,82,85,69]⟩),.const (.string ⟨#[70,65,76,83,69]⟩),.const (.string ⟨#[67,79,85,78,84]⟩),.const (.string ⟨#[83,85,77]⟩),.const (.string ⟨#[77,73,78]⟩),.const (.string ⟨#[77,65,88]⟩)]) Fe A9 J J J J J ⟨hS,hS,hS,hS,hS,hS,hS,hS,hS,hS,hS,hS,hS,hS,hS,hS,hS,hS,hS,hS,hS,hS,hS,hS,hS,hS,hS,hS,aT⟩ J fun l c=>bu J<|au<|ak ?_;cases so h;exact jd J J
theorem RR(s:jb){R:Bool}(h:th s=some R):bo bl 182 [tD rS s] (gq R):=by
 refine bo.of Tryz.func182 J J J fun w0 S0=>aw<|zo J (ez)<|au<|aw<|bz h fun r q_r h=>lY WI (Pu q_r) trivial J fun l c=>aE J<|m8<|lk 3 J<|bz h fun r1 q_r1 h=>zo J (aC WJ (Ru _ _ q_r1) ⟨(kT (ht J)),(ht J),aT⟩)<|bu J<|au<|ak<|aL ?_;cases so h;exact aF J J

theorem RQ(s:jb){R:jb}(h:uK s=some R):bo bl 183 [tD rS s] (tD rS R):=by
 refine bo.of Tryz.func183 J J J fun w0 S0=>aw<|zo J (aU hS)<|au<|aw<|cd false (rI .u8) 5<|zo J (aU s6)<|au<|ac<|aw<|zo J (dB)<|au<|ax<|bB ?_;refine aP (tH (Z:=fun n out l c i=>ld s n out i=some R) (Of:=fun out l c i=>[ga (rI .u8) 5 l c out]) (Gf:=fun out l c i=>[(0,tD rS s),(3,oP l c out),(4,cb i)]) (fun out l c i h=>nn h) (fun n ih out l c i h=>?_) cZ oq none 0 (0:Int) h) (bg J);refine aB<|ac<|aw<|aE J<|aE J<|zo J (rP kf (ht J))<|zo J (ft J J)<|au<|cE h J (fun h=>?_) (fun h=>?_)
 ·refine dz<|ac<|ax<|aw<|aE J<|aE J<|bz h fun b q_b h=>zo J (tL kf (ht J) (ht J) q_b)<|bu J<|au ?_;refine dD (Z:=fun c1=>oE (ld s n) out i c1=some R) (Of:=fun c1=>[ga (rI .u8) 5 l c out]) (Gf:=fun c1=>[(0,tD rS s),(3,oP l c out),(4,cb i),(5,tD (rI .u8) c1)]) (fun c1 h=>?_) (fun K=>?_)
  ·skip
   refine am<|aE J<|aE J<|zo J (aN (r:=(rI .u8)) (ys:=[c1]) (xs:=[.tmp 21]) Tryz.underlying257 X3 J J J J J ⟨(ht J),aT⟩)<|bz h fun cv q_out1 h=>cK X3 J J J J Tryz.underlying257 J J (ht J) (ht J) q_out1 fun l1 c2=>bu J<|aJ<|an<|aq<|am<|aE rfl<|zo rfl (ei (ht rfl) hI)<|bu rfl<|aJ ?_;exact be (aP (ih cv l1 c2 (IntKind.i64.wrap (i+(1:Int))) h) (bg J))
  ·skip
   refine aw<|aE J<|bz h fun r q_r h=>zo J (aC PZ (Hj _ q_r) ⟨(ht J),aT⟩)<|au<|cE h J (fun h=>?_) (fun h=>?_)
   ·refine am<|aE J<|zo J (dL (ht J) hI)<|zo J (ei (ht J) hI)<|bu J<|aJ ?_;exact bJ (K (IntKind.u8.wrap ((IntKind.u8.wrap (b-(97:Int)))+(65:Int))) h) (bg J)
   ·refine bk ?_;exact bJ (K b h) (bg J)
 ·refine bp ?_;refine ae (ae (aK ?_));refine aq<|aw<|aE rfl<|m8<|lk 3 rfl<|lk 24 rfl<|zo rfl (M0 Tryz.underlying257 N4 kf X3 rfl (kT (ht rfl)))<|bu rfl<|au<|ak<|aL ?_;cases so h;exact aF J J

theorem RP(c:Int){R:Bool}(h:xz c=some R):bo bl 184 [tD (rI .u8) c] (gq R):=by
 refine bo.of Tryz.func184 J J J fun w0 S0=>aw<|zo J (ez)<|au<|aw<|aE J<|zo J (cU (ht J) hI)<|aE J<|bX J J (fun hg=>cG J)<|bX J J (fun hg=>g9 (aS J hg) hI)<|zo J (mI J J)<|bu J<|au<|ak ?_;cases so h;exact aF J J

theorem LL(s:jb){R:Bool}(h:qD s=some R):bo bl 113 [tD rS s] (gq R):=by
 refine bo.of Tryz.func113 J J J fun w0 S0=>aw<|zo J (ez)<|au<|ac<|aw<|aE J<|zo J (rP kf (ht J))<|zo J (eO (ht J) hI)<|aE J<|ci J J (fun hg=>cG J)<|ci J J (fun hg=>rP kf (aS J hg))<|ci J J (fun hg=>d5 (aS J hg) hI)<|zo J (nW J J)<|aE J<|bz h fun t q_t h=>ci J J (fun hg=>cG J) ?_
 obtain⟨b,h1t,h0t⟩:=og q_t
 have q_bg:=fun hb=>(h1t hb).1
 refine ci J J (fun hg=>tL kf (aS J hg) hI (q_bg hg)) ?_
 obtain⟨r,h1t⟩:=OR (fun hb=>(h1t hb).2)
 have q_rg:=fun hb=>(h1t hb).1
 refine ci J J (fun hg=>aC PZ (Hj _ (q_rg hg)) ⟨(aS J hg),aT⟩)<|ci J J (fun hg=>dh (aS J hg))<|zo J (dj (ht J) (fun hb=>(aS J (nZ hb))) (fun hb=>(h1t hb).2) h0t)<|aE J<|bz h fun t1 q_t1 h=>ci J J (fun hg=>cG J) ?_
 obtain⟨r1,h1t1,h0t1⟩:=og q_t1
 have q_r1g:=fun hb=>(h1t1 hb).1
 refine ci J J (fun hg=>aC Xd (RQ _ (q_r1g hg)) ⟨(aS J hg),aT⟩) ?_
 obtain⟨r2,h1t1⟩:=OR (fun hb=>(h1t1 hb).2)
 have q_r2g:=fun hb=>(h1t1 hb).1
 refine ci J J (fun hg=>aC Xe (RR _ (q_r2g hg)) ⟨(aS J hg),aT⟩)<|zo J (dj (ht J) (fun hb=>(aS J (nZ hb))) (fun hb=>(h1t1 hb).2) h0t1)<|au<|cE h J (fun h=>?_) (fun h=>?_)
 ·refine aw<|zo J (ez)<|au<|ak<|M ?_;cases so h;exact aF J J
 ·refine dz<|ac<|aw<|zo J (dB)<|au<|ax<|bB ?_;refine aP (pg (Z:=fun n i=>nH s n i=some R) (Of:=fun i=>[]) (Gf:=fun i=>[(0,tD rS s),(3,cb i)]) (fun i h=>nn h) (fun n ih i h=>?_) cZ (0:Int) h) (bg J);refine aB<|ac<|aw<|aE J<|aE J<|zo J (rP kf (ht J))<|zo J (ft J J)<|au<|cE h J (fun h=>?_) (fun h=>?_)
  ·refine dz<|ac<|ax<|aw<|aE J<|aE J<|bz h fun b1 q_b1 h=>zo J (tL kf (ht J) (ht J) q_b1)<|bz h fun r3 q_r3 h=>zo J (aC PZ (Hj _ q_r3) ⟨(ht J),aT⟩)<|zo J (dh (ht J))<|aE J<|bz h fun t2 q_t2 h=>bX J J (fun hg=>cG J)<|bX J J (fun hg=>cG J) ?_
   obtain⟨b2,h1t2,h0t2⟩:=og q_t2
   have q_b2g:=fun hb=>(h1t2 hb).1
   refine bX J J (fun hg=>tL kf (aS J hg) (aS J hg) (q_b2g hg)) ?_
   obtain⟨r4,h1t2⟩:=OR (fun hb=>(h1t2 hb).2)
   have q_r4g:=fun hb=>(h1t2 hb).1
   refine bX J J (fun hg=>aC Xc (RP _ (q_r4g hg)) ⟨(aS J hg),aT⟩)<|bX J J (fun hg=>dh (aS J hg))<|zo J (cS (ht J) (fun hb=>(aS J hb)) (fun hb=>(h1t2 hb).2) h0t2)<|aE J<|bz h fun t3 q_t3 h=>bX J J (fun hg=>cG J)<|bX J J (fun hg=>cG J) ?_
   obtain⟨b3,h1t3,h0t3⟩:=og q_t3
   have q_b3g:=fun hb=>(h1t3 hb).1
   refine bX J J (fun hg=>tL kf (aS J hg) (aS J hg) (q_b3g hg))<|bX J J (fun hg=>cF (aS J hg) hI)<|zo J (cS (ht J) (fun hb=>(aS J hb)) (fun hb=>(h1t3 hb).2) h0t3)<|au<|cE h J (fun h=>?_) (fun h=>?_)
   ·refine aw<|zo J (ez)<|au<|ak ?_;refine ay (M (M (ay (M ?_))));cases so h;exact aF J J
   ·refine bk<|an<|aq<|am<|aE rfl<|zo rfl (ei (ht rfl) hI)<|bu rfl<|aJ ?_;exact be (aP (ih (IntKind.i64.wrap (i+(1:Int))) h) (bg J))
  ·refine bp ?_;refine ae (ae (aK ?_));refine aq<|aw<|zo rfl (ez)<|au<|ak ?_;cases so h;exact aF J J

theorem Sa(kind:Int){R:jb}(h:wg kind=some R):bo bl 114 [cb kind] (tD rS R):=by
 refine bo.of Tryz.func114 J J J fun w0 S0=>aw<|zo J (aU hS)<|au<|ac<|aw<|aE J<|au<|ax<|aw<|zo J (iz J)<|bu J<|au<|cE h J (fun h=>?_) (fun h=>?_)
 ·refine aw<|zo J (aU hS)<|au<|ak ?_;refine ay (M ?_);cases so h;exact aF J J
 ·refine aw<|zo J (iz J)<|bu J<|au<|cE h J (fun h=>?_) (fun h=>?_)
  ·refine aw<|zo J (aU hS)<|au<|ak ?_;refine ay (M ?_);cases so h;exact aF J J
  ·refine aw<|zo J (iz J)<|bu J<|au<|cE h J (fun h=>?_) (fun h=>?_)
   ·refine aw<|zo J (aU hS)<|au<|ak ?_;refine ay (M ?_);cases so h;exact aF J J
   ·refine bk<|an<|aq<|aw<|zo rfl (aU hS)<|au<|ak ?_;cases so h;exact aF J J

theorem Uk(t:ca){R:Bool}(h:oY t=some R):bo bl 76 [tD di t] (gq R):=by
 refine bo.of Tryz.func76 J J J fun w0 S0=>aw<|zo J (jt J)<|zo J (ez)<|au<|ac<|aw<|zo J (bD BH rr J J)<|zo J (bm A9 J J)<|bz h fun r q_r h=>zo J (aC SW (LL _ q_r) ⟨(ht J),aT⟩)<|zo J (dh (ht J))<|aE J<|ci J J (fun hg=>bD pn hY J J)<|ci J J (fun hg=>aI yJ J J (aS J hg))<|ci J J (fun hg=>bU sO (aS J hg))<|ci J J (fun hg=>eO (aS J hg) hI)<|zo J (nW J J)<|aE J<|ci J J (fun hg=>bD pn hY J J)<|ci J J (fun hg=>aI yJ J J (aS J hg)) ?_;refine ci J J (fun hg=>bU sO (aS J hg))<|ci J J (fun hg=>d5 (aS J hg) hI)<|zo J (nW J J)<|au<|cE h J (fun h=>?_) (fun h=>?_)
 ·refine aw<|zo J (ez)<|au<|ak<|M ?_;cases so h;exact aF J J
 ·refine dz<|ac<|aw<|zo J (dB)<|au<|ax<|bB ?_;refine aP (pg (Z:=fun n i=>je t n i=some R) (Of:=fun i=>[]) (Gf:=fun i=>[(1,bt di t),(3,cb i)]) (fun i h=>nn h) (fun n ih i h=>?_) cZ (0:Int) h) (bg J);refine aB<|ac<|aw<|aE J<|zo J (bD pn hY J J)<|zo J (bm yJ J J)<|zo J (fW sO J)<|zo J (ft J J)<|au<|cE h J (fun h=>?_) (fun h=>?_)
  ·refine dz<|ac<|ax<|aw<|zo J (bD pn hY J J)<|zo J (bm yJ J J)<|aE J<|bz h fun e q_e h=>zo J (iQ sO pq J J J q_e)<|zo J (bm pq J J)<|bj (r:=dR) (x:=N8) pq (fun _=>qa _) J fun b=>ai pq J aj J (ht J) (ht J)<|bh 4 J<|au<|ac<|aw<|zo J (bD Ef sI J J)<|zo J (bm A9 J J)<|bz h fun r1 q_r1 h=>zo J (aC SW (LL _ q_r1) ⟨(ht J),aT⟩) ?_;refine zo J (dh (ht J))<|aE J<|bz h fun t1 q_t1 h=>ci J J (fun hg=>bD Ha uY J J)<|ci J J (fun hg=>aI bA J J (aS J hg)) ?_
   obtain⟨r2,h1t1,h0t1⟩:=og q_t1
   have q_r2g:=fun hb=>(h1t1 hb).1
   refine ci J J (fun hg=>aC XJ (Sa _ (q_r2g hg)) ⟨(aS J hg),aT⟩)<|ci J J (fun hg=>qI (aS J hg) hS)<|zo J (dj (ht J) (fun hb=>(aS J (nZ hb))) (fun hb=>(h1t1 hb).2) h0t1)<|au<|cE h J (fun h=>?_) (fun h=>?_)
   ·refine aw<|zo J (ez)<|au<|ak ?_;refine M (ay (M (M (ay (M ?_)))));cases so h;exact aF J J
   ·refine dz<|aw<|zo J (dB)<|au<|ax<|bB ?_;refine aP (pg (Z:=fun n1 k=>kD t (je t n) i e n1 k=some R) (Of:=fun k=>[]) (Gf:=fun k=>[(1,bt di t),(3,cb i),(4,bt dR e),(5,cb k)]) (fun k h=>nn h) (fun n1 ih1 k h=>?_) cZ (0:Int) h) (bg J);refine aB<|ac<|aw<|aE J<|aE J<|zo J (ft J J)<|au<|cE h J (fun h=>?_) (fun h=>?_)
    ·refine dz<|ac<|ax<|ac<|bz h fun e1 q_e1 h=>?_
     refine eu (ts:=[_,_,_,_,_,_,_,_,_]) mixed J J
      ⟨ef 1 J J J (bD pn hY J J),
      ⟨cT 50 0 J J J (bm yJ J J),
      ⟨ef 5 J J J (cG J),
      ⟨dG 51 1 52 2 J J J J (iQ sO pq J J J q_e1),
      ⟨cT 53 3 J J J (bD Ef sI J J),
      ⟨cT 54 4 J J J (bm A9 J J),
      ⟨ef 4 J J J (bD Ef sI J J),
      ⟨cT 56 6 J J J (bm A9 J J),
      ⟨dG 55 5 57 7 J J J J (qI (ht J) (ht J)),
      aT⟩⟩⟩⟩⟩⟩⟩⟩⟩ ?_
     refine aq<|cE h rfl (fun h=>?_) (fun h=>?_)
     ·refine aw<|zo J (ez)<|au<|ak ?_;refine ay (M (M (ay (ay (M (M (ay (M ?_))))))));cases so h;exact aF J J
     ·refine bk<|an<|aq<|am<|aE rfl<|zo rfl (ei (ht rfl) hI)<|bu rfl<|aJ ?_;exact be (aP (ih1 (IntKind.i64.wrap (k+(1:Int))) h) (bg J))
    ·refine bp ?_;refine ae (ae (aK ?_));refine an<|aq<|am<|aE rfl<|zo rfl (ei (ht rfl) hI)<|bu rfl<|aJ ?_;exact be (aP (ih (IntKind.i64.wrap (i+(1:Int))) h) (bg J))
  ·refine bp ?_;refine ae (ae (aK ?_));refine aq<|ac<|aw<|zo rfl (dB)<|au<|ax<|bB ?_;refine aP (pg (Z:=fun n2 i1=>kC t n2 i1=some R) (Of:=fun i1=>[]) (Gf:=fun i1=>[(1,bt di t),(6,cb i1)]) (fun i1 h=>nn h) (fun n2 ih2 i1 h=>?_) cZ (0:Int) h) (bg J);refine aB<|ac<|aw<|aE J<|zo J (bD vo mq J J)<|zo J (bm cD J J)<|zo J (fW dc J)<|zo J (ft J J)<|au<|cE h J (fun h=>?_) (fun h=>?_)
   ·refine dz<|ac<|ax<|ac<|bz h fun e2 q_e2 h=>bz h fun t2 q_t2 h=>?_
    obtain⟨t3,h1t2,h0t2⟩:=og q_t2
    have q_t3g:=fun hb=>(h1t2 hb).1
    obtain⟨e3,h1t3,h0t3⟩:=X7 q_t3g
    have q_e3g:=fun hb=>(h1t3 hb).1
    refine eu (ts:=[_,_,_,_,_,_,_,_,_,_,_,_,_,_,_,_,_,_,_,_,_,_,_,_,_,_,_,_,_,_,_,_,_,_,_]) mixed J J
     ⟨ef 1 J J J (bD vo mq J J),
     ⟨cT 66 0 J J J (bm cD J J),
     ⟨ef 6 J J J (cG J),
     ⟨dG 67 1 68 2 J J J J (iQ dc bA J J J q_e2),
     ⟨cT 69 3 J J J (bm bA J J),
     ⟨cT 70 4 J J J (eO (ht J) hI),
     ⟨cT 71 5 J J J (cG J),
     ⟨oj 1 72 6 J J J J (dx J J J J (fun hg=>bD vo mq J J)),
     ⟨gj 73 7 72 6 J J J J (dx J J J J (fun hg=>aI cD J J (aS J hg))),
     ⟨oj 6 72 6 J J J J (dx J J J J (fun hg=>cG J)),
     ⟨sd 74 8 75 9 72 6 J J J J J (dx J J J J (fun hg=>aQ dc bA J (aS J hg) (aS J hg) q_e2)),
     ⟨gj 76 10 72 6 J J J J (dx J J J J (fun hg=>aI bA J J (aS J hg))),
     ⟨oj 1 72 6 J J J J (dx J J J J (fun hg=>bD pn hY J J)),
     ⟨gj 78 12 72 6 J J J J (dx J J J J (fun hg=>aI yJ J J (aS J hg))),
     ⟨gj 79 13 72 6 J J J J (dx J J J J (fun hg=>bU sO (aS J hg))),
     ⟨sd 77 11 80 14 72 6 J J J J J (dx J J J J (fun hg=>cU (aS J hg) (aS J hg))),
     ⟨dG 72 6 81 15 J J J J (nW J J),
     ⟨cT 82 16 J J J (cG J),
     ⟨oj 6 83 17 J J J J (dx J J J J (fun hg=>cG J)),
     ⟨gj 84 18 83 17 J J J J (dx J J J J (fun hg=>d5 (aS J hg) hI)),
     ⟨gj 85 19 83 17 J J J J (dx J J J J (fun hg=>bQ (aS J hg))),
     ⟨oj 1 86 20 J J J J (pR J J J J (fun hg=>bD vo mq J J)),
     ⟨gj 87 21 86 20 J J J J (pR J J J J (fun hg=>aI cD J J (aS J hg))),
     ⟨oj 6 86 20 J J J J (pR J J J J (fun hg=>cG J)),
     ⟨gj 89 23 86 20 J J J J (pR J J J J (fun hg=>dL (aS J hg) hI)),
     ⟨sd 88 22 90 24 86 20 J J J J J (pR J J J J (fun hg=>aQ dc bA J (aS J hg) (aS J hg) (q_e3g hg))),
     ⟨gj 91 25 86 20 J J J J (pR J J J J (fun hg=>aI bA J J (aS J hg))),
     ⟨oj 1 86 20 J J J J (pR J J J J (fun hg=>bD vo mq J J)),
     ⟨gj 93 27 86 20 J J J J (pR J J J J (fun hg=>aI cD J J (aS J hg))),
     ⟨oj 6 86 20 J J J J (pR J J J J (fun hg=>cG J)),
     ⟨sd 94 28 95 29 86 20 J J J J J (pR J J J J (fun hg=>aQ dc bA J (aS J hg) (aS J hg) q_e2)),
     ⟨gj 96 30 86 20 J J J J (pR J J J J (fun hg=>aI bA J J (aS J hg))),
     ⟨sd 92 26 97 31 86 20 J J J J J (pR J J J J (fun hg=>cU (aS J hg) (aS J hg))),
     ⟨sd 86 20 98 32 83 17 J J J J J (dx J J J J (fun hg=>cS (aS J hg) (fun hb=>(aS J (tF hg hb))) (fun hb=>(h1t3 (tF hg hb)).2) (fun hb=>h0t3 hg hb))),
     ⟨dG 83 17 99 33 J J J J (dj (ht J) (fun hb=>(aS J (nZ hb))) (fun hb=>(h1t2 hb).2) h0t2),
     aT⟩⟩⟩⟩⟩⟩⟩⟩⟩⟩⟩⟩⟩⟩⟩⟩⟩⟩⟩⟩⟩⟩⟩⟩⟩⟩⟩⟩⟩⟩⟩⟩⟩⟩⟩ ?_
    refine aq<|cE h rfl (fun h=>?_) (fun h=>?_)
    ·refine aw<|zo J (ez)<|au<|ak ?_;refine ay (M (M (ay (M ?_))));cases so h;exact aF J J
    ·refine bk<|an<|aq<|am<|aE rfl<|zo rfl (ei (ht rfl) hI)<|bu rfl<|aJ ?_;exact be (aP (ih2 (IntKind.i64.wrap (i1+(1:Int))) h) (bg J))
   ·refine bp ?_;refine ae (ae (aK ?_));refine aq<|aw<|zo rfl (ez)<|au<|ak ?_;cases so h;exact aF J J

end Go.Proofs.YtnmjbolollcokaaGreatDoor

