/- dr of this claim: P13. -/
import Derived.Test.YtnmjbolollcokaaGreatDoorRdT
import Derived.Test.YtnmjbolollcokaaGreatDoorRdP12
set_option linter.all false
namespace Go.Proofs.YtnmjbolollcokaaGreatDoor
open Go
set_option maxRecDepth 100000

theorem UY(c:ce){R:Bool}(h:o9 c=some R):bo bl 10 [tD da c] (gq R):=by
 refine bo.of Tryz.func10 J J J fun w0 S0=>aw<|zo J (jt J)<|zo J (ez)<|au<|ac<|aw<|zo J (bD oM eM J J)<|zo J (bm xi J J)<|zo J (fW ux J)<|zo J (d5 (ht J) hI)<|au<|cE h J (fun h=>?_) (fun h=>?_)
 ·refine aw<|zo J (ez)<|au<|ak<|M ?_;cases so h;exact aF J J
 ·refine dz<|ac<|aw<|zo J (bD oM eM J J)<|zo J (bm xi J J)<|zo J (fW ux J)<|zo J (bQ hI)<|au<|ax<|br (k:=12) J fun hN=>bB ?_;refine aP (em (Z:=fun ls i=>(c.Tables.drop i=ls)∧hX ls=some R) (Of:=fun _ i=>[]) (Gf:=fun _ i=>[(12,fc (di) c.Tables),(13,jV c.Tables),(14,cb (i:Int))]) (fun i h=>?_) (fun e tl ih i h=>?_) c.Tables 0 ⟨J,h⟩) (bg J)
  ·obtain⟨hx,h⟩:=h
   refine aB<|aw<|zo J (ft J J)<|au<|ac<|bP (ht J) (dU hx)<|bp ?_;refine ae (ae (aK ?_));refine aq<|aw<|zo rfl (ez)<|au<|ak ?_;cases so h;exact aF J J
  ·obtain⟨hx,h⟩:=h
   refine aB<|aw<|zo J (ft J J)<|au<|ac<|bO (ht J) (dN hx)<|dz<|ac<|ax<|aw<|zo J (iQ ux se J J J (dO hx))<|zo J (bm se J J)<|bj (r:=di) (x:=(⟨[],[],[]⟩:ca)) se (fun _=>Ab _) J fun b=>ai se J aj J (ht J) (ht J)<|bh 4 J<|au<|ac<|aw ?_;refine zo J (bD pn hY J J)<|zo J (bm yJ J J)<|zo J (fW sO J)<|zo J (d5 (ht J) hI)<|aE J<|ci J J (fun hg=>bD vo mq J J)<|ci J J (fun hg=>aI cD J J (aS J hg))<|ci J J (fun hg=>bU dc (aS J hg))<|ci J J (fun hg=>d5 (aS J hg) hI)<|zo J (nW J J)<|aE J<|ci J J (fun hg=>bD BH rr J J)<|ci J J (fun hg=>aI A9 J J (aS J hg))<|ci J J (fun hg=>rP kf (aS J hg))<|ci J J (fun hg=>d5 (aS J hg) hI)<|zo J (nW J J)<|au<|cE h J (fun h=>?_) (fun h=>?_)
   ·refine aw<|zo J (ez)<|au<|ak ?_;refine M (ay (M (M (ay (M ?_)))));cases so h;exact aF J J
   ·refine dz<|aw<|zo J (bD pn hY J J)<|zo J (bm yJ J J)<|zo J (fW sO J)<|zo J (bQ hI)<|au<|ax<|br (k:=35) J fun hN1=>bB ?_;refine aP (em (Z:=fun ls1 i1=>(e.Columns.drop i1=ls1)∧jg (hX tl) ls1=some R) (Of:=fun _ i1=>[]) (Gf:=fun _ i1=>[(12,fc (di) c.Tables),(13,jV c.Tables),(14,cb (i:Int)),(35,fc (dR) e.Columns),(36,jV e.Columns),(37,cb (i1:Int))]) (fun i1 h=>?_) (fun e1 tl1 ih1 i1 h=>?_) e.Columns 0 ⟨J,h⟩) (bg J)
    ·obtain⟨hx1,h⟩:=h
     refine aB<|aw<|zo J (ft J J)<|au<|ac<|bP (ht J) (dU hx1)<|bp ?_;refine ae (ae (aK ?_));refine an<|aq<|am<|zo rfl (nh (dm hx hN) rfl)<|aE rfl<|aJ ?_;exact be (aP (ih (i+1) ⟨dl hx,h⟩) (bg J))
    ·obtain⟨hx1,h⟩:=h
     refine aB<|aw<|zo J (ft J J)<|au<|ac<|bO (ht J) (dN hx1)<|dz<|ac<|ax<|aw<|zo J (iQ sO pq J J J (dO hx1))<|zo J (bm pq J J)<|bj (r:=dR) (x:=N8) pq (fun _=>qa _) J fun b1=>ai pq J aj J (ht J) (ht J)<|bh 6 J<|au<|aw<|zo J (bD Ef sI J J) ?_;refine zo J (bm A9 J J)<|zo J (rP kf (ht J))<|zo J (d5 (ht J) hI)<|au<|cE h J (fun h=>?_) (fun h=>?_)
     ·refine aw<|zo J (ez)<|au<|ak ?_;refine ay (M (M (ay (ay (M (M (ay (M ?_))))))));cases so h;exact aF J J
     ·refine bk<|an<|aq<|am<|zo rfl (nh (dm hx1 hN1) rfl)<|aE rfl<|aJ ?_;exact be (aP (ih1 (i1+1) ⟨dl hx1,h⟩) (bg J))

theorem RS(op:Int){R:Int}(h:uG op=some R):bo bl 180 [cb op] (cb R):=by
 refine bo.of Tryz.func180 J J J fun w0 S0=>aw<|zo J (dB)<|au<|ac<|aw<|aE J<|au<|ax<|aw<|zo J (iz J)<|bu J<|au<|cE h J (fun h=>?_) (fun h=>?_)
 ·refine aw<|zo J (dB)<|au<|ak ?_;refine ay (M ?_);cases so h;exact aF J J
 ·refine dD (Z:=fun x=>qz op x=some R) (Of:=fun x=>[]) (Gf:=fun x=>[(3,cb op),(6,gq x)]) (fun x h=>?_) (fun K=>?_)
  ·skip
   refine cE h J (fun h=>?_) (fun h=>?_)
   ·refine aw<|zo J (dB)<|au<|ak ?_;refine ay (M ?_);cases so h;exact aF J J
   ·refine dD (Z:=fun x1=>lc x1=some R) (Of:=fun x1=>[]) (Gf:=fun x1=>[(9,gq x1)]) (fun x1 h=>?_) (fun K1=>?_)
    ·skip
     refine cE h J (fun h=>?_) (fun h=>?_)
     ·refine aw<|zo J (dB)<|au<|ak ?_;refine ay (M ?_);cases so h;exact aF J J
     ·refine bk<|an<|aq<|aw<|zo rfl (dB)<|au<|ak ?_;cases so h;exact aF J J
    ·skip
     refine aw<|zo J (iz J)<|bu J<|au<|cE h J (fun h=>?_) (fun h=>?_)
     ·refine bk ?_;exact bJ (K1 (op==(3:Int)) h) (bg J)
     ·refine aw<|zo J (iz J)<|bu J<|au<|cE h J (fun h=>?_) (fun h=>?_)
      ·refine bk ?_;exact bJ (K1 (op==(4:Int)) h) (bg J)
      ·refine aw<|zo J (iz J)<|bu J<|au<|cE h J (fun h=>?_) (fun h=>?_)
       ·refine bk ?_;exact bJ (K1 (op==(5:Int)) h) (bg J)
       ·refine aw<|zo J (iz J)<|bu J<|au<|cE h J (fun h=>?_) (fun h=>?_)
        ·refine bk ?_;exact bJ (K1 (op==(6:Int)) h) (bg J)
        ·refine am<|zo J (iz J)<|bu J<|aJ ?_;exact bJ (K1 (op==(8:Int)) h) (bg J)
  ·skip
   refine aw<|zo J (iz J)<|bu J<|au<|cE h J (fun h=>?_) (fun h=>?_)
   ·refine bk ?_;exact bJ (K (op==(2:Int)) h) (bg J)
   ·refine am<|zo J (iz J)<|bu J<|aJ ?_;exact bJ (K (op==(7:Int)) h) (bg J)

theorem PC: ∀(fu:Nat) (l:bR) (at1:Int) {R:Int} (h:cI fu l at1=some R),bo bl 112 [tD ck l,cb at1] (cb R):=by
 intro fu
 induction fu with
 |zero=>intro l at1 R h;exact(nn h).elim
 |succ fu ih=>
  intro l at1 R h
  refine bo.of Tryz.func112 J J J fun w0 S0=>aw<|zo J (jt J)<|zo J (dB)<|au<|ac<|aw<|aE J<|zo J (eO (ht J) hI)<|aE J<|ci J J (fun hg=>cG J)<|ci J J (fun hg=>bD jn dM J J)<|ci J J (fun hg=>aI iB J J (aS J hg))<|ci J J (fun hg=>bU om (aS J hg))<|ci J J (fun hg=>cU (aS J hg) (aS J hg))<|zo J (nW J J)<|au<|cE h J (fun h=>?_) (fun h=>?_)
  ·refine aw<|zo J (dB)<|au<|ak<|M ?_;cases so h;exact aF J J
  ·refine dz<|aw<|zo J (bD jn dM J J)<|zo J (bm iB J J)<|aE J<|bz h fun e q_e h=>zo J (iQ om cz J J J q_e)<|zo J (bm cz J J)<|bj (r:=ah) (x:=zk) cz (fun _=>iT _) J fun b=>ai cz J aj J (ht J) (ht J)<|bh 5 J<|au<|ac<|aw<|zo J (bD lh eP J J)<|zo J (bm bA J J)<|bz h fun r q_r h=>zo J (aC Xf (RS _ q_r) ⟨(ht J),aT⟩)<|au ?_;refine ax<|aw<|zo J (iz J)<|bu J<|au<|cE h J (fun h=>?_) (fun h=>?_)
   ·refine aw<|zo J (bD fC cY J J)<|zo J (bm bA J J)<|zo J (iz J)<|aE J<|bX J J (fun hg=>bD iy d9 J J)<|bX J J (fun hg=>aI bA J J (aS J hg))<|bX J J (fun hg=>cw (aS J hg) hI)<|zo J (mI J J)<|au<|cE h J (fun h=>?_) (fun h=>?_)
    ·refine aw<|zo J (dB)<|au<|ak ?_;refine ay (M ?_);cases so h;exact aF J J
    ·refine bk<|an<|aq<|aw<|zo rfl (dB)<|au<|ak ?_;cases so h;exact aF J J
   ·refine aw<|zo J (iz J)<|bu J<|au<|cE h J (fun h=>?_) (fun h=>?_)
    ·refine aw<|zo J (bD fC cY J J)<|zo J (bm bA J J)<|aE J<|zo J (dL (ht J) hI)<|zo J (cw (ht J) (ht J))<|aE J<|bX J J (fun hg=>bD iy d9 J J)<|bX J J (fun hg=>aI bA J J (aS J hg))<|bX J J (fun hg=>cw (aS J hg) hI)<|zo J (mI J J)<|au<|cE h J (fun h=>?_) (fun h=>?_)
     ·refine aw<|zo J (bm lx J J)<|zo J (bD fC cY J J)<|zo J (bm bA J J)<|bz h fun r1 q_r1 h=>zo J (aC Jf (ih _ _ q_r1) ⟨(ht J),(ht J),aT⟩)<|bu J<|au<|aw<|aE J<|zo J (d5 (ht J) hI)<|au<|cE h J (fun h=>?_) (fun h=>?_)
      ·refine aw<|aE J<|zo J (ei (ht J) hI)<|bu J<|au<|ak ?_;refine ay (M ?_);cases so h;exact aF J J
      ·refine bk<|an<|aq<|aw<|zo rfl (dB)<|au<|ak ?_;cases so h;exact aF J J
     ·refine bk<|an<|aq<|aw<|zo rfl (dB)<|au<|ak ?_;cases so h;exact aF J J
    ·refine aw<|zo J (iz J)<|bu J<|au<|cE h J (fun h=>?_) (fun h=>?_)
     ·refine aw<|zo J (bD iy d9 J J)<|zo J (bm bA J J)<|aE J<|zo J (dL (ht J) hI)<|zo J (cw (ht J) (ht J))<|au<|cE h J (fun h=>?_) (fun h=>?_)
      ·refine aw<|zo J (bm lx J J)<|zo J (bD iy d9 J J)<|zo J (bm bA J J)<|bz h fun r2 q_r2 h=>zo J (aC Jf (ih _ _ q_r2) ⟨(ht J),(ht J),aT⟩)<|bu J<|au<|aw<|aE J<|zo J (d5 (ht J) hI)<|aE J<|bX J J (fun hg=>bD fC cY J J)<|bX J J (fun hg=>aI bA J J (aS J hg))<|bX J J (fun hg=>bD iy d9 J J)<|bX J J (fun hg=>aI bA J J (aS J hg))<|bX J J (fun hg=>cG J)<|bX J J (fun hg=>dL (aS J hg) (aS J hg))<|bX J J (fun hg=>cw (aS J hg) (aS J hg))<|zo J (mI J J)<|aJ ?_;refine aq<|cE h rfl (fun h=>?_) (fun h=>?_)
       ·refine aw<|zo J (bm lx J J)<|zo J (bD fC cY J J)<|zo J (bm bA J J)<|bz h fun r3 q_r3 h=>zo J (aC Jf (ih _ _ q_r3) ⟨(ht J),(ht J),aT⟩)<|bu J<|au<|aw<|aE J<|zo J (d5 (ht J) hI)<|au<|cE h J (fun h=>?_) (fun h=>?_)
        ·refine aw<|aE J<|aE J<|zo J (ei (ht J) (ht J))<|zo J (ei (ht J) hI)<|bu J<|au<|ak ?_;refine ay (M ?_);cases so h;exact aF J J
        ·refine bk<|an<|aq<|aw<|zo rfl (dB)<|au<|ak ?_;cases so h;exact aF J J
       ·refine bk<|an<|aq<|aw<|zo rfl (dB)<|au<|ak ?_;cases so h;exact aF J J
      ·refine bk<|an<|aq<|aw<|zo rfl (dB)<|au<|ak ?_;cases so h;exact aF J J
     ·refine bk<|an<|aq<|aw<|zo rfl (dB)<|au<|ak ?_;cases so h;exact aF J J
theorem LM(l:bR)(at1:Int){R:Int}(h:kh l at1=some R):bo bl 112 [tD ck l,cb at1] (cb R):=PC cZ l at1 h

theorem R9(n:af){R:Bool}(h:rd n=some R):bo bl 115 [tD ah n] (gq R):=by
 refine bo.of Tryz.func115 J J J fun w0 S0=>aw<|zo J (jt J)<|zo J (ez)<|au<|ac<|aw<|zo J (bD lh eP J J)<|zo J (bm bA J J)<|zo J (Gw J)<|aE J<|bX J J (fun hg=>bD oL hZ J J)<|bX J J (fun hg=>aI bA J J (aS J hg))<|bX J J (fun hg=>cF (aS J hg) hI)<|bX J J (fun hg=>bQ (aS J hg))<|ee J J J J (fun hg=>bD ly fq J J)<|ee J J J J (fun hg=>aI cD J J (aS J hg))<|ee J J J J (fun hg=>bU dc (aS J hg))<|ee J J J J (fun hg=>d5 (aS J hg) hI)<|bX J J (fun hg=>ql (aS J hg) (fun hb=>(aS J (tF hg (nZ hb)))))<|zo J (mI J J) ?_;refine au<|cE h J (fun h=>?_) (fun h=>?_)
 ·refine aw<|zo J (ez)<|au<|ak<|M ?_;cases so h;exact aF J J
 ·refine dz<|ac<|aw<|zo J (bD lh eP J J)<|zo J (bm bA J J)<|zo J (Gw J)<|aE J<|bX J J (fun hg=>bD Eg ww J J)<|bX J J (fun hg=>aI yK J J (aS J hg))<|zo J (mI J J)<|aE J<|ci J J (fun hg=>bD lh eP J J)<|ci J J (fun hg=>aI bA J J (aS J hg))<|ci J J (fun hg=>cF (aS J hg) hI)<|ci J J (fun hg=>bQ (aS J hg))<|d3 J J J J (fun hg=>bD lh eP J J)<|d3 J J J J (fun hg=>aI bA J J (aS J hg))<|d3 J J J J (fun hg=>cF (aS J hg) hI)<|ci J J (fun hg=>km (aS J hg) (fun hb=>(aS J (tF hg hb))))<|ci J J (fun hg=>bQ (aS J hg))<|d3 J J J J (fun hg=>bD p7 jB J J)<|d3 J J J J (fun hg=>d6 de J bZ J (aS J hg)) ?_;refine d3 J J J J (fun hg=>aI ir J J (aS J hg))<|d3 J J J J (fun hg=>bU oo (aS J hg))<|d3 J J J J (fun hg=>d5 (aS J hg) hI)<|ci J J (fun hg=>km (aS J hg) (fun hb=>(aS J (tF hg hb))))<|zo J (nW J J)<|au<|cE h J (fun h=>?_) (fun h=>?_)
  ·refine aw<|zo J (ez)<|au<|ak<|M ?_;cases so h;exact aF J J
  ·refine dz<|ac<|aw<|zo J (bD lh eP J J)<|zo J (bm bA J J)<|zo J (Gw J)<|aE J<|bX J J (fun hg=>bD jP d8 J J)<|bX J J (fun hg=>aI cD J J (aS J hg))<|bX J J (fun hg=>bU dc (aS J hg))<|bX J J (fun hg=>d5 (aS J hg) hI)<|bX J J (fun hg=>bQ (aS J hg))<|ee J J J J (fun hg=>bD io ek J J)<|ee J J J J (fun hg=>aI pr J J (aS J hg))<|ee J J J J (fun hg=>bU nC (aS J hg))<|ee J J J J (fun hg=>d5 (aS J hg) hI)<|bX J J (fun hg=>ql (aS J hg) (fun hb=>(aS J (tF hg (nZ hb)))))<|zo J (mI J J)<|aE J<|ci J J (fun hg=>bD lh eP J J)<|ci J J (fun hg=>aI bA J J (aS J hg))<|ci J J (fun hg=>cF (aS J hg) hI) ?_;refine ci J J (fun hg=>bQ (aS J hg))<|d3 J J J J (fun hg=>bD lg fN J J)<|d3 J J J J (fun hg=>aI te J J (aS J hg))<|d3 J J J J (fun hg=>bU nc (aS J hg))<|d3 J J J J (fun hg=>d5 (aS J hg) hI)<|ci J J (fun hg=>km (aS J hg) (fun hb=>(aS J (tF hg hb))))<|zo J (nW J J)<|au<|cE h J (fun h=>?_) (fun h=>?_)
   ·refine aw<|zo J (ez)<|au<|ak<|M ?_;cases so h;exact aF J J
   ·refine dz<|aw<|zo J (bD lh eP J J)<|zo J (bm bA J J)<|zo J (iz J)<|aE J<|ci J J (fun hg=>bD lX gD J J)<|ci J J (fun hg=>aI xh J J (aS J hg))<|ci J J (fun hg=>bU vS (aS J hg))<|ci J J (fun hg=>cw (aS J hg) hI)<|ci J J (fun hg=>bQ (aS J hg))<|d3 J J J J (fun hg=>bD tu ne J J)<|d3 J J J J (fun hg=>aI bA J J (aS J hg))<|d3 J J J J (fun hg=>cw (aS J hg) hI)<|ci J J (fun hg=>km (aS J hg) (fun hb=>(aS J (tF hg hb))))<|zo J (nW J J)<|bu J<|au<|ak ?_;cases so h;exact aF J J

theorem Rd(tag:Int){R:Int}(h:xy tag=some R):bo bl 271 [cb tag] (cb R):=by
 refine bo.of Tryz.func271 J J J fun w0 S0=>aw<|zo J (dB)<|au<|ac<|ax<|aw<|aE J<|zo J (eO (ht J) hI)<|aE J<|ci J J (fun hg=>cG J)<|ci J J (fun hg=>d5 (aS J hg) hI)<|zo J (nW J J)<|bu J<|au<|cE h J (fun h=>?_) (fun h=>?_)
 ·refine aw<|zo J (dB)<|au<|ak ?_;refine ay (M ?_);cases so h;exact aF J J
 ·refine aw<|aE J<|zo J (g9 (ht J) hI)<|bu J<|au<|cE h J (fun h=>?_) (fun h=>?_)
  ·refine aw<|zo J (dB)<|au<|ak ?_;refine ay (M ?_);cases so h;exact aF J J
  ·refine aw<|aE J<|zo J (g9 (ht J) hI)<|bu J<|au<|cE h J (fun h=>?_) (fun h=>?_)
   ·refine aw<|zo J (dB)<|au<|ak ?_;refine ay (M ?_);cases so h;exact aF J J
   ·refine bk<|an<|aq<|aw<|zo rfl (dB)<|au<|ak ?_;cases so h;exact aF J J

theorem Rg(tag:Int){R:Int}(h:uJ tag=some R):bo bl 263 [cb tag] (cb R):=by
 refine bo.of Tryz.func263 J J J fun w0 S0=>aw<|zo J (dB)<|au<|ac<|aw<|aE J<|zo J (iz J)<|aE J<|ci J J (fun hg=>cG J)<|ci J J (fun hg=>cU (aS J hg) hI)<|ci J J (fun hg=>bQ (aS J hg))<|d3 J J J J (fun hg=>cG J)<|d3 J J J J (fun hg=>g9 (aS J hg) hI)<|ci J J (fun hg=>km (aS J hg) (fun hb=>(aS J (tF hg hb))))<|zo J (nW J J)<|au<|cE h J (fun h=>?_) (fun h=>?_)
 ·refine aw<|zo J (dB)<|au<|ak<|M ?_;cases so h;exact aF J J
 ·refine dz<|aw<|aE J<|bz h fun r q_r h=>zo J (aC Wn (Rd _ q_r) ⟨(ht J),aT⟩)<|bu J<|au<|ak ?_;cases so h;exact aF J J

theorem Ra(v:df){R:Bool}(h:oF v=some R):bo bl 285 [tD eG v] (gq R):=by
 refine bo.of Tryz.func285 J J J fun w0 S0=>aw<|zo J (jt J)<|zo J (ez)<|au<|ac<|aw<|zo J (bD rQ oK J J)<|zo J (bm bA J J)<|au<|ax<|aw<|zo J (iz J)<|bu J<|au<|cE h J (fun h=>?_) (fun h=>?_)
 ·refine aw<|zo J (bm pt J J)<|zo J (cm (y:=CD) pt FW sa (J))<|zo J (Az F5 (ht J) (ht J))<|bu J<|au<|ak ?_;refine ay (M ?_);cases so h;exact aF J J
 ·refine aw<|zo J (iz J)<|bu J<|au<|cE h J (fun h=>?_) (fun h=>?_)
  ·refine aw<|zo J (bD C6 wv J J)<|zo J (bm HV J J)<|zo J (iz J)<|aE J<|bX J J (fun hg=>bD wy p5 J J)<|bX J J (fun hg=>aI A9 J J (aS J hg))<|bX J J (fun hg=>qI (aS J hg) hS)<|zo J (mI J J)<|aE J<|bX J J (fun hg=>bD wz rq J J)<|bX J J (fun hg=>aI SA J J (aS J hg))<|bX J J (fun hg=>cw (aS J hg) hI)<|bX J J (fun hg=>bQ (aS J hg))<|ee J J J J (fun hg=>bD wz rq J J)<|ee J J J J (fun hg=>aI SA J J (aS J hg))<|ee J J J J (fun hg=>cw (aS J hg) hI)<|bX J J (fun hg=>ql (aS J hg) (fun hb=>(aS J (tF hg (nZ hb)))))<|zo J (mI J J)<|bu J<|au<|ak ?_;refine ay (M ?_);cases so h;exact aF J J
  ·refine aw<|zo J (iz J)<|bu J<|au<|cE h J (fun h=>?_) (fun h=>?_)
   ·refine aw<|zo J (bD C6 wv J J)<|zo J (bm HV J J)<|zo J (iz J)<|aE J<|bX J J (fun hg=>bD wy p5 J J)<|bX J J (fun hg=>aI A9 J J (aS J hg))<|bX J J (fun hg=>qI (aS J hg) hS)<|zo J (mI J J)<|bu J<|au<|ak ?_;refine ay (M ?_);cases so h;exact aF J J
   ·refine aw<|zo J (iz J)<|bu J<|au<|cE h J (fun h=>?_) (fun h=>?_)
    ·refine aw<|zo J (bD wz rq J J)<|zo J (bm SA J J)<|zo J (iz J)<|aE J<|bX J J (fun hg=>bD C6 wv J J)<|bX J J (fun hg=>aI HV J J (aS J hg))<|bX J J (fun hg=>cw (aS J hg) hI)<|zo J (mI J J)<|aE J<|bX J J (fun hg=>bD wy p5 J J)<|bX J J (fun hg=>aI A9 J J (aS J hg))<|bX J J (fun hg=>rP kf (aS J hg))<|bX J J (fun hg=>g9 (aS J hg) hI)<|zo J (mI J J)<|bu J<|au<|ak ?_;refine ay (M ?_);cases so h;exact aF J J
    ·refine bk<|an<|aq<|aw<|zo rfl (bD rQ oK rfl rfl)<|zo rfl (bm bA rfl rfl)<|zo rfl (iz rfl)<|aE rfl<|bX rfl rfl (fun hg=>bD wy p5 J J)<|bX J J (fun hg=>aI A9 J J (aS J hg))<|bX J J (fun hg=>qI (aS J hg) hS)<|zo J (mI J J)<|bu J<|au<|ak ?_;cases so h;exact aF J J

end Go.Proofs.YtnmjbolollcokaaGreatDoor

