/- cE of this claim: P3. -/
import Derived.Test.YtdohlidddcgfjaaGreatFcT
import Derived.Test.YtdohlidddcgfjaaGreatFcP2
set_option linter.all false
namespace Go.Proofs.YtdohlidddcgfjaaGreat
open Go
set_option maxRecDepth 100000

def RK e{R}(h:wu e=some R):gm bd 234 [tD bN e] false bV 3 R:=by
 refine gm.of Tryz.func234 J J J fun w0 S0=>d<|dl J<|ci false bV 3<|s (bU tE)<|bu<|aS<|dH gn J<|eE h VT (NC _) (cy J) fun r h=>nP J<|bW h J (fun h=>?_) (fun h=>?_)
 ·exact d<|ci false bV 3<|s (bU tE)<|bM<|af<|so h▸fL J J
 ·refine fN<|d<|ci false bV 3<|s (bU tE)<|bu<|aS<|aQ f7 dw nM J<|bI j5 J<|s (bT hI)<|bu<|ak<|bo (k:=10) J fun hN=>bA<|dY<|lu ?_;refine aH (jz (aa:=fun ls i out l c=>(e.Nodes.drop i=ls)/\ol ls out=some R) (Of:=fun _ i out l c=>[db bV 3 l c out]) (Gf:=fun _ i out l c=>[(3,nO l c out),(10,em (bt) e.Nodes),(11,kE e.Nodes),(12,bH (i:Int))]) (fun i out l c h=>?_) (fun e1 tl ih i out l c h=>?_) e.Nodes 0 pu none 0 ⟨J,h⟩) (aX J)
  ·obtain⟨V,h⟩:=h
   refine ez V J<|au<|ax J<|bR h fun srt q_srt h=>?_;refine SC (n:=out.length) (ys:=srt) Gb ?_ aan ?_ ?_ ?_ ?_ ?_
   ·rfl
   ·exact q_srt
   ·exact(D J)
   ·rfl
   ·rfl
   intro hl
   refine KM hl 3 J<|KM hl 25 J<|bu<|ax J<|bR h fun r1 q_r1 h=>Fu [db bV 3 l c srt] _ J aam (XE l c _ q_r1) ⟨(D J),aZ⟩ J fun i1=>?_;refine(show RG _ _ _ _ [_] ((28,nO (i1.h 0).1 (i1.h 0).2 r1)::_)from ?_);exact bf J<|so h▸fL J J
  ·obtain⟨V,h⟩:=h
   refine ew V J<|aP<|ak<|d<|dg j5 eo J (dJ V)<|bz eo lc J fun b=>bO eo aB J<|bj 5 J<|bu<|d<|qE iJ ef J ?_;refine dH bB J<|bp J<|bW h J (fun h=>?_) (fun h=>?_)
   ·refine aj<|Q J<|aQ od iR bB J<|s (aI (r:=bV) (ys:=[e1.Col]) (xs:=[.tmp 21]) df bB J J J J J ⟨(D J),aZ⟩)<|bR h fun out1 q_out1 h=>bD bB J J J J df J J (D J) (D J) q_out1 fun l2 c2=>d6 J<|aJ<|dd V hN J ?_;exact aU (aH (ih (i+1) out1 l2 c2 ⟨da V,h⟩) (aX J))
   ·refine bc<|dd V hN J ?_;exact aU (aH (ih (i+1) out l c ⟨da V,h⟩) (aX J))
def Kx ac{R}(h:eG ac=some R):gm bd 128 [jK ac] false bV 3 R:=by
 refine gm.of Tryz.func128 J J J fun w0 S0=>d<|ci false bV 3<|s (bU tE)<|bu<|aS<|Q J<|KN df (D J) J fun isnil hisnil=>bu<|tZ (D J) (fun hc=>?_) (fun hc=>?_)
 ·have V:=hisnil hc
  have h:some pu=some R:=by simpa [eG,app,V] using h
  exact d<|ci false bV 3<|s (bU tE)<|bM<|af<|so h▸fL J J
 ·exact fN<|d<|kD (r:=bV) (ys:=pu) (xs:=[]) df bB J J J J J trivial J fun l c=>Q J<|bR h fun x q_x h=>bD bB J J J J df J J (D J) (D J) q_x fun l1 c1=>bf J<|so h▸fL J J
def Yd{l:Option Nat}{c:Nat}{xs ac:List Int}{lo:Int}{R}(hs:eX xs lo (xs.length:Int)=some ac)(h:eG ac=some R):bK bd 128 [M (oZ 1 l c lo.toNat ac.length)] [db bV 3 l c xs] (fun i:OI=>nO (i.h 0).1 (i.h 0).2 R) (fun i=>[db bV 3 (i.h 0).1 (i.h 0).2 R,db bV 3 l c xs]):=by
 refine bK.of Tryz.func128 J J J fun w0 S0=>d<|s (bU tE)<|bu<|aS<|Q J<|PF (r:=bV) df (.head _) hs (D J) J fun isnil hisnil=>bu<|tZ (D J) (fun hc=>?_) (fun hc=>?_)
 ·have V:=hisnil hc
  have h:some pu=some R:=by simpa [eG,app,V] using h
  exact d<|ci false bV 3<|s (bU tE)<|bM<|af<|so h▸cj J (oi none 0) J J (fun _ _ h=>h)
 ·exact fN<|d<|kD (r:=bV) (ys:=pu) (xs:=[]) df bB J J J J J trivial J fun l1 c1=>Q J<|bR h fun x q_x h=>MD bB J J J J df J J (D J) (.tail _ (.head _)) hs (D J) q_x fun l2 c2=>bf J<|so h▸cj J (oi l2 c2) J J (fun _ _ h=>h)

def XD(b:Nat)(l:Option Nat)(c:Nat) stack k{R}(h:qT stack k=some R):bK bd 253 [bH k,M (Z b 0)] [bx rV 69 b (ay l c stack.length),db bV 3 l c stack] (fun i:OI=>jK R.1) (fun i=>[bx rV 69 b (ay (i.h 0).1 (i.h 0).2 R.2.length),db bV 3 (i.h 0).1 (i.h 0).2 R.2]):=by
 refine bK.of Tryz.func253 J J J fun w0 S0=>d<|fO bV<|bu<|d<|s (qL cu (.head _) (D J))<|s (qL cu (.head _) (D J))<|s (ir df (.tail _ (.head _)) (D J))<|Q J<|s (dP (D J) (D J))<|bR h fun y q_y h=>s (rl df bB J (.tail _ (.head _)) (D J) (D J) q_y)<|rX (.tail _ (.head _)) q_y fun hv=>bY<|bR h fun r q_r h=>Fu [db bV 3 l c stack] _ J Sm (Yd q_y q_r) ⟨(D J),aZ⟩ J fun i=>?_;refine(show RG _ _ _ _ [_,_,_] _ from ?_);refine aN J<|d<|s (qL cu (.tail _ (.tail _ (.head _))) (D J))<|s (qL cu (.tail _ (.tail _ (.head _))) (D J))<|s (ir df (.tail _ (.head _)) (D J))<|Q J<|s (dP (D J) (D J))<|bR h fun y1 q_y1 h=>s (pO df bB J (.tail _ (.head _)) (D J) (D J) q_y1)<|bY<|Fs q_y1<|cZ<|ek cu J aB J (D J) (FI (D J))<|bu<|ax J<|aN J ?_;exact pd<|aT<|dq<|bP 3 J<|bP 11 J<|bP 4 J<|bP 18 J<|eW 3 J<|aV<|am<|am<|so h▸cj J (oi l c) J J (fun _ _ h=>h)

def Uq e do1{R}(h:qM e do1=some R):cX bd 235 [tD bN e,(mI bd SZ SX (fun(x:av×(List Int))=>do1 x.1 x.2))] (tT [bH R.1,bH R.2]):=by
 refine dK Tryz.func235 J<|d<|dl J<|ca<|ca<|bu<|FF<|d<|ci false bV 3<|bz (x:=ay none 0 0) cu (fun _=>HX) J fun b=>bu<|d<|ca<|bu<|d<|s (wk (cts:=[M (Z b 0)]) (caps:=[.tmp 6]) ⟨(D J),aZ⟩)<|d6 J ?_;refine bu<|d<|ca<|bu<|aP<|FG<|au<|aS<|aQ f7 dw nM J<|bI j5 J<|s (bT hI)<|bu ?_;refine Hu (aa:=fun bad stack l c=>nJ bad stack=some R) (Of:=fun bad stack l c=>[bx rV 69 b (ay l c stack.length),db bV 3 l c stack]) (Gf:=fun bad stack l c=>[(6,M (Z b 0)),(7,bH 0),(9,bH bad)]) (fun bad stack l c h=>?_) (fun h2=>?_)
 ·skip
  refine au<|aS<|Q J<|nP J<|bW h J (fun h=>?_) (fun h=>?_)
  ·exact ax J<|Q J<|d6 J<|bf J<|af<|rx<|aV<|aV<|so h▸cg J J J
  ·exact fN<|d<|s (qL cu (.head _) (D J))<|bR h fun e1 q_e1 h=>s (eH df bB (.tail _ (.head _)) (D J) hI q_e1)<|s (jP (r:=bV) (i:=(0:Int)) (foff:=0) bB J J bC J (.tail _ (.head _)) q_e1 (D J))<|d6 J<|eg<|rx<|aV<|aV<|so h▸cg J J J
 ·skip
  refine bo (k:=16) J fun hN=>bA ?_;refine aH (yN (aa:=fun ls i bad1 stack1 l1 c1=>(e.Nodes.drop i=ls)/\i0 do1 ls bad1 stack1=some R) (Of:=fun _ i bad1 stack1 l1 c1=>[bx rV 69 b (ay l1 c1 stack1.length),db bV 3 l1 c1 stack1]) (Gf:=fun _ i bad1 stack1 l1 c1=>[(1,(mI bd SZ SX (fun(x:av×(List Int))=>do1 x.1 x.2))),(6,M (Z b 0)),(7,bH 0),(8,tC 253 [M (Z b 0)]),(9,bH bad1),(16,em (bt) e.Nodes),(17,kE e.Nodes),(18,bH (i:Int))]) (fun i bad1 stack1 l1 c1 h=>?_) (fun e2 tl ih i bad1 stack1 l1 c1 h=>?_) e.Nodes 0 (0:Int) pu none 0 ⟨J,h⟩) (aX J)
  ·obtain⟨V,h⟩:=h
   refine ez V J ?_;exact bE (h2 bad1 stack1 l1 c1 h) (aX J)
  ·obtain⟨V,h⟩:=h
   refine ew V J<|aP<|ak<|d<|dg j5 eo J (dJ V)<|bz eo lc J fun b1=>bO eo aB J<|bj 11 J<|bu<|aP<|bR h fun r q_r h=>bR h fun r1 q_r1 h=>?_;refine bR h fun r2 q_r2 h=>?_
   refine ja 12 [tc ((mI bd SZ SX (fun(x:av×(List Int))=>do1 x.1 x.2))),tc (tD bt e2),tc (tC 253 [M (Z b 0)]),tc (ck bV e2.Tag),tc (bH e2.Tag),tc (bH r),tc (jK r1.1),tc (tT [bH r2.1,bH r2.2]),tc (tT [bH r2.1,bH r2.2]),tc (bH r2.1),tc (bH r2.2),tc (bH r2.1)] [false,false,false,false,false,false,true,false,false,false,false,false] [fun _=>[bx rV 69 b (ay l1 c1 stack1.length),db bV 3 l1 c1 stack1],fun sg=>[bx rV 69 b (ay ((sg 6).h 0).1 ((sg 6).h 0).2 r1.2.length),db bV 3 ((sg 6).h 0).1 ((sg 6).h 0).2 r1.2]] J mixed J J J J J
    ⟨⟨[⟨1,fun _=>(mI bd Wf Wd (fun(x:av×(List Int))=>do1 x.1 x.2)),none⟩],_,0,1,J,⟨(fun _=>J),aZ⟩,J,J,J,J,J,fun _ sg _ _=>ai J (mt J)⟩,
    ⟨⟨[⟨11,fun _=>ck bt e2,none⟩],_,0,1,J,⟨(fun _=>J),aZ⟩,J,J,J,J,J,fun _ sg _ _=>ai J (yT eo J J)⟩,
    ⟨⟨[⟨8,fun _=>tC 253 [M (Z b 0)],none⟩],_,0,0,J,⟨(fun _=>J),aZ⟩,J,J,J,J,J,fun _ sg _ _=>ai J (mt J)⟩,
    ⟨⟨[⟨11,fun _=>ck bt e2,none⟩],_,0,0,J,⟨(fun _=>J),aZ⟩,J,J,J,J,J,fun _ sg _ _=>ai J (oq iJ ef J J)⟩,
    ⟨⟨[⟨26,fun _=>ck bV e2.Tag,some 3⟩],_,0,0,J,⟨(fun _=>J),aZ⟩,J,J,J,J,J,fun _ sg _ _=>ai J (yT bB J J)⟩,
    ⟨⟨[⟨27,fun _=>tD bV e2.Tag,some 4⟩],_,0,0,J,⟨(fun _=>J),aZ⟩,J,J,J,J,J,fun _ sg _ _=>ai J (cD VR (NB _ q_r) ⟨(D J),aZ⟩)⟩,
    ⟨⟨[⟨25,fun _=>tC 253 [M (Z b 0)],some 2⟩,⟨28,fun _=>tD bV r,some 5⟩],_,J,⟨(fun _=>J),(fun _=>J),aZ⟩,J,J,J,fun sg=>cP J (EffOK.fr1 (EffOK.fr1 (ue (xs:=[.tmp 28]) (ts:=[tD bV r]) (cts:=[M (Z b 0)]) [bx rV 69 b (ay l1 c1 stack1.length),db bV 3 l1 c1 stack1] _ J aal (XD b l1 c1 _ _ q_r1) (D J) ⟨(D J),aZ⟩ (fun _=>J))))⟩,
    ⟨⟨[⟨23,fun _=>(mI bd Wf Wd (fun(x:av×(List Int))=>do1 x.1 x.2)),some 0⟩,⟨24,fun _=>tD bt e2,some 1⟩,⟨29,fun _=>tD vG r1.1,some 6⟩],_,1,1,J,⟨(fun _=>J),(fun _=>J),(fun _=>J),aZ⟩,J,J,J,J,J,fun _ sg _ _=>ai J (mO (args:=Wf) (res:=Wd) (f:=(fun(x:av×(List Int))=>do1 x.1 x.2)) (x:=((e2,r1.1):av×(List Int))) (D J) q_r2 ⟨(D J),(D J),aZ⟩)⟩,
    ⟨⟨[⟨30,fun _=>tT [tD bV r2.1,tD bV r2.2],some 7⟩],_,1,1,J,⟨(fun _=>J),aZ⟩,J,J,J,J,J,fun _ sg _ _=>ai J (mt J)⟩,
    ⟨⟨[⟨22,fun _=>tT [tD bV r2.1,tD bV r2.2],some 8⟩],_,1,1,J,⟨(fun _=>J),aZ⟩,J,J,J,J,J,fun _ sg _ _=>ai J (Jd J J)⟩,
    ⟨⟨[⟨22,fun _=>tT [tD bV r2.1,tD bV r2.2],some 8⟩],_,1,1,J,⟨(fun _=>J),aZ⟩,J,J,J,J,J,fun _ sg _ _=>ai J (Jd J J)⟩,
    ⟨⟨[⟨31,fun _=>tD bV r2.1,some 9⟩],_,1,1,J,⟨(fun _=>J),aZ⟩,J,J,J,J,J,fun _ sg _ _=>ai J (DX J)⟩,
    aZ⟩⟩⟩⟩⟩⟩⟩⟩⟩⟩⟩⟩ (fun sg=>?_)
   refine(show RG _ _ _ _ [_,_] _ from ?_);refine aN J<|aS<|Q J<|nP J<|bW h J (fun h=>?_) (fun h=>?_)
   ·refine ax J<|aN J<|cQ<|ap<|cn J<|ap<|ap<|bL ?_;exact bE (h2 r2.2 r1.2 ((sg 6).h 0).1 ((sg 6).h 0).2 h) (aX J)
   ·refine fN<|aj<|s (qL cu (.head _) (D J))<|Q J<|s (aI (r:=bV) (ys:=[r2.1]) (xs:=[.tmp 37]) df bB J J J J J ⟨(D J),aZ⟩)<|bY<|bR h fun l2 q_l2 h=>bD bB J J J J df J J (D J) (D J) q_l2 fun l3 c2=>bY<|ek cu J aB J (D J) (FI (D J))<|aJ<|dd V hN J ?_;exact aU (aH (ih (i+1) bad1 l2 l3 c2 ⟨da V,h⟩) (aX J))

def Uo tag{R}(h:xy tag=some R):cX bd 237 [bH tag] (fM R):=by
 exact dK Tryz.func237 J<|d<|bm<|bu<|ax J<|bp J<|Q J<|aD J (bX J)<|aD J (fun Y=>dB (bl J Y) hI)<|aD J (nQ J)<|de J J J J (fun Y=>mt J)<|de J J J J (fun Y=>eY (bl J Y) hI)<|aD J (fun Y=>jm (bl J Y) (fun H=>(bl J (sd Y H))))<|dG J<|bf J<|so h▸aA J J

def Up kinds n l{R}(h:kC kinds n l=some R):cX bd 236 [tD bt n,jK l,ck nq kinds] (tT [bH R.1,bH R.2]):=by
 refine dK Tryz.func236 J<|d<|dl J<|ca<|ca<|bu<|d<|ca<|bu<|aS<|Q J<|bI df J<|s (bT hI)<|bu<|ak<|bo (k:=12) J fun hN=>bA ?_;refine aH (uS (aa:=fun ls i own=>(l.drop i=ls)/\nL kinds n ls own=some R) (Of:=fun _ i own=>[]) (Gf:=fun _ i own=>[(2,ck nq kinds),(3,ck bt n),(7,bH own),(12,jK l),(13,kE l),(14,bH (i:Int))]) (fun i own h=>?_) (fun e tl ih i own h=>?_) l 0 (0:Int) ⟨J,h⟩) (aX J)
 ·obtain⟨V,h⟩:=h
  refine ez V J<|au<|ax J<|aN J<|d<|ca<|bu ?_;refine aP<|ak<|d<|aQ iJ ef bB J<|bp J<|aN J<|fy h J (fun h=>?_) (fun h=>?_)
  ·exact d<|qE qR k7 J<|aQ mT js bB J<|d6 J<|eg<|cx<|so h▸cg J J J
  ·refine d<|aQ iJ ef bB J<|bp J<|aN J<|fy h J (fun h=>?_) (fun h=>?_)
   ·exact d<|dH cu J<|aQ od iR bB J<|bR h fun e1 q_e1 h=>dg df bB J q_e1<|d6 J<|eg<|cx<|so h▸cg J J J
   ·refine d<|aQ iJ ef bB J<|eE h aaz (Uo _) (cy J) fun r h=>aN J<|fy h J (fun h=>?_) (fun h=>?_)
    ·refine aj<|ca<|ca<|aJ<|al<|au<|aS<|Q J<|bp J<|Q J<|aD J (bX J)<|aD J (se J)<|aD J (nQ J)<|de J J J J (fun Y=>mt J)<|de J J J J (fun Y=>mt J)<|de J J J J (fun Y=>du (bl J Y) (bl J Y))<|aD J (fun Y=>jm (bl J Y) (fun H=>(bl J (sd Y H))))<|dG J<|bW h J (fun h=>?_) (fun h=>?_)
     ·exact d<|ca<|eg<|af<|so h▸cg J J J
     ·exact fN<|ax J<|d6 J<|eg<|so h▸cg J J J
    ·refine d<|aQ iJ ef bB J<|bp J<|Q J<|aD J (bv iJ ef J J)<|aD J (bq bB J J)<|aD J (gQ J)<|dG J<|Q J<|aD J (bv iJ ef J J)<|aD J (bq bB J J)<|aD J (gQ J)<|dG J<|aN J<|fy h J (fun h=>?_) (fun h=>?_)
     ·refine aj<|ca<|aJ<|al<|au<|aS<|Q J<|bp J<|Q J<|aD J (bX J)<|aD J (se J)<|aD J (nQ J)<|de J J J J (fun Y=>mt J)<|de J J J J (fun Y=>mt J)<|de J J J J (fun Y=>du (bl J Y) (bl J Y))<|aD J (fun Y=>jm (bl J Y) (fun H=>(bl J (sd Y H))))<|dG J<|bW h J (fun h=>?_) (fun h=>?_)
      ·exact d<|ca<|eg<|af<|so h▸cg J J J
      ·exact fN<|ax J<|d6 J<|eg<|so h▸cg J J J
     ·refine bc<|al<|au<|aS<|Q J<|bp J<|Q J<|aD J (bX J)<|aD J (se J)<|aD J (nQ J)<|de J J J J (fun Y=>mt J)<|de J J J J (fun Y=>mt J)<|de J J J J (fun Y=>du (bl J Y) (bl J Y))<|aD J (fun Y=>jm (bl J Y) (fun H=>(bl J (sd Y H))))<|dG J<|bW h J (fun h=>?_) (fun h=>?_)
      ·exact d<|ca<|eg<|af<|so h▸cg J J J
      ·exact fN<|ax J<|d6 J<|eg<|so h▸cg J J J
 ·obtain⟨V,h⟩:=h
  refine ew V J<|aP<|ak<|d<|dg df bB J (dJ V)<|aN J<|ak<|ax J<|bp J ?_;refine Q J<|aD J (bX J)<|aD J (bX J)<|aD J (fun Y=>di (bl J Y) (bl J Y))<|dG J<|aN J<|fy h J (fun h=>?_) (fun h=>?_)
  ·refine bc<|al<|dd V hN J ?_;exact aU (aH (ih (i+1) own ⟨da V,h⟩) (aX J))
  ·refine ax J<|bp J<|aN J<|fy h J (fun h=>?_) (fun h=>?_)
   ·refine aj<|Q J<|d6 J<|aJ<|al<|dd V hN J ?_;exact aU (aH (ih (i+1) e ⟨da V,h⟩) (aX J))
   ·refine aj<|ca<|aJ<|al<|dd V hN J ?_;exact aU (aH (ih (i+1) xD ⟨da V,h⟩) (aX J))

def DB e kinds{R}(h:oU e kinds=some R):cX bd 206 [tD bN e,jK kinds] (tT [bH R.1,bH R.2]):=by
 refine dK Tryz.func206 J<|d<|dl J<|dl J<|ca<|ca<|bu<|aS<|dH gn J<|eE h VT (NC _) (cy J) fun r h=>aN J<|ax J<|nP J<|bu ?_;refine fy h J (fun h=>?_) (fun h=>?_)
 ·exact ax J<|ca<|bf J<|af<|so h▸cg J J J
 ·refine fN<|aS<|dH cu J<|bI df J<|s (bT hI)<|bu<|ak<|bo (k:=16) J fun hN=>bA ?_;refine aH (eU (aa:=fun ls i=>(kinds.drop i=ls)/\rW e kinds ls=some R) (Of:=fun _ i=>[]) (Gf:=fun _ i=>[(2,ck bN e),(3,ck nq kinds),(16,jK kinds),(17,kE kinds),(18,bH (i:Int))]) (fun i h=>?_) (fun e1 tl ih i h=>?_) kinds 0 ⟨J,h⟩) (aX J)
  ·obtain⟨V,h⟩:=h
   refine ez V J<|au<|aS<|dH gn J<|ot h aaC (RK _) (cy J) fun r1 h l c=>s (ir df (.head _) (D J))<|s (bT hI)<|bu<|ak ?_;refine B2 (.head _) fun hN1=>bA ?_;refine aH (eU (aa:=fun ls1 i1=>(r1.drop i1=ls1)/\oh e kinds ls1=some R) (Of:=fun _ i1=>[db bV 3 l c r1]) (Gf:=fun _ i1=>[(2,ck bN e),(3,ck nq kinds),(30,nO l c r1),(31,kE r1),(32,bH (i1:Int))]) (fun i1 h=>?_) (fun e2 tl1 ih1 i1 h=>?_) r1 0 ⟨J,h⟩) (aX J)
   ·obtain⟨hx1,h⟩:=h
    refine ez hx1 J<|au<|d<|dH gn J<|s ((show cI _ _ _ _ ((mI bd SZ SX (fun(x:av×(List Int))=>(kC kinds) x.1 x.2)))from yk (cts:=[ck nq kinds]) (caps:=[.tmp 3]) aaA ⟨(D J),aZ⟩ (fun x y h=>Up _ _ _ h)))<|eE h aaB (Uq _ _) (cy J) fun r2 h=>dz J J<|dz J J<|d6 J<|d6 J<|aJ ?_;exact au<|pd<|aV<|so h▸cg J J J
   ·obtain⟨hx1,h⟩:=h
    refine ew hx1 J<|aP<|ak<|d<|s (eH df bB (.head _) (D J) (D J) (dJ hx1))<|s (jP (r:=bV) (i:=(i1:Int)) (foff:=0) bB J J bC J (.head _) (dJ hx1) (D J))<|aN J<|ax J<|dH cu J<|bI df J ?_;refine s (dB (D J) (D J))<|bW h J (fun h=>?_) (fun h=>?_)
    ·exact d<|ca<|eg<|cx<|af<|cx<|aV<|so h▸cg J J J
    ·refine bc<|dd hx1 hN1 J ?_;exact aU (aH (ih1 (i1+1) ⟨da hx1,h⟩) (aX J))
  ·obtain⟨V,h⟩:=h
   refine ew V J<|aP<|ak<|d<|dg df bB J (dJ V)<|aN J<|ax J<|s (fH (D J) hI)<|Q J ?_;refine aD J (bX J)<|aD J (fun Y=>dD (bl J Y) hI)<|dG J<|bW h J (fun h=>?_) (fun h=>?_)
   ·exact d<|ca<|eg<|cx<|af<|cx<|so h▸cg J J J
   ·refine bc<|dd V hN J ?_;exact aU (aH (ih (i+1) ⟨da V,h⟩) (aX J))

def NF e kinds{R}(h:kY e kinds=some R):cX bd 205 [tD bN e,jK kinds] (fM R):=by
 refine dK Tryz.func205 J<|d<|dl J<|bm<|bu<|d<|dH gn J<|Q J<|eE h NP (DB _ _) (cy J) fun r h=>Q J<|dz J J<|dz J J<|d6 J<|aN J<|ax J<|bp J ?_;exact Q J<|ae J (bX J)<|ae J (gQ J)<|ae J (nQ J)<|cF J J J J (fun Y=>mt J)<|cF J J J J (fun Y=>di (bl J Y) hI)<|ae J (fun Y=>kL (bl J Y) (fun H=>(bl J (sd Y (sb H)))))<|cm J<|bf J<|so h▸aA J J

def X4(b:Nat)(ix:OI) l{R}(h:iD l=some R):bK bd 165 [M (Z b 0)] (fx b l ix) (fun _:OI=>fM R.1) (fun j=>fx b R.2 j):=by
 refine bK.of Tryz.func165 J J J fun w0 S0=>?_;refine(show CG _ _ _ [bx (rH bQ [(1,ay (ix.h 0).1 (ix.h 0).2 l.kinds.length),(2,ay (ix.h 1).1 (ix.h 1).2 l.open_.length)]) 168 b l,tip nq 69 (ix.h 0).1 (ix.h 0).2 l.kinds,db bV 3 (ix.h 1).1 (ix.h 1).2 l.open_] _ from ?_);refine d<|bm<|bu<|aP<|bR h fun r q_r h=>?_
 refine qN 13 (ts:=[M (Z b 0),M (Z b 0),M (Z b 0),M (Z b 15),jK l.a_,M (Z b 0),M (Z b 0),M (Z b 16),jK l.b,em (nq) ([l.a_,l.b]),jK r,M (Z b 0),M (Z b 17)]) mixed J J J
  ⟨fP J J,
  ⟨fP J J,
  ⟨ff 4 1 J J (aO (D J)),
  ⟨ff 5 2 J J (q9 15 kh J J J),
  ⟨ff 6 3 J J (aL (r:=rH bQ [(1,ay (ix.h 0).1 (ix.h 0).2 l.kinds.length),(2,ay (ix.h 1).1 (ix.h 1).2 l.open_.length)]) (x:=l) cu J J (fF qt) (.head _) (D J)),
  ⟨fP J J,
  ⟨ff 8 5 J J (aO (D J)),
  ⟨ff 9 6 J J (q9 16 BI J J J),
  ⟨ff 10 7 J J (aL (r:=rH bQ [(1,ay (ix.h 0).1 (ix.h 0).2 l.kinds.length),(2,ay (ix.h 1).1 (ix.h 1).2 l.open_.length)]) (x:=l) cu J J (fF Hc) (.head _) (D J)),
  ⟨ga 7 4 11 8 J J J (aI (r:=vG) (ys:=[l.a_,l.b]) (xs:=[.tmp 7,.tmp 11]) uh cu J J J J J ⟨(D J),(D J),aZ⟩),
  ⟨ff 12 9 J J (cD aaT (UA _ q_r) ⟨(D J),aZ⟩),
  ⟨ff 3 0 J J (aO (D J)),
  ⟨ff 14 11 J J (q9 17 gN J J J),
  aZ⟩⟩⟩⟩⟩⟩⟩⟩⟩⟩⟩⟩⟩ ?_
 refine fK (dF cu J (pC (hs' :=[(1,ay (ix.h 0).1 (ix.h 0).2 l.kinds.length),(2,ay (ix.h 1).1 (ix.h 1).2 l.open_.length)]) ua ⟨.inr ⟨J,J⟩,.inr ⟨J,J⟩,aZ⟩ J) J (D J) (D J)) fun i=>?_;refine(show RG _ _ _ _ [_,_,_] _ from ?_);refine bu<|aP<|bR h fun r1 q_r1 h=>?_
 refine gO (ts:=[_,_,_,_,_,_,_,_,_,_,_]) mixed J J
  ⟨fP J J,
  ⟨ff 16 0 J J (aO (D J)),
  ⟨ff 17 1 J J (q9 3 iI J J J),
  ⟨ff 18 2 J J (q9 9 pZ J J J),
  ⟨ff 19 3 J J (aL (r:=rH bQ [(1,ay (ix.h 0).1 (ix.h 0).2 l.kinds.length),(2,ay (ix.h 1).1 (ix.h 1).2 l.open_.length)]) (x:=({l with result:=r}:aq)) gn J J (fF (fq gx iQ)) (.head _) (D J)),
  ⟨fP J J,
  ⟨ff 21 5 J J (aO (D J)),
  ⟨ff 22 6 J J (q9 17 gN J J J),
  ⟨ff 23 7 J J (aL (r:=rH bQ [(1,ay (ix.h 0).1 (ix.h 0).2 l.kinds.length),(2,ay (ix.h 1).1 (ix.h 1).2 l.open_.length)]) (x:=({l with result:=r}:aq)) cu J J (fF Cq) (.head _) (D J)),
  ⟨ga 20 4 24 8 J J J (cD VX (NF _ _ q_r1) ⟨(D J),(D J),aZ⟩),
  ⟨ff 25 9 J J (DX J),
  aZ⟩⟩⟩⟩⟩⟩⟩⟩⟩⟩⟩ ?_
 exact au<|pd<|aT<|aT<|aT<|so h▸cj J ix J J (fun _ _ h=>h)

def X3(b:Nat)(ix:OI) l{R}(h:gu l=some R):bK bd 166 [M (Z b 0)] (fx b l ix) (fun _:OI=>fM R.1) (fun j=>fx b R.2 j):=by
 refine bK.of Tryz.func166 J J J fun w0 S0=>?_;refine(show CG _ _ _ [bx (rH bQ [(1,ay (ix.h 0).1 (ix.h 0).2 l.kinds.length),(2,ay (ix.h 1).1 (ix.h 1).2 l.open_.length)]) 168 b l,tip nq 69 (ix.h 0).1 (ix.h 0).2 l.kinds,db bV 3 (ix.h 1).1 (ix.h 1).2 l.open_] _ from ?_);refine d<|bm<|bu<|ax J<|Q J<|s (aO (D J))<|bh 15 kh J<|s (aL (r:=rH bQ [(1,ay (ix.h 0).1 (ix.h 0).2 l.kinds.length),(2,ay (ix.h 1).1 (ix.h 1).2 l.open_.length)]) (x:=l) cu J J (fF qt) (.head _) (D J))<|s (aO (D J))<|bh 17 gN J<|fK (dF cu J (pC (hs' :=[(1,ay (ix.h 0).1 (ix.h 0).2 l.kinds.length),(2,ay (ix.h 1).1 (ix.h 1).2 l.open_.length)]) ua ⟨.inr ⟨J,J⟩,.inr ⟨J,J⟩,aZ⟩ J) J (D J) (D J)) fun i=>?_;refine(show RG _ _ _ _ [_,_,_] _ from ?_);refine bu<|aP<|bR h fun r q_r h=>?_
 refine gO (ts:=[_,_,_,_,_,_,_,_,_,_,_]) mixed J J
  ⟨fP J J,
  ⟨ff 10 0 J J (aO (D J)),
  ⟨ff 11 1 J J (q9 3 iI J J J),
  ⟨ff 12 2 J J (q9 9 pZ J J J),
  ⟨ff 13 3 J J (aL (r:=rH bQ [(1,ay (ix.h 0).1 (ix.h 0).2 l.kinds.length),(2,ay (ix.h 1).1 (ix.h 1).2 l.open_.length)]) (x:=({l with result:=l.a_}:aq)) gn J J (fF (fq gx iQ)) (.head _) (D J)),
  ⟨fP J J,
  ⟨ff 15 5 J J (aO (D J)),
  ⟨ff 16 6 J J (q9 15 kh J J J),
  ⟨ff 17 7 J J (aL (r:=rH bQ [(1,ay (ix.h 0).1 (ix.h 0).2 l.kinds.length),(2,ay (ix.h 1).1 (ix.h 1).2 l.open_.length)]) (x:=({l with result:=l.a_}:aq)) cu J J (fF qt) (.head _) (D J)),
  ⟨ga 14 4 18 8 J J J (cD VX (NF _ _ q_r) ⟨(D J),(D J),aZ⟩),
  ⟨ff 19 9 J J (DX J),
  aZ⟩⟩⟩⟩⟩⟩⟩⟩⟩⟩⟩ ?_
 exact au<|pd<|aT<|aT<|aT<|so h▸cj J ix J J (fun _ _ h=>h)

end Go.Proofs.YtdohlidddcgfjaaGreat

