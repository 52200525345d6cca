/- cE of this claim: P2. -/
import Derived.Test.YtdohlidddcgfjaaGreatFcT
import Derived.Test.YtdohlidddcgfjaaGreatFcP1
set_option linter.all false
namespace Go.Proofs.YtdohlidddcgfjaaGreat
open Go
set_option maxRecDepth 100000

def RL n{R}(h:nh n=some R):gm bd 232 [M (.slice none 0 0),bH n] false bV 3 R:=by
 refine gm.of Tryz.func232 J J J fun w0 S0=>d<|ci false bV 3<|s (bU tE)<|bu ?_;refine PL (aa:=nX n=some R) (Of:=[]) (Gf:=[(0,M (.slice none 0 0)),(1,bH n)]) (fun h=>?_) (fun h2=>?_)
 ·skip
  refine zn (aa:=fun ac l c=>nW ac=some R) (Of:=fun ac l c=>[db bV 3 l c ac]) (Gf:=fun ac l c=>[(0,nO l c ac)]) (fun ac l c h=>?_) (fun K1=>?_)
  ·skip
   exact ax J<|bf J<|so h▸fL J J
  ·skip
   refine ax J<|Q J<|s (GX df (D J))<|Q J<|s (GW df (D J))<|s (dP (D J) (D J))<|s (dP (D J) (D J))<|aN J<|ax J<|s (dD (D J) hI)<|bW h J (fun h=>?_) (fun h=>?_)
   ·refine aj<|Q J<|Q J<|s (GX df (D J))<|s (J1 df bB (D J) (D J))<|Q J<|bR h fun u q_u h=>bR h fun mk q_mk h=>br (KC (r:=bV) (x:=(0:Int)) bB J J J J df iL (fun _=>J) (D J) (D J) (Ru q_u) q_mk) J fun i=>Q J<|s (GW df (D J))<|bR h fun y q_y h=>s (pO df bB J (.head _) (D J) (D J) q_y)<|Fs q_y<|d6 J<|aJ ?_;exact bE (K1 y (i.h 0).1 (i.h 0).2 h) (aX J)
   ·refine bc<|SL false bV 3 ?_;exact bE (K1 pu none 0 h) (aX J)
 ·skip
  refine ax J<|s (fH (D J) hI)<|bW h J (fun h=>?_) (fun h=>?_)
  ·refine aj ?_;exact(nn h).elim
  ·refine bc<|aV ?_;exact bE (h2 h) (aX J)
def RN slices{R}(h:jO slices=some R):gm bd 204 [em (nq) slices] false bV 3 R:=by
 refine gm.of Tryz.func204 J J J fun w0 S0=>d<|ci false bV 3<|s (bU tE)<|bu<|d<|ca<|bu<|aS<|Q J<|bI uh J<|s (bT hI)<|bu<|ak<|bo (k:=9) J fun hN=>bA<|lu ?_;refine aH (uS (aa:=fun ls i size=>(slices.drop i=ls)/\j7 slices ls size=some R) (Of:=fun _ i size=>[]) (Gf:=fun _ i size=>[(0,em (nq) slices),(3,bH size),(9,em (nq) slices),(10,kE slices),(11,bH (i:Int))]) (fun i size h=>?_) (fun e tl ih i size h=>?_) slices 0 (0:Int) ⟨J,h⟩) (aX J)
 ·obtain⟨V,h⟩:=h
  refine ez V J<|au<|ax J<|ot h aaD (RL _) ⟨hV,(D J),aZ⟩ fun r h l c=>aN J<|aS ?_;refine Q J<|bI uh J<|s (bT hI)<|bu<|ak<|bo (k:=25) J fun hN1=>bA ?_;refine aH (jz (aa:=fun ls1 i1 newslice l1 c1=>(slices.drop i1=ls1)/\j6 ls1 newslice=some R) (Of:=fun _ i1 newslice l1 c1=>[db bV 3 l1 c1 newslice]) (Gf:=fun _ i1 newslice l1 c1=>[(6,nO l1 c1 newslice),(25,em (nq) slices),(26,kE slices),(27,bH (i1:Int))]) (fun i1 newslice l1 c1 h=>?_) (fun e1 tl1 ih1 i1 newslice l1 c1 h=>?_) slices 0 r l c ⟨J,h⟩) (aX J)
  ·obtain⟨hx1,h⟩:=h
   exact ez hx1 J<|au<|ax J<|bf J<|so h▸fL J J
  ·obtain⟨hx1,h⟩:=h
   refine ew hx1 J<|aP<|ak<|d<|dg uh cu J (dJ hx1)<|aN J<|aj<|Q J<|Q J<|bR h fun newslice1 q_newslice1 h=>bD bB J J J J df J J (D J) (D J) q_newslice1 fun l2 c2=>?_;refine d6 J<|aJ<|dd hx1 hN1 J ?_;exact aU (aH (ih1 (i1+1) newslice1 l2 c2 ⟨da hx1,h⟩) (aX J))
 ·obtain⟨V,h⟩:=h
  refine ew V J<|aP<|ak<|d<|dg uh cu J (dJ V)<|aN J<|ax J<|Q J<|bI df J ?_;refine s (cW (D J) (D J))<|aN J<|ax J<|s (fH (D J) hI)<|bW h J (fun h=>?_) (fun h=>?_)
  ·refine aj ?_;exact(nn h).elim
  ·refine bc<|dd V hN J ?_;exact aU (aH (ih (i+1) (IntKind.i64.wrap (size+(e.length:Int))) ⟨da V,h⟩) (aX J))
def UA slices{R}(h:jO slices=some R):cX bd 204 [em (nq) slices] (jK R):=(RN _ h).spec

def NB tag{R}(h:sO tag=some R):cX bd 254 [bH tag] (bH R):=by
 refine dK Tryz.func254 J<|d<|ca<|bu<|aP<|ak<|ax J<|bp J<|Q J<|aD J (bX J)<|aD J (gQ J)<|dG J<|aN J<|fy h J (fun h=>?_) (fun h=>?_)
 ·exact d<|eg<|cx<|so h▸aA J J
 ·refine ax J<|s (dB (D J) hI)<|Q J<|ae J (bX J)<|ae J (fun Y=>eY (bl J Y) hI)<|cm J<|aN J<|fy h J (fun h=>?_) (fun h=>?_)
  ·exact d<|eg<|cx<|so h▸aA J J
  ·refine ax J<|s (dB (D J) hI)<|Q J<|ae J (bX J)<|ae J (fun Y=>eY (bl J Y) hI)<|cm J<|aN J<|fy h J (fun h=>?_) (fun h=>?_)
   ·exact d<|eg<|cx<|so h▸aA J J
   ·exact bc<|al<|au<|d<|eg<|so h▸aA J J

def Um v{R}(h:xU v=some R):cX bd 239 [tD bF v] (tD bF R):=by
 refine dK Tryz.func239 J<|d<|qV (D J) J fun b=>bz dh lJ J fun b1=>bu<|aS<|bh 0 mT J<|s (aL bB J J js (.tail _ (.head _)) (D J))<|bu ?_;refine Hv (aa:=fun v1=>lL v1=some R) (Of:=fun v1=>[bx bF 104 b v1,bx bF 104 b1 iF]) (Gf:=fun v1=>[(1,M (Z b 0)),(2,M (Z b1 0))]) (fun v1 h=>?_) (fun h2=>?_)
 ·skip
  exact au<|d<|s (aL dh J J bC (.head _) (D J))<|bY<|bO dh aB J<|bj 2 J<|bM<|aV<|so h▸FH J dh J J J
 ·skip
  refine aP<|ak<|aP<|ak<|aP ?_;refine Hv (aa:=fun v2=>rK v2=some R) (Of:=fun v2=>[bx bF 104 b v2,bx bF 104 b1 iF]) (Gf:=fun v2=>[(1,M (Z b 0)),(2,M (Z b1 0))]) (fun v2 h=>?_) (fun K1=>?_)
  ·skip
   refine au<|d<|bh 0 mT J<|ek bB J wN J (D J) hI<|bu<|cQ<|cn J<|ap<|cn J<|ap<|bL ?_;exact bE (h2 (aC.mk (0:Int) v2.N v2.U v2.S) h) (aX J)
  ·skip
   refine aP ?_;refine PQ (aa:=rJ v=some R) (Of:=[bx bF 104 b v,bx bF 104 b1 iF]) (Gf:=[(1,M (Z b 0)),(2,M (Z b1 0))]) (fun h=>?_) (fun K2=>?_)
   ·skip
    refine au<|aj<|bh 1 nl J<|ek Jr J uu J (D J) hI<|aJ<|al ?_;exact bE (K1 (aC.mk v.Kind (0:Int) v.U v.S) h) (aX J)
   ·skip
    refine aP<|ak<|aP<|aS<|bp J<|aN J<|fy h J (fun h=>?_) (fun h=>?_)
    ·refine cQ<|ap<|ap<|bL<|au<|d<|bh 1 nl J<|s (aL Jr J J kZ (.tail _ (.head _)) (D J))<|nP J<|Q J<|ae J (fun Y=>q9 1 nl J J J)<|ae J (fun Y=>aL Jr J J kZ (.tail _ (.head _)) (bl J Y))<|ae J (se J)<|cm J<|bW h J (fun h=>?_) (fun h=>?_)
     ·refine cQ<|cn J<|ap<|cn J<|ap<|cn J<|ap<|cn J<|ap<|bL<|am ?_;exact bE (h2 v h) (aX J)
     ·refine bc<|al<|am ?_;exact bE (K2 h) (aX J)
    ·refine fN<|aS<|bp J<|aN J<|fy h J (fun h=>?_) (fun h=>?_)
     ·refine cQ<|ap<|ap<|cn J<|ap<|bL<|am ?_;exact bE (K2 h) (aX J)
     ·refine fN<|aS<|bp J<|aN J<|fy h J (fun h=>?_) (fun h=>?_)
      ·refine cQ<|ap<|ap<|cn J<|ap<|cn J<|ap<|bL<|am ?_;exact bE (K1 v h) (aX J)
      ·refine fN<|aS<|bp J<|aN J<|fy h J (fun h=>?_) (fun h=>?_)
       ·refine cQ<|ap<|ap<|cn J<|ap<|cn J<|ap<|cn J<|ap<|bL<|au ?_;refine d5 (aa:=fun v3=>rG v3=some R) (Of:=fun v3=>[bx bF 104 b v3,bx bF 104 b1 iF]) (Gf:=fun v3=>[(1,M (Z b 0)),(2,M (Z b1 0))]) (fun v3 h=>?_) (fun K3=>?_)
        ·skip
         refine cQ<|cn J<|ap<|bL ?_;exact bE (h2 v3 h) (aX J)
        ·skip
         refine d<|bh 3 qS J<|s (aL Ow J J lZ (.tail _ (.head _)) (D J))<|s (Bi Df (D J))<|s (eY (D J) hI)<|bW h J (fun h=>?_) (fun h=>?_)
         ·refine aj<|bh 0 mT J<|bY<|ek bB J wN J (D J) hI<|bh 3 qS J<|ek Ow J Eg J (D J) hS<|aJ ?_;exact bE (K3 (aC.mk (0:Int) v.N v.U ([])) h) (aX J)
         ·refine bc<|am ?_;exact bE (K3 v h) (aX J)
       ·refine fN<|d<|bp J<|aN J<|fy h J (fun h=>?_) (fun h=>?_)
        ·refine cQ<|ap<|cn J<|ap<|cn J<|ap<|cn J<|ap<|cn J<|ap<|bL<|au<|d<|bh 0 mT J<|bY<|ek bB J wN J (D J) hI<|bh 1 nl J<|ek Jr J uu J (D J) hI<|bh 2 xd J<|ek qf J Eh J (D J) hI<|bu<|cQ ?_;refine bL ?_;exact bE (h2 (aC.mk (0:Int) (0:Int) (0:Int) v.S) h) (aX J)
        ·refine fN<|cQ<|cn J<|ap<|cn J<|ap<|cn J<|ap<|cn J<|ap<|cn J<|ap<|bL<|am ?_;exact bE (h2 v h) (aX J)

def tU v{R}(h:iU v=some R):cX bd 210 [tD bF v] (bH R):=by
 refine dK Tryz.func210 J<|d<|dl J<|ca<|bu<|aS<|dH dh J<|eE h aax (Um _) (cy J) fun r h=>s (ee dh G9 lJ J)<|s (vm Fa (D J) (D J))<|bW h J (fun h=>?_) (fun h=>?_)
 ·exact d<|eg<|af<|so h▸aA J J
 ·exact fN<|d<|eg<|so h▸aA J J

def T7 v{R}(h:u4 v=some R):cX bd 265 [tD bF v] (fM R):=by
 exact dK Tryz.func265 J<|d<|dl J<|bm<|bu<|d<|dH dh J<|eE h BQ (tU _) (cy J) fun r h=>bp J<|Q J<|ae J (bv mT js J J)<|ae J (bq bB J J)<|ae J (se J)<|cm J<|bf J<|so h▸aA J J

def Ua n{R}(h:vw n=some R):cX bd 260 [tD bt n] (fM R):=by
 refine dK Tryz.func260 J<|d<|dl J<|bm<|bu<|aS<|aQ iJ ef bB J<|bu<|ak<|d<|bp J<|aN J<|fy h J (fun h=>?_) (fun h=>?_)
 ·exact d<|aQ qR k7 dh J<|eE h aae (T7 _) (cy J) fun r h=>Q J<|ae J (bv od iR J J)<|ae J (bq bB J J)<|ae J (gQ J)<|cm J<|bf J<|cx<|so h▸aA J J
 ·refine d<|bp J<|aN J<|fy h J (fun h=>?_) (fun h=>?_)
  ·exact d<|aQ qR k7 dh J<|s (ee dh G9 lJ J)<|s (y6 Fa (D J) (D J))<|Q J<|ae J (bv od iR J J)<|ae J (bq bB J J)<|ae J (fun Y=>dB (bl J Y) hI)<|cm J<|Q J<|ae J (bv od iR J J)<|ae J (bq bB J J)<|ae J (fun Y=>fH (bl J Y) hI)<|cm J<|bf J<|cx<|so h▸aA J J
  ·exact bc<|al<|au<|d<|aQ qR k7 dh J<|s (ee dh G9 lJ J)<|s (y6 Fa (D J) (D J))<|Q J<|ae J (bv od iR J J)<|ae J (bq bB J J)<|ae J (gQ J)<|cm J<|bf J<|so h▸aA J J

def Ue e{R}(h:yF e=some R):cX bd 250 [tD bN e] (tT [jK R.1,fM R.2]):=by
 refine dK Tryz.func250 J<|d<|dl J<|fO bV<|bm<|bu<|d<|ci false bV 3<|s (bU tE)<|ci false bV 3<|s (bU tE)<|bu<|aS<|aQ f7 dw nM J<|bI j5 J<|s (bT hI)<|aJ ?_;refine au<|ak<|bo (k:=15) J fun hN=>bA<|dY ?_;refine aH (Fy (aa:=fun ls i all l c open1 l1 c1=>(e.Nodes.drop i=ls)/\mb ls i all open1=some R) (Of:=fun _ i all l c open1 l1 c1=>[db bV 3 l c all,db bV 3 l1 c1 open1]) (Gf:=fun _ i all l c open1 l1 c1=>[(4,nO l c all),(5,nO l1 c1 open1),(15,em (bt) e.Nodes),(16,kE e.Nodes),(17,bH (i:Int))]) (fun i all l c open1 l1 c1 h=>?_) (fun e1 tl ih i all l c open1 l1 c1 h=>?_) e.Nodes 0 pu none 0 pu none 0 ⟨J,h⟩) (aX J)
 ·obtain⟨V,h⟩:=h
  refine ez V J<|au<|ax J<|Q J<|s (ir df (.tail _ (.head _)) (D J))<|bp J<|Q J<|ae J (bX J)<|ae J (fun Y=>ir df (.head _) (bl J Y))<|ae J (fun Y=>eY (bl J Y) hI)<|cm J ?_;exact d6 J<|bf J<|dq<|bP 4 J<|bP 84 J<|bP 2 J<|eW 2 J<|aV<|aV<|so h▸cg J J J
 ·obtain⟨V,h⟩:=h
  refine ew V J<|aP<|ak<|ax J<|dg j5 eo J (dJ V)<|bz eo lc J fun b=>d6 J<|bO eo aB J<|bj 7 J<|bu<|aP ?_;refine aj<|aQ iJ ef bB J<|eE h VR (NB _) (cy J) fun r h=>aN J<|aS<|Q J<|s (fH (D J) hI)<|Q J<|aD J (bX J)<|aD J (bX J)<|aD J (fun Y=>ir df (.tail _ (.head _)) (bl J Y))<|aD J (fun Y=>dD (bl J Y) (bl J Y))<|dG J<|Q J<|bR h fun t q_t h=>aD J (fun Y=>yT eo J J) ?_
  obtain⟨r1,h1t,h0t⟩:=og q_t
  have q_r1g:=fun H=>(h1t H).1
  refine aD J (fun Y=>cD aah (Ua _ (q_r1g Y)) ⟨(bl J Y),aZ⟩)<|aD J (uo J)<|s (jl (D J) (fun H=>(bl J (sb H))) (fun H=>(h1t H).2) h0t)<|bW h J (fun h=>?_) (fun h=>?_)
  ·exact d<|fO bV<|bm<|bM<|af<|cx<|af<|cx<|aV<|aV<|so h▸cg J J J
  ·refine fN<|ax J<|Q J<|s (ir df (.tail _ (.head _)) (D J))<|Q J<|s (dP (D J) (D J))<|bR h fun y q_y h=>s (rl df bB J (.tail _ (.head _)) (D J) (D J) q_y)<|rX (.tail _ (.head _)) q_y fun hv=>aN J<|d<|s (uc (r:=bV) (ys:=[xD,xD]) (xs:=[.const (.int .i64 (-1)),.const (.int .i64 (-1))]) DM bB J zG J J ⟨hI,hI,aZ⟩)<|bz (r:=(o7 bV 2)) (x:=(List.replicate 2 (0:Int))) zG (fun _=>BS (r:=bV) 2 (fun _=>J) _) J fun b1=>bO zG aB J<|bu<|d ?_;refine Q J<|aN J<|aS<|Q J<|s (Nh df (.tail _ (.tail _ (.head _))) q_y (D J))<|s (bT hI)<|bu<|ak ?_
   have hN1:=hv.2
   refine bA<|kV<|kV ?_;refine aH (Fz (aa:=fun ls1 i1 first at1=>(y.drop i1=ls1)/\nK (mb tl) i e1 all open1 r ls1 i1 first at1=some R) (Of:=fun _ i1 first at1=>[db bV 3 l c all,db bV 3 l1 c1 open1,bx (o7 bV 2) 209 b1 at1]) (Gf:=fun _ i1 first at1=>[(4,nO l c all),(5,nO l1 c1 open1),(6,bH (i:Int)),(7,ck bt e1),(8,bH r),(10,M (Z b1 0)),(11,bH first),(15,em (bt) e.Nodes),(16,kE e.Nodes),(17,bH (i:Int)),(46,M (oZ 1 l1 c1 (IntKind.i64.wrap ((open1.length:Int)-r)).toNat y.length)),(47,kE y),(48,bH (i1:Int))]) (fun i1 first at1 h=>?_) (fun e2 tl1 ih1 i1 first at1 h=>?_) y 0 (i:Int) ([xD,xD]) ⟨J,h⟩) (aX J)
   ·obtain⟨hx1,h⟩:=h
    refine ez hx1 J<|au<|aS<|s (aL zG J J bC (.tail _ (.tail _ (.head _))) (D J))<|aQ qv pY bB J<|aQ pq oa bB J<|s (uc (r:=bV) (ys:=[e1.L,e1.R]) (xs:=[.tmp 65,.tmp 67]) DM bB J zG J J ⟨(D J),(D J),aZ⟩)<|s (vm VM (D J) (D J))<|aJ ?_;refine au<|fy h J (fun h=>?_) (fun h=>?_)
    ·exact d<|fO bV<|bm<|bM<|af<|cx<|af<|cx<|aV<|aV<|aV<|so h▸cg J J J
    ·refine fN<|ax J<|Q J<|s (aI (r:=bV) (ys:=[first]) (xs:=[.tmp 71]) df bB J J J J J ⟨(D J),aZ⟩)<|bR h fun all1 q_all1 h=>bD bB J J J J df J J (D J) (D J) q_all1 fun l2 c2=>aN J<|aj<|Q J<|Q J<|s (ir df (.tail _ (.head _)) (D J))<|Q J<|s (dP (D J) (D J))<|bR h fun y1 q_y1 h=>s (pO df bB J (.tail _ (.head _)) (D J) (D J) q_y1)<|Q J<|s (aI (r:=bV) (ys:=[(i:Int)]) (xs:=[.tmp 80]) df bB J J J J J ⟨(D J),aZ⟩)<|bY<|Fs q_y1 ?_;refine bR h fun open2 q_open2 h=>bD bB J J J J df J J (D J) (D J) q_open2 fun l3 c3=>d6 J<|aJ<|dd V hN J<|aT<|aV<|am ?_;exact aU (aH (ih (i+1) all1 l2 c2 open2 l3 c3 ⟨da V,h⟩) (aX J))
   ·obtain⟨hx1,h⟩:=h
    refine ew hx1 J<|aP<|ak<|ax J<|s (zO df bB J (.tail _ (.head _)) q_y (D J) (D J) (dJ hx1))<|s (jP (r:=bV) (i:=((IntKind.i64.wrap ((open1.length:Int)-r))+(i1:Int))) (foff:=0) bB J J bC J (.tail _ (.head _)) (z8 q_y (dJ hx1)).1 (D J))<|d6 J<|aN J<|bR h fun e3 q_e3 h=>bR h fun e4 q_e4 h=>bR h fun ar q_ar h=>?_
    refine ja 10 [tc (bH (i1:Int)),tc (bH e2),tc (bH first),tc (nO l c all),tc (bH e2),tc (M (Az l (e2.toNat*1+0))),tc (bH e3),tc (bH (min first e3)),tc (M (Z b1 ((i1:Int).toNat*1))),tc (D8)] [false,false,false,false,false,false,false,false,false,true] [fun _=>[db bV 3 l c all,db bV 3 l1 c1 open1,bx (o7 bV 2) 209 b1 at1],fun sg=>[bx (o7 bV 2) 209 b1 ar,db bV 3 l c all,db bV 3 l1 c1 open1]] J mixed J J J J J
     ⟨⟨[⟨12,fun _=>tD bV (i1:Int),none⟩],_,0,0,J,⟨(fun _=>J),aZ⟩,J,J,J,J,J,fun _ sg _ _=>ai J (mt J)⟩,
     ⟨⟨[⟨13,fun _=>tD bV e2,none⟩],_,0,0,J,⟨(fun _=>J),aZ⟩,J,J,J,J,J,fun _ sg _ _=>ai J (mt J)⟩,
     ⟨⟨[⟨11,fun _=>tD bV first,none⟩],_,0,1,J,⟨(fun _=>J),aZ⟩,J,J,J,J,J,fun _ sg _ _=>ai J (mt J)⟩,
     ⟨⟨[⟨4,fun _=>M (ay l c all.length),none⟩],_,0,1,J,⟨(fun _=>J),aZ⟩,J,J,J,J,J,fun _ sg _ _=>ai J (mt J)⟩,
     ⟨⟨[⟨13,fun _=>tD bV e2,none⟩],_,0,1,J,⟨(fun _=>J),aZ⟩,J,J,J,J,J,fun _ sg _ _=>ai J (mt J)⟩,
     ⟨⟨[⟨56,fun _=>M (ay l c all.length),some 3⟩,⟨57,fun _=>tD bV e2,some 4⟩],_,0,1,J,⟨(fun _=>J),(fun _=>J),aZ⟩,J,J,J,J,J,DY (fun sg=>ai J (eH df bB (.head _) (D J) (D J) q_e3)) (py (fun sg=>ai J (eH df bB (.tail _ (.head _)) (D J) (D J) q_e3)))⟩,
     ⟨⟨[⟨58,fun _=>M (Az l (e2.toNat*1+0)),some 5⟩],_,0,1,J,⟨(fun _=>J),aZ⟩,J,J,J,J,J,DY (fun sg=>ai J (jP (r:=bV) (i:=e2) (foff:=0) bB J J bC J (.head _) q_e3 (D J))) (py (fun sg=>ai J (jP (r:=bV) (i:=e2) (foff:=0) bB J J bC J (.tail _ (.head _)) q_e3 (D J))))⟩,
     ⟨⟨[⟨55,fun _=>tD bV first,some 2⟩,⟨59,fun _=>tD bV e3,some 6⟩],_,0,1,J,⟨(fun _=>J),(fun _=>J),aZ⟩,J,J,J,J,J,fun _ sg _ _=>ai J (TF (D J) (D J))⟩,
     ⟨⟨[⟨10,fun _=>M (Z b1 0),none⟩,⟨53,fun _=>tD bV (i1:Int),some 0⟩],_,0,0,J,⟨(fun _=>J),(fun _=>J),aZ⟩,J,J,J,J,J,py (fun sg=>ai J (ke DM bB (.tail _ (.tail _ (.head _))) (D J) (D J) q_e4))⟩,
     ⟨⟨[⟨61,fun _=>M (Z b1 ((i1:Int).toNat*1)),some 8⟩,⟨54,fun _=>tD bV e2,some 1⟩],_,J,⟨(fun _=>J),(fun _=>J),aZ⟩,J,J,J,fun sg=>cP J (EffOK.fr2 (Mr bB J q_e4 (so q_ar) (D J) (D J)))⟩,
     aZ⟩⟩⟩⟩⟩⟩⟩⟩⟩⟩ (fun sg=>?_)
    refine(show RG _ _ _ _ [_,_,_] _ from ?_);refine d6 J<|aJ<|dd hx1 hN1 J<|aT<|aT ?_;exact aU (aH (ih1 (i1+1) (min first e3) ar ⟨da hx1,h⟩) (aX J))

def NC e{R}(h:uK e=some R):cX bd 233 [tD bN e] (bH R):=by
 refine dK Tryz.func233 J<|d<|dl J<|ca<|bu<|aS<|dH gn J<|eE h aao (Ue _) (cy J) fun r h=>Q J<|dz J J<|dz J J<|d6 J<|aN J<|ax J<|s (fG (D J)) ?_;refine bW h J (fun h=>?_) (fun h=>?_)
 ·exact d<|eg<|af<|so h▸aA J J
 ·exact fN<|d<|eg<|so h▸aA J J

def XE(l:Option Nat)(c:Nat) ac{R}(h:lk ac=some R):bK bd 252 [nO l c ac] [db bV 3 l c ac] (fun i:OI=>nO (i.h 0).1 (i.h 0).2 R) (fun i=>[db bV 3 (i.h 0).1 (i.h 0).2 R]):=by
 refine bK.of Tryz.func252 J J J fun w0 S0=>d<|ci false bV 3<|s (bU tE)<|bu<|aS<|Q J<|s (ir df (.tail _ (.head _)) (D J))<|s (fH (D J) hI)<|bW h J (fun h=>?_) (fun h=>?_)
 ·exact ax J<|bf J<|af<|aV<|so h▸cj J (oi l c) J J (fun _ _ h=>h)
 ·refine fN<|aS<|ca<|bu<|ak<|B2 (.tail _ (.head _)) fun hN=>bA<|lu ?_;refine aH (eU (aa:=fun ls i=>(ac.drop i=ls)/\gh ac ls i=some R) (Of:=fun _ i=>[db bV 3 l c ac]) (Gf:=fun _ i=>[(0,nO l c ac),(3,bH (i:Int))]) (fun i h=>?_) (fun e tl ih i h=>?_) (ac.drop (1)) 1 ⟨J,h⟩) (aX J)
  ·obtain⟨V,h⟩:=h
   exact cJ<|aS<|Q J<|Q J<|s (ir df (.head _) (D J))<|jC J<|bu<|yS (D J) (Sa V)<|cQ<|ap<|ap<|bL<|au<|ax J<|bf J<|so h▸cj J (oi l c) J J (fun _ _ h=>h)
  ·obtain⟨V,h⟩:=h
   refine cJ<|aS<|Q J<|Q J<|s (ir df (.head _) (D J))<|jC J<|bu<|yR (D J) (NL V)<|fN<|aP<|ak<|aP<|bR h fun e1 q_e1 h=>?_
   refine gO (ts:=[_,_,_,_,_,_,_,_,_,_]) mixed J J
    ⟨fP J J,
    ⟨fP J J,
    ⟨ga 16 0 17 1 J J J (eH df bB (.head _) (D J) (D J) (dJ V)),
    ⟨ff 18 2 J J (jP (r:=bV) (i:=(i:Int)) (foff:=0) bB J J bC J (.head _) (dJ V) (D J)),
    ⟨fP J J,
    ⟨fP J J,
    ⟨ff 21 5 J J (dP (D J) hI),
    ⟨ga 20 4 22 6 J J J (eH df bB (.head _) (D J) (D J) q_e1),
    ⟨ff 23 7 J J (jP (r:=bV) (i:=(IntKind.i64.wrap ((i:Int)-(1:Int)))) (foff:=0) bB J J bC J (.head _) q_e1 (D J)),
    ⟨ga 19 3 24 8 J J J (di (D J) (D J)),
    aZ⟩⟩⟩⟩⟩⟩⟩⟩⟩⟩ ?_
   refine au<|fy h J (fun h=>?_) (fun h=>?_)
   ·refine ax J<|Q J<|bR h fun y q_y h=>s (rl df bB J (.head _) (D J) (D J) q_y)<|rX (.head _) q_y fun hv=>aN J<|aS<|ca<|bu<|ak<|bA ?_;refine aH (Oa (aa:=fun k1 i1 s1 k=>(y.length-i1=k1)/\fc i y k1 i1 s1 k=some R) (Of:=fun _ i1 s1 k=>[db bV 3 l c s1]) (Gf:=fun _ i1 s1 k=>[(0,nO l c s1),(3,bH k),(4,M (oZ 1 l c (i:Int).toNat y.length)),(5,bH (i1:Int))]) (fun i1 s1 k h=>?_) (fun k2 ih1 i1 s1 k h=>?_) (y.length-1) 1 ac (i:Int) ⟨J,h⟩) (aX J)
    ·obtain⟨hx1,h⟩:=h
     refine cJ<|aS<|Q J<|Q J<|s (Ng df hv.1 (D J))<|jC J<|bu<|yS (D J) (Zx hx1)<|cQ<|ap<|ap<|bL<|au<|ax J<|Q J<|bR h fun y1 q_y1 h=>s (rl df bB J (.head _) (D J) (D J) q_y1)<|rX (.head _) q_y1 fun hv1=>bR h fun cl q_cl h=>?_;exact PG bB J J df (fun _=>J) J q_y1 (D J) (so q_cl)<|rs (Hl q_y1 (so q_cl)) 0 J<|rs (Hl q_y1 (so q_cl)) 54 J<|bu<|ax J<|Q J<|bR h fun y2 q_y2 h=>s (pO df bB J (.head _) (D J) (D J) q_y2)<|Fs q_y2<|bf J<|cx<|af<|cx<|so h▸cj J (oi l c) J J (fun _ _ h=>h)
    ·obtain⟨hx1,h⟩:=h
     refine cJ<|aS<|Q J<|Q J<|s (Ng df hv.1 (D J))<|jC J<|bu<|yR (D J) (Zw hx1)<|fN<|aP<|ak<|aP<|bR h fun e3 q_e3 h=>bR h fun e4 q_e4 h=>?_
     refine gO (ts:=[_,_,_,_,_,_,_,_,_,_]) mixed J J
      ⟨fP J J,
      ⟨fP J J,
      ⟨ga 35 0 36 1 J J J (vN df bB J (.head _) (Cc q_y) (D J) (D J) q_e3),
      ⟨ff 37 2 J J (jP (r:=bV) (i:=((i:Int)+(i1:Int))) (foff:=0) bB J J bC J (.head _) (y8 q_e3).2.2 (D J)),
      ⟨fP J J,
      ⟨fP J J,
      ⟨ff 40 5 J J (dP (D J) hI),
      ⟨ga 39 4 41 6 J J J (vN df bB J (.head _) (Cc q_y) (D J) (D J) q_e4),
      ⟨ff 42 7 J J (jP (r:=bV) (i:=((i:Int)+(IntKind.i64.wrap ((i1:Int)-(1:Int))))) (foff:=0) bB J J bC J (.head _) (y8 q_e4).2.2 (D J)),
      ⟨ga 38 3 43 8 J J J (du (D J) (D J)),
      aZ⟩⟩⟩⟩⟩⟩⟩⟩⟩⟩ ?_
     refine au<|fy h J (fun h=>?_) (fun h=>?_)
     ·refine ax J<|Q J<|Q J<|Q J<|bR h fun e5 q_e5 h=>s (vN df bB J (.head _) (Cc q_y) (D J) (D J) q_e5)<|s (jP (r:=bV) (i:=((i:Int)+(i1:Int))) (foff:=0) bB J J bC J (.head _) (y8 q_e5).2.2 (D J))<|bR h fun e6 q_e6 h=>s (eH df bB (.head _) (D J) (D J) q_e6)<|bR h fun st q_st h=>zf bB J aB J q_e6 (so q_st) (D J) (D J)<|rs (u9 (so q_st)) 0 J<|rs (u9 (so q_st)) 45 J<|bu<|aj<|Q J<|s (cW (D J) hI)<|d6 J<|aJ<|al<|au ?_;refine aj<|Q J<|s (Du (WU hx1 (Zz hv.2)) (D J) hI)<|d6 J<|aJ ?_;exact aU (aH (ih1 (i1+1) st (IntKind.i64.wrap (k+(1:Int))) ⟨WT hx1,h⟩) (aX J))
     ·refine bc<|al<|au<|aj<|Q J<|s (Du (WU hx1 (Zz hv.2)) (D J) hI)<|d6 J<|aJ ?_;exact aU (aH (ih1 (i1+1) s1 k ⟨WT hx1,h⟩) (aX J))
   ·refine bc<|MR V hN J ?_;exact aU (aH (ih (i+1) ⟨da V,h⟩) (aX J))

end Go.Proofs.YtdohlidddcgfjaaGreat

