/- di of this claim: P0. -/
import Derived.Test.YtmogpgcfognefaaGreatDoorNdT
import Derived.Test.YtmogpgcfognefaaGreatDoorNdF
set_option linter.all false
namespace Go.Proofs.YtmogpgcfognefaaGreatDoor
open Go
abbrev se:=(⟨[]⟩:bp)
abbrev yF:=(⟨(0:Int),(0:Int),(0:Int),(0:Int),[],false,se,[],[],[],[],(0:Int)⟩:aw)
abbrev cC:=rI .i64
abbrev xx:=(⟨(0:Int),(0:Int),(0:Int),[]⟩:dQ)
abbrev D4:=(⟨(0:Int),(0:Int),(0:Int),(0:Int),xx⟩:bD)
abbrev pQ:=fun(x:Bool)=>gD x
abbrev vj:=(⟨(0:Int),[]⟩:aS)
abbrev wq:=NC mw
abbrev FI:=fun(x:(Option dq))=>[tD wq x]
abbrev IT:=(⟨[],(0:Int),(0:Int),[]⟩:cL)
abbrev uQ:=(-1:Int)
abbrev Tq:=(⟨(1:Int),uQ,uQ,(0:Int),[(2:Int),(2:Int)],false,se,[],[],[],[],(0:Int)⟩:aw)
abbrev Tp:=(⟨(6:Int),(0:Int),uQ,(0:Int),[],false,se,[],[],[],[],(0:Int)⟩:aw)
abbrev XN:=(⟨[Tq,Tp],(1:Int),(3:Int),[]⟩:cL)
abbrev XM:=(⟨(9:Int),uQ,uQ,(0:Int),[(2:Int),(2:Int)],false,se,[],[],[],[],(0:Int)⟩:aw)
abbrev FG:=fun(x:aS)=>tD aR x
abbrev ny:=([]:List Int)
abbrev wi:=(⟨(4:Int),[]⟩:aS)
abbrev yU:=fun(x:bU)=>[tD cT x]
abbrev qU:=NC ie
abbrev BC:=fun(x:bL)=>[tD cH x]
abbrev xZ:=(⟨(1:Int),[]⟩:aS)
abbrev xw:=fun(x:iZ)=>tD rS x
abbrev wr:=(⟨[]⟩:bG)
abbrev D3:=fun(x:Bool)=>tD rB x
abbrev pD:=ji ([])
abbrev Tj:=(⟨[97],(2:Int)⟩:bL)
abbrev Tk:=(⟨[98],(2:Int)⟩:bL)
abbrev Ts:=(⟨[116],[Tj,Tk],[(0:Int)]⟩:bU)
abbrev PW:=(⟨(1:Int),uQ,uQ,(0:Int),[(1:Int),(2:Int),(3:Int)],false,se,[],[],[],[],(0:Int)⟩:aw)
abbrev FK:=(⟨(0:Int),se⟩:gm)
abbrev FJ:=fun(x:Int)=>[bY x]
abbrev Ad:=(⟨[]⟩:da)
abbrev PV:=fun(x:bD×(List Int))=>[tD aV x.1,ji x.2]
abbrev LW:=fun(x:aw)=>[tD aA x]
abbrev LV:=tD qU (none:(Option ci))
abbrev sd:=eX cC
abbrev PU:=fun(x:Int×Int)=>tT [bY x.1,bY x.2]
abbrev To:=fun(x:bD×(List Int))=>[tD aV x.1,tD sd x.2]
abbrev NO:=fun(x:kW)=>[tD iG x]
abbrev NN:=(⟨[],(0:Int)⟩:bL)
abbrev Tn:=fun(x:gm×gm)=>[tD dz x.1,tD dz x.2]
abbrev PT:=fun(x:bD)=>[tD aV x]
abbrev Tm:=fun(x:Int×Int)=>tT [tD cC x.1,tD cC x.2]
abbrev PS:=fun(x:bp)=>[tD bn x]
abbrev I0:=([]:List bD)
abbrev Tl:=(⟨[XM],(2:Int),(4:Int),[]⟩:cL)
abbrev IZ:=([]:List bp)
abbrev D2:=pH cC 2
abbrev IY:=eV (jd) ([])
abbrev NM:=([]:List (List Int))
abbrev PR:=fun(x:Int)=>bY x
abbrev FH:=XV .i64
abbrev LU:=eX aV
abbrev Ti:=(⟨(3:Int),[]⟩:aS)
abbrev PQ:=tV (aD none 0 0)
abbrev NL:=[uQ,uQ]
set_option maxRecDepth 100000

theorem Rk(s:(List Int))(f:(Int→Option Bool)){R:Int}(h:mh s f=some R):bh be 205 [ji s,(iB be FJ pQ (fun(x:Int)=>f x))] (bY R):=by
 refine bh.of Tryz.func205 J J J fun w0 S0=>an<|zo J (dv)<|al<|ae<|an<|ax J<|zo J (fU cZ J)<|zo J (bk hI)<|al<|ap<|aT (k:=6) J fun hN=>bE ?_;refine aJ (dB (Z:=fun ls i=>(s.drop i=ls)∧f6 f ls i=some R) (Of:=fun _ i=>[]) (Gf:=fun _ i=>[(0,ji s),(1,(iB be FJ pQ (fun(x:Int)=>f x))),(7,gA s),(8,bY (i:Int))]) (fun i h=>?_) (fun e tl ih i h=>?_) s 0 ⟨J,h⟩) (aQ J)
 ·obtain⟨hx,h⟩:=h
  refine av<|an<|zo J (eu J J)<|al<|ae<|bu (ht J) (dh hx)<|bf ?_;refine ac (ac (aI ?_));refine ai<|an<|zo rfl (dv)<|al<|aj ?_;cases so h;exact aB J J
 ·obtain⟨hx,h⟩:=h
  refine av<|an<|zo J (eu J J)<|al<|ae<|bt (ht J) (dg hx)<|dF<|ae<|ap<|an<|ax J<|aY J<|al<|an<|ax J<|ax J<|ax J<|zo J (gM cZ br J J J (dl hx)) ?_;refine zo J (bj br J J)<|bM h fun r q_r h=>zo J (jR (args:=(fun(x:Int)=>[tD cC x])) (res:=D3) (f:=(fun(x:Int)=>f x)) (x:=((e):Int)) (ht J) q_r ⟨(ht J),bm⟩)<|al<|cz h J (fun h=>?_) (fun h=>?_)
  ·refine an<|ax J<|aY J<|al<|aj ?_;refine am (aa (aa (am (aa ?_))));cases so h;exact aB J J
  ·refine aO<|af<|ai<|ah<|zo rfl (je (cx hx hN) rfl)<|ax rfl<|aC ?_;exact aM (aJ (ih (i+1) ⟨cw hx,h⟩) (aQ J))

theorem B9(s:(List Int))(f:(Int→Option Bool)){R:Bool}(h:ef s f=some R):bh be 136 [ji s,(iB be FJ pQ (fun(x:Int)=>f x))] (gD R):=by
 refine bh.of Tryz.func136 J J J fun w0 S0=>an<|zo J (ei)<|al<|an<|ax J<|ax J<|bM h fun r q_r h=>zo J (aH WO (Rk _ _ q_r) ⟨(ht J),(ht J),bm⟩)<|zo J (cS (ht J) hI)<|aY J<|al<|aj ?_;cases so h;exact aB J J

theorem RA(k:Int){R:Bool}(h:o0 k=some R):bh be 156 [bY k] (gD R):=by
 refine bh.of Tryz.func156 J J J fun w0 S0=>an<|zo J (ei)<|al<|an<|ax J<|zo J (eg (ht J) hI)<|ax J<|bX J J (fun hg=>cq J)<|bX J J (fun hg=>dZ (aG J hg) hI)<|zo J (lH J J)<|aY J<|al<|aj ?_;cases so h;exact aB J J

theorem V1(b:Nat)(ix:OI)(l:aq){R:Bool×aq}(h:jO l=some R):jh be 83 [tV (aN b 0)] (eW b l ix) (fun _:OI=>gD R.1) (fun j=>eW b R.2 j):=by
 refine jh.of Tryz.func83 J J J fun w0 S0=>?_;refine(show CG _ _ _ [bx (rH bC [(1,aD (ix.h 0).1 (ix.h 0).2 l.kinds.length),(2,aD (ix.h 1).1 (ix.h 1).2 l.open_.length)]) 124 b l,jx jd 29 (ix.h 0).1 (ix.h 0).2 l.kinds,cY cC 3 (ix.h 1).1 (ix.h 1).2 l.open_] _ from ?_);refine an<|zo J (ei)<|al<|an<|ax J<|ax J<|zo J (bK (ht J))<|zo J (fi 3 ia J J J)<|zo J (fi 7 jV J J J)<|zo J (bl (r:=rH bC [(1,aD (ix.h 0).1 (ix.h 0).2 l.kinds.length),(2,aD (ix.h 1).1 (ix.h 1).2 l.open_.length)]) (x:=l) bV J J (iw (gw fQ d7)) (.head _) (ht J))<|zo J (bK (ht J))<|zo J (fi 17 ga J J J)<|pz (jv bV J (wy (hs' :=[(1,aD (ix.h 0).1 (ix.h 0).2 l.kinds.length),(2,aD (ix.h 1).1 (ix.h 1).2 l.open_.length)]) sL ⟨.inr ⟨J,J⟩,.inr ⟨J,J⟩,bm⟩ J) J (ht J) (ht J)) fun i=>?_;refine(show RG _ _ _ _ [bx (rH bC [(1,aD (ix.h 0).1 (ix.h 0).2 l.kinds.length),(2,aD (ix.h 1).1 (ix.h 1).2 l.open_.length)]) 124 b ({l with result:=l.n.Kinds}:aq),jx jd 29 (ix.h 0).1 (ix.h 0).2 l.kinds,cY cC 3 (ix.h 1).1 (ix.h 1).2 l.open_] _ from ?_);refine al<|an<|ax J<|zo J (bK (ht J))<|zo J (fi 3 ia J J J)<|zo J (fi 7 jV J J J)<|zo J (bl (r:=rH bC [(1,aD (ix.h 0).1 (ix.h 0).2 l.kinds.length),(2,aD (ix.h 1).1 (ix.h 1).2 l.open_.length)]) (x:=({l with result:=l.n.Kinds}:aq)) bV J J (iw (gw fQ d7)) (.head _) (ht J))<|bM h fun r q_r h=>zo J (aH LC (B9 _ _ q_r) ⟨(ht J),(Gm Xb fun x y h=>RA _ h),bm⟩)<|zo J (dD (ht J))<|aY J<|al<|an<|ax J<|ax J<|bo J J (fun hg=>cq J)<|bo J J (fun hg=>bK (aG J hg))<|bo J J (fun hg=>cr (n:=3) ia J (aG J hg) J)<|bo J J (fun hg=>cr (n:=6) kj J (aG J hg) J)<|bo J J (fun hg=>bl (r:=rH bC [(1,aD (ix.h 0).1 (ix.h 0).2 l.kinds.length),(2,aD (ix.h 1).1 (ix.h 1).2 l.open_.length)]) (x:=({l with result:=l.n.Kinds}:aq)) br J J (iw (gw fQ d8)) (.head _) (aG J hg)) ?_;refine bo J J (fun hg=>cS (aG J hg) hI)<|zo J (hZ J J)<|ax J<|bo J J (fun hg=>cq J)<|bo J J (fun hg=>bK (aG J hg))<|bo J J (fun hg=>cr (n:=3) ia J (aG J hg) J)<|bo J J (fun hg=>cr (n:=6) kj J (aG J hg) J)<|bo J J (fun hg=>bl (r:=rH bC [(1,aD (ix.h 0).1 (ix.h 0).2 l.kinds.length),(2,aD (ix.h 1).1 (ix.h 1).2 l.open_.length)]) (x:=({l with result:=l.n.Kinds}:aq)) br J J (iw (gw fQ d8)) (.head _) (aG J hg))<|bo J J (fun hg=>eg (aG J hg) hI)<|zo J (hZ J J)<|ax J<|bo J J (fun hg=>cq J)<|bo J J (fun hg=>bK (aG J hg))<|bo J J (fun hg=>cr (n:=3) ia J (aG J hg) J)<|bo J J (fun hg=>cr (n:=7) jV J (aG J hg) J)<|bo J J (fun hg=>bl (r:=rH bC [(1,aD (ix.h 0).1 (ix.h 0).2 l.kinds.length),(2,aD (ix.h 1).1 (ix.h 1).2 l.open_.length)]) (x:=({l with result:=l.n.Kinds}:aq)) bV J J (iw (gw fQ d7)) (.head _) (aG J hg))<|bo J J (fun hg=>bg cZ (aG J hg))<|bo J J (fun hg=>dZ (aG J hg) hI)<|zo J (hZ J J)<|ax J<|bo J J (fun hg=>cq J)<|bo J J (fun hg=>bK (aG J hg))<|bo J J (fun hg=>cr (n:=3) ia J (aG J hg) J)<|bo J J (fun hg=>cr (n:=7) jV J (aG J hg) J) ?_;refine bo J J (fun hg=>bl (r:=rH bC [(1,aD (ix.h 0).1 (ix.h 0).2 l.kinds.length),(2,aD (ix.h 1).1 (ix.h 1).2 l.open_.length)]) (x:=({l with result:=l.n.Kinds}:aq)) bV J J (iw (gw fQ d7)) (.head _) (aG J hg))<|bo J J (fun hg=>bg cZ (aG J hg))<|bo J J (fun hg=>fM (aG J hg) hI)<|zo J (hZ J J)<|aY J<|al<|aj<|bc<|bc<|bc ?_;cases so h;exact eD J ix J J (fun _ _ h=>h)

theorem Rz(k:Int){R:Bool}(h:nX k=some R):bh be 157 [bY k] (gD R):=by
 refine bh.of Tryz.func157 J J J fun w0 S0=>an<|zo J (ei)<|al<|an<|ax J<|zo J (eg (ht J) hI)<|ax J<|bX J J (fun hg=>cq J)<|bX J J (fun hg=>dZ (aG J hg) hI)<|zo J (lH J J)<|aY J<|al<|aj ?_;cases so h;exact aB J J

theorem V0(b:Nat)(ix:OI)(l:aq){R:Bool×aq}(h:jg l=some R):jh be 84 [tV (aN b 0)] (eW b l ix) (fun _:OI=>gD R.1) (fun j=>eW b R.2 j):=by
 refine jh.of Tryz.func84 J J J fun w0 S0=>?_;refine(show CG _ _ _ [bx (rH bC [(1,aD (ix.h 0).1 (ix.h 0).2 l.kinds.length),(2,aD (ix.h 1).1 (ix.h 1).2 l.open_.length)]) 124 b l,jx jd 29 (ix.h 0).1 (ix.h 0).2 l.kinds,cY cC 3 (ix.h 1).1 (ix.h 1).2 l.open_] _ from ?_);refine an<|zo J (ei)<|al<|an<|ax J<|ax J<|zo J (bK (ht J))<|zo J (fi 3 ia J J J)<|zo J (fi 7 jV J J J)<|zo J (bl (r:=rH bC [(1,aD (ix.h 0).1 (ix.h 0).2 l.kinds.length),(2,aD (ix.h 1).1 (ix.h 1).2 l.open_.length)]) (x:=l) bV J J (iw (gw fQ d7)) (.head _) (ht J))<|zo J (bK (ht J))<|zo J (fi 17 ga J J J)<|pz (jv bV J (wy (hs' :=[(1,aD (ix.h 0).1 (ix.h 0).2 l.kinds.length),(2,aD (ix.h 1).1 (ix.h 1).2 l.open_.length)]) sL ⟨.inr ⟨J,J⟩,.inr ⟨J,J⟩,bm⟩ J) J (ht J) (ht J)) fun i=>?_;refine(show RG _ _ _ _ [bx (rH bC [(1,aD (ix.h 0).1 (ix.h 0).2 l.kinds.length),(2,aD (ix.h 1).1 (ix.h 1).2 l.open_.length)]) 124 b ({l with result:=l.n.Kinds}:aq),jx jd 29 (ix.h 0).1 (ix.h 0).2 l.kinds,cY cC 3 (ix.h 1).1 (ix.h 1).2 l.open_] _ from ?_);refine al<|an<|ax J<|zo J (bK (ht J))<|zo J (fi 3 ia J J J)<|zo J (fi 7 jV J J J)<|zo J (bl (r:=rH bC [(1,aD (ix.h 0).1 (ix.h 0).2 l.kinds.length),(2,aD (ix.h 1).1 (ix.h 1).2 l.open_.length)]) (x:=({l with result:=l.n.Kinds}:aq)) bV J J (iw (gw fQ d7)) (.head _) (ht J))<|bM h fun r q_r h=>zo J (aH LC (B9 _ _ q_r) ⟨(ht J),(Gm Xa fun x y h=>Rz _ h),bm⟩)<|zo J (dD (ht J))<|aY J<|al<|an<|ax J<|ax J<|bo J J (fun hg=>cq J)<|bo J J (fun hg=>bK (aG J hg))<|bo J J (fun hg=>cr (n:=3) ia J (aG J hg) J)<|bo J J (fun hg=>cr (n:=6) kj J (aG J hg) J)<|bo J J (fun hg=>bl (r:=rH bC [(1,aD (ix.h 0).1 (ix.h 0).2 l.kinds.length),(2,aD (ix.h 1).1 (ix.h 1).2 l.open_.length)]) (x:=({l with result:=l.n.Kinds}:aq)) br J J (iw (gw fQ d8)) (.head _) (aG J hg)) ?_;refine bo J J (fun hg=>cS (aG J hg) hI)<|zo J (hZ J J)<|ax J<|bo J J (fun hg=>cq J)<|bo J J (fun hg=>bK (aG J hg))<|bo J J (fun hg=>cr (n:=3) ia J (aG J hg) J)<|bo J J (fun hg=>cr (n:=6) kj J (aG J hg) J)<|bo J J (fun hg=>bl (r:=rH bC [(1,aD (ix.h 0).1 (ix.h 0).2 l.kinds.length),(2,aD (ix.h 1).1 (ix.h 1).2 l.open_.length)]) (x:=({l with result:=l.n.Kinds}:aq)) br J J (iw (gw fQ d8)) (.head _) (aG J hg))<|bo J J (fun hg=>eg (aG J hg) hI)<|zo J (hZ J J)<|ax J<|bo J J (fun hg=>cq J)<|bo J J (fun hg=>bK (aG J hg))<|bo J J (fun hg=>cr (n:=3) ia J (aG J hg) J)<|bo J J (fun hg=>cr (n:=7) jV J (aG J hg) J)<|bo J J (fun hg=>bl (r:=rH bC [(1,aD (ix.h 0).1 (ix.h 0).2 l.kinds.length),(2,aD (ix.h 1).1 (ix.h 1).2 l.open_.length)]) (x:=({l with result:=l.n.Kinds}:aq)) bV J J (iw (gw fQ d7)) (.head _) (aG J hg))<|bo J J (fun hg=>bg cZ (aG J hg))<|bo J J (fun hg=>dZ (aG J hg) hI)<|zo J (hZ J J)<|ax J<|bo J J (fun hg=>cq J)<|bo J J (fun hg=>bK (aG J hg))<|bo J J (fun hg=>cr (n:=3) ia J (aG J hg) J)<|bo J J (fun hg=>cr (n:=7) jV J (aG J hg) J) ?_;refine bo J J (fun hg=>bl (r:=rH bC [(1,aD (ix.h 0).1 (ix.h 0).2 l.kinds.length),(2,aD (ix.h 1).1 (ix.h 1).2 l.open_.length)]) (x:=({l with result:=l.n.Kinds}:aq)) bV J J (iw (gw fQ d7)) (.head _) (aG J hg))<|bo J J (fun hg=>bg cZ (aG J hg))<|bo J J (fun hg=>fM (aG J hg) hI)<|zo J (hZ J J)<|aY J<|al<|aj<|bc<|bc<|bc ?_;cases so h;exact eD J ix J J (fun _ _ h=>h)

theorem OY(n:Int){R:(List Int)}(h:mv n=some R):gk be 215 [tV (.slice none 0 0),bY n] false cC 3 R:=by
 refine gk.of Tryz.func215 J J J fun w0 S0=>an<|cm false cC 3<|zo J (aP tE)<|al ?_;refine Fy (Z:=m5 n=some R) (Of:=[]) (Gf:=[(0,tV (.slice none 0 0)),(1,bY n)]) (fun h=>?_) (fun K=>?_)
 ·skip
  refine AO (Z:=fun s l c=>m4 s=some R) (Of:=fun s l c=>[cY cC 3 l c s]) (Gf:=fun s l c=>[(0,mU l c s)]) (fun s l c h=>?_) (fun K1=>?_)
  ·skip
   refine an<|ax J<|aY J<|al<|aj ?_;cases so h;exact iu J J
  ·skip
   refine an<|ax J<|ax J<|zo J (EY cZ (ht J))<|ax J<|zo J (EX cZ (ht J))<|zo J (dn (ht J) (ht J))<|zo J (dn (ht J) (ht J))<|aY J<|al<|an<|ax J<|zo J (dZ (ht J) hI)<|al<|cz h J (fun h=>?_) (fun h=>?_)
   ·refine ah<|ax J<|ax J<|zo J (EY cZ (ht J))<|zo J (HK cZ br (ht J) (ht J))<|ax J<|bM h fun u q_u h=>bM h fun mk q_mk h=>DE (Il (r:=cC) (x:=(0:Int)) br J J J J cZ oT (fun _=>J) (ht J) (ht J) (OM q_u) q_mk) J fun i=>ax J<|zo J (EX cZ (ht J))<|bM h fun y q_y h=>zo J (oE cZ br J (.head _) (ht J) (ht J) q_y)<|DF q_y<|aY J<|aC ?_;exact bz (K1 y (i.h 0).1 (i.h 0).2 h) (aQ J)
   ·refine aO<|PJ false cC 3 ?_;exact bz (K1 ny none 0 h) (aQ J)
 ·skip
  refine an<|ax J<|zo J (eg (ht J) hI)<|al<|cz h J (fun h=>?_) (fun h=>?_)
  ·refine ah ?_;exact(nn h).elim
  ·refine aO<|aX ?_;exact bz (K h) (aQ J)
theorem O5(slices:(List (List Int))){R:(List Int)}(h:jo slices=some R):gk be 158 [eV (jd) slices] false cC 3 R:=by
 refine gk.of Tryz.func158 J J J fun w0 S0=>an<|cm false cC 3<|zo J (aP tE)<|al<|an<|zo J (dv)<|al<|ae<|an<|ax J<|zo J (fU n7 J)<|zo J (bk hI)<|al<|ap<|aT (k:=9) J fun hN=>bE<|pB ?_;refine aJ (jY (Z:=fun ls i size=>(slices.drop i=ls)∧jB slices ls size=some R) (Of:=fun _ i size=>[]) (Gf:=fun _ i size=>[(0,eV (jd) slices),(3,bY size),(9,eV (jd) slices),(10,gA slices),(11,bY (i:Int))]) (fun i size h=>?_) (fun e tl ih i size h=>?_) slices 0 (0:Int) ⟨J,h⟩) (aQ J)
 ·obtain⟨hx,h⟩:=h
  refine av<|an<|zo J (eu J J)<|al<|ae<|bu (ht J) (dh hx)<|bf ?_;refine ac (ac (aI ?_));refine ai<|an<|ax rfl<|bM h fun r q_r h=>kC WG (OY _ q_r) ⟨hV,(ht J),bm⟩ J fun l c=>aY J<|al<|ae<|an<|ax J<|zo J (fU n7 J)<|zo J (bk hI)<|al<|ap<|aT (k:=25) J fun hN1=>bE ?_;refine aJ (me (Z:=fun ls1 i1 newslice l1 c1=>(slices.drop i1=ls1)∧jA ls1 newslice=some R) (Of:=fun _ i1 newslice l1 c1=>[cY cC 3 l1 c1 newslice]) (Gf:=fun _ i1 newslice l1 c1=>[(6,mU l1 c1 newslice),(25,eV (jd) slices),(26,gA slices),(27,bY (i1:Int))]) (fun i1 newslice l1 c1 h=>?_) (fun e1 tl1 ih1 i1 newslice l1 c1 h=>?_) slices 0 r l c ⟨J,h⟩) (aQ J)
  ·obtain⟨hx1,h⟩:=h
   refine av<|an<|zo J (eu J J)<|al<|ae<|bu (ht J) (dh hx1)<|bf ?_;refine ac (ac (aI ?_));refine ai<|an<|ax rfl<|aY rfl<|al<|aj ?_;cases so h;exact iu J J
  ·obtain⟨hx1,h⟩:=h
   refine av<|an<|zo J (eu J J)<|al<|ae<|bt (ht J) (dg hx1)<|dF<|ae<|ap<|an<|zo J (gM n7 bV J J J (dl hx1))<|zo J (bj bV J J)<|aY J<|al<|ah<|ax J<|ax J<|bM h fun newslice1 q_newslice1 h=>cn br J J J J cZ J J (ht J) (ht J) q_newslice1 fun l2 c2=>?_;refine aY J<|aC<|af<|ai<|ah<|zo rfl (je (cx hx1 hN1) rfl)<|ax rfl<|aC ?_;exact aM (aJ (ih1 (i1+1) newslice1 l2 c2 ⟨cw hx1,h⟩) (aQ J))
 ·obtain⟨hx,h⟩:=h
  refine av<|an<|zo J (eu J J)<|al<|ae<|bt (ht J) (dg hx)<|dF<|ae<|ap<|an<|zo J (gM n7 bV J J J (dl hx))<|zo J (bj bV J J)<|aY J<|al<|an<|ax J<|ax J<|zo J (fU cZ J) ?_;refine zo J (fm (ht J) (ht J))<|aY J<|al<|an<|ax J<|zo J (eg (ht J) hI)<|al<|cz h J (fun h=>?_) (fun h=>?_)
  ·refine ah ?_;exact(nn h).elim
  ·refine aO<|af<|ai<|ah<|zo rfl (je (cx hx hN) rfl)<|ax rfl<|aC ?_;exact aM (aJ (ih (i+1) (IntKind.i64.wrap (size+(e.length:Int))) ⟨cw hx,h⟩) (aQ J))
theorem Ry(slices:(List (List Int))){R:(List Int)}(h:jo slices=some R):bh be 158 [eV (jd) slices] (ji R):=(O5 _ h).spec

theorem Lt(tag:Int){R:Int}(h:rj tag=some R):bh be 135 [bY tag] (bY R):=by
 refine bh.of Tryz.func135 J J J fun w0 S0=>an<|zo J (dv)<|al<|ae<|ap<|an<|ax J<|zo J (eQ J)<|ax J<|bX J J (fun hg=>cq J)<|bX J J (fun hg=>bq (aG J hg) hI)<|zo J (lH J J)<|aY J<|al<|cz h J (fun h=>?_) (fun h=>?_)
 ·refine an<|zo J (dv)<|al<|aj ?_;refine am (aa ?_);cases so h;exact aB J J
 ·refine an<|ax J<|zo J (cS (ht J) hI)<|ax J<|bo J J (fun hg=>cq J)<|bo J J (fun hg=>fM (aG J hg) hI)<|zo J (hZ J J)<|aY J<|al<|cz h J (fun h=>?_) (fun h=>?_)
  ·refine an<|zo J (dv)<|al<|aj ?_;refine am (aa ?_);cases so h;exact aB J J
  ·refine an<|ax J<|zo J (cS (ht J) hI)<|ax J<|bo J J (fun hg=>cq J)<|bo J J (fun hg=>fM (aG J hg) hI)<|zo J (hZ J J)<|aY J<|al<|cz h J (fun h=>?_) (fun h=>?_)
   ·refine an<|zo J (dv)<|al<|aj ?_;refine am (aa ?_);cases so h;exact aB J J
   ·refine aO<|af<|ai<|an<|zo rfl (dv)<|al<|aj ?_;cases so h;exact aB J J

theorem Rm(v:dQ){R:dQ}(h:wt v=some R):bh be 184 [tD eJ v] (tD eJ R):=by
 refine bh.of Tryz.func184 J J J fun w0 S0=>an<|vQ (ht J) J fun b=>aZ (r:=eJ) (x:=xx) uS (fun _=>rE _) J fun b1=>al<|ae<|an<|zo J (fi 0 uD J J J)<|zo J (bl br J J oO (.tail _ (.head _)) (ht J))<|al ?_;refine FA (Z:=fun v1=>kY v1=some R) (Of:=fun v1=>[bx eJ 82 b v1,bx eJ 82 b1 xx]) (Gf:=fun v1=>[(1,tV (aN b 0)),(2,tV (aN b1 0))]) (fun v1 h=>?_) (fun K=>?_)
 ·skip
  refine ai<|an<|zo rfl (bl uS rfl rfl bO (.head _) (ht rfl))<|cg<|aE uS rfl ay rfl (ht rfl) (ht rfl)<|aW 2 rfl<|al<|aj<|aX ?_;cases so h;exact gz J uS J J J
 ·skip
  refine ae<|ap<|ae<|ap<|ae ?_;refine FA (Z:=fun v2=>qh v2=some R) (Of:=fun v2=>[bx eJ 82 b v2,bx eJ 82 b1 xx]) (Gf:=fun v2=>[(1,tV (aN b 0)),(2,tV (aN b1 0))]) (fun v2 h=>?_) (fun K1=>?_)
  ·skip
   refine ai<|an<|zo rfl (fi 0 uD rfl rfl rfl)<|aE br rfl yi rfl (ht rfl) hI<|al<|bf ?_;refine cF J (ac (cF J (ac (aI ?_))));exact bz (K (dQ.mk (0:Int) v2.N v2.U v2.S) h) (aQ J)
  ·skip
   refine ae ?_;refine AQ (Z:=qg v=some R) (Of:=[bx eJ 82 b v,bx eJ 82 b1 xx]) (Gf:=[(1,tV (aN b 0)),(2,tV (aN b1 0))]) (fun h=>?_) (fun K2=>?_)
   ·skip
    refine ai<|ah<|zo rfl (fi 1 yz rfl rfl rfl)<|aE SG rfl CA rfl (ht rfl) hI<|aC<|af ?_;exact bz (K1 (dQ.mk v.Kind (0:Int) v.U v.S) h) (aQ J)
   ·skip
    refine ae<|ap<|ae<|ae<|an<|zo J (eQ J)<|aY J<|al<|cz h J (fun h=>?_) (fun h=>?_)
    ·refine bf ?_;refine ac (ac (aI ?_));refine ai<|an<|zo rfl (fi 1 yz rfl rfl rfl)<|zo rfl (bl SG rfl rfl rf (.tail _ (.head _)) (ht rfl))<|zo rfl (uP rfl)<|ax rfl<|bo rfl rfl (fun hg=>fi 1 yz J J J)<|bo J J (fun hg=>bl SG J J rf (.tail _ (.head _)) (aG J hg))<|bo J J (fun hg=>cA (aG J hg) hI)<|zo J (hZ J J)<|al<|cz h J (fun h=>?_) (fun h=>?_)
     ·refine bf ?_;refine cF J (ac (cF J (ac (cF J (ac (cF J (ac (aI ?_))))))));refine aU ?_;exact bz (K v h) (aQ J)
     ·refine aO<|af<|aU ?_;exact bz (K2 h) (aQ J)
    ·refine dF<|ae<|an<|zo J (eQ J)<|aY J<|al<|cz h J (fun h=>?_) (fun h=>?_)
     ·refine bf ?_;refine ac (ac (cF J (ac (aI ?_))));refine aU ?_;exact bz (K2 h) (aQ J)
     ·refine dF<|ae<|an<|zo J (eQ J)<|aY J<|al<|cz h J (fun h=>?_) (fun h=>?_)
      ·refine bf ?_;refine ac (ac (cF J (ac (cF J (ac (aI ?_))))));refine aU ?_;exact bz (K1 v h) (aQ J)
      ·refine dF<|ae<|an<|zo J (eQ J)<|aY J<|al<|cz h J (fun h=>?_) (fun h=>?_)
       ·refine bf ?_;refine ac (ac (cF J (ac (cF J (ac (cF J (ac (aI ?_))))))));refine ai ?_;refine c0 (Z:=fun v3=>qf v3=some R) (Of:=fun v3=>[bx eJ 82 b v3,bx eJ 82 b1 xx]) (Gf:=fun v3=>[(1,tV (aN b 0)),(2,tV (aN b1 0))]) (fun v3 h=>?_) (fun K3=>?_)
        ·skip
         refine bf ?_;refine cF J (ac (aI ?_));exact bz (K v3 h) (aQ J)
        ·skip
         refine an<|zo J (fi 3 yy J J J)<|zo J (bl z6 J J oN (.tail _ (.head _)) (ht J))<|zo J (ua kq (ht J))<|zo J (fM (ht J) hI)<|al<|cz h J (fun h=>?_) (fun h=>?_)
         ·refine ah<|zo J (fi 0 uD J J J)<|cg<|aE br J yi J (ht J) hI<|zo J (fi 3 yy J J J)<|aE z6 J Cz J (ht J) hS<|aC ?_;exact bz (K3 (dQ.mk (0:Int) v.N v.U ([])) h) (aQ J)
         ·refine aO<|aU ?_;exact bz (K3 v h) (aQ J)
       ·refine dF<|an<|zo J (eQ J)<|aY J<|al<|cz h J (fun h=>?_) (fun h=>?_)
        ·refine bf ?_;refine ac (cF J (ac (cF J (ac (cF J (ac (cF J (ac (aI ?_)))))))));refine ai<|an<|zo rfl (fi 0 uD rfl rfl rfl)<|cg<|aE br rfl yi rfl (ht rfl) hI<|zo rfl (fi 1 yz rfl rfl rfl)<|aE SG rfl CA rfl (ht rfl) hI<|zo rfl (fi 2 Gr rfl rfl rfl)<|aE NW rfl Je rfl (ht rfl) hI<|al<|bf<|aI ?_;exact bz (K (dQ.mk (0:Int) (0:Int) (0:Int) v.S) h) (aQ J)
        ·refine dF<|bf ?_;refine cF J (ac (cF J (ac (cF J (ac (cF J (ac (cF J (ac (aI ?_))))))))));refine aU ?_;exact bz (K v h) (aQ J)

theorem RP(v:dQ){R:Int}(h:tM v=some R):bh be 118 [tD eJ v] (bY R):=by
 refine bh.of Tryz.func118 J J J fun w0 S0=>an<|zo J (lK J)<|zo J (dv)<|al<|ae<|an<|zo J (bj uS J J)<|bM h fun r q_r h=>zo J (aH WP (Rm _ q_r) ⟨(ht J),bm⟩)<|zo J (cI (y:=xx) uS M2 rE (J))<|zo J (BX Nb (ht J) (ht J))<|al<|cz h J (fun h=>?_) (fun h=>?_)
 ·refine an<|zo J (dv)<|al<|aj<|aa ?_;cases so h;exact aB J J
 ·refine dF<|an<|zo J (dv)<|al<|aj ?_;cases so h;exact aB J J

theorem Ue(v:dQ){R:Bool}(h:tL v=some R):bh be 68 [tD eJ v] (gD R):=by
 refine bh.of Tryz.func68 J J J fun w0 S0=>an<|zo J (lK J)<|zo J (ei)<|al<|an<|zo J (bj uS J J)<|bM h fun r q_r h=>zo J (aH Xr (RP _ q_r) ⟨(ht J),bm⟩)<|zo J (eQ J)<|ax J<|bo J J (fun hg=>bw uD oO J J)<|bo J J (fun hg=>aF br J J (aG J hg))<|bo J J (fun hg=>cA (aG J hg) hI)<|zo J (hZ J J)<|aY J<|al<|aj ?_;cases so h;exact aB J J

theorem Rn(n:bD){R:Bool}(h:uj n=some R):bh be 181 [tD aV n] (gD R):=by
 refine bh.of Tryz.func181 J J J fun w0 S0=>an<|zo J (lK J)<|zo J (ei)<|al<|ae<|an<|zo J (bw iT ez J J)<|zo J (bj br J J)<|al<|ap<|an<|zo J (eQ J)<|aY J<|al<|cz h J (fun h=>?_) (fun h=>?_)
 ·refine an<|zo J (bw sF lx J J)<|zo J (bj uS J J)<|bM h fun r q_r h=>zo J (aH Yv (Ue _ q_r) ⟨(ht J),bm⟩)<|ax J<|bo J J (fun hg=>bw lD fX J J)<|bo J J (fun hg=>aF br J J (aG J hg))<|bo J J (fun hg=>bq (aG J hg) hI)<|zo J (hZ J J)<|aY J<|al<|aj ?_;refine am (aa ?_);cases so h;exact aB J J
 ·refine an<|zo J (eQ J)<|aY J<|al<|cz h J (fun h=>?_) (fun h=>?_)
  ·refine an<|zo J (bw sF lx J J)<|zo J (bj uS J J)<|zo J (cI (y:=xx) uS M2 rE (J))<|zo J (zl Nb (ht J) (ht J))<|ax J<|bo J J (fun hg=>bw lD fX J J)<|bo J J (fun hg=>aF br J J (aG J hg))<|bo J J (fun hg=>cS (aG J hg) hI)<|zo J (hZ J J)<|ax J<|bo J J (fun hg=>bw lD fX J J)<|bo J J (fun hg=>aF br J J (aG J hg))<|bo J J (fun hg=>eg (aG J hg) hI)<|zo J (hZ J J)<|aY J<|al<|aj ?_;refine am (aa ?_);cases so h;exact aB J J
  ·refine aO<|af<|ai<|an<|zo rfl (bw sF lx rfl rfl)<|zo rfl (bj uS rfl rfl)<|zo rfl (cI (y:=xx) uS M2 rE (J))<|zo J (zl Nb (ht J) (ht J))<|ax J<|bo J J (fun hg=>bw lD fX J J)<|bo J J (fun hg=>aF br J J (aG J hg))<|bo J J (fun hg=>bq (aG J hg) hI)<|zo J (hZ J J)<|aY J<|al<|aj ?_;cases so h;exact aB J J

theorem Lu(e:bp){R:(List Int)×Bool}(h:ui e=some R):bh be 115 [tD bn e] (tT [ji R.1,gD R.2]):=by
 refine bh.of Tryz.func115 J J J fun w0 S0=>an<|zo J (lK J)<|zo J (aP (show aL _ _ _ pD from lJ))<|zo J (ei)<|al<|an<|cm false cC 3<|zo J (aP tE)<|cm false cC 3<|zo J (aP tE)<|al<|ae<|an<|zo J (bw d3 cU J J)<|zo J (bj jZ J J)<|zo J (fU pi J)<|zo J (bk hI)<|aC ?_;refine ai<|ap<|aT (k:=15) J fun hN=>bE<|dW ?_;refine aJ (DL (Z:=fun ls i all l c open1 l1 c1=>(e.Nodes.drop i=ls)∧lA ls i all open1=some R) (Of:=fun _ i all l c open1 l1 c1=>[cY cC 3 l c all,cY cC 3 l1 c1 open1]) (Gf:=fun _ i all l c open1 l1 c1=>[(4,mU l c all),(5,mU l1 c1 open1),(15,eV (aV) e.Nodes),(16,gA e.Nodes),(17,bY (i:Int))]) (fun i all l c open1 l1 c1 h=>?_) (fun e1 tl ih i all l c open1 l1 c1 h=>?_) e.Nodes 0 ny none 0 ny none 0 ⟨J,h⟩) (aQ J)
 ·obtain⟨hx,h⟩:=h
  refine av<|an<|zo J (eu J J)<|al<|ae<|bu (ht J) (dh hx)<|bf ?_;refine ac (ac (aI ?_));refine ai<|an<|ax rfl<|ax rfl<|zo rfl (fc cZ (.tail _ (.head _)) (ht rfl))<|zo rfl (eQ rfl)<|ax rfl<|bo rfl rfl (fun hg=>cq J)<|bo J J (fun hg=>fc cZ (.head _) (aG J hg))<|bo J J (fun hg=>fM (aG J hg) hI)<|zo J (hZ J J)<|aY J<|aY J<|al<|aj<|gL<|eK 4 J<|eK 84 J<|eK 2 J<|mT 2 J<|aX<|aX ?_;cases so h;exact cy J J J
 ·obtain⟨hx,h⟩:=h
  refine av<|an<|zo J (eu J J)<|al<|ae<|bt (ht J) (dg hx)<|dF<|ae<|ap<|an<|ax J<|zo J (gM pi dk J J J (dl hx))<|zo J (bj dk J J)<|aZ (r:=aV) (x:=D4) dk (fun _=>kX _) J fun b=>aY J<|aE dk J ay J (ht J) (ht J)<|aW 7 J<|al<|ae ?_;refine ah<|zo J (bw iT ez J J)<|zo J (bj br J J)<|bM h fun r q_r h=>zo J (aH Tb (Lt _ q_r) ⟨(ht J),bm⟩)<|aY J<|al<|ae<|an<|ax J<|zo J (eg (ht J) hI)<|ax J<|bX J J (fun hg=>cq J)<|bX J J (fun hg=>cq J)<|bX J J (fun hg=>fc cZ (.tail _ (.head _)) (aG J hg))<|bX J J (fun hg=>dZ (aG J hg) (aG J hg))<|zo J (lH J J)<|ax J<|bM h fun t q_t h=>bX J J (fun hg=>bj dk J J) ?_
  obtain⟨r1,h1t,h0t⟩:=og q_t
  have q_r1g:=fun hb=>(h1t hb).1
  refine bX J J (fun hg=>aH WQ (Rn _ (q_r1g hg)) ⟨(aG J hg),bm⟩)<|bX J J (fun hg=>dD (aG J hg))<|zo J (dY (ht J) (fun hb=>(aG J (mW hb))) (fun hb=>(h1t hb).2) h0t)<|al<|cz h J (fun h=>?_) (fun h=>?_)
  ·refine an<|zo J (aP (show aL _ _ _ pD from lJ))<|zo J (ei)<|al<|aj ?_;refine aa (am (aa (aa (am (aa ?_)))));refine aX<|aX ?_;cases so h;exact cy J J J
  ·refine dF<|an<|ax J<|ax J<|zo J (fc cZ (.tail _ (.head _)) (ht J))<|ax J<|zo J (dn (ht J) (ht J))<|bM h fun y q_y h=>zo J (pY cZ br J (.tail _ (.head _)) (ht J) (ht J) q_y)<|qN (.tail _ (.head _)) q_y fun hv=>aY J<|al<|an<|zo J (sO (r:=cC) (ys:=[uQ,uQ]) (xs:=[.const (.int .i64 (-1)),.const (.int .i64 (-1))]) Cf br J BG J J ⟨hI,hI,bm⟩)<|aZ (r:=D2) (x:=(List.replicate 2 (0:Int))) BG (fun _=>Iu (r:=cC) 2 (fun _=>J) _) J fun b1=>aE BG J ay J (ht J) (ht J)<|al<|an ?_;refine ax J<|aY J<|al<|ae<|an<|ax J<|zo J (KJ cZ (.tail _ (.tail _ (.head _))) q_y (ht J))<|zo J (bk hI)<|al<|ap ?_
   have hN1:=hv.2
   refine bE<|ka<|ka ?_;refine aJ (tB (Z:=fun ls1 i1 first at1=>(y.drop i1=ls1)∧mQ (lA tl) i e1 all open1 r ls1 i1 first at1=some R) (Of:=fun _ i1 first at1=>[cY cC 3 l c all,cY cC 3 l1 c1 open1,bx D2 61 b1 at1]) (Gf:=fun _ i1 first at1=>[(4,mU l c all),(5,mU l1 c1 open1),(6,bY (i:Int)),(7,bF aV e1),(8,bY r),(10,tV (aN b1 0)),(11,bY first),(15,eV (aV) e.Nodes),(16,gA e.Nodes),(17,bY (i:Int)),(46,tV (nR 1 l1 c1 (IntKind.i64.wrap ((open1.length:Int)-r)).toNat y.length)),(47,gA y),(48,bY (i1:Int))]) (fun i1 first at1 h=>?_) (fun e2 tl1 ih1 i1 first at1 h=>?_) y 0 (i:Int) NL ⟨J,h⟩) (aQ J)
   ·obtain⟨hx1,h⟩:=h
    refine av<|an<|zo J (eu J J)<|al<|ae<|bu (ht J) (dh hx1)<|bf ?_;refine ac (ac (aI ?_));refine ai<|ae<|an<|zo rfl (bl BG rfl rfl bO (.tail _ (.tail _ (.head _))) (ht rfl))<|zo rfl (bw nZ mq rfl rfl)<|zo rfl (bj br rfl rfl)<|zo rfl (bw ni ly rfl rfl)<|zo rfl (bj br rfl rfl)<|zo rfl (sO (r:=cC) (ys:=[e1.L,e1.R]) (xs:=[.tmp 65,.tmp 67]) Cf br J BG J J ⟨(ht J),(ht J),bm⟩)<|zo J (BX R6 (ht J) (ht J))<|al<|cz h J (fun h=>?_) (fun h=>?_)
    ·refine an<|zo J (aP (show aL _ _ _ pD from lJ))<|zo J (ei)<|al<|aj ?_;refine aa (am (aa (aa (am (aa ?_)))));refine aX<|aX<|aX ?_;cases so h;exact cy J J J
    ·refine dF<|an<|ax J<|ax J<|zo J (ba (r:=cC) (ys:=[first]) (xs:=[.tmp 71]) cZ br J J J J J ⟨(ht J),bm⟩)<|bM h fun all1 q_all1 h=>cn br J J J J cZ J J (ht J) (ht J) q_all1 fun l2 c2=>aY J<|al<|ah<|ax J<|ax J<|zo J (fc cZ (.tail _ (.head _)) (ht J))<|ax J<|zo J (dn (ht J) (ht J))<|bM h fun y1 q_y1 h=>zo J (oE cZ br J (.tail _ (.head _)) (ht J) (ht J) q_y1)<|ax J<|zo J (ba (r:=cC) (ys:=[(i:Int)]) (xs:=[.tmp 80]) cZ br J J J J J ⟨(ht J),bm⟩)<|cg<|DF q_y1 ?_;refine bM h fun open2 q_open2 h=>cn br J J J J cZ J J (ht J) (ht J) q_open2 fun l3 c3=>aY J<|aC<|af<|ai<|ah<|zo rfl (je (cx hx hN) rfl)<|ax rfl<|aC<|bc<|aX<|aU ?_;exact aM (aJ (ih (i+1) all1 l2 c2 open2 l3 c3 ⟨cw hx,h⟩) (aQ J))
   ·obtain⟨hx1,h⟩:=h
    refine av<|an<|zo J (eu J J)<|al<|ae<|bt (ht J) (dg hx1)<|dF<|ae<|ap<|an<|ax J<|zo J (xN cZ br J (.tail _ (.head _)) q_y (ht J) (ht J) (dl hx1))<|zo J (dj (r:=cC) (i:=((IntKind.i64.wrap ((open1.length:Int)-r))+(i1:Int))) (foff:=0) br J J bO J (.tail _ (.head _)) (yf q_y (dl hx1)).1 (ht J))<|aY J<|aY J<|al<|bM h fun e3 q_e3 h=>bM h fun e4 q_e4 h=>bM h fun ar q_ar h=>?_
    refine rZ 10 [tc (bY (i1:Int)),tc (bY e2),tc (bY first),tc (mU l c all),tc (bY e2),tc (tV (kz l (e2.toNat*1+0))),tc (bY e3),tc (bY (min first e3)),tc (tV (aN b1 ((i1:Int).toNat*1))),tc (BH)] [false,false,false,false,false,false,false,false,false,true] [fun _=>[cY cC 3 l c all,cY cC 3 l1 c1 open1,bx D2 61 b1 at1],fun sg=>[bx D2 61 b1 ar,cY cC 3 l c all,cY cC 3 l1 c1 open1]] J mixed J J J J J
     ⟨⟨[⟨12,fun _=>tD cC (i1:Int),none⟩],_,0,0,J,⟨(fun _=>J),bm⟩,J,J,J,J,J,fun _ sg _ _=>ak J (cq J)⟩,
     ⟨⟨[⟨13,fun _=>tD cC e2,none⟩],_,0,0,J,⟨(fun _=>J),bm⟩,J,J,J,J,J,fun _ sg _ _=>ak J (cq J)⟩,
     ⟨⟨[⟨11,fun _=>tD cC first,none⟩],_,0,1,J,⟨(fun _=>J),bm⟩,J,J,J,J,J,fun _ sg _ _=>ak J (cq J)⟩,
     ⟨⟨[⟨4,fun _=>tV (aD l c all.length),none⟩],_,0,1,J,⟨(fun _=>J),bm⟩,J,J,J,J,J,fun _ sg _ _=>ak J (cq J)⟩,
     ⟨⟨[⟨13,fun _=>tD cC e2,none⟩],_,0,1,J,⟨(fun _=>J),bm⟩,J,J,J,J,J,fun _ sg _ _=>ak J (cq J)⟩,
     ⟨⟨[⟨56,fun _=>tV (aD l c all.length),some 3⟩,⟨57,fun _=>tD cC e2,some 4⟩],_,0,1,J,⟨(fun _=>J),(fun _=>J),bm⟩,J,J,J,J,J,D5 (fun sg=>ak J (bT cZ br (.head _) (ht J) (ht J) q_e3)) (tG (fun sg=>ak J (bT cZ br (.tail _ (.head _)) (ht J) (ht J) q_e3)))⟩,
     ⟨⟨[⟨58,fun _=>tV (kz l (e2.toNat*1+0)),some 5⟩],_,0,1,J,⟨(fun _=>J),bm⟩,J,J,J,J,J,D5 (fun sg=>ak J (dj (r:=cC) (i:=e2) (foff:=0) br J J bO J (.head _) q_e3 (ht J))) (tG (fun sg=>ak J (dj (r:=cC) (i:=e2) (foff:=0) br J J bO J (.tail _ (.head _)) q_e3 (ht J))))⟩,
     ⟨⟨[⟨55,fun _=>tD cC first,some 2⟩,⟨59,fun _=>tD cC e3,some 6⟩],_,0,1,J,⟨(fun _=>J),(fun _=>J),bm⟩,J,J,J,J,J,fun _ sg _ _=>ak J (pw (ht J) (ht J))⟩,
     ⟨⟨[⟨10,fun _=>tV (aN b1 0),none⟩,⟨53,fun _=>tD cC (i1:Int),some 0⟩],_,0,0,J,⟨(fun _=>J),(fun _=>J),bm⟩,J,J,J,J,J,tG (fun sg=>ak J (Ei Cf br (.tail _ (.tail _ (.head _))) (ht J) (ht J) q_e4))⟩,
     ⟨⟨[⟨61,fun _=>tV (aN b1 ((i1:Int).toNat*1)),some 8⟩,⟨54,fun _=>tD cC e2,some 1⟩],_,J,⟨(fun _=>J),(fun _=>J),bm⟩,J,J,J,fun sg=>ea J (EffOK.fr2 (J2 br J q_e4 (so q_ar) (ht J) (ht J)))⟩,
     bm⟩⟩⟩⟩⟩⟩⟩⟩⟩⟩ (fun sg=>?_)
    refine(show RG _ _ _ _ [bx D2 61 b1 ar,cY cC 3 l c all,cY cC 3 l1 c1 open1] _ from ?_);refine aY J<|aC<|af<|ai<|ah<|zo rfl (je (cx hx1 hN1) rfl)<|ax rfl<|aC<|bc<|bc ?_;exact aM (aJ (ih1 (i1+1) (min first e3) ar ⟨cw hx1,h⟩) (aQ J))

end Go.Proofs.YtmogpgcfognefaaGreatDoor

