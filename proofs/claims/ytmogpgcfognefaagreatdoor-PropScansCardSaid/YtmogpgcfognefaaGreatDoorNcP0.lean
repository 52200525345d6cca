/- cd of this claim: P0. -/
import Derived.Test.YtmogpgcfognefaaGreatDoorNcT
import Derived.Test.YtmogpgcfognefaaGreatDoorNcF
set_option linter.all false
namespace Go.Proofs.YtmogpgcfognefaaGreatDoor
open Go
abbrev bV:=rI .i64
abbrev tm:=(⟨[]⟩:bT)
abbrev Ck:=(⟨(0:Int),(0:Int),(0:Int),(0:Int),[],false,tm,[],[],[],[],(0:Int)⟩:aZ)
abbrev xv:=(⟨(0:Int),(0:Int),(0:Int),[]⟩:aQ)
abbrev DH:=(⟨(0:Int),(0:Int),(0:Int),(0:Int),xv⟩:bH)
abbrev kS:=fun(x:Bool)=>gu x
abbrev rq:=HN iP
abbrev A8:=fun(x:(Option cq))=>[tD rq x]
abbrev my:=(-1:Int)
abbrev MN:=(⟨(1:Int),my,my,(0:Int),[(2:Int),(2:Int)],false,tm,[],[],[],[],(0:Int)⟩:aZ)
abbrev MM:=(⟨(6:Int),(0:Int),my,(0:Int),[],false,tm,[],[],[],[],(0:Int)⟩:aZ)
abbrev Rl:=(⟨[MN,MM],(1:Int),(3:Int),[]⟩:dc)
abbrev xq:=(⟨(0:Int),[]⟩:bB)
abbrev Rk:=(⟨(9:Int),my,my,(0:Int),[(2:Int),(2:Int)],false,tm,[],[],[],[],(0:Int)⟩:aZ)
abbrev A6:=fun(x:bB)=>tD bJ x
abbrev Fc:=fun(x:bj)=>[tD bU x]
abbrev mF:=HN eW
abbrev wE:=fun(x:aU)=>[tD bO x]
abbrev lS:=([]:List Int)
abbrev sN:=fun(x:gQ)=>tD rS x
abbrev A9:=(⟨[],(0:Int),(0:Int),[]⟩:dc)
abbrev od:=dR bf
abbrev xu:=fun(x:Bool)=>tD rB x
abbrev xr:=fun(x:Int)=>[bQ x]
abbrev vk:=(⟨[]⟩:aT)
abbrev MG:=(⟨[97],(2:Int)⟩:aU)
abbrev MH:=(⟨[98],(2:Int)⟩:aU)
abbrev MO:=(⟨[116],[MG,MH],[(0:Int)]⟩:bj)
abbrev oU:=rI .u32
abbrev JL:=fun(x:bH×(List Int))=>[tD bh x.1,kC x.2]
abbrev Gs:=fun(x:aZ)=>[tD aS x]
abbrev Gr:=tD mF (none:(Option bN))
abbrev HX:=fun(x:aQ)=>[tD bf x]
abbrev rp:=dR bV
abbrev ML:=fun(x:bH×(List Int))=>[tD bh x.1,tD rp x.2]
abbrev Gq:=(⟨(0:Int),tm⟩:jn)
abbrev JK:=fun(x:Int×Int)=>tT [bQ x.1,bQ x.2]
abbrev HW:=fun(x:kj)=>[tD lr x]
abbrev HV:=(⟨[],(0:Int)⟩:aU)
abbrev MK:=fun(x:jn×jn)=>[tD fu x.1,tD fu x.2]
abbrev zn:=jm oU 256
abbrev JJ:=fun(x:bH)=>[tD bh x]
abbrev MJ:=fun(x:Int×Int)=>tT [tD bV x.1,tD bV x.2]
abbrev JI:=fun(x:bT)=>[tD cm x]
abbrev MI:=(⟨[Rk],(2:Int),(4:Int),[]⟩:dc)
abbrev zm:=jm bV 2
abbrev JH:=fun(x:Int)=>bQ x
abbrev A7:=Rt .i64
abbrev Gp:=dR bh
abbrev MF:=(⟨(1:Int),[]⟩:bB)
abbrev JG:=tV (an none 0 0)
abbrev ME:=(⟨[],[],[]⟩:bj)
abbrev JF:=(⟨[]⟩:eC)
abbrev HU:=[my,my]
abbrev Cj:=rI .u64
abbrev MD:=([]:List (List Int))
set_option maxRecDepth 100000

theorem KO(s:(List Int))(f:(Int→Option Bool)){R:Int}(h:iH s f=some R):aW aM 205 [kC s,(eN aM xr kS (fun(x:Int)=>f x))] (bQ R):=by
 refine aW.of Tryz.func205 J J J fun w0 S0=>au<|zo J (dA)<|ap<|ae<|au<|ax J<|zo J (gJ dd J)<|zo J (bg hI)<|ap<|av<|aP (k:=6) J fun hN=>bu ?_;refine aG (dk (Z:=fun ls i=>(s.drop i=ls)∧dX f ls i=some R) (Of:=fun _ i=>[]) (Gf:=fun _ i=>[(0,kC s),(1,(eN aM xr kS (fun(x:Int)=>f x))),(7,gR s),(8,bQ (i:Int))]) (fun i h=>?_) (fun e tl ih i h=>?_) s 0 ⟨J,h⟩) (aX J)
 ·obtain⟨hx,h⟩:=h
  refine aq<|au<|zo J (eD J J)<|ap<|ae<|bn (ht J) (cW hx)<|aY ?_;refine ac (ac (aC ?_));refine am<|au<|zo rfl (dA)<|ap<|al ?_;cases so h;exact aB J J
 ·obtain⟨hx,h⟩:=h
  refine aq<|au<|zo J (eD J J)<|ap<|ae<|bm (ht J) (cR hx)<|dz<|ae<|av<|au<|ax J<|bo J<|ap<|au<|ax J<|ax J<|ax J<|zo J (im dd bK J J J (cS hx)) ?_;refine zo J (bw bK J J)<|bF h fun r q_r h=>zo J (fK (args:=(fun(x:Int)=>[tD bV x])) (res:=xu) (f:=(fun(x:Int)=>f x)) (x:=((e):Int)) (ht J) q_r ⟨(ht J),be⟩)<|ap<|dh h J (fun h=>?_) (fun h=>?_)
  ·refine au<|ax J<|bo J<|ap<|al ?_;refine aA (aa (aa (aA (aa ?_))));cases so h;exact aB J J
  ·refine bt<|ak<|am<|ai<|zo rfl (jN (cy hx hN) rfl)<|ax rfl<|aH ?_;exact aO (aG (ih (i+1) ⟨cx hx,h⟩) (aX J))

theorem sG(s:(List Int))(f:(Int→Option Bool)){R:Bool}(h:cg s f=some R):aW aM 136 [kC s,(eN aM xr kS (fun(x:Int)=>f x))] (gu R):=by
 refine aW.of Tryz.func136 J J J fun w0 S0=>au<|zo J (eL)<|ap<|au<|ax J<|ax J<|bF h fun r q_r h=>zo J (aJ Qf (KO _ _ q_r) ⟨(ht J),(ht J),be⟩)<|zo J (dG (ht J) hI)<|bo J<|ap<|al ?_;cases so h;exact aB J J

theorem Lh(k:Int){R:Bool}(h:mK k=some R):aW aM 156 [bQ k] (gu R):=by
 refine aW.of Tryz.func156 J J J fun w0 S0=>au<|zo J (eL)<|ap<|au<|ax J<|zo J (ep (ht J) hI)<|ax J<|cw J J (fun hg=>cz J)<|cw J J (fun hg=>fG (aI J hg) hI)<|zo J (oQ J J)<|bo J<|ap<|al ?_;cases so h;exact aB J J

theorem Ps(b:Nat)(ix:OI)(l:af){R:Bool×af}(h:iX l=some R):eV aM 83 [tV (aF b 0)] (dl b l ix) (fun _:OI=>gu R.1) (fun j=>dl b R.2 j):=by
 refine eV.of Tryz.func83 J J J fun w0 S0=>?_;refine(show CG _ _ _ [bx (rH aN [(1,an (ix.h 0).1 (ix.h 0).2 l.kinds.length),(2,an (ix.h 1).1 (ix.h 1).2 l.open_.length)]) 124 b l,fA gr 29 (ix.h 0).1 (ix.h 0).2 l.kinds,cC bV 3 (ix.h 1).1 (ix.h 1).2 l.open_] _ from ?_);refine au<|zo J (eL)<|ap<|au<|ax J<|ax J<|zo J (aR (ht J))<|zo J (gq 3 eU J J J)<|zo J (gq 7 oK J J J)<|zo J (bk (r:=rH aN [(1,an (ix.h 0).1 (ix.h 0).2 l.kinds.length),(2,an (ix.h 1).1 (ix.h 1).2 l.open_.length)]) (x:=l) bZ J J (fi (eP dL ib)) (.head _) (ht J))<|zo J (aR (ht J))<|zo J (gq 17 dZ J J J)<|ll (gD bZ J (rA (hs' :=[(1,an (ix.h 0).1 (ix.h 0).2 l.kinds.length),(2,an (ix.h 1).1 (ix.h 1).2 l.open_.length)]) nY ⟨.inr ⟨J,J⟩,.inr ⟨J,J⟩,be⟩ J) J (ht J) (ht J)) fun i=>?_;refine(show RG _ _ _ _ [bx (rH aN [(1,an (ix.h 0).1 (ix.h 0).2 l.kinds.length),(2,an (ix.h 1).1 (ix.h 1).2 l.open_.length)]) 124 b ({l with result:=l.n.Kinds}:af),fA gr 29 (ix.h 0).1 (ix.h 0).2 l.kinds,cC bV 3 (ix.h 1).1 (ix.h 1).2 l.open_] _ from ?_);refine ap<|au<|ax J<|zo J (aR (ht J))<|zo J (gq 3 eU J J J)<|zo J (gq 7 oK J J J)<|zo J (bk (r:=rH aN [(1,an (ix.h 0).1 (ix.h 0).2 l.kinds.length),(2,an (ix.h 1).1 (ix.h 1).2 l.open_.length)]) (x:=({l with result:=l.n.Kinds}:af)) bZ J J (fi (eP dL ib)) (.head _) (ht J))<|bF h fun r q_r h=>zo J (aJ AM (sG _ _ q_r) ⟨(ht J),(zM Qw fun x y h=>Lh _ h),be⟩)<|zo J (dn (ht J))<|bo J<|ap<|au<|ax J<|ax J<|bC J J (fun hg=>cz J)<|bC J J (fun hg=>aR (aI J hg))<|bC J J (fun hg=>bz (n:=3) eU J (aI J hg) J)<|bC J J (fun hg=>bz (n:=6) nE J (aI J hg) J)<|bC J J (fun hg=>bk (r:=rH aN [(1,an (ix.h 0).1 (ix.h 0).2 l.kinds.length),(2,an (ix.h 1).1 (ix.h 1).2 l.open_.length)]) (x:=({l with result:=l.n.Kinds}:af)) bK J J (fi (eP dL gC)) (.head _) (aI J hg)) ?_;refine bC J J (fun hg=>dG (aI J hg) hI)<|zo J (ki J J)<|ax J<|bC J J (fun hg=>cz J)<|bC J J (fun hg=>aR (aI J hg))<|bC J J (fun hg=>bz (n:=3) eU J (aI J hg) J)<|bC J J (fun hg=>bz (n:=6) nE J (aI J hg) J)<|bC J J (fun hg=>bk (r:=rH aN [(1,an (ix.h 0).1 (ix.h 0).2 l.kinds.length),(2,an (ix.h 1).1 (ix.h 1).2 l.open_.length)]) (x:=({l with result:=l.n.Kinds}:af)) bK J J (fi (eP dL gC)) (.head _) (aI J hg))<|bC J J (fun hg=>ep (aI J hg) hI)<|zo J (ki J J)<|ax J<|bC J J (fun hg=>cz J)<|bC J J (fun hg=>aR (aI J hg))<|bC J J (fun hg=>bz (n:=3) eU J (aI J hg) J)<|bC J J (fun hg=>bz (n:=7) oK J (aI J hg) J)<|bC J J (fun hg=>bk (r:=rH aN [(1,an (ix.h 0).1 (ix.h 0).2 l.kinds.length),(2,an (ix.h 1).1 (ix.h 1).2 l.open_.length)]) (x:=({l with result:=l.n.Kinds}:af)) bZ J J (fi (eP dL ib)) (.head _) (aI J hg))<|bC J J (fun hg=>bR dd (aI J hg))<|bC J J (fun hg=>fG (aI J hg) hI)<|zo J (ki J J)<|ax J<|bC J J (fun hg=>cz J)<|bC J J (fun hg=>aR (aI J hg))<|bC J J (fun hg=>bz (n:=3) eU J (aI J hg) J)<|bC J J (fun hg=>bz (n:=7) oK J (aI J hg) J) ?_;refine bC J J (fun hg=>bk (r:=rH aN [(1,an (ix.h 0).1 (ix.h 0).2 l.kinds.length),(2,an (ix.h 1).1 (ix.h 1).2 l.open_.length)]) (x:=({l with result:=l.n.Kinds}:af)) bZ J J (fi (eP dL ib)) (.head _) (aI J hg))<|bC J J (fun hg=>bR dd (aI J hg))<|bC J J (fun hg=>hU (aI J hg) hI)<|zo J (ki J J)<|bo J<|ap<|al<|aK<|aK<|aK ?_;cases so h;exact cX J ix J J (fun _ _ h=>h)

theorem Lg(k:Int){R:Bool}(h:mb k=some R):aW aM 157 [bQ k] (gu R):=by
 refine aW.of Tryz.func157 J J J fun w0 S0=>au<|zo J (eL)<|ap<|au<|ax J<|zo J (ep (ht J) hI)<|ax J<|cw J J (fun hg=>cz J)<|cw J J (fun hg=>fG (aI J hg) hI)<|zo J (oQ J J)<|bo J<|ap<|al ?_;cases so h;exact aB J J

theorem Pr(b:Nat)(ix:OI)(l:af){R:Bool×af}(h:iq l=some R):eV aM 84 [tV (aF b 0)] (dl b l ix) (fun _:OI=>gu R.1) (fun j=>dl b R.2 j):=by
 refine eV.of Tryz.func84 J J J fun w0 S0=>?_;refine(show CG _ _ _ [bx (rH aN [(1,an (ix.h 0).1 (ix.h 0).2 l.kinds.length),(2,an (ix.h 1).1 (ix.h 1).2 l.open_.length)]) 124 b l,fA gr 29 (ix.h 0).1 (ix.h 0).2 l.kinds,cC bV 3 (ix.h 1).1 (ix.h 1).2 l.open_] _ from ?_);refine au<|zo J (eL)<|ap<|au<|ax J<|ax J<|zo J (aR (ht J))<|zo J (gq 3 eU J J J)<|zo J (gq 7 oK J J J)<|zo J (bk (r:=rH aN [(1,an (ix.h 0).1 (ix.h 0).2 l.kinds.length),(2,an (ix.h 1).1 (ix.h 1).2 l.open_.length)]) (x:=l) bZ J J (fi (eP dL ib)) (.head _) (ht J))<|zo J (aR (ht J))<|zo J (gq 17 dZ J J J)<|ll (gD bZ J (rA (hs' :=[(1,an (ix.h 0).1 (ix.h 0).2 l.kinds.length),(2,an (ix.h 1).1 (ix.h 1).2 l.open_.length)]) nY ⟨.inr ⟨J,J⟩,.inr ⟨J,J⟩,be⟩ J) J (ht J) (ht J)) fun i=>?_;refine(show RG _ _ _ _ [bx (rH aN [(1,an (ix.h 0).1 (ix.h 0).2 l.kinds.length),(2,an (ix.h 1).1 (ix.h 1).2 l.open_.length)]) 124 b ({l with result:=l.n.Kinds}:af),fA gr 29 (ix.h 0).1 (ix.h 0).2 l.kinds,cC bV 3 (ix.h 1).1 (ix.h 1).2 l.open_] _ from ?_);refine ap<|au<|ax J<|zo J (aR (ht J))<|zo J (gq 3 eU J J J)<|zo J (gq 7 oK J J J)<|zo J (bk (r:=rH aN [(1,an (ix.h 0).1 (ix.h 0).2 l.kinds.length),(2,an (ix.h 1).1 (ix.h 1).2 l.open_.length)]) (x:=({l with result:=l.n.Kinds}:af)) bZ J J (fi (eP dL ib)) (.head _) (ht J))<|bF h fun r q_r h=>zo J (aJ AM (sG _ _ q_r) ⟨(ht J),(zM Qv fun x y h=>Lg _ h),be⟩)<|zo J (dn (ht J))<|bo J<|ap<|au<|ax J<|ax J<|bC J J (fun hg=>cz J)<|bC J J (fun hg=>aR (aI J hg))<|bC J J (fun hg=>bz (n:=3) eU J (aI J hg) J)<|bC J J (fun hg=>bz (n:=6) nE J (aI J hg) J)<|bC J J (fun hg=>bk (r:=rH aN [(1,an (ix.h 0).1 (ix.h 0).2 l.kinds.length),(2,an (ix.h 1).1 (ix.h 1).2 l.open_.length)]) (x:=({l with result:=l.n.Kinds}:af)) bK J J (fi (eP dL gC)) (.head _) (aI J hg)) ?_;refine bC J J (fun hg=>dG (aI J hg) hI)<|zo J (ki J J)<|ax J<|bC J J (fun hg=>cz J)<|bC J J (fun hg=>aR (aI J hg))<|bC J J (fun hg=>bz (n:=3) eU J (aI J hg) J)<|bC J J (fun hg=>bz (n:=6) nE J (aI J hg) J)<|bC J J (fun hg=>bk (r:=rH aN [(1,an (ix.h 0).1 (ix.h 0).2 l.kinds.length),(2,an (ix.h 1).1 (ix.h 1).2 l.open_.length)]) (x:=({l with result:=l.n.Kinds}:af)) bK J J (fi (eP dL gC)) (.head _) (aI J hg))<|bC J J (fun hg=>ep (aI J hg) hI)<|zo J (ki J J)<|ax J<|bC J J (fun hg=>cz J)<|bC J J (fun hg=>aR (aI J hg))<|bC J J (fun hg=>bz (n:=3) eU J (aI J hg) J)<|bC J J (fun hg=>bz (n:=7) oK J (aI J hg) J)<|bC J J (fun hg=>bk (r:=rH aN [(1,an (ix.h 0).1 (ix.h 0).2 l.kinds.length),(2,an (ix.h 1).1 (ix.h 1).2 l.open_.length)]) (x:=({l with result:=l.n.Kinds}:af)) bZ J J (fi (eP dL ib)) (.head _) (aI J hg))<|bC J J (fun hg=>bR dd (aI J hg))<|bC J J (fun hg=>fG (aI J hg) hI)<|zo J (ki J J)<|ax J<|bC J J (fun hg=>cz J)<|bC J J (fun hg=>aR (aI J hg))<|bC J J (fun hg=>bz (n:=3) eU J (aI J hg) J)<|bC J J (fun hg=>bz (n:=7) oK J (aI J hg) J) ?_;refine bC J J (fun hg=>bk (r:=rH aN [(1,an (ix.h 0).1 (ix.h 0).2 l.kinds.length),(2,an (ix.h 1).1 (ix.h 1).2 l.open_.length)]) (x:=({l with result:=l.n.Kinds}:af)) bZ J J (fi (eP dL ib)) (.head _) (aI J hg))<|bC J J (fun hg=>bR dd (aI J hg))<|bC J J (fun hg=>hU (aI J hg) hI)<|zo J (ki J J)<|bo J<|ap<|al<|aK<|aK<|aK ?_;cases so h;exact cX J ix J J (fun _ _ h=>h)

theorem IS(n:Int){R:(List Int)}(h:iN n=some R):io aM 215 [tV (.slice none 0 0),bQ n] false bV 3 R:=by
 refine io.of Tryz.func215 J J J fun w0 S0=>au<|ci false bV 3<|zo J (a8 rQ)<|ap ?_;refine AU (Z:=jv n=some R) (Of:=[]) (Gf:=[(0,tV (.slice none 0 0)),(1,bQ n)]) (fun h=>?_) (fun K=>?_)
 ·skip
  refine HC (Z:=fun s l c=>ju s=some R) (Of:=fun s l c=>[cC bV 3 l c s]) (Gf:=fun s l c=>[(0,nJ l c s)]) (fun s l c h=>?_) (fun K1=>?_)
  ·skip
   refine au<|ax J<|bo J<|ap<|al ?_;cases so h;exact iT J J
  ·skip
   refine au<|ax J<|ax J<|zo J (Al dd (ht J))<|ax J<|zo J (Ak dd (ht J))<|zo J (gj (ht J) (ht J))<|zo J (gj (ht J) (ht J))<|bo J<|ap<|au<|ax J<|zo J (fG (ht J) hI)<|ap<|dh h J (fun h=>?_) (fun h=>?_)
   ·refine ai<|ax J<|ax J<|zo J (Al dd (ht J))<|zo J (CS dd bK (ht J) (ht J))<|ax J<|bF h fun u q_u h=>bF h fun mk q_mk h=>vM (Df (r:=bV) (x:=(0:Int)) bK J J J J dd iF (fun _=>J) (ht J) (ht J) (IJ q_u) q_mk) J fun i=>ax J<|zo J (Ak dd (ht J))<|bF h fun y q_y h=>zo J (kq dd bK J (.head _) (ht J) (ht J) q_y)<|y5 q_y<|bo J<|aH ?_;exact bX (K1 y (i.h 0).1 (i.h 0).2 h) (aX J)
   ·refine bt<|Jw false bV 3 ?_;exact bX (K1 lS none 0 h) (aX J)
 ·skip
  refine au<|ax J<|zo J (ep (ht J) hI)<|ap<|dh h J (fun h=>?_) (fun h=>?_)
  ·refine ai ?_;exact(nn h).elim
  ·refine bt<|bv ?_;exact bX (K h) (aX J)
theorem IV(slices:(List (List Int))){R:(List Int)}(h:fJ slices=some R):io aM 158 [d6 (gr) slices] false bV 3 R:=by
 refine io.of Tryz.func158 J J J fun w0 S0=>au<|ci false bV 3<|zo J (a8 rQ)<|ap<|au<|zo J (dA)<|ap<|ae<|au<|ax J<|zo J (gJ ro J)<|zo J (bg hI)<|ap<|av<|aP (k:=9) J fun hN=>bu<|nd ?_;refine aG (kB (Z:=fun ls i size=>(slices.drop i=ls)∧f7 slices ls size=some R) (Of:=fun _ i size=>[]) (Gf:=fun _ i size=>[(0,d6 (gr) slices),(3,bQ size),(9,d6 (gr) slices),(10,gR slices),(11,bQ (i:Int))]) (fun i size h=>?_) (fun e tl ih i size h=>?_) slices 0 (0:Int) ⟨J,h⟩) (aX J)
 ·obtain⟨hx,h⟩:=h
  refine aq<|au<|zo J (eD J J)<|ap<|ae<|bn (ht J) (cW hx)<|aY ?_;refine ac (ac (aC ?_));refine am<|au<|ax rfl<|bF h fun r q_r h=>jj PX (IS _ q_r) ⟨hV,(ht J),be⟩ J fun l c=>bo J<|ap<|ae<|au<|ax J<|zo J (gJ ro J)<|zo J (bg hI)<|ap<|av<|aP (k:=25) J fun hN1=>bu ?_;refine aG (ld (Z:=fun ls1 i1 newslice l1 c1=>(slices.drop i1=ls1)∧fZ ls1 newslice=some R) (Of:=fun _ i1 newslice l1 c1=>[cC bV 3 l1 c1 newslice]) (Gf:=fun _ i1 newslice l1 c1=>[(6,nJ l1 c1 newslice),(25,d6 (gr) slices),(26,gR slices),(27,bQ (i1:Int))]) (fun i1 newslice l1 c1 h=>?_) (fun e1 tl1 ih1 i1 newslice l1 c1 h=>?_) slices 0 r l c ⟨J,h⟩) (aX J)
  ·obtain⟨hx1,h⟩:=h
   refine aq<|au<|zo J (eD J J)<|ap<|ae<|bn (ht J) (cW hx1)<|aY ?_;refine ac (ac (aC ?_));refine am<|au<|ax rfl<|bo rfl<|ap<|al ?_;cases so h;exact iT J J
  ·obtain⟨hx1,h⟩:=h
   refine aq<|au<|zo J (eD J J)<|ap<|ae<|bm (ht J) (cR hx1)<|dz<|ae<|av<|au<|zo J (im ro bZ J J J (cS hx1))<|zo J (bw bZ J J)<|bo J<|ap<|ai<|ax J<|ax J<|bF h fun newslice1 q_newslice1 h=>dv bK J J J J dd J J (ht J) (ht J) q_newslice1 fun l2 c2=>?_;refine bo J<|aH<|ak<|am<|ai<|zo rfl (jN (cy hx1 hN1) rfl)<|ax rfl<|aH ?_;exact aO (aG (ih1 (i1+1) newslice1 l2 c2 ⟨cx hx1,h⟩) (aX J))
 ·obtain⟨hx,h⟩:=h
  refine aq<|au<|zo J (eD J J)<|ap<|ae<|bm (ht J) (cR hx)<|dz<|ae<|av<|au<|zo J (im ro bZ J J J (cS hx))<|zo J (bw bZ J J)<|bo J<|ap<|au<|ax J<|ax J<|zo J (gJ dd J) ?_;refine zo J (kw (ht J) (ht J))<|bo J<|ap<|au<|ax J<|zo J (ep (ht J) hI)<|ap<|dh h J (fun h=>?_) (fun h=>?_)
  ·refine ai ?_;exact(nn h).elim
  ·refine bt<|ak<|am<|ai<|zo rfl (jN (cy hx hN) rfl)<|ax rfl<|aH ?_;exact aO (aG (ih (i+1) (IntKind.i64.wrap (size+(e.length:Int))) ⟨cx hx,h⟩) (aX J))
theorem Lf(slices:(List (List Int))){R:(List Int)}(h:fJ slices=some R):aW aM 158 [d6 (gr) slices] (kC R):=(IV _ h).spec

theorem FU(tag:Int){R:Int}(h:mX tag=some R):aW aM 135 [bQ tag] (bQ R):=by
 refine aW.of Tryz.func135 J J J fun w0 S0=>au<|zo J (dA)<|ap<|ae<|av<|au<|ax J<|zo J (jk J)<|ax J<|cw J J (fun hg=>cz J)<|cw J J (fun hg=>bD (aI J hg) hI)<|zo J (oQ J J)<|bo J<|ap<|dh h J (fun h=>?_) (fun h=>?_)
 ·refine au<|zo J (dA)<|ap<|al ?_;refine aA (aa ?_);cases so h;exact aB J J
 ·refine au<|ax J<|zo J (dG (ht J) hI)<|ax J<|bC J J (fun hg=>cz J)<|bC J J (fun hg=>hU (aI J hg) hI)<|zo J (ki J J)<|bo J<|ap<|dh h J (fun h=>?_) (fun h=>?_)
  ·refine au<|zo J (dA)<|ap<|al ?_;refine aA (aa ?_);cases so h;exact aB J J
  ·refine au<|ax J<|zo J (dG (ht J) hI)<|ax J<|bC J J (fun hg=>cz J)<|bC J J (fun hg=>hU (aI J hg) hI)<|zo J (ki J J)<|bo J<|ap<|dh h J (fun h=>?_) (fun h=>?_)
   ·refine au<|zo J (dA)<|ap<|al ?_;refine aA (aa ?_);cases so h;exact aB J J
   ·refine bt<|ak<|am<|au<|zo rfl (dA)<|ap<|al ?_;cases so h;exact aB J J

theorem KP(v:aQ){R:aQ}(h:rt v=some R):aW aM 184 [tD bf v] (tD bf R):=by
 refine aW.of Tryz.func184 J J J fun w0 S0=>au<|xd (ht J) J fun b=>bc (r:=bf) (x:=xv) kF (fun _=>oc _) J fun b1=>ap<|ae<|au<|zo J (gq 0 qJ J J J)<|zo J (bk bK J J lA (.tail _ (.head _)) (ht J))<|ap ?_;refine AW (Z:=fun v1=>gV v1=some R) (Of:=fun v1=>[bx bf 82 b v1,bx bf 82 b1 xv]) (Gf:=fun v1=>[(1,tV (aF b 0)),(2,tV (aF b1 0))]) (fun v1 h=>?_) (fun K=>?_)
 ·skip
  refine am<|au<|zo rfl (bk kF rfl rfl cO (.head _) (ht rfl))<|ca<|aE kF rfl ay rfl (ht rfl) (ht rfl)<|aV 2 rfl<|ap<|al<|bv ?_;cases so h;exact fz J kF J J J
 ·skip
  refine ae<|av<|ae<|av<|ae ?_;refine AW (Z:=fun v2=>lX v2=some R) (Of:=fun v2=>[bx bf 82 b v2,bx bf 82 b1 xv]) (Gf:=fun v2=>[(1,tV (aF b 0)),(2,tV (aF b1 0))]) (fun v2 h=>?_) (fun K1=>?_)
  ·skip
   refine am<|au<|zo rfl (gq 0 qJ rfl rfl rfl)<|aE bK rfl tz rfl (ht rfl) hI<|ap<|aY ?_;refine bE J (ac (bE J (ac (aC ?_))));exact bX (K (aQ.mk (0:Int) v2.N v2.U v2.S) h) (aX J)
  ·skip
   refine ae ?_;refine sJ (Z:=lW v=some R) (Of:=[bx bf 82 b v,bx bf 82 b1 xv]) (Gf:=[(1,tV (aF b 0)),(2,tV (aF b1 0))]) (fun h=>?_) (fun K2=>?_)
   ·skip
    refine am<|ai<|zo rfl (gq 1 yI rfl rfl rfl)<|aE Og rfl xM rfl (ht rfl) hI<|aH<|ak ?_;exact bX (K1 (aQ.mk v.Kind (0:Int) v.U v.S) h) (aX J)
   ·skip
    refine ae<|av<|ae<|ae<|au<|zo J (jk J)<|bo J<|ap<|dh h J (fun h=>?_) (fun h=>?_)
    ·refine aY ?_;refine ac (ac (aC ?_));refine am<|au<|zo rfl (gq 1 yI rfl rfl rfl)<|zo rfl (bk Og rfl rfl qF (.tail _ (.head _)) (ht rfl))<|zo rfl (qZ rfl)<|ax rfl<|bC rfl rfl (fun hg=>gq 1 yI J J J)<|bC J J (fun hg=>bk Og J J qF (.tail _ (.head _)) (aI J hg))<|bC J J (fun hg=>cZ (aI J hg) hI)<|zo J (ki J J)<|ap<|dh h J (fun h=>?_) (fun h=>?_)
     ·refine aY ?_;refine bE J (ac (bE J (ac (bE J (ac (bE J (ac (aC ?_))))))));refine br ?_;exact bX (K v h) (aX J)
     ·refine bt<|ak<|br ?_;exact bX (K2 h) (aX J)
    ·refine dz<|ae<|au<|zo J (jk J)<|bo J<|ap<|dh h J (fun h=>?_) (fun h=>?_)
     ·refine aY ?_;refine ac (ac (bE J (ac (aC ?_))));refine br ?_;exact bX (K2 h) (aX J)
     ·refine dz<|ae<|au<|zo J (jk J)<|bo J<|ap<|dh h J (fun h=>?_) (fun h=>?_)
      ·refine aY ?_;refine ac (ac (bE J (ac (bE J (ac (aC ?_))))));refine br ?_;exact bX (K1 v h) (aX J)
      ·refine dz<|ae<|au<|zo J (jk J)<|bo J<|ap<|dh h J (fun h=>?_) (fun h=>?_)
       ·refine aY ?_;refine ac (ac (bE J (ac (bE J (ac (bE J (ac (aC ?_))))))));refine am ?_;refine fX (Z:=fun v3=>lV v3=some R) (Of:=fun v3=>[bx bf 82 b v3,bx bf 82 b1 xv]) (Gf:=fun v3=>[(1,tV (aF b 0)),(2,tV (aF b1 0))]) (fun v3 h=>?_) (fun K3=>?_)
        ·skip
         refine aY ?_;refine bE J (ac (aC ?_));exact bX (K v3 h) (aX J)
        ·skip
         refine au<|zo J (gq 3 tL J J J)<|zo J (bk Cr J J mR (.tail _ (.head _)) (ht J))<|zo J (wV iU (ht J))<|zo J (hU (ht J) hI)<|ap<|dh h J (fun h=>?_) (fun h=>?_)
         ·refine ai<|zo J (gq 0 qJ J J J)<|ca<|aE bK J tz J (ht J) hI<|zo J (gq 3 tL J J J)<|aE Cr J xL J (ht J) hS<|aH ?_;exact bX (K3 (aQ.mk (0:Int) v.N v.U ([])) h) (aX J)
         ·refine bt<|br ?_;exact bX (K3 v h) (aX J)
       ·refine dz<|au<|zo J (jk J)<|bo J<|ap<|dh h J (fun h=>?_) (fun h=>?_)
        ·refine aY ?_;refine ac (bE J (ac (bE J (ac (bE J (ac (bE J (ac (aC ?_)))))))));refine am<|au<|zo rfl (gq 0 qJ rfl rfl rfl)<|ca<|aE bK rfl tz rfl (ht rfl) hI<|zo rfl (gq 1 yI rfl rfl rfl)<|aE Og rfl xM rfl (ht rfl) hI<|zo rfl (gq 2 IM rfl rfl rfl)<|aE MR rfl D5 rfl (ht rfl) hI<|ap<|aY<|aC ?_;exact bX (K (aQ.mk (0:Int) (0:Int) (0:Int) v.S) h) (aX J)
        ·refine dz<|aY ?_;refine bE J (ac (bE J (ac (bE J (ac (bE J (ac (bE J (ac (aC ?_))))))))));refine br ?_;exact bX (K v h) (aX J)

theorem BL(v:aQ){R:Int}(h:lE v=some R):aW aM 118 [tD bf v] (bQ R):=by
 refine aW.of Tryz.func118 J J J fun w0 S0=>au<|zo J (kZ J)<|zo J (dA)<|ap<|ae<|au<|zo J (bw kF J J)<|bF h fun r q_r h=>zo J (aJ Qg (KP _ q_r) ⟨(ht J),be⟩)<|zo J (cE (y:=xv) kF Nm oc (J))<|zo J (wT N0 (ht J) (ht J))<|ap<|dh h J (fun h=>?_) (fun h=>?_)
 ·refine au<|zo J (dA)<|ap<|al<|aa ?_;cases so h;exact aB J J
 ·refine dz<|au<|zo J (dA)<|ap<|al ?_;cases so h;exact aB J J

theorem ND(v:aQ){R:Bool}(h:oZ v=some R):aW aM 68 [tD bf v] (gu R):=by
 refine aW.of Tryz.func68 J J J fun w0 S0=>au<|zo J (kZ J)<|zo J (eL)<|ap<|au<|zo J (bw kF J J)<|bF h fun r q_r h=>zo J (aJ Jc (BL _ q_r) ⟨(ht J),be⟩)<|zo J (jk J)<|ax J<|bC J J (fun hg=>bY qJ lA J J)<|bC J J (fun hg=>aL bK J J (aI J hg))<|bC J J (fun hg=>cZ (aI J hg) hI)<|zo J (ki J J)<|bo J<|ap<|al ?_;cases so h;exact aB J J

theorem KR(n:bH){R:Bool}(h:pg n=some R):aW aM 181 [tD bh n] (gu R):=by
 refine aW.of Tryz.func181 J J J fun w0 S0=>au<|zo J (kZ J)<|zo J (eL)<|ap<|ae<|au<|zo J (bY iS eE J J)<|zo J (bw bK J J)<|ap<|av<|au<|zo J (jk J)<|bo J<|ap<|dh h J (fun h=>?_) (fun h=>?_)
 ·refine au<|zo J (bY w7 qG J J)<|zo J (bw kF J J)<|bF h fun r q_r h=>zo J (aJ R8 (ND _ q_r) ⟨(ht J),be⟩)<|ax J<|bC J J (fun hg=>bY mh ic J J)<|bC J J (fun hg=>aL bK J J (aI J hg))<|bC J J (fun hg=>bD (aI J hg) hI)<|zo J (ki J J)<|bo J<|ap<|al ?_;refine aA (aa ?_);cases so h;exact aB J J
 ·refine au<|zo J (jk J)<|bo J<|ap<|dh h J (fun h=>?_) (fun h=>?_)
  ·refine au<|zo J (bY w7 qG J J)<|zo J (bw kF J J)<|zo J (cE (y:=xv) kF Nm oc (J))<|zo J (Fx N0 (ht J) (ht J))<|ax J<|bC J J (fun hg=>bY mh ic J J)<|bC J J (fun hg=>aL bK J J (aI J hg))<|bC J J (fun hg=>dG (aI J hg) hI)<|zo J (ki J J)<|ax J<|bC J J (fun hg=>bY mh ic J J)<|bC J J (fun hg=>aL bK J J (aI J hg))<|bC J J (fun hg=>ep (aI J hg) hI)<|zo J (ki J J)<|bo J<|ap<|al ?_;refine aA (aa ?_);cases so h;exact aB J J
  ·refine bt<|ak<|am<|au<|zo rfl (bY w7 qG rfl rfl)<|zo rfl (bw kF rfl rfl)<|zo rfl (cE (y:=xv) kF Nm oc (J))<|zo J (Fx N0 (ht J) (ht J))<|ax J<|bC J J (fun hg=>bY mh ic J J)<|bC J J (fun hg=>aL bK J J (aI J hg))<|bC J J (fun hg=>bD (aI J hg) hI)<|zo J (ki J J)<|bo J<|ap<|al ?_;cases so h;exact aB J J

theorem FV(e:bT){R:(List Int)×Bool}(h:pf e=some R):aW aM 115 [tD cm e] (tT [kC R.1,gu R.2]):=by
 refine aW.of Tryz.func115 J J J fun w0 S0=>au<|zo J (kZ J)<|zo J (a8 (show aw _ _ _ (kC ([]))from tI))<|zo J (eL)<|ap<|au<|ci false bV 3<|zo J (a8 rQ)<|ci false bV 3<|zo J (a8 rQ)<|ap<|ae<|au<|zo J (bY fV dj J J)<|zo J (bw mJ J J)<|zo J (gJ kE J)<|zo J (bg hI)<|aH ?_;refine am<|av<|aP (k:=15) J fun hN=>bu<|fe ?_;refine aG (y9 (Z:=fun ls i all l c open1 l1 c1=>(e.Nodes.drop i=ls)∧ig ls i all open1=some R) (Of:=fun _ i all l c open1 l1 c1=>[cC bV 3 l c all,cC bV 3 l1 c1 open1]) (Gf:=fun _ i all l c open1 l1 c1=>[(4,nJ l c all),(5,nJ l1 c1 open1),(15,d6 (bh) e.Nodes),(16,gR e.Nodes),(17,bQ (i:Int))]) (fun i all l c open1 l1 c1 h=>?_) (fun e1 tl ih i all l c open1 l1 c1 h=>?_) e.Nodes 0 lS none 0 lS none 0 ⟨J,h⟩) (aX J)
 ·obtain⟨hx,h⟩:=h
  refine aq<|au<|zo J (eD J J)<|ap<|ae<|bn (ht J) (cW hx)<|aY ?_;refine ac (ac (aC ?_));refine am<|au<|ax rfl<|ax rfl<|zo rfl (eT dd (.tail _ (.head _)) (ht rfl))<|zo rfl (jk rfl)<|ax rfl<|bC rfl rfl (fun hg=>cz J)<|bC J J (fun hg=>eT dd (.head _) (aI J hg))<|bC J J (fun hg=>hU (aI J hg) hI)<|zo J (ki J J)<|bo J<|bo J<|ap<|al<|gy<|ii 4 J<|ii 84 J<|ii 2 J<|qe 2 J<|bv<|bv ?_;cases so h;exact d5 J J J
 ·obtain⟨hx,h⟩:=h
  refine aq<|au<|zo J (eD J J)<|ap<|ae<|bm (ht J) (cR hx)<|dz<|ae<|av<|au<|ax J<|zo J (im kE dK J J J (cS hx))<|zo J (bw dK J J)<|bc (r:=bh) (x:=DH) dK (fun _=>nh _) J fun b=>bo J<|aE dK J ay J (ht J) (ht J)<|aV 7 J<|ap<|ae ?_;refine ai<|zo J (bY iS eE J J)<|zo J (bw bK J J)<|bF h fun r q_r h=>zo J (aJ Mv (FU _ q_r) ⟨(ht J),be⟩)<|bo J<|ap<|ae<|au<|ax J<|zo J (ep (ht J) hI)<|ax J<|cw J J (fun hg=>cz J)<|cw J J (fun hg=>cz J)<|cw J J (fun hg=>eT dd (.tail _ (.head _)) (aI J hg))<|cw J J (fun hg=>fG (aI J hg) (aI J hg))<|zo J (oQ J J)<|ax J<|bF h fun t q_t h=>cw J J (fun hg=>bw dK J J) ?_
  obtain⟨r1,h1t,h0t⟩:=og q_t
  have q_r1g:=fun hb=>(h1t hb).1
  refine cw J J (fun hg=>aJ Qh (KR _ (q_r1g hg)) ⟨(aI J hg),be⟩)<|cw J J (fun hg=>dn (aI J hg))<|zo J (dV (ht J) (fun hb=>(aI J (mz hb))) (fun hb=>(h1t hb).2) h0t)<|ap<|dh h J (fun h=>?_) (fun h=>?_)
  ·refine au<|zo J (a8 (show aw _ _ _ (kC ([]))from tI))<|zo J (eL)<|ap<|al ?_;refine aa (aA (aa (aa (aA (aa ?_)))));refine bv<|bv ?_;cases so h;exact d5 J J J
  ·refine dz<|au<|ax J<|ax J<|zo J (eT dd (.tail _ (.head _)) (ht J))<|ax J<|zo J (gj (ht J) (ht J))<|bF h fun y q_y h=>zo J (lJ dd bK J (.tail _ (.head _)) (ht J) (ht J) q_y)<|mr (.tail _ (.head _)) q_y fun hv=>bo J<|ap<|au<|zo J (nZ (r:=bV) (ys:=[my,my]) (xs:=[.const (.int .i64 (-1)),.const (.int .i64 (-1))]) xl bK J wH J J ⟨hI,hI,be⟩)<|bc (r:=zm) (x:=(List.replicate 2 (0:Int))) wH (fun _=>uZ (r:=bV) 2 (fun _=>J) _) J fun b1=>aE wH J ay J (ht J) (ht J)<|ap<|au ?_;refine ax J<|bo J<|ap<|ae<|au<|ax J<|zo J (Fw dd (.tail _ (.tail _ (.head _))) q_y (ht J))<|zo J (bg hI)<|ap<|av ?_
   have hN1:=hv.2
   refine bu<|n8<|n8 ?_;refine aG (oO (Z:=fun ls1 i1 first at1=>(y.drop i1=ls1)∧jd (ig tl) i e1 all open1 r ls1 i1 first at1=some R) (Of:=fun _ i1 first at1=>[cC bV 3 l c all,cC bV 3 l1 c1 open1,bx zm 61 b1 at1]) (Gf:=fun _ i1 first at1=>[(4,nJ l c all),(5,nJ l1 c1 open1),(6,bQ (i:Int)),(7,bp bh e1),(8,bQ r),(10,tV (aF b1 0)),(11,bQ first),(15,d6 (bh) e.Nodes),(16,gR e.Nodes),(17,bQ (i:Int)),(46,tV (jY 1 l1 c1 (IntKind.i64.wrap ((open1.length:Int)-r)).toNat y.length)),(47,gR y),(48,bQ (i1:Int))]) (fun i1 first at1 h=>?_) (fun e2 tl1 ih1 i1 first at1 h=>?_) y 0 (i:Int) HU ⟨J,h⟩) (aX J)
   ·obtain⟨hx1,h⟩:=h
    refine aq<|au<|zo J (eD J J)<|ap<|ae<|bn (ht J) (cW hx1)<|aY ?_;refine ac (ac (aC ?_));refine am<|ae<|au<|zo rfl (bk wH rfl rfl cO (.tail _ (.tail _ (.head _))) (ht rfl))<|zo rfl (bY uO qI rfl rfl)<|zo rfl (bw bK rfl rfl)<|zo rfl (bY uN qH rfl rfl)<|zo rfl (bw bK rfl rfl)<|zo rfl (nZ (r:=bV) (ys:=[e1.L,e1.R]) (xs:=[.tmp 65,.tmp 67]) xl bK J wH J J ⟨(ht J),(ht J),be⟩)<|zo J (wT LH (ht J) (ht J))<|ap<|dh h J (fun h=>?_) (fun h=>?_)
    ·refine au<|zo J (a8 (show aw _ _ _ (kC ([]))from tI))<|zo J (eL)<|ap<|al ?_;refine aa (aA (aa (aa (aA (aa ?_)))));refine bv<|bv<|bv ?_;cases so h;exact d5 J J J
    ·refine dz<|au<|ax J<|ax J<|zo J (ba (r:=bV) (ys:=[first]) (xs:=[.tmp 71]) dd bK J J J J J ⟨(ht J),be⟩)<|bF h fun all1 q_all1 h=>dv bK J J J J dd J J (ht J) (ht J) q_all1 fun l2 c2=>bo J<|ap<|ai<|ax J<|ax J<|zo J (eT dd (.tail _ (.head _)) (ht J))<|ax J<|zo J (gj (ht J) (ht J))<|bF h fun y1 q_y1 h=>zo J (kq dd bK J (.tail _ (.head _)) (ht J) (ht J) q_y1)<|ax J<|zo J (ba (r:=bV) (ys:=[(i:Int)]) (xs:=[.tmp 80]) dd bK J J J J J ⟨(ht J),be⟩)<|ca<|y5 q_y1 ?_;refine bF h fun open2 q_open2 h=>dv bK J J J J dd J J (ht J) (ht J) q_open2 fun l3 c3=>bo J<|aH<|ak<|am<|ai<|zo rfl (jN (cy hx hN) rfl)<|ax rfl<|aH<|aK<|bv<|br ?_;exact aO (aG (ih (i+1) all1 l2 c2 open2 l3 c3 ⟨cx hx,h⟩) (aX J))
   ·obtain⟨hx1,h⟩:=h
    refine aq<|au<|zo J (eD J J)<|ap<|ae<|bm (ht J) (cR hx1)<|dz<|ae<|av<|au<|ax J<|zo J (s0 dd bK J (.tail _ (.head _)) q_y (ht J) (ht J) (cS hx1))<|zo J (ew (r:=bV) (i:=((IntKind.i64.wrap ((open1.length:Int)-r))+(i1:Int))) (foff:=0) bK J J cO J (.tail _ (.head _)) (tv q_y (cS hx1)).1 (ht J))<|bo J<|bo J<|ap<|bF h fun e3 q_e3 h=>bF h fun e4 q_e4 h=>bF h fun ar q_ar h=>?_
    refine mt 10 [tc (bQ (i1:Int)),tc (bQ e2),tc (bQ first),tc (nJ l c all),tc (bQ e2),tc (tV (iJ l (e2.toNat*1+0))),tc (bQ e3),tc (bQ (min first e3)),tc (tV (aF b1 ((i1:Int).toNat*1))),tc (xF)] [false,false,false,false,false,false,false,false,false,true] [fun _=>[cC bV 3 l c all,cC bV 3 l1 c1 open1,bx zm 61 b1 at1],fun sg=>[bx zm 61 b1 ar,cC bV 3 l c all,cC bV 3 l1 c1 open1]] J mixed J J J J J
     ⟨⟨[⟨12,fun _=>tD bV (i1:Int),none⟩],_,0,0,J,⟨(fun _=>J),be⟩,J,J,J,J,J,fun _ sg _ _=>ah J (cz J)⟩,
     ⟨⟨[⟨13,fun _=>tD bV e2,none⟩],_,0,0,J,⟨(fun _=>J),be⟩,J,J,J,J,J,fun _ sg _ _=>ah J (cz J)⟩,
     ⟨⟨[⟨11,fun _=>tD bV first,none⟩],_,0,1,J,⟨(fun _=>J),be⟩,J,J,J,J,J,fun _ sg _ _=>ah J (cz J)⟩,
     ⟨⟨[⟨4,fun _=>tV (an l c all.length),none⟩],_,0,1,J,⟨(fun _=>J),be⟩,J,J,J,J,J,fun _ sg _ _=>ah J (cz J)⟩,
     ⟨⟨[⟨13,fun _=>tD bV e2,none⟩],_,0,1,J,⟨(fun _=>J),be⟩,J,J,J,J,J,fun _ sg _ _=>ah J (cz J)⟩,
     ⟨⟨[⟨56,fun _=>tV (an l c all.length),some 3⟩,⟨57,fun _=>tD bV e2,some 4⟩],_,0,1,J,⟨(fun _=>J),(fun _=>J),be⟩,J,J,J,J,J,DW (fun sg=>ah J (cH dd bK (.head _) (ht J) (ht J) q_e3)) (rr (fun sg=>ah J (cH dd bK (.tail _ (.head _)) (ht J) (ht J) q_e3)))⟩,
     ⟨⟨[⟨58,fun _=>tV (iJ l (e2.toNat*1+0)),some 5⟩],_,0,1,J,⟨(fun _=>J),be⟩,J,J,J,J,J,DW (fun sg=>ah J (ew (r:=bV) (i:=e2) (foff:=0) bK J J cO J (.head _) q_e3 (ht J))) (rr (fun sg=>ah J (ew (r:=bV) (i:=e2) (foff:=0) bK J J cO J (.tail _ (.head _)) q_e3 (ht J))))⟩,
     ⟨⟨[⟨55,fun _=>tD bV first,some 2⟩,⟨59,fun _=>tD bV e3,some 6⟩],_,0,1,J,⟨(fun _=>J),(fun _=>J),be⟩,J,J,J,J,J,fun _ sg _ _=>ah J (qA (ht J) (ht J))⟩,
     ⟨⟨[⟨10,fun _=>tV (aF b1 0),none⟩,⟨53,fun _=>tD bV (i1:Int),some 0⟩],_,0,0,J,⟨(fun _=>J),(fun _=>J),be⟩,J,J,J,J,J,rr (fun sg=>ah J (f9 xl bK (.tail _ (.tail _ (.head _))) (ht J) (ht J) q_e4))⟩,
     ⟨⟨[⟨61,fun _=>tV (aF b1 ((i1:Int).toNat*1)),some 8⟩,⟨54,fun _=>tD bV e2,some 1⟩],_,J,⟨(fun _=>J),(fun _=>J),be⟩,J,J,J,fun sg=>eG J (EffOK.fr2 (EO bK J q_e4 (so q_ar) (ht J) (ht J)))⟩,
     be⟩⟩⟩⟩⟩⟩⟩⟩⟩⟩ (fun sg=>?_)
    refine(show RG _ _ _ _ [bx zm 61 b1 ar,cC bV 3 l c all,cC bV 3 l1 c1 open1] _ from ?_);refine bo J<|aH<|ak<|am<|ai<|zo rfl (jN (cy hx1 hN1) rfl)<|ax rfl<|aH<|aK<|aK ?_;exact aO (aG (ih1 (i1+1) (min first e3) ar ⟨cx hx1,h⟩) (aX J))

end Go.Proofs.YtmogpgcfognefaaGreatDoor

