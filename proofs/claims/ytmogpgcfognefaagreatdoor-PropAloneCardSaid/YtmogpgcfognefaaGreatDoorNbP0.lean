/- cF of this claim: P0. -/
import Derived.Test.YtmogpgcfognefaaGreatDoorNbT
import Derived.Test.YtmogpgcfognefaaGreatDoorNbF
set_option linter.all false
namespace Go.Proofs.YtmogpgcfognefaaGreatDoor
open Go
abbrev bU:=rI .i64
abbrev qG:=(⟨[]⟩:bk)
abbrev AW:=(⟨(0:Int),(0:Int),(0:Int),(0:Int),[],false,qG,[],[],[],[],(0:Int)⟩:aB)
abbrev zT:=(⟨(0:Int),(0:Int),(0:Int),[]⟩:cO)
abbrev Cu:=(⟨(0:Int),(0:Int),(0:Int),(0:Int),zT⟩:bq)
abbrev lX:=fun(x:Bool)=>ij x
abbrev qN:=Gr jm
abbrev zR:=fun(x:(Option co))=>[tD qN x]
abbrev nO:=(-1:Int)
abbrev KO:=(⟨(1:Int),nO,nO,(0:Int),[(2:Int),(2:Int)],false,qG,[],[],[],[],(0:Int)⟩:aB)
abbrev KN:=(⟨(6:Int),(0:Int),nO,(0:Int),[],false,qG,[],[],[],[],(0:Int)⟩:aB)
abbrev ON:=(⟨[KO,KN],(1:Int),(3:Int),[]⟩:cU)
abbrev vZ:=(⟨(0:Int),[]⟩:bp)
abbrev OM:=(⟨(9:Int),nO,nO,(0:Int),[(2:Int),(2:Int)],false,qG,[],[],[],[],(0:Int)⟩:aB)
abbrev zP:=fun(x:bp)=>tD bN x
abbrev DX:=fun(x:bo)=>[tD cg x]
abbrev mV:=Gr eY
abbrev vM:=fun(x:aU)=>[tD bR x]
abbrev yj:=(⟨[],(0:Int),(0:Int),[]⟩:cU)
abbrev rW:=fun(x:ji)=>tD rS x
abbrev mP:=([]:List Int)
abbrev yi:=fun(x:Bool)=>tD rB x
abbrev KH:=(⟨[97],(2:Int)⟩:aU)
abbrev KI:=(⟨[98],(2:Int)⟩:aU)
abbrev KP:=(⟨[116],[KH,KI],[(0:Int)]⟩:bo)
abbrev vL:=(⟨[]⟩:bz)
abbrev zS:=fun(x:Int)=>[cd x]
abbrev H8:=fun(x:bq×(List Int))=>[tD aQ x.1,lW x.2]
abbrev E5:=fun(x:aB)=>[tD aE x]
abbrev E4:=tD mV (none:(Option bH))
abbrev CB:=(⟨(0:Int),qG⟩:fU)
abbrev pP:=dL bU
abbrev KM:=fun(x:bq×(List Int))=>[tD aQ x.1,tD pP x.2]
abbrev H7:=fun(x:Int×Int)=>tT [cd x.1,cd x.2]
abbrev Gz:=fun(x:iA)=>[tD fT x]
abbrev KL:=fun(x:fU×fU)=>[tD cT x.1,tD cT x.2]
abbrev H6:=fun(x:bq)=>[tD aQ x]
abbrev KK:=fun(x:Int×Int)=>tT [tD bU x.1,tD bU x.2]
abbrev H5:=fun(x:bk)=>[tD bc x]
abbrev KJ:=(⟨[OM],(2:Int),(4:Int),[]⟩:cU)
abbrev H4:=(⟨[],(0:Int)⟩:aU)
abbrev yh:=lN bU 2
abbrev H3:=fun(x:Int)=>cd x
abbrev Gy:=([]:List bq)
abbrev zQ:=OT .i64
abbrev E3:=dL aQ
abbrev KG:=(⟨(1:Int),[]⟩:bp)
abbrev H2:=tV (ai none 0 0)
abbrev H1:=(⟨[]⟩:eM)
abbrev Gx:=[nO,nO]
abbrev H0:=([]:List bk)
abbrev KF:=([]:List (List Int))
set_option maxRecDepth 100000

theorem Jb(s:(List Int))(f:(Int→Option Bool)){R:Int}(h:jf s f=some R):bg aP 205 [lW s,(fC aP zS lX (fun(x:Int)=>f x))] (cd R):=by
 refine bg.of Tryz.func205 J J J fun w0 S0=>aq<|zo J (fg)<|ap<|ae<|aq<|aA J<|zo J (jL dp J)<|zo J (bj hI)<|ap<|av<|aY (k:=6) J fun hN=>bO ?_;refine aM (eC (Z:=fun ls i=>(s.drop i=ls)∧ea f ls i=some R) (Of:=fun _ i=>[]) (Gf:=fun _ i=>[(0,lW s),(1,(fC aP zS lX (fun(x:Int)=>f x))),(7,jt s),(8,cd (i:Int))]) (fun i h=>?_) (fun e tl ih i h=>?_) s 0 ⟨J,h⟩) (bh J)
 ·obtain⟨hx,h⟩:=h
  refine au<|aq<|zo J (fM J J)<|ap<|ae<|bt (ht J) (du hx)<|bn ?_;refine ac (ac (aG ?_));refine an<|aq<|zo rfl (fg)<|ap<|am ?_;cases so h;exact aH J J
 ·obtain⟨hx,h⟩:=h
  refine au<|aq<|zo J (fM J J)<|ap<|ae<|br (ht J) (dn hx)<|eK<|ae<|av<|aq<|aA J<|bu J<|ap<|aq<|aA J<|aA J<|aA J<|zo J (j8 dp bJ J J J (dB hx)) ?_;refine zo J (bE bJ J J)<|bP h fun r q_r h=>zo J (gz (args:=(fun(x:Int)=>[tD bU x])) (res:=yi) (f:=(fun(x:Int)=>f x)) (x:=((e):Int)) (ht J) q_r ⟨(ht J),be⟩)<|ap<|dQ h J (fun h=>?_) (fun h=>?_)
  ·refine aq<|aA J<|bu J<|ap<|am ?_;refine aF (aa (aa (aF (aa ?_))));cases so h;exact aH J J
  ·refine bC<|al<|an<|ak<|zo rfl (lk (cQ hx hN) rfl)<|aA rfl<|aK ?_;exact aW (aM (ih (i+1) ⟨cP hx,h⟩) (bh J))

theorem wm(s:(List Int))(f:(Int→Option Bool)){R:Bool}(h:cW s f=some R):bg aP 136 [lW s,(fC aP zS lX (fun(x:Int)=>f x))] (ij R):=by
 refine bg.of Tryz.func136 J J J fun w0 S0=>aq<|zo J (fP)<|ap<|aq<|aA J<|aA J<|bP h fun r q_r h=>zo J (aO NN (Jb _ _ q_r) ⟨(ht J),(ht J),be⟩)<|zo J (ev (ht J) hI)<|bu J<|ap<|am ?_;cases so h;exact aH J J

theorem Jm(k:Int){R:Bool}(h:mY k=some R):bg aP 156 [cd k] (ij R):=by
 refine bg.of Tryz.func156 J J J fun w0 S0=>aq<|zo J (fP)<|ap<|aq<|aA J<|zo J (fH (ht J) hI)<|aA J<|cD J J (fun hg=>cN J)<|cD J J (fun hg=>iu (aI J hg) hI)<|zo J (pn J J)<|bu J<|ap<|am ?_;cases so h;exact aH J J

theorem Nc(b:Nat)(ix:OI)(l:af){R:Bool×af}(h:jz l=some R):fQ aP 83 [tV (aD b 0)] (dm b l ix) (fun _:OI=>ij R.1) (fun j=>dm b R.2 j):=by
 refine fQ.of Tryz.func83 J J J fun w0 S0=>?_;refine(show CG _ _ _ [bx (rH aN [(1,ai (ix.h 0).1 (ix.h 0).2 l.kinds.length),(2,ai (ix.h 1).1 (ix.h 1).2 l.open_.length)]) 124 b l,gX gH 29 (ix.h 0).1 (ix.h 0).2 l.kinds,cr bU 3 (ix.h 1).1 (ix.h 1).2 l.open_] _ from ?_);refine aq<|zo J (fP)<|ap<|aq<|aA J<|aA J<|zo J (aR (ht J))<|zo J (fq 3 eX J J J)<|zo J (fq 7 m6 J J J)<|zo J (aV (r:=rH aN [(1,ai (ix.h 0).1 (ix.h 0).2 l.kinds.length),(2,ai (ix.h 1).1 (ix.h 1).2 l.open_.length)]) (x:=l) bV J J (fy (ew dS gQ)) (.head _) (ht J))<|zo J (aR (ht J))<|zo J (fq 17 ed J J J)<|lH (gS bV J (qS (hs' :=[(1,ai (ix.h 0).1 (ix.h 0).2 l.kinds.length),(2,ai (ix.h 1).1 (ix.h 1).2 l.open_.length)]) n8 ⟨.inr ⟨J,J⟩,.inr ⟨J,J⟩,be⟩ J) J (ht J) (ht J)) fun i=>?_;refine(show RG _ _ _ _ [bx (rH aN [(1,ai (ix.h 0).1 (ix.h 0).2 l.kinds.length),(2,ai (ix.h 1).1 (ix.h 1).2 l.open_.length)]) 124 b ({l with result:=l.n.Kinds}:af),gX gH 29 (ix.h 0).1 (ix.h 0).2 l.kinds,cr bU 3 (ix.h 1).1 (ix.h 1).2 l.open_] _ from ?_);refine ap<|aq<|aA J<|zo J (aR (ht J))<|zo J (fq 3 eX J J J)<|zo J (fq 7 m6 J J J)<|zo J (aV (r:=rH aN [(1,ai (ix.h 0).1 (ix.h 0).2 l.kinds.length),(2,ai (ix.h 1).1 (ix.h 1).2 l.open_.length)]) (x:=({l with result:=l.n.Kinds}:af)) bV J J (fy (ew dS gQ)) (.head _) (ht J))<|bP h fun r q_r h=>zo J (aO EK (wm _ _ q_r) ⟨(ht J),(Ar NZ fun x y h=>Jm _ h),be⟩)<|zo J (d7 (ht J))<|bu J<|ap<|aq<|aA J<|aA J<|bD J J (fun hg=>cN J)<|bD J J (fun hg=>aR (aI J hg))<|bD J J (fun hg=>bA (n:=3) eX J (aI J hg) J)<|bD J J (fun hg=>bA (n:=6) nH J (aI J hg) J)<|bD J J (fun hg=>aV (r:=rH aN [(1,ai (ix.h 0).1 (ix.h 0).2 l.kinds.length),(2,ai (ix.h 1).1 (ix.h 1).2 l.open_.length)]) (x:=({l with result:=l.n.Kinds}:af)) bJ J J (fy (ew dS gR)) (.head _) (aI J hg)) ?_;refine bD J J (fun hg=>ev (aI J hg) hI)<|zo J (ky J J)<|aA J<|bD J J (fun hg=>cN J)<|bD J J (fun hg=>aR (aI J hg))<|bD J J (fun hg=>bA (n:=3) eX J (aI J hg) J)<|bD J J (fun hg=>bA (n:=6) nH J (aI J hg) J)<|bD J J (fun hg=>aV (r:=rH aN [(1,ai (ix.h 0).1 (ix.h 0).2 l.kinds.length),(2,ai (ix.h 1).1 (ix.h 1).2 l.open_.length)]) (x:=({l with result:=l.n.Kinds}:af)) bJ J J (fy (ew dS gR)) (.head _) (aI J hg))<|bD J J (fun hg=>fH (aI J hg) hI)<|zo J (ky J J)<|aA J<|bD J J (fun hg=>cN J)<|bD J J (fun hg=>aR (aI J hg))<|bD J J (fun hg=>bA (n:=3) eX J (aI J hg) J)<|bD J J (fun hg=>bA (n:=7) m6 J (aI J hg) J)<|bD J J (fun hg=>aV (r:=rH aN [(1,ai (ix.h 0).1 (ix.h 0).2 l.kinds.length),(2,ai (ix.h 1).1 (ix.h 1).2 l.open_.length)]) (x:=({l with result:=l.n.Kinds}:af)) bV J J (fy (ew dS gQ)) (.head _) (aI J hg))<|bD J J (fun hg=>bI dp (aI J hg))<|bD J J (fun hg=>iu (aI J hg) hI)<|zo J (ky J J)<|aA J<|bD J J (fun hg=>cN J)<|bD J J (fun hg=>aR (aI J hg))<|bD J J (fun hg=>bA (n:=3) eX J (aI J hg) J)<|bD J J (fun hg=>bA (n:=7) m6 J (aI J hg) J) ?_;refine bD J J (fun hg=>aV (r:=rH aN [(1,ai (ix.h 0).1 (ix.h 0).2 l.kinds.length),(2,ai (ix.h 1).1 (ix.h 1).2 l.open_.length)]) (x:=({l with result:=l.n.Kinds}:af)) bV J J (fy (ew dS gQ)) (.head _) (aI J hg))<|bD J J (fun hg=>bI dp (aI J hg))<|bD J J (fun hg=>jB (aI J hg) hI)<|zo J (ky J J)<|bu J<|ap<|am<|aJ<|aJ<|aJ ?_;cases so h;exact cZ J ix J J (fun _ _ h=>h)

theorem Jl(k:Int){R:Bool}(h:mv k=some R):bg aP 157 [cd k] (ij R):=by
 refine bg.of Tryz.func157 J J J fun w0 S0=>aq<|zo J (fP)<|ap<|aq<|aA J<|zo J (fH (ht J) hI)<|aA J<|cD J J (fun hg=>cN J)<|cD J J (fun hg=>iu (aI J hg) hI)<|zo J (pn J J)<|bu J<|ap<|am ?_;cases so h;exact aH J J

theorem Nb(b:Nat)(ix:OI)(l:af){R:Bool×af}(h:iH l=some R):fQ aP 84 [tV (aD b 0)] (dm b l ix) (fun _:OI=>ij R.1) (fun j=>dm b R.2 j):=by
 refine fQ.of Tryz.func84 J J J fun w0 S0=>?_;refine(show CG _ _ _ [bx (rH aN [(1,ai (ix.h 0).1 (ix.h 0).2 l.kinds.length),(2,ai (ix.h 1).1 (ix.h 1).2 l.open_.length)]) 124 b l,gX gH 29 (ix.h 0).1 (ix.h 0).2 l.kinds,cr bU 3 (ix.h 1).1 (ix.h 1).2 l.open_] _ from ?_);refine aq<|zo J (fP)<|ap<|aq<|aA J<|aA J<|zo J (aR (ht J))<|zo J (fq 3 eX J J J)<|zo J (fq 7 m6 J J J)<|zo J (aV (r:=rH aN [(1,ai (ix.h 0).1 (ix.h 0).2 l.kinds.length),(2,ai (ix.h 1).1 (ix.h 1).2 l.open_.length)]) (x:=l) bV J J (fy (ew dS gQ)) (.head _) (ht J))<|zo J (aR (ht J))<|zo J (fq 17 ed J J J)<|lH (gS bV J (qS (hs' :=[(1,ai (ix.h 0).1 (ix.h 0).2 l.kinds.length),(2,ai (ix.h 1).1 (ix.h 1).2 l.open_.length)]) n8 ⟨.inr ⟨J,J⟩,.inr ⟨J,J⟩,be⟩ J) J (ht J) (ht J)) fun i=>?_;refine(show RG _ _ _ _ [bx (rH aN [(1,ai (ix.h 0).1 (ix.h 0).2 l.kinds.length),(2,ai (ix.h 1).1 (ix.h 1).2 l.open_.length)]) 124 b ({l with result:=l.n.Kinds}:af),gX gH 29 (ix.h 0).1 (ix.h 0).2 l.kinds,cr bU 3 (ix.h 1).1 (ix.h 1).2 l.open_] _ from ?_);refine ap<|aq<|aA J<|zo J (aR (ht J))<|zo J (fq 3 eX J J J)<|zo J (fq 7 m6 J J J)<|zo J (aV (r:=rH aN [(1,ai (ix.h 0).1 (ix.h 0).2 l.kinds.length),(2,ai (ix.h 1).1 (ix.h 1).2 l.open_.length)]) (x:=({l with result:=l.n.Kinds}:af)) bV J J (fy (ew dS gQ)) (.head _) (ht J))<|bP h fun r q_r h=>zo J (aO EK (wm _ _ q_r) ⟨(ht J),(Ar NY fun x y h=>Jl _ h),be⟩)<|zo J (d7 (ht J))<|bu J<|ap<|aq<|aA J<|aA J<|bD J J (fun hg=>cN J)<|bD J J (fun hg=>aR (aI J hg))<|bD J J (fun hg=>bA (n:=3) eX J (aI J hg) J)<|bD J J (fun hg=>bA (n:=6) nH J (aI J hg) J)<|bD J J (fun hg=>aV (r:=rH aN [(1,ai (ix.h 0).1 (ix.h 0).2 l.kinds.length),(2,ai (ix.h 1).1 (ix.h 1).2 l.open_.length)]) (x:=({l with result:=l.n.Kinds}:af)) bJ J J (fy (ew dS gR)) (.head _) (aI J hg)) ?_;refine bD J J (fun hg=>ev (aI J hg) hI)<|zo J (ky J J)<|aA J<|bD J J (fun hg=>cN J)<|bD J J (fun hg=>aR (aI J hg))<|bD J J (fun hg=>bA (n:=3) eX J (aI J hg) J)<|bD J J (fun hg=>bA (n:=6) nH J (aI J hg) J)<|bD J J (fun hg=>aV (r:=rH aN [(1,ai (ix.h 0).1 (ix.h 0).2 l.kinds.length),(2,ai (ix.h 1).1 (ix.h 1).2 l.open_.length)]) (x:=({l with result:=l.n.Kinds}:af)) bJ J J (fy (ew dS gR)) (.head _) (aI J hg))<|bD J J (fun hg=>fH (aI J hg) hI)<|zo J (ky J J)<|aA J<|bD J J (fun hg=>cN J)<|bD J J (fun hg=>aR (aI J hg))<|bD J J (fun hg=>bA (n:=3) eX J (aI J hg) J)<|bD J J (fun hg=>bA (n:=7) m6 J (aI J hg) J)<|bD J J (fun hg=>aV (r:=rH aN [(1,ai (ix.h 0).1 (ix.h 0).2 l.kinds.length),(2,ai (ix.h 1).1 (ix.h 1).2 l.open_.length)]) (x:=({l with result:=l.n.Kinds}:af)) bV J J (fy (ew dS gQ)) (.head _) (aI J hg))<|bD J J (fun hg=>bI dp (aI J hg))<|bD J J (fun hg=>iu (aI J hg) hI)<|zo J (ky J J)<|aA J<|bD J J (fun hg=>cN J)<|bD J J (fun hg=>aR (aI J hg))<|bD J J (fun hg=>bA (n:=3) eX J (aI J hg) J)<|bD J J (fun hg=>bA (n:=7) m6 J (aI J hg) J) ?_;refine bD J J (fun hg=>aV (r:=rH aN [(1,ai (ix.h 0).1 (ix.h 0).2 l.kinds.length),(2,ai (ix.h 1).1 (ix.h 1).2 l.open_.length)]) (x:=({l with result:=l.n.Kinds}:af)) bV J J (fy (ew dS gQ)) (.head _) (aI J hg))<|bD J J (fun hg=>bI dp (aI J hg))<|bD J J (fun hg=>jB (aI J hg) hI)<|zo J (ky J J)<|bu J<|ap<|am<|aJ<|aJ<|aJ ?_;cases so h;exact cZ J ix J J (fun _ _ h=>h)

theorem Hi(n:Int){R:(List Int)}(h:jl n=some R):fx aP 215 [tV (.slice none 0 0),cd n] false bU 3 R:=by
 refine fx.of Tryz.func215 J J J fun w0 S0=>aq<|ci false bU 3<|zo J (aZ q5)<|ap ?_;refine zE (Z:=jS n=some R) (Of:=[]) (Gf:=[(0,tV (.slice none 0 0)),(1,cd n)]) (fun h=>?_) (fun K=>?_)
 ·skip
  refine Gh (Z:=fun s l c=>jR s=some R) (Of:=fun s l c=>[cr bU 3 l c s]) (Gf:=fun s l c=>[(0,n6 l c s)]) (fun s l c h=>?_) (fun K1=>?_)
  ·skip
   refine aq<|aA J<|bu J<|ap<|am ?_;cases so h;exact gN J J
  ·skip
   refine aq<|aA J<|aA J<|zo J (y0 dp (ht J))<|aA J<|zo J (yZ dp (ht J))<|zo J (gy (ht J) (ht J))<|zo J (gy (ht J) (ht J))<|bu J<|ap<|aq<|aA J<|zo J (iu (ht J) hI)<|ap<|dQ h J (fun h=>?_) (fun h=>?_)
   ·refine ak<|aA J<|aA J<|zo J (y0 dp (ht J))<|zo J (Bu dp bJ (ht J) (ht J))<|aA J<|bP h fun u q_u h=>bP h fun mk q_mk h=>xP (BV (r:=bU) (x:=(0:Int)) bJ J J J J dp k7 (fun _=>J) (ht J) (ht J) (Hd q_u) q_mk) J fun i=>aA J<|zo J (yZ dp (ht J))<|bP h fun y q_y h=>zo J (kP dp bJ J (.head _) (ht J) (ht J) q_y)<|xQ q_y<|bu J<|aK ?_;exact cb (K1 y (i.h 0).1 (i.h 0).2 h) (bh J)
   ·refine bC<|HR false bU 3 ?_;exact cb (K1 mP none 0 h) (bh J)
 ·skip
  refine aq<|aA J<|zo J (fH (ht J) hI)<|ap<|dQ h J (fun h=>?_) (fun h=>?_)
  ·refine ak ?_;exact(nn h).elim
  ·refine bC<|bw ?_;exact cb (K h) (bh J)
theorem Hl(slices:(List (List Int))){R:(List Int)}(h:fY slices=some R):fx aP 158 [fX (gH) slices] false bU 3 R:=by
 refine fx.of Tryz.func158 J J J fun w0 S0=>aq<|ci false bU 3<|zo J (aZ q5)<|ap<|aq<|zo J (fg)<|ap<|ae<|aq<|aA J<|zo J (jL qK J)<|zo J (bj hI)<|ap<|av<|aY (k:=9) J fun hN=>bO<|nk ?_;refine aM (ki (Z:=fun ls i size=>(slices.drop i=ls)∧gm slices ls size=some R) (Of:=fun _ i size=>[]) (Gf:=fun _ i size=>[(0,fX (gH) slices),(3,cd size),(9,fX (gH) slices),(10,jt slices),(11,cd (i:Int))]) (fun i size h=>?_) (fun e tl ih i size h=>?_) slices 0 (0:Int) ⟨J,h⟩) (bh J)
 ·obtain⟨hx,h⟩:=h
  refine au<|aq<|zo J (fM J J)<|ap<|ae<|bt (ht J) (du hx)<|bn ?_;refine ac (ac (aG ?_));refine an<|aq<|aA rfl<|bP h fun r q_r h=>jb ND (Hi _ q_r) ⟨hV,(ht J),be⟩ J fun l c=>bu J<|ap<|ae<|aq<|aA J<|zo J (jL qK J)<|zo J (bj hI)<|ap<|av<|aY (k:=25) J fun hN1=>bO ?_;refine aM (oD (Z:=fun ls1 i1 newslice l1 c1=>(slices.drop i1=ls1)∧gk ls1 newslice=some R) (Of:=fun _ i1 newslice l1 c1=>[cr bU 3 l1 c1 newslice]) (Gf:=fun _ i1 newslice l1 c1=>[(6,n6 l1 c1 newslice),(25,fX (gH) slices),(26,jt slices),(27,cd (i1:Int))]) (fun i1 newslice l1 c1 h=>?_) (fun e1 tl1 ih1 i1 newslice l1 c1 h=>?_) slices 0 r l c ⟨J,h⟩) (bh J)
  ·obtain⟨hx1,h⟩:=h
   refine au<|aq<|zo J (fM J J)<|ap<|ae<|bt (ht J) (du hx1)<|bn ?_;refine ac (ac (aG ?_));refine an<|aq<|aA rfl<|bu rfl<|ap<|am ?_;cases so h;exact gN J J
  ·obtain⟨hx1,h⟩:=h
   refine au<|aq<|zo J (fM J J)<|ap<|ae<|br (ht J) (dn hx1)<|eK<|ae<|av<|aq<|zo J (j8 qK bV J J J (dB hx1))<|zo J (bE bV J J)<|bu J<|ap<|ak<|aA J<|aA J<|bP h fun newslice1 q_newslice1 h=>dj bJ J J J J dp J J (ht J) (ht J) q_newslice1 fun l2 c2=>?_;refine bu J<|aK<|al<|an<|ak<|zo rfl (lk (cQ hx1 hN1) rfl)<|aA rfl<|aK ?_;exact aW (aM (ih1 (i1+1) newslice1 l2 c2 ⟨cP hx1,h⟩) (bh J))
 ·obtain⟨hx,h⟩:=h
  refine au<|aq<|zo J (fM J J)<|ap<|ae<|br (ht J) (dn hx)<|eK<|ae<|av<|aq<|zo J (j8 qK bV J J J (dB hx))<|zo J (bE bV J J)<|bu J<|ap<|aq<|aA J<|aA J<|zo J (jL dp J) ?_;refine zo J (nF (ht J) (ht J))<|bu J<|ap<|aq<|aA J<|zo J (fH (ht J) hI)<|ap<|dQ h J (fun h=>?_) (fun h=>?_)
  ·refine ak ?_;exact(nn h).elim
  ·refine bC<|al<|an<|ak<|zo rfl (lk (cQ hx hN) rfl)<|aA rfl<|aK ?_;exact aW (aM (ih (i+1) (IntKind.i64.wrap (size+(e.length:Int))) ⟨cP hx,h⟩) (bh J))
theorem Jk(slices:(List (List Int))){R:(List Int)}(h:fY slices=some R):bg aP 158 [fX (gH) slices] (lW R):=(Hl _ h).spec

theorem ED(tag:Int){R:Int}(h:m9 tag=some R):bg aP 135 [cd tag] (cd R):=by
 refine bg.of Tryz.func135 J J J fun w0 S0=>aq<|zo J (fg)<|ap<|ae<|av<|aq<|aA J<|zo J (j6 J)<|aA J<|cD J J (fun hg=>cN J)<|cD J J (fun hg=>bv (aI J hg) hI)<|zo J (pn J J)<|bu J<|ap<|dQ h J (fun h=>?_) (fun h=>?_)
 ·refine aq<|zo J (fg)<|ap<|am ?_;refine aF (aa ?_);cases so h;exact aH J J
 ·refine aq<|aA J<|zo J (ev (ht J) hI)<|aA J<|bD J J (fun hg=>cN J)<|bD J J (fun hg=>jB (aI J hg) hI)<|zo J (ky J J)<|bu J<|ap<|dQ h J (fun h=>?_) (fun h=>?_)
  ·refine aq<|zo J (fg)<|ap<|am ?_;refine aF (aa ?_);cases so h;exact aH J J
  ·refine aq<|aA J<|zo J (ev (ht J) hI)<|aA J<|bD J J (fun hg=>cN J)<|bD J J (fun hg=>jB (aI J hg) hI)<|zo J (ky J J)<|bu J<|ap<|dQ h J (fun h=>?_) (fun h=>?_)
   ·refine aq<|zo J (fg)<|ap<|am ?_;refine aF (aa ?_);cases so h;exact aH J J
   ·refine bC<|al<|an<|aq<|zo rfl (fg)<|ap<|am ?_;cases so h;exact aH J J

theorem Jc(v:cO){R:cO}(h:qO v=some R):bg aP 184 [tD dr v] (tD dr R):=by
 refine bg.of Tryz.func184 J J J fun w0 S0=>aq<|wn (ht J) J fun b=>aX (r:=dr) (x:=zT) vP (fun _=>qM _) J fun b1=>ap<|ae<|aq<|zo J (fq 0 uV J J J)<|zo J (aV bJ J J qd (.tail _ (.head _)) (ht J))<|ap ?_;refine zG (Z:=fun v1=>il v1=some R) (Of:=fun v1=>[bx dr 82 b v1,bx dr 82 b1 zT]) (Gf:=fun v1=>[(1,tV (aD b 0)),(2,tV (aD b1 0))]) (fun v1 h=>?_) (fun K=>?_)
 ·skip
  refine an<|aq<|zo rfl (aV vP rfl rfl cV (.head _) (ht rfl))<|bT<|aC vP rfl ax rfl (ht rfl) (ht rfl)<|aT 2 rfl<|ap<|am<|bw ?_;cases so h;exact f8 J vP J J J
 ·skip
  refine ae<|av<|ae<|av<|ae ?_;refine zG (Z:=fun v2=>ms v2=some R) (Of:=fun v2=>[bx dr 82 b v2,bx dr 82 b1 zT]) (Gf:=fun v2=>[(1,tV (aD b 0)),(2,tV (aD b1 0))]) (fun v2 h=>?_) (fun K1=>?_)
  ·skip
   refine an<|aq<|zo rfl (fq 0 uV rfl rfl rfl)<|aC bJ rfl sN rfl (ht rfl) hI<|ap<|bn ?_;refine bM J (ac (bM J (ac (aG ?_))));exact cb (K (cO.mk (0:Int) v2.N v2.U v2.S) h) (bh J)
  ·skip
   refine ae ?_;refine Gp (Z:=mr v=some R) (Of:=[bx dr 82 b v,bx dr 82 b1 zT]) (Gf:=[(1,tV (aD b 0)),(2,tV (aD b1 0))]) (fun h=>?_) (fun K2=>?_)
   ·skip
    refine an<|ak<|zo rfl (fq 1 Av rfl rfl rfl)<|aC My rfl wL rfl (ht rfl) hI<|aK<|al ?_;exact cb (K1 (cO.mk v.Kind (0:Int) v.U v.S) h) (bh J)
   ·skip
    refine ae<|av<|ae<|ae<|aq<|zo J (j6 J)<|bu J<|ap<|dQ h J (fun h=>?_) (fun h=>?_)
    ·refine bn ?_;refine ac (ac (aG ?_));refine an<|aq<|zo rfl (fq 1 Av rfl rfl rfl)<|zo rfl (aV My rfl rfl sS (.tail _ (.head _)) (ht rfl))<|zo rfl (s3 rfl)<|aA rfl<|bD rfl rfl (fun hg=>fq 1 Av J J J)<|bD J J (fun hg=>aV My J J sS (.tail _ (.head _)) (aI J hg))<|bD J J (fun hg=>dd (aI J hg) hI)<|zo J (ky J J)<|ap<|dQ h J (fun h=>?_) (fun h=>?_)
     ·refine bn ?_;refine bM J (ac (bM J (ac (bM J (ac (bM J (ac (aG ?_))))))));refine bf ?_;exact cb (K v h) (bh J)
     ·refine bC<|al<|bf ?_;exact cb (K2 h) (bh J)
    ·refine eK<|ae<|aq<|zo J (j6 J)<|bu J<|ap<|dQ h J (fun h=>?_) (fun h=>?_)
     ·refine bn ?_;refine ac (ac (bM J (ac (aG ?_))));refine bf ?_;exact cb (K2 h) (bh J)
     ·refine eK<|ae<|aq<|zo J (j6 J)<|bu J<|ap<|dQ h J (fun h=>?_) (fun h=>?_)
      ·refine bn ?_;refine ac (ac (bM J (ac (bM J (ac (aG ?_))))));refine bf ?_;exact cb (K1 v h) (bh J)
      ·refine eK<|ae<|aq<|zo J (j6 J)<|bu J<|ap<|dQ h J (fun h=>?_) (fun h=>?_)
       ·refine bn ?_;refine ac (ac (bM J (ac (bM J (ac (bM J (ac (aG ?_))))))));refine an ?_;refine ge (Z:=fun v3=>mq v3=some R) (Of:=fun v3=>[bx dr 82 b v3,bx dr 82 b1 zT]) (Gf:=fun v3=>[(1,tV (aD b 0)),(2,tV (aD b1 0))]) (fun v3 h=>?_) (fun K3=>?_)
        ·skip
         refine bn ?_;refine bM J (ac (aG ?_));exact cb (K v3 h) (bh J)
        ·skip
         refine aq<|zo J (fq 3 Dj J J J)<|zo J (aV CI J J qc (.tail _ (.head _)) (ht J))<|zo J (Ak jP (ht J))<|zo J (jB (ht J) hI)<|ap<|dQ h J (fun h=>?_) (fun h=>?_)
         ·refine ak<|zo J (fq 0 uV J J J)<|bT<|aC bJ J sN J (ht J) hI<|zo J (fq 3 Dj J J J)<|aC CI J wK J (ht J) hS<|aK ?_;exact cb (K3 (cO.mk (0:Int) v.N v.U ([])) h) (bh J)
         ·refine bC<|bf ?_;exact cb (K3 v h) (bh J)
       ·refine eK<|aq<|zo J (j6 J)<|bu J<|ap<|dQ h J (fun h=>?_) (fun h=>?_)
        ·refine bn ?_;refine ac (bM J (ac (bM J (ac (bM J (ac (bM J (ac (aG ?_)))))))));refine an<|aq<|zo rfl (fq 0 uV rfl rfl rfl)<|bT<|aC bJ rfl sN rfl (ht rfl) hI<|zo rfl (fq 1 Av rfl rfl rfl)<|aC My rfl wL rfl (ht rfl) hI<|zo rfl (fq 2 Lp rfl rfl rfl)<|aC Mv rfl CO rfl (ht rfl) hI<|ap<|bn<|aG ?_;exact cb (K (cO.mk (0:Int) (0:Int) (0:Int) v.S) h) (bh J)
        ·refine eK<|bn ?_;refine bM J (ac (bM J (ac (bM J (ac (bM J (ac (bM J (ac (aG ?_))))))))));refine bf ?_;exact cb (K v h) (bh J)

theorem JA(v:cO){R:Int}(h:oN v=some R):bg aP 118 [tD dr v] (cd R):=by
 refine bg.of Tryz.func118 J J J fun w0 S0=>aq<|zo J (mp J)<|zo J (fg)<|ap<|ae<|aq<|zo J (bE vP J J)<|bP h fun r q_r h=>zo J (aO NO (Jc _ q_r) ⟨(ht J),be⟩)<|zo J (cJ (y:=zT) vP Ln qM (J))<|zo J (wb LQ (ht J) (ht J))<|ap<|dQ h J (fun h=>?_) (fun h=>?_)
 ·refine aq<|zo J (fg)<|ap<|am<|aa ?_;cases so h;exact aH J J
 ·refine eK<|aq<|zo J (fg)<|ap<|am ?_;cases so h;exact aH J J

theorem LD(v:cO){R:Bool}(h:oM v=some R):bg aP 68 [tD dr v] (ij R):=by
 refine bg.of Tryz.func68 J J J fun w0 S0=>aq<|zo J (mp J)<|zo J (fP)<|ap<|aq<|zo J (bE vP J J)<|bP h fun r q_r h=>zo J (aO Ok (JA _ q_r) ⟨(ht J),be⟩)<|zo J (j6 J)<|aA J<|bD J J (fun hg=>bZ uV qd J J)<|bD J J (fun hg=>aL bJ J J (aI J hg))<|bD J J (fun hg=>dd (aI J hg) hI)<|zo J (ky J J)<|bu J<|ap<|am ?_;cases so h;exact aH J J

theorem Jd(n:bq){R:Bool}(h:o0 n=some R):bg aP 181 [tD aQ n] (ij R):=by
 refine bg.of Tryz.func181 J J J fun w0 S0=>aq<|zo J (mp J)<|zo J (fP)<|ap<|ae<|aq<|zo J (bZ js eI J J)<|zo J (bE bJ J J)<|ap<|av<|aq<|zo J (j6 J)<|bu J<|ap<|dQ h J (fun h=>?_) (fun h=>?_)
 ·refine aq<|zo J (bZ tU lS J J)<|zo J (bE vP J J)<|bP h fun r q_r h=>zo J (aO Pw (LD _ q_r) ⟨(ht J),be⟩)<|aA J<|bD J J (fun hg=>bZ mC iw J J)<|bD J J (fun hg=>aL bJ J J (aI J hg))<|bD J J (fun hg=>bv (aI J hg) hI)<|zo J (ky J J)<|bu J<|ap<|am ?_;refine aF (aa ?_);cases so h;exact aH J J
 ·refine aq<|zo J (j6 J)<|bu J<|ap<|dQ h J (fun h=>?_) (fun h=>?_)
  ·refine aq<|zo J (bZ tU lS J J)<|zo J (bE vP J J)<|zo J (cJ (y:=zT) vP Ln qM (J))<|zo J (Eg LQ (ht J) (ht J))<|aA J<|bD J J (fun hg=>bZ mC iw J J)<|bD J J (fun hg=>aL bJ J J (aI J hg))<|bD J J (fun hg=>ev (aI J hg) hI)<|zo J (ky J J)<|aA J<|bD J J (fun hg=>bZ mC iw J J)<|bD J J (fun hg=>aL bJ J J (aI J hg))<|bD J J (fun hg=>fH (aI J hg) hI)<|zo J (ky J J)<|bu J<|ap<|am ?_;refine aF (aa ?_);cases so h;exact aH J J
  ·refine bC<|al<|an<|aq<|zo rfl (bZ tU lS rfl rfl)<|zo rfl (bE vP rfl rfl)<|zo rfl (cJ (y:=zT) vP Ln qM (J))<|zo J (Eg LQ (ht J) (ht J))<|aA J<|bD J J (fun hg=>bZ mC iw J J)<|bD J J (fun hg=>aL bJ J J (aI J hg))<|bD J J (fun hg=>bv (aI J hg) hI)<|zo J (ky J J)<|bu J<|ap<|am ?_;cases so h;exact aH J J

theorem EE(e:bk){R:(List Int)×Bool}(h:oZ e=some R):bg aP 115 [tD bc e] (tT [lW R.1,ij R.2]):=by
 refine bg.of Tryz.func115 J J J fun w0 S0=>aq<|zo J (mp J)<|zo J (aZ (show ay _ _ _ (lW ([]))from uR))<|zo J (fP)<|ap<|aq<|ci false bU 3<|zo J (aZ q5)<|ci false bU 3<|zo J (aZ q5)<|ap<|ae<|aq<|zo J (bZ fv c9 J J)<|zo J (bE mo J J)<|zo J (jL jv J)<|zo J (bj hI)<|aK ?_;refine an<|av<|aY (k:=15) J fun hN=>bO<|dV ?_;refine aM (xU (Z:=fun ls i all l c open1 l1 c1=>(e.Nodes.drop i=ls)∧iy ls i all open1=some R) (Of:=fun _ i all l c open1 l1 c1=>[cr bU 3 l c all,cr bU 3 l1 c1 open1]) (Gf:=fun _ i all l c open1 l1 c1=>[(4,n6 l c all),(5,n6 l1 c1 open1),(15,fX (aQ) e.Nodes),(16,jt e.Nodes),(17,cd (i:Int))]) (fun i all l c open1 l1 c1 h=>?_) (fun e1 tl ih i all l c open1 l1 c1 h=>?_) e.Nodes 0 mP none 0 mP none 0 ⟨J,h⟩) (bh J)
 ·obtain⟨hx,h⟩:=h
  refine au<|aq<|zo J (fM J J)<|ap<|ae<|bt (ht J) (du hx)<|bn ?_;refine ac (ac (aG ?_));refine an<|aq<|aA rfl<|aA rfl<|zo rfl (em dp (.tail _ (.head _)) (ht rfl))<|zo rfl (j6 rfl)<|aA rfl<|bD rfl rfl (fun hg=>cN J)<|bD J J (fun hg=>em dp (.head _) (aI J hg))<|bD J J (fun hg=>jB (aI J hg) hI)<|zo J (ky J J)<|bu J<|bu J<|ap<|am<|ii<|jK 4 J<|jK 84 J<|jK 2 J<|rR 2 J<|bw<|bw ?_;cases so h;exact fW J J J
 ·obtain⟨hx,h⟩:=h
  refine au<|aq<|zo J (fM J J)<|ap<|ae<|br (ht J) (dn hx)<|eK<|ae<|av<|aq<|aA J<|zo J (j8 jv dy J J J (dB hx))<|zo J (bE dy J J)<|aX (r:=aQ) (x:=Cu) dy (fun _=>np _) J fun b=>bu J<|aC dy J ax J (ht J) (ht J)<|aT 7 J<|ap<|ae ?_;refine ak<|zo J (bZ js eI J J)<|zo J (bE bJ J J)<|bP h fun r q_r h=>zo J (aO Ky (ED _ q_r) ⟨(ht J),be⟩)<|bu J<|ap<|ae<|aq<|aA J<|zo J (fH (ht J) hI)<|aA J<|cD J J (fun hg=>cN J)<|cD J J (fun hg=>cN J)<|cD J J (fun hg=>em dp (.tail _ (.head _)) (aI J hg))<|cD J J (fun hg=>iu (aI J hg) (aI J hg))<|zo J (pn J J)<|aA J<|bP h fun t q_t h=>cD J J (fun hg=>bE dy J J) ?_
  obtain⟨r1,h1t,h0t⟩:=og q_t
  have q_r1g:=fun hb=>(h1t hb).1
  refine cD J J (fun hg=>aO NP (Jd _ (q_r1g hg)) ⟨(aI J hg),be⟩)<|cD J J (fun hg=>d7 (aI J hg))<|zo J (eH (ht J) (fun hb=>(aI J (mR hb))) (fun hb=>(h1t hb).2) h0t)<|ap<|dQ h J (fun h=>?_) (fun h=>?_)
  ·refine aq<|zo J (aZ (show ay _ _ _ (lW ([]))from uR))<|zo J (fP)<|ap<|am ?_;refine aa (aF (aa (aa (aF (aa ?_)))));refine bw<|bw ?_;cases so h;exact fW J J J
  ·refine eK<|aq<|aA J<|aA J<|zo J (em dp (.tail _ (.head _)) (ht J))<|aA J<|zo J (gy (ht J) (ht J))<|bP h fun y q_y h=>zo J (md dp bJ J (.tail _ (.head _)) (ht J) (ht J) q_y)<|mH (.tail _ (.head _)) q_y fun hv=>bu J<|ap<|aq<|zo J (n9 (r:=bU) (ys:=[nO,nO]) (xs:=[.const (.int .i64 (-1)),.const (.int .i64 (-1))]) wr bJ J vQ J J ⟨hI,hI,be⟩)<|aX (r:=yh) (x:=(List.replicate 2 (0:Int))) vQ (fun _=>B6 (r:=bU) 2 (fun _=>J) _) J fun b1=>aC vQ J ax J (ht J) (ht J)<|ap<|aq ?_;refine aA J<|bu J<|ap<|ae<|aq<|aA J<|zo J (Ef dp (.tail _ (.tail _ (.head _))) q_y (ht J))<|zo J (bj hI)<|ap<|av ?_
   have hN1:=hv.2
   refine bO<|lj<|lj ?_;refine aM (oE (Z:=fun ls1 i1 first at1=>(y.drop i1=ls1)∧jF (iy tl) i e1 all open1 r ls1 i1 first at1=some R) (Of:=fun _ i1 first at1=>[cr bU 3 l c all,cr bU 3 l1 c1 open1,bx yh 61 b1 at1]) (Gf:=fun _ i1 first at1=>[(4,n6 l c all),(5,n6 l1 c1 open1),(6,cd (i:Int)),(7,bB aQ e1),(8,cd r),(10,tV (aD b1 0)),(11,cd first),(15,fX (aQ) e.Nodes),(16,jt e.Nodes),(17,cd (i:Int)),(46,tV (kz 1 l1 c1 (IntKind.i64.wrap ((open1.length:Int)-r)).toNat y.length)),(47,jt y),(48,cd (i1:Int))]) (fun i1 first at1 h=>?_) (fun e2 tl1 ih1 i1 first at1 h=>?_) y 0 (i:Int) Gx ⟨J,h⟩) (bh J)
   ·obtain⟨hx1,h⟩:=h
    refine au<|aq<|zo J (fM J J)<|ap<|ae<|bt (ht J) (du hx1)<|bn ?_;refine ac (ac (aG ?_));refine an<|ae<|aq<|zo rfl (aV vQ rfl rfl cV (.tail _ (.tail _ (.head _))) (ht rfl))<|zo rfl (bZ tX qg rfl rfl)<|zo rfl (bE bJ rfl rfl)<|zo rfl (bZ tW qf rfl rfl)<|zo rfl (bE bJ rfl rfl)<|zo rfl (n9 (r:=bU) (ys:=[e1.L,e1.R]) (xs:=[.tmp 65,.tmp 67]) wr bJ J vQ J J ⟨(ht J),(ht J),be⟩)<|zo J (wb JK (ht J) (ht J))<|ap<|dQ h J (fun h=>?_) (fun h=>?_)
    ·refine aq<|zo J (aZ (show ay _ _ _ (lW ([]))from uR))<|zo J (fP)<|ap<|am ?_;refine aa (aF (aa (aa (aF (aa ?_)))));refine bw<|bw<|bw ?_;cases so h;exact fW J J J
    ·refine eK<|aq<|aA J<|aA J<|zo J (bF (r:=bU) (ys:=[first]) (xs:=[.tmp 71]) dp bJ J J J J J ⟨(ht J),be⟩)<|bP h fun all1 q_all1 h=>dj bJ J J J J dp J J (ht J) (ht J) q_all1 fun l2 c2=>bu J<|ap<|ak<|aA J<|aA J<|zo J (em dp (.tail _ (.head _)) (ht J))<|aA J<|zo J (gy (ht J) (ht J))<|bP h fun y1 q_y1 h=>zo J (kP dp bJ J (.tail _ (.head _)) (ht J) (ht J) q_y1)<|aA J<|zo J (bF (r:=bU) (ys:=[(i:Int)]) (xs:=[.tmp 80]) dp bJ J J J J J ⟨(ht J),be⟩)<|bT<|xQ q_y1 ?_;refine bP h fun open2 q_open2 h=>dj bJ J J J J dp J J (ht J) (ht J) q_open2 fun l3 c3=>bu J<|aK<|al<|an<|ak<|zo rfl (lk (cQ hx hN) rfl)<|aA rfl<|aK<|aJ<|bw<|bf ?_;exact aW (aM (ih (i+1) all1 l2 c2 open2 l3 c3 ⟨cP hx,h⟩) (bh J))
   ·obtain⟨hx1,h⟩:=h
    refine au<|aq<|zo J (fM J J)<|ap<|ae<|br (ht J) (dn hx1)<|eK<|ae<|av<|aq<|aA J<|zo J (sl dp bJ J (.tail _ (.head _)) q_y (ht J) (ht J) (dB hx1))<|zo J (dR (r:=bU) (i:=((IntKind.i64.wrap ((open1.length:Int)-r))+(i1:Int))) (foff:=0) bJ J J cV J (.tail _ (.head _)) (sK q_y (dB hx1)).1 (ht J))<|bu J<|bu J<|ap<|bP h fun e3 q_e3 h=>bP h fun e4 q_e4 h=>bP h fun ar q_ar h=>?_
    refine nB 10 [tc (cd (i1:Int)),tc (cd e2),tc (cd first),tc (n6 l c all),tc (cd e2),tc (tV (iE l (e2.toNat*1+0))),tc (cd e3),tc (cd (min first e3)),tc (tV (aD b1 ((i1:Int).toNat*1))),tc (wE)] [false,false,false,false,false,false,false,false,false,true] [fun _=>[cr bU 3 l c all,cr bU 3 l1 c1 open1,bx yh 61 b1 at1],fun sg=>[bx yh 61 b1 ar,cr bU 3 l c all,cr bU 3 l1 c1 open1]] J mixed J J J J J
     ⟨⟨[⟨12,fun _=>tD bU (i1:Int),none⟩],_,0,0,J,⟨(fun _=>J),be⟩,J,J,J,J,J,fun _ sg _ _=>ah J (cN J)⟩,
     ⟨⟨[⟨13,fun _=>tD bU e2,none⟩],_,0,0,J,⟨(fun _=>J),be⟩,J,J,J,J,J,fun _ sg _ _=>ah J (cN J)⟩,
     ⟨⟨[⟨11,fun _=>tD bU first,none⟩],_,0,1,J,⟨(fun _=>J),be⟩,J,J,J,J,J,fun _ sg _ _=>ah J (cN J)⟩,
     ⟨⟨[⟨4,fun _=>tV (ai l c all.length),none⟩],_,0,1,J,⟨(fun _=>J),be⟩,J,J,J,J,J,fun _ sg _ _=>ah J (cN J)⟩,
     ⟨⟨[⟨13,fun _=>tD bU e2,none⟩],_,0,1,J,⟨(fun _=>J),be⟩,J,J,J,J,J,fun _ sg _ _=>ah J (cN J)⟩,
     ⟨⟨[⟨56,fun _=>tV (ai l c all.length),some 3⟩,⟨57,fun _=>tD bU e2,some 4⟩],_,0,1,J,⟨(fun _=>J),(fun _=>J),be⟩,J,J,J,J,J,yl (fun sg=>ah J (cz dp bJ (.head _) (ht J) (ht J) q_e3)) (oG (fun sg=>ah J (cz dp bJ (.tail _ (.head _)) (ht J) (ht J) q_e3)))⟩,
     ⟨⟨[⟨58,fun _=>tV (iE l (e2.toNat*1+0)),some 5⟩],_,0,1,J,⟨(fun _=>J),be⟩,J,J,J,J,J,yl (fun sg=>ah J (dR (r:=bU) (i:=e2) (foff:=0) bJ J J cV J (.head _) q_e3 (ht J))) (oG (fun sg=>ah J (dR (r:=bU) (i:=e2) (foff:=0) bJ J J cV J (.tail _ (.head _)) q_e3 (ht J))))⟩,
     ⟨⟨[⟨55,fun _=>tD bU first,some 2⟩,⟨59,fun _=>tD bU e3,some 6⟩],_,0,1,J,⟨(fun _=>J),(fun _=>J),be⟩,J,J,J,J,J,fun _ sg _ _=>ah J (mz (ht J) (ht J))⟩,
     ⟨⟨[⟨10,fun _=>tV (aD b1 0),none⟩,⟨53,fun _=>tD bU (i1:Int),some 0⟩],_,0,0,J,⟨(fun _=>J),(fun _=>J),be⟩,J,J,J,J,J,oG (fun sg=>ah J (yz wr bJ (.tail _ (.tail _ (.head _))) (ht J) (ht J) q_e4))⟩,
     ⟨⟨[⟨61,fun _=>tV (aD b1 ((i1:Int).toNat*1)),some 8⟩,⟨54,fun _=>tD bU e2,some 1⟩],_,J,⟨(fun _=>J),(fun _=>J),be⟩,J,J,J,fun sg=>eJ J (EffOK.fr2 (Dv bJ J q_e4 (so q_ar) (ht J) (ht J)))⟩,
     be⟩⟩⟩⟩⟩⟩⟩⟩⟩⟩ (fun sg=>?_)
    refine(show RG _ _ _ _ [bx yh 61 b1 ar,cr bU 3 l c all,cr bU 3 l1 c1 open1] _ from ?_);refine bu J<|aK<|al<|an<|ak<|zo rfl (lk (cQ hx1 hN1) rfl)<|aA rfl<|aK<|aJ<|aJ ?_;exact aW (aM (ih1 (i1+1) (min first e3) ar ⟨cP hx1,h⟩) (bh J))

end Go.Proofs.YtmogpgcfognefaaGreatDoor

