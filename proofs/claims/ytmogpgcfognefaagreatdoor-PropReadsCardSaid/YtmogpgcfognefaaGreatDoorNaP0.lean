/- cG of this claim: P0. -/
import Derived.Test.YtmogpgcfognefaaGreatDoorNaT
import Derived.Test.YtmogpgcfognefaaGreatDoorNaF
set_option linter.all false
namespace Go.Proofs.YtmogpgcfognefaaGreatDoor
open Go
abbrev bW:=rI .i64
abbrev uF:=(⟨[]⟩:bo)
abbrev Bh:=(⟨(0:Int),(0:Int),(0:Int),(0:Int),[],false,uF,[],[],[],[],(0:Int)⟩:aF)
abbrev Al:=(⟨(0:Int),(0:Int),(0:Int),[]⟩:cP)
abbrev CM:=(⟨(0:Int),(0:Int),(0:Int),(0:Int),Al⟩:bt)
abbrev lZ:=fun(x:Bool)=>gU x
abbrev qN:=GL jn
abbrev Aj:=fun(x:(Option cq))=>[tD qN x]
abbrev tf:=(-1:Int)
abbrev La:=(⟨(1:Int),tf,tf,(0:Int),[(2:Int),(2:Int)],false,uF,[],[],[],[],(0:Int)⟩:aF)
abbrev K9:=(⟨(6:Int),(0:Int),tf,(0:Int),[],false,uF,[],[],[],[],(0:Int)⟩:aF)
abbrev Pb:=(⟨[La,K9],(1:Int),(3:Int),[]⟩:cT)
abbrev wn:=(⟨(0:Int),[]⟩:bu)
abbrev Pa:=(⟨(9:Int),tf,tf,(0:Int),[(2:Int),(2:Int)],false,uF,[],[],[],[],(0:Int)⟩:aF)
abbrev Ah:=fun(x:bu)=>tD bP x
abbrev D9:=fun(x:bp)=>[tD ck x]
abbrev mX:=GL fe
abbrev wa:=fun(x:aV)=>[tD bZ x]
abbrev yC:=(⟨[],(0:Int),(0:Int),[]⟩:cT)
abbrev rR:=fun(x:ji)=>tD rS x
abbrev mW:=([]:List Int)
abbrev qO:=(⟨[]⟩:bA)
abbrev yB:=fun(x:Bool)=>tD rB x
abbrev KZ:=(⟨[97],(2:Int)⟩:aV)
abbrev K0:=(⟨[98],(2:Int)⟩:aV)
abbrev Lc:=(⟨[116],[KZ,K0],[(0:Int)]⟩:bp)
abbrev Ak:=fun(x:Int)=>[ce x]
abbrev uE:=(⟨[]⟩:cZ)
abbrev Iu:=fun(x:bt×(List Int))=>[tD aR x.1,lx x.2]
abbrev Fo:=fun(x:aF)=>[tD aE x]
abbrev Fn:=tD mX (none:(Option bI))
abbrev CV:=(⟨(0:Int),uF⟩:gc)
abbrev pT:=dE bW
abbrev K8:=fun(x:bt×(List Int))=>[tD aR x.1,tD pT x.2]
abbrev Is:=fun(x:Int×Int)=>tT [ce x.1,ce x.2]
abbrev GU:=fun(x:iC)=>[tD fV x]
abbrev K7:=fun(x:gc×gc)=>[tD cS x.1,tD cS x.2]
abbrev Ir:=fun(x:bt)=>[tD aR x]
abbrev K6:=fun(x:Int×Int)=>tT [tD bW x.1,tD bW x.2]
abbrev Iq:=fun(x:bo)=>[tD be x]
abbrev K5:=(⟨[Pa],(2:Int),(4:Int),[]⟩:cT)
abbrev yA:=lR bW 2
abbrev Ip:=fun(x:Int)=>ce x
abbrev GT:=([]:List bt)
abbrev Ai:=Pi .i64
abbrev KY:=(⟨[],(0:Int)⟩:aV)
abbrev Fm:=dE aR
abbrev KX:=(⟨(1:Int),[]⟩:bu)
abbrev Io:=tV (ai none 0 0)
abbrev GR:=[tf,tf]
abbrev Im:=([]:List bo)
abbrev KW:=([]:List (List Int))
set_option maxRecDepth 100000

theorem Jt(s:(List Int))(f:(Int→Option Bool)){R:Int}(h:jg s f=some R):bg aP 205 [lx s,(fH aP Ak lZ (fun(x:Int)=>f x))] (ce R):=by
 refine bg.of Tryz.func205 J J J fun w0 S0=>au<|zo J (fi)<|ap<|ae<|au<|aA J<|zo J (jk dr J)<|zo J (bj hI)<|ap<|av<|aX (k:=6) J fun hN=>bK ?_;refine aM (eh (Z:=fun ls i=>(s.drop i=ls)∧eb f ls i=some R) (Of:=fun _ i=>[]) (Gf:=fun _ i=>[(0,lx s),(1,(fH aP Ak lZ (fun(x:Int)=>f x))),(7,je s),(8,ce (i:Int))]) (fun i h=>?_) (fun e tl ih i h=>?_) s 0 ⟨J,h⟩) (bh J)
 ·obtain⟨hx,h⟩:=h
  refine aq<|au<|zo J (fx J J)<|ap<|ae<|br (ht J) (dp hx)<|bk ?_;refine ac (ac (aG ?_));refine an<|au<|zo rfl (fi)<|ap<|am ?_;cases so h;exact aH J J
 ·obtain⟨hx,h⟩:=h
  refine aq<|au<|zo J (fx J J)<|ap<|ae<|bq (ht J) (dh hx)<|eK<|ae<|av<|au<|aA J<|bv J<|ap<|au<|aA J<|aA J<|aA J<|zo J (ka dr bL J J J (dy hx)) ?_;refine zo J (bC bL J J)<|bO h fun r q_r h=>zo J (gF (args:=(fun(x:Int)=>[tD bW x])) (res:=yB) (f:=(fun(x:Int)=>f x)) (x:=((e):Int)) (ht J) q_r ⟨(ht J),aY⟩)<|ap<|dN h J (fun h=>?_) (fun h=>?_)
  ·refine au<|aA J<|bv J<|ap<|am ?_;refine aB (aa (aa (aB (aa ?_))));cases so h;exact aH J J
  ·refine bD<|al<|an<|ak<|zo rfl (lb (cL hx hN) rfl)<|aA rfl<|aK ?_;exact aW (aM (ih (i+1) ⟨cK hx,h⟩) (bh J))

theorem wD(s:(List Int))(f:(Int→Option Bool)){R:Bool}(h:cU s f=some R):bg aP 136 [lx s,(fH aP Ak lZ (fun(x:Int)=>f x))] (gU R):=by
 refine bg.of Tryz.func136 J J J fun w0 S0=>au<|zo J (fC)<|ap<|au<|aA J<|aA J<|bO h fun r q_r h=>zo J (aL N8 (Jt _ _ q_r) ⟨(ht J),(ht J),aY⟩)<|zo J (ek (ht J) hI)<|bv J<|ap<|am ?_;cases so h;exact aH J J

theorem JE(k:Int){R:Bool}(h:m3 k=some R):bg aP 156 [ce k] (gU R):=by
 refine bg.of Tryz.func156 J J J fun w0 S0=>au<|zo J (fC)<|ap<|au<|aA J<|zo J (fz (ht J) hI)<|aA J<|cQ J J (fun hg=>cM J)<|cQ J J (fun hg=>gZ (aJ J hg) hI)<|zo J (pr J J)<|bv J<|ap<|am ?_;cases so h;exact aH J J

theorem Ny(b:Nat)(ix:OI)(l:af){R:Bool×af}(h:jz l=some R):fT aP 83 [tV (aD b 0)] (du b l ix) (fun _:OI=>gU R.1) (fun j=>du b R.2 j):=by
 refine fT.of Tryz.func83 J J J fun w0 S0=>?_;refine(show CG _ _ _ [bx (rH aN [(1,ai (ix.h 0).1 (ix.h 0).2 l.kinds.length),(2,ai (ix.h 1).1 (ix.h 1).2 l.open_.length)]) 124 b l,gX gz 29 (ix.h 0).1 (ix.h 0).2 l.kinds,cu bW 3 (ix.h 1).1 (ix.h 1).2 l.open_] _ from ?_);refine au<|zo J (fC)<|ap<|au<|aA J<|aA J<|zo J (aS (ht J))<|zo J (eY 3 fb J J J)<|zo J (eY 7 nb J J J)<|zo J (aT (r:=rH aN [(1,ai (ix.h 0).1 (ix.h 0).2 l.kinds.length),(2,ai (ix.h 1).1 (ix.h 1).2 l.open_.length)]) (x:=l) bT J J (fD (eD dX gQ)) (.head _) (ht J))<|zo J (aS (ht J))<|zo J (eY 17 ef J J J)<|lO (gR bT J (qT (hs' :=[(1,ai (ix.h 0).1 (ix.h 0).2 l.kinds.length),(2,ai (ix.h 1).1 (ix.h 1).2 l.open_.length)]) od ⟨.inr ⟨J,J⟩,.inr ⟨J,J⟩,aY⟩ J) J (ht J) (ht J)) fun i=>?_;refine(show RG _ _ _ _ [bx (rH aN [(1,ai (ix.h 0).1 (ix.h 0).2 l.kinds.length),(2,ai (ix.h 1).1 (ix.h 1).2 l.open_.length)]) 124 b ({l with result:=l.n.Kinds}:af),gX gz 29 (ix.h 0).1 (ix.h 0).2 l.kinds,cu bW 3 (ix.h 1).1 (ix.h 1).2 l.open_] _ from ?_);refine ap<|au<|aA J<|zo J (aS (ht J))<|zo J (eY 3 fb J J J)<|zo J (eY 7 nb J J J)<|zo J (aT (r:=rH aN [(1,ai (ix.h 0).1 (ix.h 0).2 l.kinds.length),(2,ai (ix.h 1).1 (ix.h 1).2 l.open_.length)]) (x:=({l with result:=l.n.Kinds}:af)) bT J J (fD (eD dX gQ)) (.head _) (ht J))<|bO h fun r q_r h=>zo J (aL EZ (wD _ _ q_r) ⟨(ht J),(AM Oo fun x y h=>JE _ h),aY⟩)<|zo J (d9 (ht J))<|bv J<|ap<|au<|aA J<|aA J<|bE J J (fun hg=>cM J)<|bE J J (fun hg=>aS (aJ J hg))<|bE J J (fun hg=>bB (n:=3) fb J (aJ J hg) J)<|bE J J (fun hg=>bB (n:=6) nc J (aJ J hg) J)<|bE J J (fun hg=>aT (r:=rH aN [(1,ai (ix.h 0).1 (ix.h 0).2 l.kinds.length),(2,ai (ix.h 1).1 (ix.h 1).2 l.open_.length)]) (x:=({l with result:=l.n.Kinds}:af)) bL J J (fD (eD dX gi)) (.head _) (aJ J hg)) ?_;refine bE J J (fun hg=>ek (aJ J hg) hI)<|zo J (kM J J)<|aA J<|bE J J (fun hg=>cM J)<|bE J J (fun hg=>aS (aJ J hg))<|bE J J (fun hg=>bB (n:=3) fb J (aJ J hg) J)<|bE J J (fun hg=>bB (n:=6) nc J (aJ J hg) J)<|bE J J (fun hg=>aT (r:=rH aN [(1,ai (ix.h 0).1 (ix.h 0).2 l.kinds.length),(2,ai (ix.h 1).1 (ix.h 1).2 l.open_.length)]) (x:=({l with result:=l.n.Kinds}:af)) bL J J (fD (eD dX gi)) (.head _) (aJ J hg))<|bE J J (fun hg=>fz (aJ J hg) hI)<|zo J (kM J J)<|aA J<|bE J J (fun hg=>cM J)<|bE J J (fun hg=>aS (aJ J hg))<|bE J J (fun hg=>bB (n:=3) fb J (aJ J hg) J)<|bE J J (fun hg=>bB (n:=7) nb J (aJ J hg) J)<|bE J J (fun hg=>aT (r:=rH aN [(1,ai (ix.h 0).1 (ix.h 0).2 l.kinds.length),(2,ai (ix.h 1).1 (ix.h 1).2 l.open_.length)]) (x:=({l with result:=l.n.Kinds}:af)) bT J J (fD (eD dX gQ)) (.head _) (aJ J hg))<|bE J J (fun hg=>bS dr (aJ J hg))<|bE J J (fun hg=>gZ (aJ J hg) hI)<|zo J (kM J J)<|aA J<|bE J J (fun hg=>cM J)<|bE J J (fun hg=>aS (aJ J hg))<|bE J J (fun hg=>bB (n:=3) fb J (aJ J hg) J)<|bE J J (fun hg=>bB (n:=7) nb J (aJ J hg) J) ?_;refine bE J J (fun hg=>aT (r:=rH aN [(1,ai (ix.h 0).1 (ix.h 0).2 l.kinds.length),(2,ai (ix.h 1).1 (ix.h 1).2 l.open_.length)]) (x:=({l with result:=l.n.Kinds}:af)) bT J J (fD (eD dX gQ)) (.head _) (aJ J hg))<|bE J J (fun hg=>bS dr (aJ J hg))<|bE J J (fun hg=>jh (aJ J hg) hI)<|zo J (kM J J)<|bv J<|ap<|am<|aI<|aI<|aI ?_;cases so h;exact c0 J ix J J (fun _ _ h=>h)

theorem JD(k:Int){R:Bool}(h:mD k=some R):bg aP 157 [ce k] (gU R):=by
 refine bg.of Tryz.func157 J J J fun w0 S0=>au<|zo J (fC)<|ap<|au<|aA J<|zo J (fz (ht J) hI)<|aA J<|cQ J J (fun hg=>cM J)<|cQ J J (fun hg=>gZ (aJ J hg) hI)<|zo J (pr J J)<|bv J<|ap<|am ?_;cases so h;exact aH J J

theorem Nx(b:Nat)(ix:OI)(l:af){R:Bool×af}(h:iJ l=some R):fT aP 84 [tV (aD b 0)] (du b l ix) (fun _:OI=>gU R.1) (fun j=>du b R.2 j):=by
 refine fT.of Tryz.func84 J J J fun w0 S0=>?_;refine(show CG _ _ _ [bx (rH aN [(1,ai (ix.h 0).1 (ix.h 0).2 l.kinds.length),(2,ai (ix.h 1).1 (ix.h 1).2 l.open_.length)]) 124 b l,gX gz 29 (ix.h 0).1 (ix.h 0).2 l.kinds,cu bW 3 (ix.h 1).1 (ix.h 1).2 l.open_] _ from ?_);refine au<|zo J (fC)<|ap<|au<|aA J<|aA J<|zo J (aS (ht J))<|zo J (eY 3 fb J J J)<|zo J (eY 7 nb J J J)<|zo J (aT (r:=rH aN [(1,ai (ix.h 0).1 (ix.h 0).2 l.kinds.length),(2,ai (ix.h 1).1 (ix.h 1).2 l.open_.length)]) (x:=l) bT J J (fD (eD dX gQ)) (.head _) (ht J))<|zo J (aS (ht J))<|zo J (eY 17 ef J J J)<|lO (gR bT J (qT (hs' :=[(1,ai (ix.h 0).1 (ix.h 0).2 l.kinds.length),(2,ai (ix.h 1).1 (ix.h 1).2 l.open_.length)]) od ⟨.inr ⟨J,J⟩,.inr ⟨J,J⟩,aY⟩ J) J (ht J) (ht J)) fun i=>?_;refine(show RG _ _ _ _ [bx (rH aN [(1,ai (ix.h 0).1 (ix.h 0).2 l.kinds.length),(2,ai (ix.h 1).1 (ix.h 1).2 l.open_.length)]) 124 b ({l with result:=l.n.Kinds}:af),gX gz 29 (ix.h 0).1 (ix.h 0).2 l.kinds,cu bW 3 (ix.h 1).1 (ix.h 1).2 l.open_] _ from ?_);refine ap<|au<|aA J<|zo J (aS (ht J))<|zo J (eY 3 fb J J J)<|zo J (eY 7 nb J J J)<|zo J (aT (r:=rH aN [(1,ai (ix.h 0).1 (ix.h 0).2 l.kinds.length),(2,ai (ix.h 1).1 (ix.h 1).2 l.open_.length)]) (x:=({l with result:=l.n.Kinds}:af)) bT J J (fD (eD dX gQ)) (.head _) (ht J))<|bO h fun r q_r h=>zo J (aL EZ (wD _ _ q_r) ⟨(ht J),(AM On fun x y h=>JD _ h),aY⟩)<|zo J (d9 (ht J))<|bv J<|ap<|au<|aA J<|aA J<|bE J J (fun hg=>cM J)<|bE J J (fun hg=>aS (aJ J hg))<|bE J J (fun hg=>bB (n:=3) fb J (aJ J hg) J)<|bE J J (fun hg=>bB (n:=6) nc J (aJ J hg) J)<|bE J J (fun hg=>aT (r:=rH aN [(1,ai (ix.h 0).1 (ix.h 0).2 l.kinds.length),(2,ai (ix.h 1).1 (ix.h 1).2 l.open_.length)]) (x:=({l with result:=l.n.Kinds}:af)) bL J J (fD (eD dX gi)) (.head _) (aJ J hg)) ?_;refine bE J J (fun hg=>ek (aJ J hg) hI)<|zo J (kM J J)<|aA J<|bE J J (fun hg=>cM J)<|bE J J (fun hg=>aS (aJ J hg))<|bE J J (fun hg=>bB (n:=3) fb J (aJ J hg) J)<|bE J J (fun hg=>bB (n:=6) nc J (aJ J hg) J)<|bE J J (fun hg=>aT (r:=rH aN [(1,ai (ix.h 0).1 (ix.h 0).2 l.kinds.length),(2,ai (ix.h 1).1 (ix.h 1).2 l.open_.length)]) (x:=({l with result:=l.n.Kinds}:af)) bL J J (fD (eD dX gi)) (.head _) (aJ J hg))<|bE J J (fun hg=>fz (aJ J hg) hI)<|zo J (kM J J)<|aA J<|bE J J (fun hg=>cM J)<|bE J J (fun hg=>aS (aJ J hg))<|bE J J (fun hg=>bB (n:=3) fb J (aJ J hg) J)<|bE J J (fun hg=>bB (n:=7) nb J (aJ J hg) J)<|bE J J (fun hg=>aT (r:=rH aN [(1,ai (ix.h 0).1 (ix.h 0).2 l.kinds.length),(2,ai (ix.h 1).1 (ix.h 1).2 l.open_.length)]) (x:=({l with result:=l.n.Kinds}:af)) bT J J (fD (eD dX gQ)) (.head _) (aJ J hg))<|bE J J (fun hg=>bS dr (aJ J hg))<|bE J J (fun hg=>gZ (aJ J hg) hI)<|zo J (kM J J)<|aA J<|bE J J (fun hg=>cM J)<|bE J J (fun hg=>aS (aJ J hg))<|bE J J (fun hg=>bB (n:=3) fb J (aJ J hg) J)<|bE J J (fun hg=>bB (n:=7) nb J (aJ J hg) J) ?_;refine bE J J (fun hg=>aT (r:=rH aN [(1,ai (ix.h 0).1 (ix.h 0).2 l.kinds.length),(2,ai (ix.h 1).1 (ix.h 1).2 l.open_.length)]) (x:=({l with result:=l.n.Kinds}:af)) bT J J (fD (eD dX gQ)) (.head _) (aJ J hg))<|bE J J (fun hg=>bS dr (aJ J hg))<|bE J J (fun hg=>jh (aJ J hg) hI)<|zo J (kM J J)<|bv J<|ap<|am<|aI<|aI<|aI ?_;cases so h;exact c0 J ix J J (fun _ _ h=>h)

theorem HE(n:Int){R:(List Int)}(h:jm n=some R):fc aP 215 [tV (.slice none 0 0),ce n] false bW 3 R:=by
 refine fc.of Tryz.func215 J J J fun w0 S0=>au<|cm false bW 3<|zo J (ba q6)<|ap ?_;refine zZ (Z:=jS n=some R) (Of:=[]) (Gf:=[(0,tV (.slice none 0 0)),(1,ce n)]) (fun h=>?_) (fun K=>?_)
 ·skip
  refine GC (Z:=fun s l c=>jR s=some R) (Of:=fun s l c=>[cu bW 3 l c s]) (Gf:=fun s l c=>[(0,oc l c s)]) (fun s l c h=>?_) (fun K1=>?_)
  ·skip
   refine au<|aA J<|bv J<|ap<|am ?_;cases so h;exact gy J J
  ·skip
   refine au<|aA J<|aA J<|zo J (zm dr (ht J))<|aA J<|zo J (zl dr (ht J))<|zo J (gE (ht J) (ht J))<|zo J (gE (ht J) (ht J))<|bv J<|ap<|au<|aA J<|zo J (gZ (ht J) hI)<|ap<|dN h J (fun h=>?_) (fun h=>?_)
   ·refine ak<|aA J<|aA J<|zo J (zm dr (ht J))<|zo J (BO dr bL (ht J) (ht J))<|aA J<|bO h fun u q_u h=>bO h fun mk q_mk h=>yh (Ci (r:=bW) (x:=(0:Int)) bL J J J J dr kL (fun _=>J) (ht J) (ht J) (Hx q_u) q_mk) J fun i=>aA J<|zo J (zl dr (ht J))<|bO h fun y q_y h=>zo J (kT dr bL J (.head _) (ht J) (ht J) q_y)<|yi q_y<|bv J<|aK ?_;exact cg (K1 y (i.h 0).1 (i.h 0).2 h) (bh J)
   ·refine bD<|If false bW 3 ?_;exact cg (K1 mW none 0 h) (bh J)
 ·skip
  refine au<|aA J<|zo J (fz (ht J) hI)<|ap<|dN h J (fun h=>?_) (fun h=>?_)
  ·refine ak ?_;exact(nn h).elim
  ·refine bD<|bl ?_;exact cg (K h) (bh J)
theorem HH(slices:(List (List Int))){R:(List Int)}(h:fZ slices=some R):fc aP 158 [fE (gz) slices] false bW 3 R:=by
 refine fc.of Tryz.func158 J J J fun w0 S0=>au<|cm false bW 3<|zo J (ba q6)<|ap<|au<|zo J (fi)<|ap<|ae<|au<|aA J<|zo J (jk pR J)<|zo J (bj hI)<|ap<|av<|aX (k:=9) J fun hN=>bK<|pc ?_;refine aM (jd (Z:=fun ls i size=>(slices.drop i=ls)∧gq slices ls size=some R) (Of:=fun _ i size=>[]) (Gf:=fun _ i size=>[(0,fE (gz) slices),(3,ce size),(9,fE (gz) slices),(10,je slices),(11,ce (i:Int))]) (fun i size h=>?_) (fun e tl ih i size h=>?_) slices 0 (0:Int) ⟨J,h⟩) (bh J)
 ·obtain⟨hx,h⟩:=h
  refine aq<|au<|zo J (fx J J)<|ap<|ae<|br (ht J) (dp hx)<|bk ?_;refine ac (ac (aG ?_));refine an<|au<|aA rfl<|bO h fun r q_r h=>jb N0 (HE _ q_r) ⟨hV,(ht J),aY⟩ J fun l c=>bv J<|ap<|ae<|au<|aA J<|zo J (jk pR J)<|zo J (bj hI)<|ap<|av<|aX (k:=25) J fun hN1=>bK ?_;refine aM (pL (Z:=fun ls1 i1 newslice l1 c1=>(slices.drop i1=ls1)∧gp ls1 newslice=some R) (Of:=fun _ i1 newslice l1 c1=>[cu bW 3 l1 c1 newslice]) (Gf:=fun _ i1 newslice l1 c1=>[(6,oc l1 c1 newslice),(25,fE (gz) slices),(26,je slices),(27,ce (i1:Int))]) (fun i1 newslice l1 c1 h=>?_) (fun e1 tl1 ih1 i1 newslice l1 c1 h=>?_) slices 0 r l c ⟨J,h⟩) (bh J)
  ·obtain⟨hx1,h⟩:=h
   refine aq<|au<|zo J (fx J J)<|ap<|ae<|br (ht J) (dp hx1)<|bk ?_;refine ac (ac (aG ?_));refine an<|au<|aA rfl<|bv rfl<|ap<|am ?_;cases so h;exact gy J J
  ·obtain⟨hx1,h⟩:=h
   refine aq<|au<|zo J (fx J J)<|ap<|ae<|bq (ht J) (dh hx1)<|eK<|ae<|av<|au<|zo J (ka pR bT J J J (dy hx1))<|zo J (bC bT J J)<|bv J<|ap<|ak<|aA J<|aA J<|bO h fun newslice1 q_newslice1 h=>dk bL J J J J dr J J (ht J) (ht J) q_newslice1 fun l2 c2=>?_;refine bv J<|aK<|al<|an<|ak<|zo rfl (lb (cL hx1 hN1) rfl)<|aA rfl<|aK ?_;exact aW (aM (ih1 (i1+1) newslice1 l2 c2 ⟨cK hx1,h⟩) (bh J))
 ·obtain⟨hx,h⟩:=h
  refine aq<|au<|zo J (fx J J)<|ap<|ae<|bq (ht J) (dh hx)<|eK<|ae<|av<|au<|zo J (ka pR bT J J J (dy hx))<|zo J (bC bT J J)<|bv J<|ap<|au<|aA J<|aA J<|zo J (jk dr J) ?_;refine zo J (nO (ht J) (ht J))<|bv J<|ap<|au<|aA J<|zo J (fz (ht J) hI)<|ap<|dN h J (fun h=>?_) (fun h=>?_)
  ·refine ak ?_;exact(nn h).elim
  ·refine bD<|al<|an<|ak<|zo rfl (lb (cL hx hN) rfl)<|aA rfl<|aK ?_;exact aW (aM (ih (i+1) (IntKind.i64.wrap (size+(e.length:Int))) ⟨cK hx,h⟩) (bh J))
theorem JC(slices:(List (List Int))){R:(List Int)}(h:fZ slices=some R):bg aP 158 [fE (gz) slices] (lx R):=(HH _ h).spec

theorem ES(tag:Int){R:Int}(h:nf tag=some R):bg aP 135 [ce tag] (ce R):=by
 refine bg.of Tryz.func135 J J J fun w0 S0=>au<|zo J (fi)<|ap<|ae<|av<|au<|aA J<|zo J (kc J)<|aA J<|cQ J J (fun hg=>cM J)<|cQ J J (fun hg=>bG (aJ J hg) hI)<|zo J (pr J J)<|bv J<|ap<|dN h J (fun h=>?_) (fun h=>?_)
 ·refine au<|zo J (fi)<|ap<|am ?_;refine aB (aa ?_);cases so h;exact aH J J
 ·refine au<|aA J<|zo J (ek (ht J) hI)<|aA J<|bE J J (fun hg=>cM J)<|bE J J (fun hg=>jh (aJ J hg) hI)<|zo J (kM J J)<|bv J<|ap<|dN h J (fun h=>?_) (fun h=>?_)
  ·refine au<|zo J (fi)<|ap<|am ?_;refine aB (aa ?_);cases so h;exact aH J J
  ·refine au<|aA J<|zo J (ek (ht J) hI)<|aA J<|bE J J (fun hg=>cM J)<|bE J J (fun hg=>jh (aJ J hg) hI)<|zo J (kM J J)<|bv J<|ap<|dN h J (fun h=>?_) (fun h=>?_)
   ·refine au<|zo J (fi)<|ap<|am ?_;refine aB (aa ?_);cases so h;exact aH J J
   ·refine bD<|al<|an<|au<|zo rfl (fi)<|ap<|am ?_;cases so h;exact aH J J

theorem Ju(v:cP){R:cP}(h:qP v=some R):bg aP 184 [tD dx v] (tD dx R):=by
 refine bg.of Tryz.func184 J J J fun w0 S0=>au<|wF (ht J) J fun b=>aZ (r:=dx) (x:=Al) wd (fun _=>qM _) J fun b1=>ap<|ae<|au<|zo J (eY 0 u3 J J J)<|zo J (aT bL J J qc (.tail _ (.head _)) (ht J))<|ap ?_;refine z7 (Z:=fun v1=>il v1=some R) (Of:=fun v1=>[bx dx 82 b v1,bx dx 82 b1 Al]) (Gf:=fun v1=>[(1,tV (aD b 0)),(2,tV (aD b1 0))]) (fun v1 h=>?_) (fun K=>?_)
 ·skip
  refine an<|au<|zo rfl (aT wd rfl rfl cH (.head _) (ht rfl))<|bM<|aC wd rfl aw rfl (ht rfl) (ht rfl)<|aU 2 rfl<|ap<|am<|bl ?_;cases so h;exact fP J wd J J J
 ·skip
  refine ae<|av<|ae<|av<|ae ?_;refine z7 (Z:=fun v2=>mz v2=some R) (Of:=fun v2=>[bx dx 82 b v2,bx dx 82 b1 Al]) (Gf:=fun v2=>[(1,tV (aD b 0)),(2,tV (aD b1 0))]) (fun v2 h=>?_) (fun K1=>?_)
  ·skip
   refine an<|au<|zo rfl (eY 0 u3 rfl rfl rfl)<|aC bL rfl sL rfl (ht rfl) hI<|ap<|bk ?_;refine bR J (ac (bR J (ac (aG ?_))));exact cg (K (cP.mk (0:Int) v2.N v2.U v2.S) h) (bh J)
  ·skip
   refine ae ?_;refine GJ (Z:=my v=some R) (Of:=[bx dx 82 b v,bx dx 82 b1 Al]) (Gf:=[(1,tV (aD b 0)),(2,tV (aD b1 0))]) (fun h=>?_) (fun K2=>?_)
   ·skip
    refine an<|ak<|zo rfl (eY 1 AP rfl rfl rfl)<|aC MS rfl xa rfl (ht rfl) hI<|aK<|al ?_;exact cg (K1 (cP.mk v.Kind (0:Int) v.U v.S) h) (bh J)
   ·skip
    refine ae<|av<|ae<|ae<|au<|zo J (kc J)<|bv J<|ap<|dN h J (fun h=>?_) (fun h=>?_)
    ·refine bk ?_;refine ac (ac (aG ?_));refine an<|au<|zo rfl (eY 1 AP rfl rfl rfl)<|zo rfl (aT MS rfl rfl sW (.tail _ (.head _)) (ht rfl))<|zo rfl (uz rfl)<|aA rfl<|bE rfl rfl (fun hg=>eY 1 AP J J J)<|bE J J (fun hg=>aT MS J J sW (.tail _ (.head _)) (aJ J hg))<|bE J J (fun hg=>dn (aJ J hg) hI)<|zo J (kM J J)<|ap<|dN h J (fun h=>?_) (fun h=>?_)
     ·refine bk ?_;refine bR J (ac (bR J (ac (bR J (ac (bR J (ac (aG ?_))))))));refine bf ?_;exact cg (K v h) (bh J)
     ·refine bD<|al<|bf ?_;exact cg (K2 h) (bh J)
    ·refine eK<|ae<|au<|zo J (kc J)<|bv J<|ap<|dN h J (fun h=>?_) (fun h=>?_)
     ·refine bk ?_;refine ac (ac (bR J (ac (aG ?_))));refine bf ?_;exact cg (K2 h) (bh J)
     ·refine eK<|ae<|au<|zo J (kc J)<|bv J<|ap<|dN h J (fun h=>?_) (fun h=>?_)
      ·refine bk ?_;refine ac (ac (bR J (ac (bR J (ac (aG ?_))))));refine bf ?_;exact cg (K1 v h) (bh J)
      ·refine eK<|ae<|au<|zo J (kc J)<|bv J<|ap<|dN h J (fun h=>?_) (fun h=>?_)
       ·refine bk ?_;refine ac (ac (bR J (ac (bR J (ac (bR J (ac (aG ?_))))))));refine an ?_;refine gj (Z:=fun v3=>mw v3=some R) (Of:=fun v3=>[bx dx 82 b v3,bx dx 82 b1 Al]) (Gf:=fun v3=>[(1,tV (aD b 0)),(2,tV (aD b1 0))]) (fun v3 h=>?_) (fun K3=>?_)
        ·skip
         refine bk ?_;refine bR J (ac (aG ?_));exact cg (K v3 h) (bh J)
        ·skip
         refine au<|zo J (eY 3 Dz J J J)<|zo J (aT C0 J J qb (.tail _ (.head _)) (ht J))<|zo J (AF jQ (ht J))<|zo J (jh (ht J) hI)<|ap<|dN h J (fun h=>?_) (fun h=>?_)
         ·refine ak<|zo J (eY 0 u3 J J J)<|bM<|aC bL J sL J (ht J) hI<|zo J (eY 3 Dz J J J)<|aC C0 J w9 J (ht J) hS<|aK ?_;exact cg (K3 (cP.mk (0:Int) v.N v.U ([])) h) (bh J)
         ·refine bD<|bf ?_;exact cg (K3 v h) (bh J)
       ·refine eK<|au<|zo J (kc J)<|bv J<|ap<|dN h J (fun h=>?_) (fun h=>?_)
        ·refine bk ?_;refine ac (bR J (ac (bR J (ac (bR J (ac (bR J (ac (aG ?_)))))))));refine an<|au<|zo rfl (eY 0 u3 rfl rfl rfl)<|bM<|aC bL rfl sL rfl (ht rfl) hI<|zo rfl (eY 1 AP rfl rfl rfl)<|aC MS rfl xa rfl (ht rfl) hI<|zo rfl (eY 2 LH rfl rfl rfl)<|aC MP rfl C4 rfl (ht rfl) hI<|ap<|bk<|aG ?_;exact cg (K (cP.mk (0:Int) (0:Int) (0:Int) v.S) h) (bh J)
        ·refine eK<|bk ?_;refine bR J (ac (bR J (ac (bR J (ac (bR J (ac (bR J (ac (aG ?_))))))))));refine bf ?_;exact cg (K v h) (bh J)

theorem JS(v:cP){R:Int}(h:oT v=some R):bg aP 118 [tD dx v] (ce R):=by
 refine bg.of Tryz.func118 J J J fun w0 S0=>au<|zo J (ms J)<|zo J (fi)<|ap<|ae<|au<|zo J (bC wd J J)<|bO h fun r q_r h=>zo J (aL N9 (Ju _ q_r) ⟨(ht J),aY⟩)<|zo J (cY (y:=Al) wd LC qM (J))<|zo J (wr Mc (ht J) (ht J))<|ap<|dN h J (fun h=>?_) (fun h=>?_)
 ·refine au<|zo J (fi)<|ap<|am<|aa ?_;cases so h;exact aH J J
 ·refine eK<|au<|zo J (fi)<|ap<|am ?_;cases so h;exact aH J J

theorem LV(v:cP){R:Bool}(h:oS v=some R):bg aP 68 [tD dx v] (gU R):=by
 refine bg.of Tryz.func68 J J J fun w0 S0=>au<|zo J (ms J)<|zo J (fC)<|ap<|au<|zo J (bC wd J J)<|bO h fun r q_r h=>zo J (aL OJ (JS _ q_r) ⟨(ht J),aY⟩)<|zo J (kc J)<|aA J<|bE J J (fun hg=>cc u3 qc J J)<|bE J J (fun hg=>aO bL J J (aJ J hg))<|bE J J (fun hg=>dn (aJ J hg) hI)<|zo J (kM J J)<|bv J<|ap<|am ?_;cases so h;exact aH J J

theorem Jv(n:bt){R:Bool}(h:o6 n=some R):bg aP 181 [tD aR n] (gU R):=by
 refine bg.of Tryz.func181 J J J fun w0 S0=>au<|zo J (ms J)<|zo J (fC)<|ap<|ae<|au<|zo J (cc jt eO J J)<|zo J (bC bL J J)<|ap<|av<|au<|zo J (kc J)<|bv J<|ap<|dN h J (fun h=>?_) (fun h=>?_)
 ·refine au<|zo J (cc tY lW J J)<|zo J (bC wd J J)<|bO h fun r q_r h=>zo J (aL PS (LV _ q_r) ⟨(ht J),aY⟩)<|aA J<|bE J J (fun hg=>cc mJ iz J J)<|bE J J (fun hg=>aO bL J J (aJ J hg))<|bE J J (fun hg=>bG (aJ J hg) hI)<|zo J (kM J J)<|bv J<|ap<|am ?_;refine aB (aa ?_);cases so h;exact aH J J
 ·refine au<|zo J (kc J)<|bv J<|ap<|dN h J (fun h=>?_) (fun h=>?_)
  ·refine au<|zo J (cc tY lW J J)<|zo J (bC wd J J)<|zo J (cY (y:=Al) wd LC qM (J))<|zo J (Ew Mc (ht J) (ht J))<|aA J<|bE J J (fun hg=>cc mJ iz J J)<|bE J J (fun hg=>aO bL J J (aJ J hg))<|bE J J (fun hg=>ek (aJ J hg) hI)<|zo J (kM J J)<|aA J<|bE J J (fun hg=>cc mJ iz J J)<|bE J J (fun hg=>aO bL J J (aJ J hg))<|bE J J (fun hg=>fz (aJ J hg) hI)<|zo J (kM J J)<|bv J<|ap<|am ?_;refine aB (aa ?_);cases so h;exact aH J J
  ·refine bD<|al<|an<|au<|zo rfl (cc tY lW rfl rfl)<|zo rfl (bC wd rfl rfl)<|zo rfl (cY (y:=Al) wd LC qM (J))<|zo J (Ew Mc (ht J) (ht J))<|aA J<|bE J J (fun hg=>cc mJ iz J J)<|bE J J (fun hg=>aO bL J J (aJ J hg))<|bE J J (fun hg=>bG (aJ J hg) hI)<|zo J (kM J J)<|bv J<|ap<|am ?_;cases so h;exact aH J J

theorem ET(e:bo){R:(List Int)×Bool}(h:o5 e=some R):bg aP 115 [tD be e] (tT [lx R.1,gU R.2]):=by
 refine bg.of Tryz.func115 J J J fun w0 S0=>au<|zo J (ms J)<|zo J (ba (show ay _ _ _ (lx ([]))from uX))<|zo J (fC)<|ap<|au<|cm false bW 3<|zo J (ba q6)<|cm false bW 3<|zo J (ba q6)<|ap<|ae<|au<|zo J (cc fB dc J J)<|zo J (bC mt J J)<|zo J (jk ju J)<|zo J (bj hI)<|aK ?_;refine an<|av<|aX (k:=15) J fun hN=>bK<|dM ?_;refine aM (ym (Z:=fun ls i all l c open1 l1 c1=>(e.Nodes.drop i=ls)∧iA ls i all open1=some R) (Of:=fun _ i all l c open1 l1 c1=>[cu bW 3 l c all,cu bW 3 l1 c1 open1]) (Gf:=fun _ i all l c open1 l1 c1=>[(4,oc l c all),(5,oc l1 c1 open1),(15,fE (aR) e.Nodes),(16,je e.Nodes),(17,ce (i:Int))]) (fun i all l c open1 l1 c1 h=>?_) (fun e1 tl ih i all l c open1 l1 c1 h=>?_) e.Nodes 0 mW none 0 mW none 0 ⟨J,h⟩) (bh J)
 ·obtain⟨hx,h⟩:=h
  refine aq<|au<|zo J (fx J J)<|ap<|ae<|br (ht J) (dp hx)<|bk ?_;refine ac (ac (aG ?_));refine an<|au<|aA rfl<|aA rfl<|zo rfl (ee dr (.tail _ (.head _)) (ht rfl))<|zo rfl (kc rfl)<|aA rfl<|bE rfl rfl (fun hg=>cM J)<|bE J J (fun hg=>ee dr (.head _) (aJ J hg))<|bE J J (fun hg=>jh (aJ J hg) hI)<|zo J (kM J J)<|bv J<|bv J<|ap<|am<|ii<|jL 4 J<|jL 84 J<|jL 2 J<|rP 2 J<|bl<|bl ?_;cases so h;exact fY J J J
 ·obtain⟨hx,h⟩:=h
  refine aq<|au<|zo J (fx J J)<|ap<|ae<|bq (ht J) (dh hx)<|eK<|ae<|av<|au<|aA J<|zo J (ka ju dB J J J (dy hx))<|zo J (bC dB J J)<|aZ (r:=aR) (x:=CM) dB (fun _=>nw _) J fun b=>bv J<|aC dB J aw J (ht J) (ht J)<|aU 7 J<|ap<|ae ?_;refine ak<|zo J (cc jt eO J J)<|zo J (bC bL J J)<|bO h fun r q_r h=>zo J (aL KN (ES _ q_r) ⟨(ht J),aY⟩)<|bv J<|ap<|ae<|au<|aA J<|zo J (fz (ht J) hI)<|aA J<|cQ J J (fun hg=>cM J)<|cQ J J (fun hg=>cM J)<|cQ J J (fun hg=>ee dr (.tail _ (.head _)) (aJ J hg))<|cQ J J (fun hg=>gZ (aJ J hg) (aJ J hg))<|zo J (pr J J)<|aA J<|bO h fun t q_t h=>cQ J J (fun hg=>bC dB J J) ?_
  obtain⟨r1,h1t,h0t⟩:=og q_t
  have q_r1g:=fun hb=>(h1t hb).1
  refine cQ J J (fun hg=>aL Oa (Jv _ (q_r1g hg)) ⟨(aJ J hg),aY⟩)<|cQ J J (fun hg=>d9 (aJ J hg))<|zo J (eN (ht J) (fun hb=>(aJ J (m6 hb))) (fun hb=>(h1t hb).2) h0t)<|ap<|dN h J (fun h=>?_) (fun h=>?_)
  ·refine au<|zo J (ba (show ay _ _ _ (lx ([]))from uX))<|zo J (fC)<|ap<|am ?_;refine aa (aB (aa (aa (aB (aa ?_)))));refine bl<|bl ?_;cases so h;exact fY J J J
  ·refine eK<|au<|aA J<|aA J<|zo J (ee dr (.tail _ (.head _)) (ht J))<|aA J<|zo J (gE (ht J) (ht J))<|bO h fun y q_y h=>zo J (mf dr bL J (.tail _ (.head _)) (ht J) (ht J) q_y)<|mO (.tail _ (.head _)) q_y fun hv=>bv J<|ap<|au<|zo J (mg (r:=bW) (ys:=[tf,tf]) (xs:=[.const (.int .i64 (-1)),.const (.int .i64 (-1))]) sw bL J tg J J ⟨hI,hI,aY⟩)<|aZ (r:=yA) (x:=(List.replicate 2 (0:Int))) tg (fun _=>Cq (r:=bW) 2 (fun _=>J) _) J fun b1=>aC tg J aw J (ht J) (ht J)<|ap<|au ?_;refine aA J<|bv J<|ap<|ae<|au<|aA J<|zo J (Ev dr (.tail _ (.tail _ (.head _))) q_y (ht J))<|zo J (bj hI)<|ap<|av ?_
   have hN1:=hv.2
   refine bK<|kz<|kz ?_;refine aM (oK (Z:=fun ls1 i1 first at1=>(y.drop i1=ls1)∧jF (iA tl) i e1 all open1 r ls1 i1 first at1=some R) (Of:=fun _ i1 first at1=>[cu bW 3 l c all,cu bW 3 l1 c1 open1,bx yA 61 b1 at1]) (Gf:=fun _ i1 first at1=>[(4,oc l c all),(5,oc l1 c1 open1),(6,ce (i:Int)),(7,bz aR e1),(8,ce r),(10,tV (aD b1 0)),(11,ce first),(15,fE (aR) e.Nodes),(16,je e.Nodes),(17,ce (i:Int)),(46,tV (kB 1 l1 c1 (IntKind.i64.wrap ((open1.length:Int)-r)).toNat y.length)),(47,je y),(48,ce (i1:Int))]) (fun i1 first at1 h=>?_) (fun e2 tl1 ih1 i1 first at1 h=>?_) y 0 (i:Int) GR ⟨J,h⟩) (bh J)
   ·obtain⟨hx1,h⟩:=h
    refine aq<|au<|zo J (fx J J)<|ap<|ae<|br (ht J) (dp hx1)<|bk ?_;refine ac (ac (aG ?_));refine an<|ae<|au<|zo rfl (aT tg rfl rfl cH (.tail _ (.tail _ (.head _))) (ht rfl))<|zo rfl (cc t6 qf rfl rfl)<|zo rfl (bC bL rfl rfl)<|zo rfl (cc tZ qe rfl rfl)<|zo rfl (bC bL rfl rfl)<|zo rfl (mg (r:=bW) (ys:=[e1.L,e1.R]) (xs:=[.tmp 65,.tmp 67]) sw bL J tg J J ⟨(ht J),(ht J),aY⟩)<|zo J (wr Gl (ht J) (ht J))<|ap<|dN h J (fun h=>?_) (fun h=>?_)
    ·refine au<|zo J (ba (show ay _ _ _ (lx ([]))from uX))<|zo J (fC)<|ap<|am ?_;refine aa (aB (aa (aa (aB (aa ?_)))));refine bl<|bl<|bl ?_;cases so h;exact fY J J J
    ·refine eK<|au<|aA J<|aA J<|zo J (bX (r:=bW) (ys:=[first]) (xs:=[.tmp 71]) dr bL J J J J J ⟨(ht J),aY⟩)<|bO h fun all1 q_all1 h=>dk bL J J J J dr J J (ht J) (ht J) q_all1 fun l2 c2=>bv J<|ap<|ak<|aA J<|aA J<|zo J (ee dr (.tail _ (.head _)) (ht J))<|aA J<|zo J (gE (ht J) (ht J))<|bO h fun y1 q_y1 h=>zo J (kT dr bL J (.tail _ (.head _)) (ht J) (ht J) q_y1)<|aA J<|zo J (bX (r:=bW) (ys:=[(i:Int)]) (xs:=[.tmp 80]) dr bL J J J J J ⟨(ht J),aY⟩)<|bM<|yi q_y1 ?_;refine bO h fun open2 q_open2 h=>dk bL J J J J dr J J (ht J) (ht J) q_open2 fun l3 c3=>bv J<|aK<|al<|an<|ak<|zo rfl (lb (cL hx hN) rfl)<|aA rfl<|aK<|aI<|bl<|bf ?_;exact aW (aM (ih (i+1) all1 l2 c2 open2 l3 c3 ⟨cK hx,h⟩) (bh J))
   ·obtain⟨hx1,h⟩:=h
    refine aq<|au<|zo J (fx J J)<|ap<|ae<|bq (ht J) (dh hx1)<|eK<|ae<|av<|au<|aA J<|zo J (si dr bL J (.tail _ (.head _)) q_y (ht J) (ht J) (dy hx1))<|zo J (dJ (r:=bW) (i:=((IntKind.i64.wrap ((open1.length:Int)-r))+(i1:Int))) (foff:=0) bL J J cH J (.tail _ (.head _)) (sI q_y (dy hx1)).1 (ht J))<|bv J<|bv J<|ap<|bO h fun e3 q_e3 h=>bO h fun e4 q_e4 h=>bO h fun ar q_ar h=>?_
    refine nI 10 [tc (ce (i1:Int)),tc (ce e2),tc (ce first),tc (oc l c all),tc (ce e2),tc (tV (iG l (e2.toNat*1+0))),tc (ce e3),tc (ce (min first e3)),tc (tV (aD b1 ((i1:Int).toNat*1))),tc (wW)] [false,false,false,false,false,false,false,false,false,true] [fun _=>[cu bW 3 l c all,cu bW 3 l1 c1 open1,bx yA 61 b1 at1],fun sg=>[bx yA 61 b1 ar,cu bW 3 l c all,cu bW 3 l1 c1 open1]] J mixed J J J J J
     ⟨⟨[⟨12,fun _=>tD bW (i1:Int),none⟩],_,0,0,J,⟨(fun _=>J),aY⟩,J,J,J,J,J,fun _ sg _ _=>ah J (cM J)⟩,
     ⟨⟨[⟨13,fun _=>tD bW e2,none⟩],_,0,0,J,⟨(fun _=>J),aY⟩,J,J,J,J,J,fun _ sg _ _=>ah J (cM J)⟩,
     ⟨⟨[⟨11,fun _=>tD bW first,none⟩],_,0,1,J,⟨(fun _=>J),aY⟩,J,J,J,J,J,fun _ sg _ _=>ah J (cM J)⟩,
     ⟨⟨[⟨4,fun _=>tV (ai l c all.length),none⟩],_,0,1,J,⟨(fun _=>J),aY⟩,J,J,J,J,J,fun _ sg _ _=>ah J (cM J)⟩,
     ⟨⟨[⟨13,fun _=>tD bW e2,none⟩],_,0,1,J,⟨(fun _=>J),aY⟩,J,J,J,J,J,fun _ sg _ _=>ah J (cM J)⟩,
     ⟨⟨[⟨56,fun _=>tV (ai l c all.length),some 3⟩,⟨57,fun _=>tD bW e2,some 4⟩],_,0,1,J,⟨(fun _=>J),(fun _=>J),aY⟩,J,J,J,J,J,yE (fun sg=>ah J (cw dr bL (.head _) (ht J) (ht J) q_e3)) (oL (fun sg=>ah J (cw dr bL (.tail _ (.head _)) (ht J) (ht J) q_e3)))⟩,
     ⟨⟨[⟨58,fun _=>tV (iG l (e2.toNat*1+0)),some 5⟩],_,0,1,J,⟨(fun _=>J),aY⟩,J,J,J,J,J,yE (fun sg=>ah J (dJ (r:=bW) (i:=e2) (foff:=0) bL J J cH J (.head _) q_e3 (ht J))) (oL (fun sg=>ah J (dJ (r:=bW) (i:=e2) (foff:=0) bL J J cH J (.tail _ (.head _)) q_e3 (ht J))))⟩,
     ⟨⟨[⟨55,fun _=>tD bW first,some 2⟩,⟨59,fun _=>tD bW e3,some 6⟩],_,0,1,J,⟨(fun _=>J),(fun _=>J),aY⟩,J,J,J,J,J,fun _ sg _ _=>ah J (lL (ht J) (ht J))⟩,
     ⟨⟨[⟨10,fun _=>tV (aD b1 0),none⟩,⟨53,fun _=>tD bW (i1:Int),some 0⟩],_,0,0,J,⟨(fun _=>J),(fun _=>J),aY⟩,J,J,J,J,J,oL (fun sg=>ah J (yQ sw bL (.tail _ (.tail _ (.head _))) (ht J) (ht J) q_e4))⟩,
     ⟨⟨[⟨61,fun _=>tV (aD b1 ((i1:Int).toNat*1)),some 8⟩,⟨54,fun _=>tD bW e2,some 1⟩],_,J,⟨(fun _=>J),(fun _=>J),aY⟩,J,J,J,fun sg=>dD J (EffOK.fr2 (DI bL J q_e4 (so q_ar) (ht J) (ht J)))⟩,
     aY⟩⟩⟩⟩⟩⟩⟩⟩⟩⟩ (fun sg=>?_)
    refine(show RG _ _ _ _ [bx yA 61 b1 ar,cu bW 3 l c all,cu bW 3 l1 c1 open1] _ from ?_);refine bv J<|aK<|al<|an<|ak<|zo rfl (lb (cL hx1 hN1) rfl)<|aA rfl<|aK<|aI<|aI ?_;exact aW (aM (ih1 (i1+1) (min first e3) ar ⟨cK hx1,h⟩) (bh J))

end Go.Proofs.YtmogpgcfognefaaGreatDoor

