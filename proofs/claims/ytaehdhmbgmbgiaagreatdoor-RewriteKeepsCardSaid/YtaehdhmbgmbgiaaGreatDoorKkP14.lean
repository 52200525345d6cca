import Derived.Test.YtaehdhmbgmbgiaaGreatDoorKkT
import Derived.Test.YtaehdhmbgmbgiaaGreatDoorKkP13
set_option linter.all false
namespace Go.Proofs.YtaehdhmbgmbgiaaGreatDoor
open Go IntKind Tryz
set_option maxRecDepth 100000
def U3 e r{R}(h:yA e r=some R):bZ aP 58 [Q ap e,cy (ah) r] (tT [Q ah R.1,bS R.2]):=by
 refine cx func58 Y<|aQ<|cg Y<|cg Y<|ax aT bK Y fun b=>bU<|bI<|bc<|bq bR Y<|cC h O5 (DH _) (bN Y) fun r1 h=>aS Y<|aD Y<|gw Y<|bI ?_;refine px h Y (fun h=>?_) (fun h=>?_)
 ·exact aQ<|T (bW aT wu bK Y)<|bj Y<|aW aT af Y<|bf Y<|am<|aF 4 Y<|so h▸br Y Y ⟨aU aT Y Y Y,aL Y,Z⟩
 ·refine iq<|bc<|bq bR Y<|pz h Xi (GO _) (bN Y) fun r2 h l c=>T (fJ iG (.head _) (J Y))<|T (bQ hI)<|bI<|an<|gH (.head _) fun hN=>bM ?_;refine aI (jP (ay:=fun ls i x=>(r2.drop i=ls)/\tk e r ls x=some R) (Of:=fun _ i x=>[eV cM 3 l c r2,bx ah 72 b x]) (Gf:=fun _ i x=>[(2,bH ap e),(3,bH d6 r),(4,tV (aE b 0)),(17,rr l c r2),(18,iQ r2),(19,bS (i:Int))]) (fun i x h=>?_) (fun e1 tl ih i x h=>?_) r2 0 tL ⟨Y,h⟩) (bA Y)
  ·obtain⟨V,h⟩:=h;refine dq V Y<|aw<|aQ<|cC h ale aew trivial fun r3 h=>ax (r:=rV) (x:= .map none) VI (fun _=>⟨Y,Y⟩) Y fun b1=>zR (jY (r' :=rT (KN (fun y:(ac->ac->Option (ac×Int))=>zw aP u7 yG (fun(x:ac×ac)=>y x.1 x.2)) qh r3)) (x' :=()) (q:=rT (KN (fun y:(ac->ac->Option (ac×Int))=>zw aP u7 yG (fun(x:ac×ac)=>y x.1 x.2)) qh r3)) (y:=()) VI Y (mu Y) Y (J Y) (hTT acq (show be _ _ _ (KN (fun y:(ac->ac->Option (ac×Int))=>zw aP u7 yG (fun(x:ac×ac)=>y x.1 x.2)) qh r3)from(J Y)))) fun _=>?_;refine(show RG _ _ _ _ (bx (rT (KN (fun y:(ac->ac->Option (ac×Int))=>zw aP u7 yG (fun(x:ac×ac)=>y x.1 x.2)) qh r3)) 167 b1 ()::_) _ from ?_);exact aA 9 Y<|bI<|aQ<|bq bR Y<|T ((show cu _ _ _ _ ((eD aP ab5 yG (fun(x:av×(List ac))=>(lY r r3) x.1 x.2)))from kN (cts:=[bH d6 r,bH (rT (KN (fun y:(ac->ac->Option (ac×Int))=>zw aP u7 yG (fun(x:ac×ac)=>y x.1 x.2)) qh r3)) ()]) (caps:=[.tmp 3,.tmp 9]) alc ⟨(J Y),(J Y),Z⟩ (fun x y h=>aeu _ _ _ _ h)))<|cC h ald (aev _ _) (bN Y) fun r4 h=>bL Y Y<|bL Y Y<|bo<|aW aT af Y<|bf Y<|aF 4 Y<|aO<|so h▸br Y Y ⟨aU aT Y Y Y,aL Y,Z⟩
  ·obtain⟨V,h⟩:=h;refine dp V Y<|aC<|an<|aQ<|T (ce iG cz (.head _) (J Y) (J Y) (de V))<|T (dj (r:=cM) (i:=(i:Int)) (foff:=0) cz Y Y bT Y (.head _) (de V) (J Y))<|aS Y<|aD Y<|bq ja Y<|ca oT Y ?_;refine T (iZ (J Y) (J Y))<|bj Y<|cj h fun t r_ h=>co Y (fun hg=>np ja Y Y)<|co Y (fa Y) ?_;obtain⟨e2,g_,s_⟩:=og r_;have E_:=fun H=>(g_ H).1;refine co Y (fun hg=>bn oT aT Y (db Y hg) (db Y hg) (E_ hg))<|co Y (gK aT Y Y) ?_;obtain⟨r5,g_⟩:=og2 (fun H=>(g_ H).2);have K_:=fun H=>(g_ H).1;refine co Y (fun hg=>bG Xh (Kf _ (K_ hg)) ⟨(db Y hg),Z⟩)<|co Y (yH Y)<|T (nt (J Y) (fun H=>(db Y (Ea H))) (fun H=>(g_ H).2) s_)<|cn h Y (fun h=>?_) (fun h=>?_)
   ·exact aQ<|T (bW aT wu bK Y)<|bo<|aW aT af Y<|dd<|cR<|am<|cR<|aF 4 Y<|aO<|so h▸br Y Y ⟨aU aT Y Y Y,aL Y,Z⟩
   ·refine bO<|cV V hN Y ?_;exact bg (aI (ih (i+1) x ⟨cJ V,h⟩) (bA Y))
def ahe a1{R}(h:Bd a1=some R):bZ aP 80 [Q ah a1] (iF R):=by
 refine cx func80 Y<|aQ<|cg Y<|ck<|bI<|aC<|cj h fun r h_ h=>?_;refine nQ (ts:=[_,_,_,_]) mixed Y Y
  ⟨oq 1 Y Y (np aT Y Y),
  ⟨Q6 Y (bG Xg (Ke _ h_) ⟨hB,Z⟩),
  ⟨dX 3 0 4 1 Y Y Y (Gx Vb (J Y) (J Y)),
  ⟨dy 5 2 Y Y (Aj Y),
  Z⟩⟩⟩⟩ ?_
 exact aw<|jm<|so h▸aM Y Y
def aaJ e r{R}(h:vP e r=some R):bZ aP 53 [Q ap e,cy (ah) r] (tT [iF R.1,bS R.2]):=by
 refine cx func53 Y<|aQ<|cg Y<|ck<|bU<|bI<|aQ<|bq bR Y<|bj Y<|cC h aic (U3 _ _) (bN Y) fun r1 h=>bj Y<|bL Y Y<|bL Y Y<|ax aT bK Y fun b=>aW aT af Y<|aA 6 Y<|aS Y<|aC ?_;exact aG<|bq aT Y<|cC h alT (ahe _) (bN Y) fun r2 h=>bj Y<|iH Y<|bf Y<|so h▸dM Y Y Y
def aji(b:Nat)(ix:OI) r n{R}(h:nw r n=some R):dZ aP 27 [tV (aE b 0),Q aq n] (nL b r ix) (fun _:OI=>tT [cy (d6) R.1,bS R.2]) (fun _=>(nL b r ix)):=by
 refine YQ func27 Y Y Y fun w0 S0=>?_;refine(show CG _ _ _ [bx (rH iY [(1,aY (ix.h 0).1 (ix.h 0).2 r.rows.length),(2,aY (ix.h 1).1 (ix.h 1).2 r.width.length)]) 77 b r,gh fG 31 (ix.h 0).1 (ix.h 0).2 r.rows,gh cM 3 (ix.h 1).1 (ix.h 1).2 r.width] _ from ?_);refine aQ<|cg Y<|ax (r:=fG) (x:=[]) ki (fun _=>⟨none,0,Y,kG _,nh _,.inl Y⟩) Y fun b1=>ax (r:=cM) (x:=0) T8 (fun _=>Y) Y fun b2=>bI<|aC<|cj h fun e i_ h=>cj h fun e1 Y' h=>?_;refine nQ (ts:=[_,_,_,_,_,_,_,_,_,_,_,_,_,_,_,_,_,_]) mixed Y Y
  ⟨eX Y Y,
  ⟨dy 16 0 Y Y (eK (J Y)),
  ⟨dy 17 1 Y Y (rP 1 wx Y Y Y),
  ⟨dy 18 2 Y Y (eS Be Y (.tail _ (.tail _ (.head _))) (.tail _ (.tail _ (.tail _ (.head _)))) (J Y)),
  ⟨oq 3 Y Y (mW k5 eE Y Y),
  ⟨fm 4 cz Y Y,
  ⟨dX 19 3 21 5 Y Y Y (bn rN ki Y (kX (J Y)) (J Y) i_),
  ⟨fm 6 ki Y Y,
  ⟨eX Y Y,
  ⟨dy 24 8 Y Y (eK (J Y)),
  ⟨dy 25 9 Y Y (rP 1 wx Y Y Y),
  ⟨dy 26 10 Y Y (eS Be Y (.tail _ (.tail _ (.head _))) (.tail _ (.tail _ (.tail _ (.head _)))) (J Y)),
  ⟨oq 3 Y Y (mW sH lC Y Y),
  ⟨fm 12 cz Y Y,
  ⟨dX 27 11 29 13 Y Y Y (bn rN ki Y (kX (J Y)) (J Y) Y'),
  ⟨fm 14 ki Y Y,
  ⟨dy 23 7 Y Y (Aj Y),
  ⟨dy 31 15 Y Y (Aj Y),
  Z⟩⟩⟩⟩⟩⟩⟩⟩⟩⟩⟩⟩⟩⟩⟩⟩⟩⟩ ?_
 refine aw<|bc<|bj Y<|ca nP Y<|bj Y<|ca nP Y<|T (Fl (J Y) (J Y))<|T (oI (J Y) hI)<|cn h Y (fun h=>?_) (fun h=>?_)
 ·exact aQ<|bo<|dc ki Y af Y (J Y) JB<|bo<|dc T8 Y af Y (J Y) hI<|cX<|am<|bv<|aF 4 Y<|aF 5 Y<|aH<|aH<|aH<|xp<|so h▸gI (ts:=[cy (d6) ([]),bS 3]) (rvs:=[.cell 4 31,.cell 5 32]) Y Y ⟨aU ki Y Y Y,aU T8 Y Y Y,Z⟩ tA Y Y
 ·refine iq<|aD Y<|ca nP Y<|cj h fun mk T_ h=>FD (aa6 (r:=rB) (x:=false) Na Y Y Y underlying109 (fun _=>Y) (J Y) (J Y) T_) Y fun i=>bJ false rB 4<|ax (x:=aY none 0 0) VK (fun _=>Hz) Y fun b3=>bo<|wK<|dc VK Y af Y (J Y) (Hf (J Y))<|bI<|aQ<|bJ false d6 68<|ax (x:=aY none 0 0) ki (fun _=>Hz) Y fun b4=>bI<|bc ?_;refine bj Y<|bj Y<|cj h fun it q_it h=>Pd al8 (ac4 _ _ q_it) ⟨(J Y),(J Y),Z⟩ Y fun v fp=>bI<|an<|cj h fun r1 a_ h=>aio ?_;refine Pj (fun(ix1:Option Nat×Nat×List (List ac)×Option Nat×Nat×List Bool×Int×(List (List ac)))=>[bx rV 31 b4 (aY ix1.1 ix1.2.1 ix1.2.2.1.length),eV d6 68 ix1.1 ix1.2.1 ix1.2.2.1,bx rV 109 b3 (aY ix1.2.2.2.1 ix1.2.2.2.2.1 ix1.2.2.2.2.2.1.length),eV rB 4 ix1.2.2.2.1 ix1.2.2.2.2.1 ix1.2.2.2.2.2.1,bx cM 32 b2 ix1.2.2.2.2.2.2.1,bx fG 31 b1 ix1.2.2.2.2.2.2.2,bx (rH iY [(1,aY (ix.h 0).1 (ix.h 0).2 r.rows.length),(2,aY (ix.h 1).1 (ix.h 1).2 r.width.length)]) 77 b r,gh fG 31 (ix.h 0).1 (ix.h 0).2 r.rows,gh cM 3 (ix.h 1).1 (ix.h 1).2 r.width]) (fun(ix1:Option Nat×Nat×List (List ac)×Option Nat×Nat×List Bool×Int×(List (List ac)))=>(ix1.2.2.1,ix1.2.2.2.2.2.1,ix1.2.2.2.2.2.2.1,ix1.2.2.2.2.2.2.2)) (fun _=> .ret) Y (J Y) (none,0,Kx,(i.h 0).1,(i.h 0).2,mk,0,[]) Y a_ (fun _=>Y) Y (fun ix1 x r2 h lp rec1 _ _ _=>?_) (fun i1 j hi bd=>⟨fun hj=>?_,fun _ hj=>?_⟩)
  ·obtain⟨l,c,xs,l1,c1,xs1,x1,x2⟩:=ix1
   replace h:kF n x xs xs1 x1 x2=some r2:=h
   refine(show CG _ _ _ [xy lp rec1 .ready none,bx rV 31 b4 (aY l c xs.length),eV d6 68 l c xs,bx rV 109 b3 (aY l1 c1 xs1.length),eV rB 4 l1 c1 xs1,bx cM 32 b2 x1,bx fG 31 b1 x2,bx (rH iY [(1,aY (ix.h 0).1 (ix.h 0).2 r.rows.length),(2,aY (ix.h 1).1 (ix.h 1).2 r.width.length)]) 77 b r,gh fG 31 (ix.h 0).1 (ix.h 0).2 r.rows,gh cM 3 (ix.h 1).1 (ix.h 1).2 r.width] _ from ?_);refine MY (G' :=[(0,tV (aE b 0)),(1,Q aq n),(3,bH aq n),(4,tV (aE b1 0)),(5,tV (aE b2 0)),(6,cy (d6) e),(7,cy (d6) e1),(8,tV (aE b3 0)),(9,tV (aE b4 0)),(16,tV (aE b 0)),(17,tV (aE b 0)),(18,tV (aE b 1)),(19,tO fG (ix.h 0).1 (ix.h 0).2 r.rows),(20,bH cM n.A),(21,bS n.A),(22,bH fG e),(23,cy (d6) e),(24,tV (aE b 0)),(25,tV (aE b 0)),(26,tV (aE b 1)),(27,tO fG (ix.h 0).1 (ix.h 0).2 r.rows),(28,bH cM n.B),(29,bS n.B),(30,bH fG e1),(31,cy (d6) e1),(32,cy (d6) e),(33,iQ e),(34,cy (d6) e1),(35,iQ e1),(36,bS (i64.wrap ((e.length:Int)*(e1.length:Int)))),(37,iF (decide (40000<(i64.wrap ((e.length:Int)*(e1.length:Int)))))),(38,cy (d6) e),(39,iQ e),(41,cy (d6) e),(42,cy (d6) e1),(44,bS x.1),(45,cy (ah) x.2)]) ?_ ⟨Y,Y,Y,Y,Y,Y,Y,Y,Y,Y,Y,Y,Y,Y,Y,Y,Y,Y,Y,Y,Y,Y,Y,Y,Y,Y,Y,Y,Y,Y,Y,Y,Y,Y,Y,Y,Y,Z⟩;refine aQ<|aS Y<|aG<|iH Y<|bD<|Po<|an<|aQ<|bX oV i7 bR Y<|bj Y<|cC h ajw (aaJ _ _) (bN Y) fun r3 h=>bj Y<|bL Y Y<|bL Y Y<|iH Y<|aS Y ?_;refine bc<|bj Y<|gw Y<|cn h Y (fun h=>?_) (fun h=>?_)
   ·exact aD Y<|DU<|dc ki Y af Y (J Y) JB<|DU<|aW T8 af Y<|cX<|am<|tz<|ii<|ii<|ii<|cU<|cU<|ii<|ii<|ii<|ii<|ii<|so h▸Hd 0 Y (l,c,xs,l1,c1,xs1,r3.2,[]) Y Y
   ·refine iq<|aD Y<|cn h Y (fun h=>?_) (fun h=>?_)
    ·refine aQ<|T (ip VK (.tail _ (.tail _ (.tail _ (.head _)))) (J Y))<|bj Y<|cj h fun e2 b_ h=>T (ce underlying109 Na (.tail _ (.tail _ (.tail _ (.tail _ (.head _))))) (J Y) (J Y) b_)<|qd<|cj h fun st c_ h=>nm Na Y af Y b_ (so c_) (J Y) hB<|fR (eT (so c_)) 57 Y<|t8 (O' :=[eV rB 4 l1 c1 st,xy lp rec1 .busy none,bx rV 31 b4 (aY l c xs.length),eV d6 68 l c xs,bx rV 109 b3 (aY l1 c1 st.length),bx cM 32 b2 x1,bx fG 31 b1 x2,bx (rH iY [(1,aY (ix.h 0).1 (ix.h 0).2 r.rows.length),(2,aY (ix.h 1).1 (ix.h 1).2 r.width.length)]) 77 b r,gh fG 31 (ix.h 0).1 (ix.h 0).2 r.rows,gh cM 3 (ix.h 1).1 (ix.h 1).2 r.width]) (by first|(rw [eT (so c_)];done)|(rw [eT (so c_)];exact Y)|exact Y)<|bI<|aG<|T (ip ki (.tail _ (.tail _ (.head _))) (J Y))<|bj Y<|T (aK (r:=d6) (ys:=[x.2]) (xs:=[.tmp 61]) nP ja Y Y Y Y Y ⟨(J Y),Z⟩)<|fj<|cj h fun l2 w_ h=>cD ja Y Y Y Y nP Y Y (J Y) (J Y) w_ fun l3 c2=>fj<|dc ki Y af Y (J Y) (Hf (J Y))<|bD<|bt ?_;exact ii<|ii<|ii<|ii<|ii<|Y9<|ii<|Pn<|Pn<|ii<|so h▸BV (l3,c2,l2,l1,c1,st,x1,x2) Y Y
    ·exact bO<|bt<|so h▸BV (l,c,xs,l1,c1,xs1,x1,x2) Y Y
  ·skip;obtain⟨l4,c3,xs2,l5,c4,xs3,x3,x4⟩:=i1;obtain rfl:xs2=r1.1.2.1:=congrArg (fun q:List (List ac)×List Bool×Int×(List (List ac))=>q.1) hi;obtain rfl:xs3=r1.1.2.2.1:=congrArg (fun q:List (List ac)×List Bool×Int×(List (List ac))=>q.2.1) hi;obtain rfl:x3=r1.1.2.2.2.1:=congrArg (fun q:List (List ac)×List Bool×Int×(List (List ac))=>q.2.2.1) hi;obtain rfl:x4=r1.1.2.2.2.2:=congrArg (fun q:List (List ac)×List Bool×Int×(List (List ac))=>q.2.2.2) hi;have h:=ct h (by rw [hj];rfl);refine(show AT _ _ _ [H0 bd,bx rV 31 b4 (aY l4 c3 r1.1.2.1.length),eV d6 68 l4 c3 r1.1.2.1,bx rV 109 b3 (aY l5 c4 r1.1.2.2.1.length),eV rB 4 l5 c4 r1.1.2.2.1,bx cM 32 b2 r1.1.2.2.2.1,bx fG 31 b1 r1.1.2.2.2.2,bx (rH iY [(1,aY (ix.h 0).1 (ix.h 0).2 r.rows.length),(2,aY (ix.h 1).1 (ix.h 1).2 r.width.length)]) 77 b r,gh fG 31 (ix.h 0).1 (ix.h 0).2 r.rows,gh cM 3 (ix.h 1).1 (ix.h 1).2 r.width] _ from ?_);refine cQ (G' :=[(0,tV (aE b 0)),(1,Q aq n),(3,bH aq n),(4,tV (aE b1 0)),(5,tV (aE b2 0)),(6,cy (d6) e),(7,cy (d6) e1),(8,tV (aE b3 0)),(9,tV (aE b4 0)),(16,tV (aE b 0)),(17,tV (aE b 0)),(18,tV (aE b 1)),(19,tO fG (ix.h 0).1 (ix.h 0).2 r.rows),(20,bH cM n.A),(21,bS n.A),(22,bH fG e),(23,cy (d6) e),(24,tV (aE b 0)),(25,tV (aE b 0)),(26,tV (aE b 1)),(27,tO fG (ix.h 0).1 (ix.h 0).2 r.rows),(28,bH cM n.B),(29,bS n.B),(30,bH fG e1),(31,cy (d6) e1),(32,cy (d6) e),(33,iQ e),(34,cy (d6) e1),(35,iQ e1),(36,bS (i64.wrap ((e.length:Int)*(e1.length:Int)))),(37,iF (decide (40000<(i64.wrap ((e.length:Int)*(e1.length:Int)))))),(38,cy (d6) e),(39,iQ e),(41,cy (d6) e),(42,cy (d6) e1)]) ?_ ⟨Y,Y,Y,Y,Y,Y,Y,Y,Y,Y,Y,Y,Y,Y,Y,Y,Y,Y,Y,Y,Y,Y,Y,Y,Y,Y,Y,Y,Y,Y,Y,Y,Y,Y,Y,Z⟩;refine bt<|aw<|bc<|bj Y<|ca nP Y<|T (bQ hI)<|bI<|an<|bm (k:=64) Y fun hN=>bM<|DV<|DV<|DV<|jL<|Pf<|u3<|u3<|Pf<|YW<|DV ?_;refine aI (kT (ay:=fun ls i2 out l6 c5=>(e.drop i2=ls)/\kE r n r1 ls i2 out=some R) (Of:=fun _ i2 out l6 c5=>[bx fG 31 b1 r1.1.2.2.2.2,bx cM 32 b2 r1.1.2.2.2.1,bx rV 109 b3 (aY l5 c4 r1.1.2.2.1.length),bx rV 31 b4 (aY l6 c5 out.length),eV d6 68 l6 c5 out,eV rB 4 l5 c4 r1.1.2.2.1,H0 bd,bx (rH iY [(1,aY (ix.h 0).1 (ix.h 0).2 r.rows.length),(2,aY (ix.h 1).1 (ix.h 1).2 r.width.length)]) 77 b r,gh fG 31 (ix.h 0).1 (ix.h 0).2 r.rows,gh cM 3 (ix.h 1).1 (ix.h 1).2 r.width]) (Gf:=fun _ i2 out l6 c5=>[(0,tV (aE b 0)),(3,bH aq n),(4,tV (aE b1 0)),(5,tV (aE b2 0)),(8,tV (aE b3 0)),(9,tV (aE b4 0)),(64,cy (d6) e),(65,iQ e),(66,bS (i2:Int))]) (fun i2 out l6 c5 h=>?_) (fun e3 tl ih i2 out l6 c5 h=>?_) e 0 r1.1.2.1 l4 c3 ⟨Y,h⟩) (bA Y)
   ·obtain⟨V,h⟩:=h;refine dq V Y<|aw<|aQ<|T (ip ki (.tail _ (.tail _ (.tail _ (.head _)))) (J Y))<|qd<|gk<|gW 96 Y<|bo<|dc ki Y af Y (J Y) (kX (J Y))<|eF<|dc T8 Y af Y (J Y) hI<|bD ?_;exact aw<|jm<|bv<|aF 4 Y<|aF 5 Y<|aO<|aO<|aO<|aO<|cv<|cv<|cv<|cv<|Hc<|xp<|so h▸gI (ts:=[cy (d6) out,bS 0]) (rvs:=[.cell 4 31,.cell 5 32]) Y Y ⟨aU ki Y Y Y,aU T8 Y Y Y,Z⟩ tA Y Y
   ·obtain⟨V,h⟩:=h;refine dp V Y<|aC<|an<|aD Y<|d8 nP ja Y (de V)<|iH Y<|aS Y<|aQ<|vh Fq ww Y ?_;refine bq Na Y<|bj Y<|cj h fun t r_ h=>bk Y (fun hg=>ip VK (.tail _ (.tail _ (.head _))) (J Y))<|bk Y (fa Y) ?_;obtain⟨e4,g_,s_⟩:=og r_;have q_e4g:=fun H=>(g_ H).1;refine bk Y (fun hg=>ce underlying109 Na (.tail _ (.tail _ (.tail _ (.tail _ (.tail _ (.head _)))))) (db Y hg) (db Y hg) (q_e4g hg))<|bk Y (fun hg=>dj (r:=rB) (i:=(i2:Int)) (foff:=0) Na Y Y bT Y (.tail _ (.tail _ (.tail _ (.tail _ (.tail _ (.head _)))))) (q_e4g hg) (db Y hg))<|bk Y (yH Y)<|T (ee (J Y) (fun H=>(db Y H)) (fun H=>(g_ H).2) s_)<|cn h Y (fun h=>?_) (fun h=>?_)
    ·refine cj h fun e5 p_ h=>cj h fun mk1 q_mk1 h=>cj h fun r4 x_ h=>?_;refine jQ 14 [tc (rr l6 c5 out),tc (cy (ah) e3),tc (tV (aE b 0)),tc (tV (aE b 0)),tc (tV (aE b 2)),tc (tO cM (ix.h 1).1 (ix.h 1).2 r.width),tc (bH cM n.B),tc (bS n.B),tc (bH cM e5),tc (bS e5),([10],fun s=>tO ah ((s.getD 0 tA).h 0).1 ((s.getD 0 tA).h 0).2 mk1),tc (cy (d6) ([e3,mk1])),tc (cy (ah) r4),tc (cy (d6) ([r4]))] [false,false,false,false,false,false,false,false,false,false,true,false,false,false] [([],fun _=>[bx fG 31 b1 r1.1.2.2.2.2,bx cM 32 b2 r1.1.2.2.2.1,bx rV 109 b3 (aY l5 c4 r1.1.2.2.1.length),bx rV 31 b4 (aY l6 c5 out.length),eV d6 68 l6 c5 out,eV rB 4 l5 c4 r1.1.2.2.1,H0 bd,bx (rH iY [(1,aY (ix.h 0).1 (ix.h 0).2 r.rows.length),(2,aY (ix.h 1).1 (ix.h 1).2 r.width.length)]) 77 b r,gh fG 31 (ix.h 0).1 (ix.h 0).2 r.rows,gh cM 3 (ix.h 1).1 (ix.h 1).2 r.width]),([10],fun sg=>[gh ah 72 ((sg 10).h 0).1 ((sg 10).h 0).2 mk1,bx fG 31 b1 r1.1.2.2.2.2,bx cM 32 b2 r1.1.2.2.2.1,bx rV 109 b3 (aY l5 c4 r1.1.2.2.1.length),bx rV 31 b4 (aY l6 c5 out.length),eV d6 68 l6 c5 out,eV rB 4 l5 c4 r1.1.2.2.1,H0 bd,bx (rH iY [(1,aY (ix.h 0).1 (ix.h 0).2 r.rows.length),(2,aY (ix.h 1).1 (ix.h 1).2 r.width.length)]) 77 b r,gh fG 31 (ix.h 0).1 (ix.h 0).2 r.rows,gh cM 3 (ix.h 1).1 (ix.h 1).2 r.width])] (fun _=>Y) mixed Y Y Y Y
      ⟨⟨[⟨9,fun _=>tV (aE b4 0),none⟩],_,[[],[10]],Y,⟨(fun _=>Y),Z⟩,Y,Y,Y,Y,Y,⟨fun sg=>ae Y (ip ki (.tail _ (.tail _ (.tail _ (.head _)))) (J Y)),fun sg=>ae Y (ip ki (.tail _ (.tail _ (.tail _ (.tail _ (.head _))))) (J Y)),Z⟩⟩,
      ⟨⟨[⟨15,fun _=>Q d6 e3,none⟩],_,[[],[10]],Y,⟨(fun _=>Y),Z⟩,Y,Y,Y,Y,Y,⟨fun sg=>ae Y (l0 Y),fun sg=>ae Y (l0 Y),Z⟩⟩,
      ⟨⟨[⟨0,fun _=>tV (aE b 0),none⟩],_,[[]],Y,⟨(fun _=>Y),Z⟩,Y,Y,Y,Y,Y,⟨fun sg=>ae Y (l0 Y),Z⟩⟩,
      ⟨⟨[⟨82,fun _=>tV (aE b 0),some 2⟩],_,[[]],Y,⟨(fun _=>Y),Z⟩,Y,Y,Y,Y,Y,⟨fun sg=>ae Y (eK (J Y)),Z⟩⟩,
      ⟨⟨[⟨83,fun _=>tV (aE b 0),some 3⟩],_,[[]],Y,⟨(fun _=>Y),Z⟩,Y,Y,Y,Y,Y,⟨fun sg=>ae Y (rP 2 Qq Y Y Y),Z⟩⟩,
      ⟨⟨[⟨84,fun _=>tV (aE b 2),some 4⟩],_,[[]],Y,⟨(fun _=>Y),Z⟩,Y,Y,Y,Y,Y,⟨fun sg=>ae Y (eS fS Y (.tail _ (.tail _ (.tail _ (.tail _ (.tail _ (.tail _ (.tail _ (.head _)))))))) (.tail _ (.tail _ (.tail _ (.tail _ (.tail _ (.tail _ (.tail _ (.tail _ (.tail _ (.head _)))))))))) (J Y)),Z⟩⟩,
      ⟨⟨[⟨3,fun _=>bH aq n,none⟩],_,[[]],Y,⟨(fun _=>Y),Z⟩,Y,Y,Y,Y,Y,⟨fun sg=>ae Y (mW sH lC Y Y),Z⟩⟩,
      ⟨⟨[⟨86,fun _=>bH cM n.B,some 6⟩],_,[[]],Y,⟨(fun _=>Y),Z⟩,Y,Y,Y,Y,Y,⟨fun sg=>ae Y (np cz Y Y),Z⟩⟩,
      ⟨⟨[⟨85,fun _=>tO cM (ix.h 1).1 (ix.h 1).2 r.width,some 5⟩,⟨87,fun _=>Q cM n.B,some 7⟩],_,[[]],Y,⟨(fun _=>Y),(fun _=>Y),Z⟩,Y,Y,Y,Y,Y,⟨fun sg=>ae Y (bn iG cz Y (kX (J Y)) (J Y) p_),Z⟩⟩,
      ⟨⟨[⟨88,fun _=>bH cM e5,some 8⟩],_,[[]],Y,⟨(fun _=>Y),Z⟩,Y,Y,Y,Y,Y,⟨fun sg=>ae Y (np cz Y Y),Z⟩⟩,
      ⟨⟨[⟨89,fun _=>Q cM e5,some 9⟩],_,[([],[10])],Y,⟨(fun _=>Y),Z⟩,Y,Y,Y,Y,Y,⟨fun sg=>cw Y (YB (r:=ah) (x:=tL) aT Y Y Y oT (fun _=>bK _) (J Y) (J Y) q_mk1),Z⟩⟩,
      ⟨⟨[⟨81,fun _=>Q d6 e3,some 1⟩,⟨90,fun sg=>tO ah ((sg 10).h 0).1 ((sg 10).h 0).2 mk1,some 10⟩],_,[[10]],Y,⟨(fun _=>Y),(fun _=>Y),Z⟩,Y,Y,Y,Y,Y,⟨fun sg=>ae Y (aK (r:=d6) (ys:=[e3,mk1]) (xs:=[.tmp 81,.tmp 90]) nP ja Y Y Y Y Y ⟨(J Y),(kX (J Y)),Z⟩),Z⟩⟩,
      ⟨⟨[⟨91,fun _=>Q fG ([e3,mk1]),some 11⟩],_,[[10]],Y,⟨(fun _=>Y),Z⟩,Y,Y,Y,Y,Y,⟨fun sg=>ae Y (bG ajv (ahr _ x_) ⟨(J Y),Z⟩),Z⟩⟩,
      ⟨⟨[⟨92,fun _=>Q d6 r4,some 12⟩],_,[[10]],Y,⟨(fun _=>Y),Z⟩,Y,Y,Y,Y,Y,⟨fun sg=>ae Y (aK (r:=d6) (ys:=[r4]) (xs:=[.tmp 92]) nP ja Y Y Y Y Y ⟨(J Y),Z⟩),Z⟩⟩,
      Z⟩⟩⟩⟩⟩⟩⟩⟩⟩⟩⟩⟩⟩⟩ (fun sg=>?_)
     refine(show RG _ _ _ _ [_,_,_,_,_,_,_,_,_,_,_] _ from ?_);refine u0<|cj h fun l7 q_l7 h=>cD ja Y Y Y Y nP Y Y (J Y) (J Y) q_l7 fun l8 c6=>u0<|dc ki Y af Y (J Y) (Hf (J Y))<|bD<|cV V hN Y<|aH<|aO<|ii<|ii<|ii<|ii<|ii<|qf<|qf<|ii<|ii<|ii ?_;exact bg (aI (ih (i2+1) l7 l8 c6 ⟨cJ V,h⟩) (bA Y))
    ·refine bO<|cV V hN Y ?_;exact bg (aI (ih (i2+1) out l6 c5 ⟨cJ V,h⟩) (bA Y))
  ·skip;obtain⟨l9,c7,xs4,l10,c8,xs5,x5,x6⟩:=i1;obtain rfl:xs4=r1.1.2.1:=congrArg (fun q:List (List ac)×List Bool×Int×(List (List ac))=>q.1) hi;obtain rfl:xs5=r1.1.2.2.1:=congrArg (fun q:List (List ac)×List Bool×Int×(List (List ac))=>q.2.1) hi;obtain rfl:x5=r1.1.2.2.2.1:=congrArg (fun q:List (List ac)×List Bool×Int×(List (List ac))=>q.2.2.1) hi;obtain rfl:x6=r1.1.2.2.2.2:=congrArg (fun q:List (List ac)×List Bool×Int×(List (List ac))=>q.2.2.2) hi;have h:=cf h (by rw [hj];rfl);refine(show CG _ _ _ [H0 bd,bx rV 31 b4 (aY l9 c7 r1.1.2.1.length),eV d6 68 l9 c7 r1.1.2.1,bx rV 109 b3 (aY l10 c8 r1.1.2.2.1.length),eV rB 4 l10 c8 r1.1.2.2.1,bx cM 32 b2 r1.1.2.2.2.1,bx fG 31 b1 r1.1.2.2.2.2,bx (rH iY [(1,aY (ix.h 0).1 (ix.h 0).2 r.rows.length),(2,aY (ix.h 1).1 (ix.h 1).2 r.width.length)]) 77 b r,gh fG 31 (ix.h 0).1 (ix.h 0).2 r.rows,gh cM 3 (ix.h 1).1 (ix.h 1).2 r.width] _ from ?_);refine MY (G' :=[(0,tV (aE b 0)),(1,Q aq n),(3,bH aq n),(4,tV (aE b1 0)),(5,tV (aE b2 0)),(6,cy (d6) e),(7,cy (d6) e1),(8,tV (aE b3 0)),(9,tV (aE b4 0)),(16,tV (aE b 0)),(17,tV (aE b 0)),(18,tV (aE b 1)),(19,tO fG (ix.h 0).1 (ix.h 0).2 r.rows),(20,bH cM n.A),(21,bS n.A),(22,bH fG e),(23,cy (d6) e),(24,tV (aE b 0)),(25,tV (aE b 0)),(26,tV (aE b 1)),(27,tO fG (ix.h 0).1 (ix.h 0).2 r.rows),(28,bH cM n.B),(29,bS n.B),(30,bH fG e1),(31,cy (d6) e1),(32,cy (d6) e),(33,iQ e),(34,cy (d6) e1),(35,iQ e1),(36,bS (i64.wrap ((e.length:Int)*(e1.length:Int)))),(37,iF (decide (40000<(i64.wrap ((e.length:Int)*(e1.length:Int)))))),(38,cy (d6) e),(39,iQ e),(41,cy (d6) e),(42,cy (d6) e1)]) ?_ ⟨Y,Y,Y,Y,Y,Y,Y,Y,Y,Y,Y,Y,Y,Y,Y,Y,Y,Y,Y,Y,Y,Y,Y,Y,Y,Y,Y,Y,Y,Y,Y,Y,Y,Y,Y,Z⟩;exact jm<|cR<|qf<|aF 4 Y<|oz<|aF 5 Y<|bv<|aO<|bv<|aO<|bv<|aO<|bv<|aO<|cv<|cv<|cv<|cv<|Hc<|xp<|so h▸gI (ts:=[cy (d6) r1.1.2.2.2.2,bS r1.1.2.2.2.1]) (rvs:=[.cell 4 31,.cell 5 32]) Y Y ⟨aU ki Y Y Y,aU T8 Y Y Y,Z⟩ tA Y Y
def ajh(b:Nat)(ix:OI) r n{R}(h:nk r n=some R):dZ aP 28 [tV (aE b 0),Q aq n] (nL b r ix) (fun _:OI=>tT [cy (d6) R.1,bS R.2]) (fun _=>(nL b r ix)):=by
 refine dZ.of func28 Y Y Y fun w0 S0=>?_;refine(show CG _ _ _ [bx (rH iY [(1,aY (ix.h 0).1 (ix.h 0).2 r.rows.length),(2,aY (ix.h 1).1 (ix.h 1).2 r.width.length)]) 77 b r,gh fG 31 (ix.h 0).1 (ix.h 0).2 r.rows,gh cM 3 (ix.h 1).1 (ix.h 1).2 r.width] _ from ?_);refine aQ<|cg Y<|kq (d6)<|bU<|bI<|aQ<|bJ false d6 68<|T (bu tK)<|bI<|aC<|aC<|cj h fun e i_ h=>?_;refine nQ (ts:=[_,_,_,_,_,_,_,_,_,_]) mixed Y Y
  ⟨eX Y Y,
  ⟨dy 11 0 Y Y (eK (J Y)),
  ⟨dy 12 1 Y Y (rP 1 wx Y Y Y),
  ⟨dy 13 2 Y Y (eS Be Y (.tail _ (.head _)) (.tail _ (.tail _ (.head _))) (J Y)),
  ⟨oq 3 Y Y (mW k5 eE Y Y),
  ⟨fm 4 cz Y Y,
  ⟨dX 14 3 16 5 Y Y Y (bn rN ki Y (kX (J Y)) (J Y) i_),
  ⟨fm 6 ki Y Y,
  ⟨dy 18 7 Y Y (XN nP Y),
  ⟨Q6 Y (bQ hI),
  Z⟩⟩⟩⟩⟩⟩⟩⟩⟩⟩ ?_
 refine aw<|an<|bm (k:=18) Y fun hN=>bM ?_;refine aI (kT (ay:=fun ls i out l c=>(e.drop i=ls)/\jv n ls out=some R) (Of:=fun _ i out l c=>[eV d6 68 l c out,bx (rH iY [(1,aY (ix.h 0).1 (ix.h 0).2 r.rows.length),(2,aY (ix.h 1).1 (ix.h 1).2 r.width.length)]) 77 b r,gh fG 31 (ix.h 0).1 (ix.h 0).2 r.rows,gh cM 3 (ix.h 1).1 (ix.h 1).2 r.width]) (Gf:=fun _ i out l c=>[(3,bH aq n),(6,rr l c out),(18,cy (d6) e),(19,iQ e),(20,bS (i:Int))]) (fun i out l c h=>?_) (fun e1 tl ih i out l c h=>?_) e 0 Kx none 0 ⟨Y,h⟩) (bA Y)
 ·obtain⟨V,h⟩:=h;refine dq V Y<|aw<|aD Y<|iH Y<|dd<|mK<|dn 6 Y<|dn 40 Y ?_;exact dn 4 Y<|mL 4 Y<|aO<|aH<|aH<|aH<|so h▸gI (ts:=[cy (d6) out,bS 0]) (rvs:=[.tmp 4,.tmp 5]) Y Y ⟨aL Y,aL Y,Z⟩ tA Y Y
 ·obtain⟨V,h⟩:=h;refine dp V Y<|aC<|an<|aQ<|d8 nP ja Y (de V)<|aS Y<|aQ<|bX oV i7 bR Y<|bj Y ?_;refine cC h ajw (aaJ _ _) (bN Y) fun r1 h=>bj Y<|bL Y Y<|bL Y Y<|iH Y<|aS Y<|bc<|bj Y<|gw Y<|cn h Y (fun h=>?_) (fun h=>?_)
  ·exact aD Y<|kq (d6)<|bf Y<|am<|cR<|am<|cR<|aO<|aH<|aH<|aH<|so h▸gI (ts:=[cy (d6) ([]),bS r1.2]) (rvs:=[.tmp 4,.tmp 5]) Y Y ⟨aL Y,aL Y,Z⟩ tA Y Y
  ·refine iq<|aD Y<|cn h Y (fun h=>?_) (fun h=>?_)
   ·refine aG<|bj Y<|bj Y<|T (aK (r:=d6) (ys:=[e1]) (xs:=[.tmp 36]) nP ja Y Y Y Y Y ⟨(J Y),Z⟩)<|cj h fun L' l_ h=>cD ja Y Y Y Y nP Y Y (J Y) (J Y) l_ fun l1 c1=>iH Y<|bD<|cV V hN Y ?_;exact bg (aI (ih (i+1) L' l1 c1 ⟨cJ V,h⟩) (bA Y))
   ·refine bO<|cV V hN Y ?_;exact bg (aI (ih (i+1) out l c ⟨cJ V,h⟩) (bA Y))
def aeo v{R}(h:wV v=some R):bZ aP 118 [Q ah v] (iF R):=by
 exact cx func118 Y<|aQ<|cg Y<|ck<|bI<|aQ<|bq aT Y<|cC h abk (Mm _) (bN Y) fun r h=>gw Y<|bf Y<|so h▸aM Y Y
def adX s f{R}(h:oC s f=some R):bZ aP 175 [cy (ah) s,(eD aP F5 nG (fun(x:ac)=>f x))] (bS R):=by
 refine cx func175 Y<|aQ<|bU<|bI<|bc<|bj Y<|ca oT Y<|T (bQ hI)<|bI<|an<|bm (k:=6) Y fun hN=>bM ?_;refine aI (gG (ay:=fun ls i=>(s.drop i=ls)/\dT f ls i=some R) (Of:=fun _ i=>[]) (Gf:=fun _ i=>[(0,cy (ah) s),(1,(eD aP F5 nG (fun(x:ac)=>f x))),(7,iQ s),(8,bS (i:Int))]) (fun i h=>?_) (fun e tl ih i h=>?_) s 0 ⟨Y,h⟩) (bA Y)
 ·obtain⟨V,h⟩:=h;exact dq V Y<|aw<|aQ<|dd<|so h▸aM Y Y
 ·obtain⟨V,h⟩:=h;refine dp V Y<|aC<|an<|aD Y<|aS Y<|aD Y<|bj Y<|bj Y<|F7 oT aT Y (de V) ?_;refine bq aT Y<|cj h fun r h_ h=>T (hZ (args:=F5) (res:=F4) (f:=(fun(x:ac)=>f x)) (x:=((e):ac)) (J Y) h_ ⟨(J Y),Z⟩)<|cn h Y (fun h=>?_) (fun h=>?_)
  ·exact aD Y<|bf Y<|cR<|am<|cR<|so h▸aM Y Y
  ·refine bO<|cV V hN Y ?_;exact bg (aI (ih (i+1) ⟨cJ V,h⟩) (bA Y))
def aen s f{R}(h:jC s f=some R):bZ aP 119 [cy (ah) s,(eD aP F5 nG (fun(x:ac)=>f x))] (iF R):=by
 exact cx func119 Y<|aQ<|ck<|bI<|aD Y<|bj Y<|cC h akn (adX _ _) (bN Y) fun r h=>T (iZ (J Y) hI)<|bf Y<|so h▸aM Y Y
def UZ r{R}(h:ym r=some R):bZ aP 75 [cy (ah) r] (iF R):=by
 refine cx func75 Y<|aQ<|ck<|bI<|aQ<|T (bu (show be _ _ _ ((eD aP F5 nG (fun(x:ac)=>wV x)))from(A3 ak2 fun x y h=>aeo _ h)))<|bI<|aD Y<|ca oT Y<|T (sv (J Y) hI)<|bj Y<|cj h fun t r_ h=>bk Y (fa Y)<|bk Y (fa Y) ?_;obtain⟨r1,g_,s_⟩:=og r_;have k_:=fun H=>(g_ H).1;exact bk Y (fun hg=>bG ak1 (aen _ _ (k_ hg)) ⟨(db Y hg),(db Y hg),Z⟩)<|bk Y (yH Y)<|T (ee (J Y) (fun H=>(db Y H)) (fun H=>(g_ H).2) s_)<|bf Y<|so h▸aM Y Y
def U2 l{R}(h:AD l=some R):bZ aP 62 [cy (fG) l] (bS R):=by
 refine cx func62 Y<|aQ<|bU<|bI<|aQ<|bU<|bI<|bc<|bj Y<|ca rN Y<|T (bQ hI)<|bI<|an<|bm (k:=8) Y fun hN=>bM ?_;refine aI (jP (ay:=fun ls i n=>(l.drop i=ls)/\o4 ls n=some R) (Of:=fun _ i n=>[]) (Gf:=fun _ i n=>[(3,bS n),(8,cy (fG) l),(9,iQ l),(10,bS (i:Int))]) (fun i n h=>?_) (fun e tl ih i n h=>?_) l 0 0 ⟨Y,h⟩) (bA Y)
 ·obtain⟨V,h⟩:=h;refine dq V Y<|aw<|bc<|bj Y<|T (oI (J Y) hI)<|cn h Y (fun h=>?_) (fun h=>?_)
  ·exact aQ<|dd<|am<|so h▸aM Y Y
  ·exact iq<|aQ<|dd<|so h▸aM Y Y
 ·obtain⟨V,h⟩:=h;refine dp V Y<|aC<|an<|aQ<|d8 rN ki Y (de V)<|aS Y<|bc<|bj Y<|ca nP Y ?_;refine T (bQ hI)<|bI<|an<|bm (k:=14) Y fun hN1=>bM ?_;refine aI (gG (ay:=fun ls1 i1=>(e.drop i1=ls1)/\vt (o4 tl) e n ls1=some R) (Of:=fun _ i1=>[]) (Gf:=fun _ i1=>[(3,bS n),(5,cy (d6) e),(8,cy (fG) l),(9,iQ l),(10,bS (i:Int)),(14,cy (d6) e),(15,iQ e),(16,bS (i1:Int))]) (fun i1 h=>?_) (fun e1 tl1 ih1 i1 h=>?_) e 0 ⟨Y,h⟩) (bA Y)
  ·obtain⟨Z',h⟩:=h;refine dq Z' Y<|aw<|aG<|bj Y<|bj Y<|ca nP Y<|T (V1 (J Y) (J Y))<|iH Y<|bD<|bt<|aw<|aG<|T (zin (Te V hN) Y) ?_;refine bj Y<|bD ?_;exact bg (aI (ih (i+1) (max n (e.length:Int)) ⟨cJ V,h⟩) (bA Y))
  ·obtain⟨Z',h⟩:=h;refine dp Z' Y<|aC<|an<|aQ<|d8 nP ja Y (de Z')<|aS Y<|aD Y<|cC h ah8 (UZ _) (bN Y) fun r h=>?_;refine T (jj (J Y))<|cn h Y (fun h=>?_) (fun h=>?_)
   ·exact aQ<|dd<|cR<|am<|cR<|cR<|am<|cR<|so h▸aM Y Y
   ·refine bO<|cV Z' hN1 Y ?_;exact bg (aI (ih1 (i1+1) ⟨cJ Z',h⟩) (bA Y))
