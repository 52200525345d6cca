/- cP of this claim: P0. -/
import Derived.Test.YtbmmihfagmchaaaGreatRbT
import Derived.Test.YtbmmihfagmchaaaGreatRbF
set_option linter.all false
namespace Go.Proofs.YtbmmihfagmchaaaGreat
open Go
abbrev Oc:=fun(mc:aq) (mx:aa)=>(fc mc mx).map fun mr=>(mr,mc)
abbrev Oa:=fun(mc:aq) (mx:aa)=>(fV mc mx).map fun mr=>(mr,mc)
abbrev Oh:=fun(mc:aq) (mx:aa)=>(fd mc mx).map fun mr=>(mr,mc)
abbrev Od:=fun(mc:aq) (mx:aa)=>(fG mc mx).map fun mr=>(mr,mc)
abbrev Oj:=fun(mc:aq) (mx:aa)=>(eK mc mx).map fun mr=>(mr,mc)
abbrev Ok:=fun(mc:aq) (mx:aa)=>(eo mc mx).map fun mr=>(mr,mc)
abbrev Og:=fun(mc:aq) (mx:aa)=>(fE mc mx).map fun mr=>(mr,mc)
abbrev Oe:=fun(mc:aq) (mx:aa)=>(fF mc mx).map fun mr=>(mr,mc)
abbrev Lz:=ez (ez (ez (ez (ez (ez (ez (ez ([]:List (Int×(aq->aa->Option (((List Int)×Bool)×aq)))) (1:Int) Oc) (2:Int) Oa) (3:Int) Oh) (4:Int) Od) (5:Int) Oj) (6:Int) Ok) (7:Int) Og) (8:Int) Oe
abbrev kp:=(⟨[]⟩:ai)
abbrev Jg:=(⟨(0:Int),(0:Int),(0:Int),(0:Int),[],false,kp,[],[],[],[],(0:Int)⟩:aa)
abbrev cB:=rI .i64
abbrev yr:=fun(x:(List Int)×Bool)=>tT [lI x.1,gM x.2]
abbrev xv:=fun(x:aa)=>[H ak x]
abbrev Ba:=(⟨[]⟩:aw)
abbrev HT:=(⟨(0:Int),(0:Int),(0:Int),[]⟩:bK)
abbrev HS:=fun(x:am×Int)=>tT [H an x.1,cA x.2]
abbrev pr:=(-1:Int)
abbrev Pz:=(⟨(1:Int),pr,pr,(1:Int),[(2:Int)],false,kp,[],[],[],[],(0:Int)⟩:aa)
abbrev Py:=(⟨(1:Int),pr,pr,(0:Int),[(2:Int)],false,kp,[],[],[],[],(0:Int)⟩:aa)
abbrev xx:=fun(x:am×Bool)=>[H an x.1,gM x.2]
abbrev DB:=fun(x:ai)=>[H ah x]
abbrev rG:=fun(x:Bool)=>gM x
noncomputable abbrev HU:=kq bk DB rG (fun(x:ai)=>fy x)
abbrev oC:=(⟨Ba,Jg,[]⟩:am)
abbrev vA:=gy ah
abbrev Ly:=fun(x:aj×(List ai))=>[H ap x.1,H vA x.2]
abbrev Lx:=fun(x:aj×(List ai))=>[H ap x.1,gP (ah) x.2]
abbrev vB:=([]:List ai)
abbrev Jf:=(⟨(1:Int),(0:Int),(0:Int),[]⟩:bK)
abbrev Lw:=fun(x:aj×(List Int))=>[H ap x.1,lI x.2]
abbrev Lv:=fun(x:ai×Int)=>tT [H ah x.1,H cB x.2]
abbrev Lu:=fun(x:ai×Int)=>tT [H ah x.1,cA x.2]
abbrev xw:=([]:List Int)
abbrev Fv:=fun(x:Bool)=>H rB x
abbrev rF:=RW .i64
abbrev vz:=gy cB
abbrev N9:=fun(x:aj×(List Int))=>[H ap x.1,H vz x.2]
abbrev Lt:=fun(x:Int×Int)=>tT [cA x.1,cA x.2]
abbrev N8:=(⟨(16:Int),(0:Int),(0:Int),(0:Int),HT⟩:aj)
abbrev Cz:=([]:List aj)
abbrev Je:=fun(x:ly)=>[H fU x]
abbrev Jd:=fun(x:ik)=>[H dt x]
abbrev Ls:=fun(x:aj)=>[H ap x]
abbrev N7:=fun(x:Int×Int)=>tT [H cB x.1,H cB x.2]
abbrev Bl:=gy ak
abbrev Jc:=fun(x:Int)=>[cA x]
abbrev Bk:=gy an
abbrev Fu:=([]:List am)
abbrev Lq:=([]:List aa)
abbrev N6:=aK none 0 (Lq.length)
abbrev Cy:=nK cB 2
abbrev N5:=yI (fun y:Bool=>gM y)
abbrev Jb:=nK vA 3
abbrev Lr:=([]:List ik)
set_option maxRecDepth 100000

def MK k{R}(h:yL k=some R):cI bk 126 [cA k] (gM R):=by
 exact eC Tryz.func126 M<|aV<|cR<|cb<|aY M<|dg M<|bu M<|bL M (fL M)<|bL M (nm M)<|mI M<|bu M<|bL M (fL M)<|bL M (nm M)<|mI M<|bF M<|so h▸bZ M M

def ML k{R}(h:jx k=some R):cI bk 125 [cA k] (gM R):=by
 exact eC Tryz.func125 M<|aV<|cR<|cb<|aY M<|eg h Rj (MK _) (cm M) fun r h=>K (jn (D M))<|bF M<|so h▸bZ M M

def MA s f{R}(h:jH s f=some R):cI bk 148 [lI s,(kq bk Jc rG (fun(x:Int)=>f x))] (cA R):=by
 refine eC Tryz.func148 M<|aV<|da<|cb<|bm<|bu M<|c9 fS M<|K (cj hI)<|cb<|av<|bE (k:=6) M fun hN=>ci ?_;refine aN (kX (h3:=fun ls i=>(s.drop i=ls)/\eN f ls i=some R) (Of:=fun _ i=>[]) (Gf:=fun _ i=>[(0,lI s),(1,(kq bk Jc rG (fun(x:Int)=>f x))),(7,jq s),(8,cA (i:Int))]) (fun i h=>?_) (fun e tl ih i h=>?_) s 0 ⟨M,h⟩) (bv M)
 ·obtain⟨I,h⟩:=h
  exact eQ I M<|aB<|aV<|fK<|so h▸bZ M M
 ·obtain⟨I,h⟩:=h
  refine eP I M<|aJ<|av<|aY M<|aT M<|aY M<|bu M<|bu M<|yw fS cn M (fz I) ?_;refine bA cn M<|cy h fun r q_r h=>K (mQ (args:=(fun(x:Int)=>[H cB x])) (res:=Fv) (f:=(fun(x:Int)=>f x)) (x:=((e):Int)) (D M) q_r ⟨(D M),aQ⟩)<|dq h M (fun h=>?_) (fun h=>?_)
  ·exact aY M<|bF M<|eX<|au<|eX<|so h▸bZ M M
  ·refine cg<|dQ I hN M ?_;exact bj (aN (ih (i+1) ⟨dC I,h⟩) (bv M))

def Hu s f{R}(h:dN s f=some R):cI bk 127 [lI s,(kq bk Jc rG (fun(x:Int)=>f x))] (gM R):=by
 exact eC Tryz.func127 M<|aV<|cR<|cb<|aY M<|bu M<|eg h Q8 (MA _ _) (cm M) fun r h=>K (gz (D M) hI)<|bF M<|so h▸bZ M M

def QA(b:Nat)(ix:OI) c n{R}(h:fc c n=some R):fg bk 91 [tV (ax b 0),H ak n] (dB b c ix) (fun _:OI=>tT [lI R.1,gM R.2]) (fun _=>(dB b c ix)):=by
 refine fg.of Tryz.func91 M M M fun w0 S0=>?_;refine(show CG _ _ _ [bx (rH aZ [(1,aK (ix.h 0).1 (ix.h 0).2 c.kinds.length),(2,aK (ix.h 1).1 (ix.h 1).2 c.first.length)]) 102 b c,gT pm 23 (ix.h 0).1 (ix.h 0).2 c.kinds,gT cB 3 (ix.h 1).1 (ix.h 1).2 c.first] _ from ?_);refine aV<|dn M<|oF cB<|cR<|cb<|aV<|K (bz (show aE _ _ _ ((kq bk Jc rG (fun(x:Int)=>jx x)))from(OJ Rk fun x y h=>ML _ h)))<|cb<|aV<|ca AE ta cn M<|K (gz (D M) hI)<|bu M<|aW M (gR AE ta M M)<|aW M (gQ cn M M)<|aW M (fun T=>mE (dp M T) hI)<|hM M<|bu M<|aW M (gR rX ni M M) ?_;refine aW M (gQ eM M M)<|aW M (pu fS M)<|aW M (fun T=>gz (dp M T) hI)<|hM M<|bu M<|aW M (gR rX ni M M)<|aW M (gQ eM M M)<|aW M (pu fS M)<|aW M (fun T=>oS (dp M T) hI)<|hM M<|aT M<|aJ<|cy h fun t q_t h=>?_
 obtain⟨r,h1t,h0t⟩:=og q_t
 have q_rg:=fun V=>(h1t V).1
 refine im (ts:=[_,_,_,_,_,_,_,_,_,_,_,_]) mixed M M
  ⟨pN 3 M M (nG rX ni M M),
  ⟨jF 0 eM M M,
  ⟨jt M M,
  ⟨eH 30 2 M M (m0 M),
  ⟨tB 3 31 3 M M M (cu M M M M (fun T=>nG rX ni M M)),
  ⟨iE 32 4 31 3 M M M (cu M M M M (fun T=>ic eM M M (dp M T))),
  ⟨tB 6 31 3 M M M (cu M M M M (fun T=>m0 M)),
  ⟨BI 33 5 34 6 31 3 M M M M (cu M M M M (fun T=>ce NW (Hu _ _ (q_rg T)) ⟨(dp M T),(dp M T),aQ⟩)),
  ⟨iE 35 7 31 3 M M M (cu M M M M (fun T=>jn (dp M T))),
  ⟨gr 31 3 36 8 M M M (fI (D M) (fun V=>(dp M V)) (fun V=>(h1t V).2) h0t),
  ⟨eH 29 1 M M (zy M),
  ⟨eH 37 9 M M (zy M),
  aQ⟩⟩⟩⟩⟩⟩⟩⟩⟩⟩⟩⟩ ?_
 exact aB<|lz<|aH<|aH<|aH<|so h▸ji (ts:=[lI n.Kinds,gM t]) (rvs:=[.tmp 4,.tmp 5]) M M ⟨aP M,aP M,aQ⟩ qg M M

def KB n{R}(h:jN n=some R):gk bk 149 [tV (.slice none 0 0),cA n] false cB 3 R:=by
 refine gk.of Tryz.func149 M M M fun w0 S0=>aV<|bC false cB 3<|K (bz sD)<|cb ?_;refine IX (h3:=kw n=some R) (Of:=[]) (Gf:=[(0,tV (.slice none 0 0)),(1,cA n)]) (fun h=>?_) (fun af=>?_)
 ·skip
  refine IV (h3:=fun s l c=>ku s=some R) (Of:=fun s l c=>[fi cB 3 l c s]) (Gf:=fun s l c=>[(0,sO l c s)]) (fun s l c h=>?_) (fun K1=>?_)
  ·skip
   exact aY M<|bF M<|so h▸gn M M
  ·skip
   refine aY M<|bu M<|K (BV fS (D M))<|bu M<|K (BU fS (D M))<|K (fN (D M) (D M))<|K (fN (D M) (D M))<|aT M<|aY M<|K (s4 (D M) hI)<|dq h M (fun h=>?_) (fun h=>?_)
   ·refine aG<|bu M<|bu M<|K (BV fS (D M))<|K (Ec fS cn (D M) (D M))<|bu M<|cy h fun u q_u h=>cy h fun mk q_mk h=>GN (EW (r:=cB) (x:=(0:Int)) cn M M M M fS qp (fun _=>M) (D M) (D M) (Ke q_u) q_mk) M fun i=>bu M<|K (BU fS (D M))<|cy h fun y q_y h=>K (nu fS cn M (.head _) (D M) (D M) q_y)<|yg q_y<|jm M<|bq ?_;exact cT (K1 y (i.h 0).1 (i.h 0).2 h) (bv M)
   ·refine cg<|Li false cB 3 ?_;exact cT (K1 xw none 0 h) (bv M)
 ·skip
  refine aY M<|K (mE (D M) hI)<|dq h M (fun h=>?_) (fun h=>?_)
  ·refine aG ?_;exact(nn h).elim
  ·refine cg<|aM ?_;exact cT (af h) (bv M)
def KE slices{R}(h:gS slices=some R):gk bk 128 [gP (pm) slices] false cB 3 R:=by
 refine gk.of Tryz.func128 M M M fun w0 S0=>aV<|bC false cB 3<|K (bz sD)<|cb<|aV<|da<|cb<|bm<|bu M<|c9 sR M<|K (cj hI)<|cb<|av<|bE (k:=9) M fun hN=>ci<|oz ?_;refine aN (jh (h3:=fun ls i size=>(slices.drop i=ls)/\hZ slices ls size=some R) (Of:=fun _ i size=>[]) (Gf:=fun _ i size=>[(0,gP (pm) slices),(3,cA size),(9,gP (pm) slices),(10,jq slices),(11,cA (i:Int))]) (fun i size h=>?_) (fun e tl ih i size h=>?_) slices 0 (0:Int) ⟨M,h⟩) (bv M)
 ·obtain⟨I,h⟩:=h
  refine eQ I M<|aB<|aY M<|q5 h Q7 (KB _) ⟨hV,(D M),aQ⟩ fun r h l c=>aT M<|bm ?_;refine bu M<|c9 sR M<|K (cj hI)<|cb<|av<|bE (k:=25) M fun hN1=>ci ?_;refine aN (pK (h3:=fun ls1 i1 newslice l1 c1=>(slices.drop i1=ls1)/\hX ls1 newslice=some R) (Of:=fun _ i1 newslice l1 c1=>[fi cB 3 l1 c1 newslice]) (Gf:=fun _ i1 newslice l1 c1=>[(6,sO l1 c1 newslice),(25,gP (pm) slices),(26,jq slices),(27,cA (i1:Int))]) (fun i1 newslice l1 c1 h=>?_) (fun e1 tl1 ih1 i1 newslice l1 c1 h=>?_) slices 0 r l c ⟨M,h⟩) (bv M)
  ·obtain⟨hx1,h⟩:=h
   exact eQ hx1 M<|aB<|aY M<|bF M<|so h▸gn M M
  ·obtain⟨hx1,h⟩:=h
   refine eP hx1 M<|aJ<|av<|aV<|iq sR eM M (fz hx1)<|aT M<|aG<|bu M<|bu M<|cy h fun newslice1 q_newslice1 h=>dm cn M M M M fS M M (D M) (D M) q_newslice1 fun l2 c2=>?_;refine jm M<|bq<|dQ hx1 hN1 M ?_;exact bj (aN (ih1 (i1+1) newslice1 l2 c2 ⟨dC hx1,h⟩) (bv M))
 ·obtain⟨I,h⟩:=h
  refine eP I M<|aJ<|av<|aV<|iq sR eM M (fz I)<|aT M<|aY M<|bu M<|c9 fS M ?_;refine K (lr (D M) (D M))<|aT M<|aY M<|K (mE (D M) hI)<|dq h M (fun h=>?_) (fun h=>?_)
  ·refine aG ?_;exact(nn h).elim
  ·refine cg<|dQ I hN M ?_;exact bj (aN (ih (i+1) (IntKind.i64.wrap (size+(e.length:Int))) ⟨dC I,h⟩) (bv M))
def MJ slices{R}(h:gS slices=some R):cI bk 128 [gP (pm) slices] (lI R):=(KE _ h).spec

def C2 tag{R}(h:nl tag=some R):cI bk 79 [cA tag] (cA R):=by
 refine eC Tryz.func79 M<|aV<|da<|cb<|aJ<|av<|aY M<|dg M<|bu M<|bL M (fL M)<|bL M (nm M)<|mI M<|aT M<|o8 h M (fun h=>?_) (fun h=>?_)
 ·exact aV<|fK<|eX<|so h▸bZ M M
 ·refine aY M<|K (gz (D M) hI)<|bu M<|aW M (fL M)<|aW M (fun T=>oS (dp M T) hI)<|hM M<|aT M<|o8 h M (fun h=>?_) (fun h=>?_)
  ·exact aV<|fK<|eX<|so h▸bZ M M
  ·refine aY M<|K (gz (D M) hI)<|bu M<|aW M (fL M)<|aW M (fun T=>oS (dp M T) hI)<|hM M<|aT M<|o8 h M (fun h=>?_) (fun h=>?_)
   ·exact aV<|fK<|eX<|so h▸bZ M M
   ·exact cg<|bh<|aB<|aV<|fK<|so h▸bZ M M

def Mv v{R}(h:t6 v=some R):cI bk 155 [H dr v] (H dr R):=by
 refine eC Tryz.func155 M<|aV<|rz (D M) M fun b=>aC pO mH M fun b1=>cb<|bm<|bI 0 xX M<|K (bf cn M M s9 (.tail _ (.head _)) (D M))<|cb ?_;refine Co (h3:=fun v1=>i7 v1=some R) (Of:=fun v1=>[bx dr 61 b v1,bx dr 61 b1 HT]) (Gf:=fun v1=>[(1,tV (ax b 0)),(2,tV (ax b1 0))]) (fun v1 h=>?_) (fun af=>?_)
 ·skip
  exact aB<|aV<|K (bf pO M M bN (.head _) (D M))<|aS<|aO pO ae M<|aD 2 M<|dG<|aM<|so h▸gE M pO M M M
 ·skip
  refine aJ<|av<|aJ<|av<|aJ ?_;refine Co (h3:=fun v2=>nN v2=some R) (Of:=fun v2=>[bx dr 61 b v2,bx dr 61 b1 HT]) (Gf:=fun v2=>[(1,tV (ax b 0)),(2,tV (ax b1 0))]) (fun v2 h=>?_) (fun K1=>?_)
  ·skip
   refine aB<|aV<|bI 0 xX M<|cW cn M qB M (D M) hI<|cb<|il<|bX M<|aL<|bX M<|aL<|dM ?_;exact cT (af (bK.mk (0:Int) v2.N v2.U v2.S) h) (bv M)
  ·skip
   refine aJ ?_;refine I1 (h3:=nM v=some R) (Of:=[bx dr 61 b v,bx dr 61 b1 HT]) (Gf:=[(1,tV (ax b 0)),(2,tV (ax b1 0))]) (fun h=>?_) (fun K2=>?_)
   ·skip
    refine aB<|aG<|bI 1 AD M<|cW PC M sW M (D M) hI<|bq<|bh ?_;exact cT (K1 (bK.mk v.Kind (0:Int) v.U v.S) h) (bv M)
   ·skip
    refine aJ<|av<|aJ<|bm<|dg M<|aT M<|o8 h M (fun h=>?_) (fun h=>?_)
    ·refine il<|aL<|aL<|dM<|aB<|aV<|bI 1 AD M<|K (bf PC M M wc (.tail _ (.head _)) (D M))<|jS M<|bu M<|aW M (fun T=>rJ 1 AD M M M)<|aW M (fun T=>bf PC M M wc (.tail _ (.head _)) (dp M T))<|aW M (zD M)<|hM M<|dq h M (fun h=>?_) (fun h=>?_)
     ·refine il<|bX M<|aL<|bX M<|aL<|bX M<|aL<|bX M<|aL<|dM<|bp ?_;exact cT (af v h) (bv M)
     ·refine cg<|bh<|bp ?_;exact cT (K2 h) (bv M)
    ·refine ko<|bm<|dg M<|aT M<|o8 h M (fun h=>?_) (fun h=>?_)
     ·refine il<|aL<|aL<|bX M<|aL<|dM<|bp ?_;exact cT (K2 h) (bv M)
     ·refine ko<|bm<|dg M<|aT M<|o8 h M (fun h=>?_) (fun h=>?_)
      ·refine il<|aL<|aL<|bX M<|aL<|bX M<|aL<|dM<|bp ?_;exact cT (K1 v h) (bv M)
      ·refine ko<|bm<|dg M<|aT M<|o8 h M (fun h=>?_) (fun h=>?_)
       ·refine il<|aL<|aL<|bX M<|aL<|bX M<|aL<|bX M<|aL<|dM<|aB ?_;refine iZ (h3:=fun v3=>nL v3=some R) (Of:=fun v3=>[bx dr 61 b v3,bx dr 61 b1 HT]) (Gf:=fun v3=>[(1,tV (ax b 0)),(2,tV (ax b1 0))]) (fun v3 h=>?_) (fun K3=>?_)
        ·skip
         refine il<|bX M<|aL<|dM ?_;exact cT (af v3 h) (bv M)
        ·skip
         refine aV<|bI 3 Gm M<|K (bf PB M M s8 (.tail _ (.head _)) (D M))<|K (Hd Dx (D M))<|K (oS (D M) hI)<|dq h M (fun h=>?_) (fun h=>?_)
         ·refine aG<|bI 0 xX M<|aS<|cW cn M qB M (D M) hI<|bI 3 Gm M<|cW PB M zW M (D M) hS<|bq ?_;exact cT (K3 (bK.mk (0:Int) v.N v.U ([])) h) (bv M)
         ·refine cg<|bp ?_;exact cT (K3 v h) (bv M)
       ·refine ko<|aV<|dg M<|aT M<|o8 h M (fun h=>?_) (fun h=>?_)
        ·refine il<|aL<|bX M<|aL<|bX M<|aL<|bX M<|aL<|bX M<|aL<|dM<|aB<|aV<|bI 0 xX M<|aS<|cW cn M qB M (D M) hI<|bI 1 AD M<|cW PC M sW M (D M) hI<|bI 2 OO M<|cW Qb M FL M (D M) hI<|cb<|il ?_;refine dM ?_;exact cT (af (bK.mk (0:Int) (0:Int) (0:Int) v.S) h) (bv M)
        ·refine ko<|il<|bX M<|aL<|bX M<|aL<|bX M<|aL<|bX M<|aL<|bX M<|aL<|dM<|bp ?_;exact cT (af v h) (bv M)

def MD v{R}(h:q7 v=some R):cI bk 142 [H dr v] (cA R):=by
 refine eC Tryz.func142 M<|aV<|dn M<|da<|cb<|bm<|bA pO M<|eg h Q2 (Mv _) (cm M) fun r h=>K (bP pO Kf mH M)<|K (CQ MW (D M) (D M))<|dq h M (fun h=>?_) (fun h=>?_)
 ·exact aV<|fK<|au<|so h▸bZ M M
 ·exact ko<|aV<|fK<|so h▸bZ M M

def MQ v{R}(h:q6 v=some R):cI bk 114 [H dr v] (gM R):=by
 exact eC Tryz.func114 M<|aV<|dn M<|cR<|cb<|aV<|bA pO M<|eg h Rb (MD _) (cm M) fun r h=>dg M<|bu M<|aW M (gR xX s9 M M)<|aW M (gQ cn M M)<|aW M (zD M)<|hM M<|bF M<|so h▸bZ M M

def OS n{R}(h:rr n=some R):cI bk 80 [H ap n] (gM R):=by
 refine eC Tryz.func80 M<|aV<|dn M<|cR<|cb<|bm<|ca lv ep cn M<|cb<|av<|aV<|dg M<|aT M<|o8 h M (fun h=>?_) (fun h=>?_)
 ·exact aV<|ca xW kH pO M<|eg h Rs (MQ _) (cm M) fun r h=>bu M<|aW M (gR oW gY M M)<|aW M (gQ cn M M)<|aW M (nm M)<|hM M<|bF M<|eX<|so h▸bZ M M
 ·refine aV<|dg M<|aT M<|o8 h M (fun h=>?_) (fun h=>?_)
  ·exact aV<|ca xW kH pO M<|K (bP pO Kf mH M)<|K (CR MW (D M) (D M))<|bu M<|aW M (gR oW gY M M)<|aW M (gQ cn M M)<|aW M (fun T=>gz (dp M T) hI)<|hM M<|bu M<|aW M (gR oW gY M M)<|aW M (gQ cn M M)<|aW M (fun T=>mE (dp M T) hI)<|hM M<|bF M<|eX<|so h▸bZ M M
  ·exact cg<|bh<|aB<|aV<|ca xW kH pO M<|K (bP pO Kf mH M)<|K (CR MW (D M) (D M))<|bu M<|aW M (gR oW gY M M)<|aW M (gQ cn M M)<|aW M (nm M)<|hM M<|bF M<|so h▸bZ M M

def Kr e{R}(h:pG e=some R):cI bk 54 [H ah e] (tT [lI R.1,gM R.2]):=by
 refine eC Tryz.func54 M<|aV<|dn M<|oF cB<|cR<|cb<|aV<|bC false cB 3<|K (bz sD)<|bC false cB 3<|K (bz sD)<|cb<|bm<|ca dk cE iY M<|c9 gp M<|K (cj hI)<|bq ?_;refine aB<|av<|bE (k:=15) M fun hN=>ci<|cX ?_;refine aN (Ff (h3:=fun ls i all l c open1 l1 c1=>(e.Nodes.drop i=ls)/\je ls i all open1=some R) (Of:=fun _ i all l c open1 l1 c1=>[fi cB 3 l c all,fi cB 3 l1 c1 open1]) (Gf:=fun _ i all l c open1 l1 c1=>[(4,sO l c all),(5,sO l1 c1 open1),(15,gP (ap) e.Nodes),(16,jq e.Nodes),(17,cA (i:Int))]) (fun i all l c open1 l1 c1 h=>?_) (fun e1 tl ih i all l c open1 l1 c1 h=>?_) e.Nodes 0 xw none 0 xw none 0 ⟨M,h⟩) (bv M)
 ·obtain⟨I,h⟩:=h
  refine eQ I M<|aB<|aY M<|bu M<|K (eU fS (.tail _ (.head _)) (D M))<|dg M<|bu M<|aW M (fL M)<|aW M (fun T=>eU fS (.head _) (dp M T))<|aW M (fun T=>oS (dp M T) hI)<|hM M ?_;exact jm M<|bF M<|o6<|fC 4 M<|fC 84 M<|fC 2 M<|o7 2 M<|aM<|aM<|so h▸eW M M M
 ·obtain⟨I,h⟩:=h
  refine eP I M<|aJ<|av<|aY M<|iq gp eY M (fz I)<|aC eY ip M fun b=>jm M<|aO eY ae M<|aD 7 M<|cb<|aJ ?_;refine aG<|ca lv ep cn M<|eg h Ng (C2 _) (cm M) fun r h=>aT M<|bm<|bu M<|K (mE (D M) hI)<|bu M<|bL M (fL M)<|bL M (fL M)<|bL M (fun T=>eU fS (.tail _ (.head _)) (dp M T))<|bL M (fun T=>s4 (dp M T) (dp M T))<|mI M<|bu M<|cy h fun t q_t h=>bL M (fun T=>oI eY M M) ?_
  obtain⟨r1,h1t,h0t⟩:=og q_t
  have q_r1g:=fun V=>(h1t V).1
  refine bL M (fun T=>ce Si (OS _ (q_r1g T)) ⟨(dp M T),aQ⟩)<|bL M (yx M)<|K (kD (D M) (fun V=>(dp M (xO V))) (fun V=>(h1t V).2) h0t)<|dq h M (fun h=>?_) (fun h=>?_)
  ·exact aV<|oF cB<|cR<|dG<|au<|eX<|au<|eX<|aM<|aM<|so h▸eW M M M
  ·refine ko<|aY M<|bu M<|K (eU fS (.tail _ (.head _)) (D M))<|bu M<|K (fN (D M) (D M))<|cy h fun y q_y h=>K (pB fS cn M (.tail _ (.head _)) (D M) (D M) q_y)<|ox (.tail _ (.head _)) q_y fun hv=>aT M<|aV<|K (uP (r:=cB) (ys:=[pr,pr]) (xs:=[.const (.int .i64 (-1)),.const (.int .i64 (-1))]) zp cn M wx M M ⟨hI,hI,aQ⟩)<|aC (r:=Cy) (x:=(List.replicate 2 (0:Int))) wx (fun _=>AU (r:=cB) 2 (fun _=>M) _) M fun b1=>aO wx ae M<|cb<|aV ?_;refine bu M<|aT M<|bm<|bu M<|K (LT fS (.tail _ (.tail _ (.head _))) q_y (D M))<|K (cj hI)<|cb<|av ?_
   have hN1:=hv.2
   refine ci<|eT<|eT ?_;refine aN (uE (h3:=fun ls1 i1 first at1=>(y.drop i1=ls1)/\j8 (je tl) i e1 all open1 r ls1 i1 first at1=some R) (Of:=fun _ i1 first at1=>[fi cB 3 l c all,fi cB 3 l1 c1 open1,bx Cy 116 b1 at1]) (Gf:=fun _ i1 first at1=>[(4,sO l c all),(5,sO l1 c1 open1),(6,cA (i:Int)),(7,bw ap e1),(8,cA r),(10,tV (ax b1 0)),(11,cA first),(15,gP (ap) e.Nodes),(16,jq e.Nodes),(17,cA (i:Int)),(46,tV (mJ 1 l1 c1 (IntKind.i64.wrap ((open1.length:Int)-r)).toNat y.length)),(47,jq y),(48,cA (i1:Int))]) (fun i1 first at1 h=>?_) (fun e2 tl1 ih1 i1 first at1 h=>?_) y 0 (i:Int) ([pr,pr]) ⟨M,h⟩) (bv M)
   ·obtain⟨hx1,h⟩:=h
    refine eQ hx1 M<|aB<|bm<|K (bf wx M M bN (.tail _ (.tail _ (.head _))) (D M))<|ca oc kK cn M<|ca oa kI cn M<|K (uP (r:=cB) (ys:=[e1.L,e1.R]) (xs:=[.tmp 65,.tmp 67]) zp cn M wx M M ⟨(D M),(D M),aQ⟩)<|K (CQ QH (D M) (D M))<|bq ?_;refine aB<|o8 h M (fun h=>?_) (fun h=>?_)
    ·exact aV<|oF cB<|cR<|dG<|au<|eX<|au<|eX<|aM<|aM<|aM<|so h▸eW M M M
    ·refine ko<|aY M<|bu M<|K (aR (r:=cB) (ys:=[first]) (xs:=[.tmp 71]) fS cn M M M M M ⟨(D M),aQ⟩)<|cy h fun all1 q_all1 h=>dm cn M M M M fS M M (D M) (D M) q_all1 fun l2 c2=>aT M<|aG<|bu M<|bu M<|K (eU fS (.tail _ (.head _)) (D M))<|bu M<|K (fN (D M) (D M))<|cy h fun y1 q_y1 h=>K (nu fS cn M (.tail _ (.head _)) (D M) (D M) q_y1)<|bu M<|K (aR (r:=cB) (ys:=[(i:Int)]) (xs:=[.tmp 80]) fS cn M M M M M ⟨(D M),aQ⟩)<|aS<|yg q_y1 ?_;refine cy h fun open2 q_open2 h=>dm cn M M M M fS M M (D M) (D M) q_open2 fun l3 c3=>jm M<|bq<|dQ I hN M<|aH<|aM<|bp ?_;exact bj (aN (ih (i+1) all1 l2 c2 open2 l3 c3 ⟨dC I,h⟩) (bv M))
   ·obtain⟨hx1,h⟩:=h
    refine eP hx1 M<|aJ<|av<|aY M<|K (Bs fS cn M (.tail _ (.head _)) q_y (D M) (D M) (fz hx1))<|K (dd (r:=cB) (i:=((IntKind.i64.wrap ((open1.length:Int)-r))+(i1:Int))) (foff:=0) cn M M bN M (.tail _ (.head _)) (zN q_y (fz hx1)).1 (D M))<|jm M<|aT M<|cy h fun e3 q_e3 h=>cy h fun e4 q_e4 h=>cy h fun ar q_ar h=>?_
    refine jC 10 [tc (cA (i1:Int)),tc (cA e2),tc (cA first),tc (sO l c all),tc (cA e2),tc (tV (jf l (e2.toNat*1+0))),tc (cA e3),tc (cA (min first e3)),tc (tV (ax b1 ((i1:Int).toNat*1))),tc (vF)] [false,false,false,false,false,false,false,false,false,true] [fun _=>[fi cB 3 l c all,fi cB 3 l1 c1 open1,bx Cy 116 b1 at1],fun sg=>[bx Cy 116 b1 ar,fi cB 3 l c all,fi cB 3 l1 c1 open1]] M mixed M M M M M
     ⟨⟨[⟨12,fun _=>H cB (i1:Int),none⟩],_,0,0,M,⟨(fun _=>M),aQ⟩,M,M,M,M,M,fun _ sg _ _=>ac M (m0 M)⟩,
     ⟨⟨[⟨13,fun _=>H cB e2,none⟩],_,0,0,M,⟨(fun _=>M),aQ⟩,M,M,M,M,M,fun _ sg _ _=>ac M (m0 M)⟩,
     ⟨⟨[⟨11,fun _=>H cB first,none⟩],_,0,1,M,⟨(fun _=>M),aQ⟩,M,M,M,M,M,fun _ sg _ _=>ac M (m0 M)⟩,
     ⟨⟨[⟨4,fun _=>tV (aK l c all.length),none⟩],_,0,1,M,⟨(fun _=>M),aQ⟩,M,M,M,M,M,fun _ sg _ _=>ac M (m0 M)⟩,
     ⟨⟨[⟨13,fun _=>H cB e2,none⟩],_,0,1,M,⟨(fun _=>M),aQ⟩,M,M,M,M,M,fun _ sg _ _=>ac M (m0 M)⟩,
     ⟨⟨[⟨56,fun _=>tV (aK l c all.length),some 3⟩,⟨57,fun _=>H cB e2,some 4⟩],_,0,1,M,⟨(fun _=>M),(fun _=>M),aQ⟩,M,M,M,M,M,xy (fun sg=>ac M (bW fS cn (.head _) (D M) (D M) q_e3)) (si (fun sg=>ac M (bW fS cn (.tail _ (.head _)) (D M) (D M) q_e3)))⟩,
     ⟨⟨[⟨58,fun _=>tV (jf l (e2.toNat*1+0)),some 5⟩],_,0,1,M,⟨(fun _=>M),aQ⟩,M,M,M,M,M,xy (fun sg=>ac M (dd (r:=cB) (i:=e2) (foff:=0) cn M M bN M (.head _) q_e3 (D M))) (si (fun sg=>ac M (dd (r:=cB) (i:=e2) (foff:=0) cn M M bN M (.tail _ (.head _)) q_e3 (D M))))⟩,
     ⟨⟨[⟨55,fun _=>H cB first,some 2⟩,⟨59,fun _=>H cB e3,some 6⟩],_,0,1,M,⟨(fun _=>M),(fun _=>M),aQ⟩,M,M,M,M,M,fun _ sg _ _=>ac M (rf (D M) (D M))⟩,
     ⟨⟨[⟨10,fun _=>tV (ax b1 0),none⟩,⟨53,fun _=>H cB (i1:Int),some 0⟩],_,0,0,M,⟨(fun _=>M),(fun _=>M),aQ⟩,M,M,M,M,M,si (fun sg=>ac M (fO zp cn (.tail _ (.tail _ (.head _))) (D M) (D M) q_e4))⟩,
     ⟨⟨[⟨61,fun _=>tV (ax b1 ((i1:Int).toNat*1)),some 8⟩,⟨54,fun _=>H cB e2,some 1⟩],_,M,⟨(fun _=>M),(fun _=>M),aQ⟩,M,M,M,fun sg=>cx M (EffOK.fr2 (Gu cn M q_e4 (so q_ar) (D M) (D M)))⟩,
     aQ⟩⟩⟩⟩⟩⟩⟩⟩⟩⟩ (fun sg=>?_)
    refine(show RG _ _ _ _ [_,_,_] _ from ?_);refine jm M<|bq<|dQ hx1 hN1 M<|aH<|aH ?_;exact bj (aN (ih1 (i1+1) (min first e3) ar ⟨dC hx1,h⟩) (bv M))

end Go.Proofs.YtbmmihfagmchaaaGreat

