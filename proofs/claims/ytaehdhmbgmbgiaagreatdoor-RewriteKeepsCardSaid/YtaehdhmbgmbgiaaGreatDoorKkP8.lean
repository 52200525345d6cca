import Derived.Test.YtaehdhmbgmbgiaaGreatDoorKkT
import Derived.Test.YtaehdhmbgmbgiaaGreatDoorKkP7
set_option linter.all false
namespace Go.Proofs.YtaehdhmbgmbgiaaGreatDoor
open Go IntKind Tryz
set_option maxRecDepth 100000
def adk c n parts{R}(h:mF c n parts=some R):bZ aP 235 [Q aJ n,cy (ap) parts,bH EV c] (tT [Q ap R.1,bS R.2]):=by
 refine cx func235 Y<|aQ<|cg Y<|ax bR dQ Y fun b=>bU<|bI<|bc<|bX lE fy cz Y<|dA Y<|cn h Y (fun h=>?_) (fun h=>?_)
 ·exact aQ<|bq lT Y<|bX rG lD cz Y<|cj h fun e i_ h=>F7 qp bR Y i_<|bX fh dV nH Y<|pz h MA (AN _) (bN Y) fun r h l c1=>gk<|gW 16 Y<|T (bW (y:=(⟨r⟩:au)) bR Ed dQ (⟨_,_,_,_,_,Y,yl,Y,(kX (J Y)),Y⟩))<|bo<|aW bR af Y<|dd<|am<|aF 5 Y<|aO<|so h▸br Y Y ⟨aU bR Y Y Y,aL Y,Z⟩
 ·exact iq<|aQ<|bq dF Y<|bj Y<|cC h afC (WB _ _) (bN Y) fun r1 h=>aW bR af Y<|dd<|aF 5 Y<|so h▸br Y Y ⟨aU bR Y Y Y,aL Y,Z⟩
def adY e l{R}(h:GQ e l=some R):bZ aP 174 [Q ap e,cy (ap) l] (tT [Q ap R.1,bS R.2]):=by
 refine cx func174 Y<|aQ<|cg Y<|cg Y<|ax bR dQ Y fun b=>bU<|bI<|aQ<|bq bR Y<|fF (r:=ap) (ys:=[e]) (xs:=[.tmp 14]) qp bR Y Y Y Y Y ⟨(J Y),Z⟩ Y fun l1 c=>bq lT Y<|cj h fun l2 w_ h=>cD bR Y Y Y Y qp Y Y (J Y) (J Y) w_ fun l3 c1=>gk<|gW 17 Y<|cC h afD (WC _) ⟨(kX (J Y)),Z⟩ fun r h=>bj Y<|bL Y Y<|bL Y Y<|iH Y ?_;refine aS Y<|bc<|bj Y<|gw Y<|cn h Y (fun h=>?_) (fun h=>?_)
 ·exact aQ<|T (bW bR Ed dQ Y)<|bj Y<|bo<|aW bR af Y<|bf Y<|am<|aF 4 Y<|aO<|so h▸br Y Y ⟨aU bR Y Y Y,aL Y,Z⟩
 ·refine iq<|bc<|bq bR Y<|pz h Xi (GO _) (bN Y) fun r1 h l4 c2=>T (fJ iG (.head _) (J Y))<|T (bQ hI)<|bI<|an<|gH (.head _) fun hN=>bM<|dm<|pI ?_;refine aI (jP (ay:=fun ls i x=>(r1.drop i=ls)/\xe e l ls x=some R) (Of:=fun _ i x=>[eV cM 3 l4 c2 r1,bx ap 47 b x]) (Gf:=fun _ i x=>[(2,bH ap e),(3,bH EV l),(4,tV (aE b 0)),(26,rr l4 c2 r1),(27,iQ r1),(28,bS (i:Int))]) (fun i x h=>?_) (fun e1 tl ih i x h=>?_) r1 0 tB ⟨Y,h⟩) (bA Y)
  ·obtain⟨V,h⟩:=h;refine dq V Y<|aw<|aQ<|bU<|bI<|bc<|bX fh dV nH Y<|ca j6 Y ?_;refine T (bQ hI)<|bI<|an<|bm (k:=39) Y fun hN1=>bM<|pI ?_;refine aI (jP (ay:=fun ls1 i1 n=>(e.j'.drop i1=ls1)/\qo e l ls1 n=some R) (Of:=fun _ i1 n=>[bx ap 47 b x]) (Gf:=fun _ i1 n=>[(2,bH ap e),(3,bH EV l),(4,tV (aE b 0)),(10,bS n),(39,cy (aJ) e.j'),(40,iQ e.j'),(41,bS (i1:Int))]) (fun i1 n h=>?_) (fun e2 tl1 ih1 i1 n h=>?_) e.j' 0 0 ⟨Y,h⟩) (bA Y)
   ·obtain⟨Z',h⟩:=h;refine dq Z' Y<|aw<|bc<|bj Y<|T (oI (J Y) hI)<|cn h Y (fun h=>?_) (fun h=>?_)
    ·exact aQ<|T (bW bR Ed dQ Y)<|aW bR af Y<|dd<|am<|aF 4 Y<|so h▸br Y Y ⟨aU bR Y Y Y,aL Y,Z⟩
    ·exact iq<|aQ<|bq bR Y<|T ((show cu _ _ _ _ ((eD aP ab4 abY (fun(x:av×(List au))=>(mF l) x.1 x.2)))from kN (cts:=[bH EV l]) (caps:=[.tmp 3]) ajP ⟨(J Y),Z⟩ (fun x y h=>adk _ _ _ h)))<|cC h ajQ (adl _ _) (bN Y) fun r2 h=>bL Y Y<|bL Y Y<|aW bR af Y<|bf Y<|aF 4 Y<|so h▸br Y Y ⟨aU bR Y Y Y,aL Y,Z⟩
   ·obtain⟨Z',h⟩:=h;refine dp Z' Y<|aC<|an<|aQ<|d8 j6 dF Y (de Z')<|ax dF mg Y fun b1=>aW dF af Y<|aA 12 Y<|bI<|aD Y ?_;refine T (mC (J Y) hI)<|aS Y<|aQ<|bX lE fy cz Y<|dA Y<|cn h Y (fun h=>?_) (fun h=>?_)
    ·refine aG<|bj Y<|bq lT Y<|bX rG lD cz Y<|cj h fun e3 e_ h=>F7 qp bR Y e_<|bX fh dV nH Y<|ca j6 Y<|T (fq (J Y) hI)<|T (mC (J Y) (J Y))<|iH Y<|bD<|cV Z' hN1 Y ?_;exact bg (aI (ih1 (i1+1) (i64.wrap ((i64.wrap (n+1))+(i64.wrap ((e3.j'.length:Int)-1)))) ⟨cJ Z',h⟩) (bA Y))
    ·refine bO<|cV Z' hN1 Y ?_;exact bg (aI (ih1 (i1+1) (i64.wrap (n+1)) ⟨cJ Z',h⟩) (bA Y))
  ·obtain⟨V,h⟩:=h;refine dp V Y<|aC<|an<|aQ<|T (ce iG cz (.head _) (J Y) (J Y) (de V))<|T (dj (r:=cM) (i:=(i:Int)) (foff:=0) cz Y Y bT Y (.head _) (de V) (J Y))<|aS Y<|aD Y<|bq lT Y<|ca qp Y ?_;refine T (iZ (J Y) (J Y))<|cn h Y (fun h=>?_) (fun h=>?_)
   ·exact aQ<|T (bW bR Ed dQ Y)<|bo<|aW bR af Y<|dd<|cR<|am<|cR<|aF 4 Y<|aO<|so h▸br Y Y ⟨aU bR Y Y Y,aL Y,Z⟩
   ·refine bO<|cV V hN Y ?_;exact bg (aI (ih (i+1) x ⟨cJ V,h⟩) (bA Y))
def aer t x{R}(h:iK t x=some R):bZ aP 115 [Q aN t,iF x] (tT [Q aN R.1,bS R.2]):=by
 refine cx func115 Y<|aQ<|cg Y<|ax cq iN Y fun b=>bU<|bI<|aQ<|bX rt lL Cd Y<|cj h fun e i_ h=>T (bn uh cq Y (J Y) hI i_)<|bq cq Y<|ax cq iN Y fun b1=>aW cq af Y<|aA 6 Y<|bI<|bc<|vh m9 gR Y ?_;refine bX qF iD cz Y<|gw Y<|bj Y<|cj h fun t1 V_ h=>co Y (gU m9 gR Y Y)<|co Y (fun hg=>nT oK Y kD Y (db Y hg))<|co Y (gK lT Y Y) ?_;obtain⟨r,o_,G_⟩:=og V_;have F_:=fun H=>(o_ H).1;refine co Y (fun hg=>bG akq (ad0 _ _ (F_ hg)) ⟨(db Y hg),(A3 akp fun x y h=>adZ _ h),Z⟩)<|T (nt (J Y) (fun H=>(db Y (Ea H))) (fun H=>(o_ H).2) G_)<|cn h Y (fun h=>?_) (fun h=>?_)
 ·exact aQ<|bq cq Y<|aW cq af Y<|dd<|am<|aF 4 Y<|so h▸br Y Y ⟨aU cq Y Y Y,aL Y,Z⟩
 ·refine iq<|aQ<|bJ false ap 47<|T (bu tK)<|bI<|bc<|vh m9 gR Y<|bX oK kD lT Y<|ca qp Y<|T (bQ hI)<|bI<|an<|bm (k:=29) Y fun hN=>bM ?_;refine aI (qe (ay:=fun ls i items l c x1=>(t.root.I'.drop i=ls)/\jq t e ls items x1=some R) (Of:=fun _ i items l c x1=>[eV ap 47 l c items,bx aN 87 b x1]) (Gf:=fun _ i items l c x1=>[(2,bH aN t),(4,tV (aE b 0)),(6,bH aN e),(7,rr l c items),(29,cy (ap) t.root.I'),(30,iQ t.root.I'),(31,bS (i:Int))]) (fun i items l c x1 h=>?_) (fun e1 tl ih i items l c x1 h=>?_) t.root.I' 0 EW none 0 He ⟨Y,h⟩) (bA Y)
  ·obtain⟨V,h⟩:=h;refine dq V Y<|aw<|aD Y<|gk<|gW 7 Y<|gW 51 Y<|T (bW (y:=(⟨5,0,0,0,[],false,⟨[]⟩,[],[],items,[],0⟩:ai)) fL SS lk (⟨_,_,_,_,_,Y,sf,Y,hI,⟨_,_,_,_,_,Y,KZ,Y,(kX (J Y)),Y⟩⟩))<|bX rt lL Cd Y<|cj h fun e2 b_ h=>T (bn uh cq Y (J Y) hI b_) ?_;exact bq cq Y<|T (aK (r:=aN) (ys:=[e2]) (xs:=[.tmp 56]) uh cq Y Y Y Y Y ⟨(J Y),Z⟩)<|cC h abm (Mn _ _) (bN Y) fun r1 h=>bL Y Y<|bL Y Y<|cC h abr (QA _ _) (bN Y) fun r2 h=>bL Y Y<|bL Y Y<|bo<|aW cq af Y<|bf Y<|aF 4 Y<|aO<|so h▸br Y Y ⟨aU cq Y Y Y,aL Y,Z⟩
  ·obtain⟨V,h⟩:=h;refine dp V Y<|aC<|an<|aQ<|d8 qp bR Y (de V)<|ax bR dQ Y fun b2=>aW bR af Y<|aA 9 Y<|bI<|aQ<|bq bR Y ?_;refine vh m9 gR Y<|bX oK kD lT Y<|cC h ako (adY _ _) (bN Y) fun r3 h=>bj Y<|bL Y Y<|bL Y Y<|ax bR dQ Y fun b3=>aW bR af Y<|aA 10 Y<|aS Y<|bc<|bj Y<|gw Y<|cn h Y (fun h=>?_) (fun h=>?_)
   ·exact aQ<|bq cq Y<|bo<|aW cq af Y<|dd<|am<|cR<|am<|cR<|aF 4 Y<|aO<|so h▸br Y Y ⟨aU cq Y Y Y,aL Y,Z⟩
   ·refine iq<|aG<|bj Y<|bq bR Y<|T (aK (r:=ap) (ys:=[r3.1]) (xs:=[.tmp 47]) qp bR Y Y Y Y Y ⟨(J Y),Z⟩)<|cj h fun items1 q_items1 h=>cD bR Y Y Y Y qp Y Y (J Y) (J Y) q_items1 fun l1 c1=>iH Y<|bD<|cV V hN Y ?_;exact bg (aI (ih (i+1) items1 l1 c1 x1 ⟨cJ V,h⟩) (bA Y))
def aeq t x{R}(h:iS t x=some R):bZ aP 116 [Q aN t,iF x] (tT [Q aN R.1,bS R.2]):=by
 refine cx func116 Y<|aQ<|cg Y<|ax cq iN Y fun b=>bU<|bI<|aQ<|bX rt lL Cd Y<|cj h fun e i_ h=>T (bn uh cq Y (J Y) hI i_)<|bq cq Y<|ax cq iN Y fun b1=>aW cq af Y<|aA 6 Y<|bI<|bc<|vh m9 gR Y ?_;refine bX qF iD cz Y<|dA Y<|cn h Y (fun h=>?_) (fun h=>?_)
 ·exact aQ<|bq cq Y<|aW cq af Y<|dd<|am<|aF 4 Y<|so h▸br Y Y ⟨aU cq Y Y Y,aL Y,Z⟩
 ·refine iq<|bc<|vh m9 gR Y<|bX qF iD cz Y<|gw Y<|cn h Y (fun h=>?_) (fun h=>?_)
  ·exact aQ<|bq cq Y<|aW cq af Y<|dd<|am<|aF 4 Y<|so h▸br Y Y ⟨aU cq Y Y Y,aL Y,Z⟩
  ·refine iq<|aQ<|bX rt lL Cd Y<|cj h fun e1 Y' h=>T (bn uh cq Y (J Y) hI Y')<|bq cq Y<|ax cq iN Y fun b2=>aW cq af Y<|bI ?_;refine j8 (ay:=fun y=>fT t e y=some R) (Of:=fun y=>[bx aN 87 b He,bx aN 87 b2 y]) (Gf:=fun y=>[(2,bH aN t),(4,tV (aE b 0)),(6,bH aN e),(7,tV (aE b2 0))]) (fun y h=>?_) (fun K=>?_)
   ·skip;refine bc<|cL 1 m9 Y<|cL 1 qF Y<|T (bP cz Y Y (pZ gR iD) (.tail _ (.head _)) (J Y))<|gw Y<|cn h Y (fun h=>?_) (fun h=>?_)
    ·exact aQ<|bq cq Y<|aW cq af Y<|dd<|am<|aF 4 Y<|aO<|so h▸br Y Y ⟨aU cq Y Y Y,aL Y,Z⟩
    ·refine iq<|aQ<|zf af1 qh Y fun b3=>aS Y<|bc<|vh m9 gR Y<|bX oK kD lT Y<|ca qp Y<|T (bQ hI)<|bI<|an<|bm (k:=47) Y fun hN=>bM<|gS<|gS ?_;refine aI (xn (ay:=fun ls i has os=>(e.root.I'.drop i=ls)/\jT t e y ls has=some R) (Of:=fun _ i has os=>[bx aN 87 b He,bx aN 87 b2 y,tF af1 qh b3 none os has]) (Gf:=fun _ i has os=>[(2,bH aN t),(4,tV (aE b 0)),(6,bH aN e),(7,tV (aE b2 0)),(8,tV (uv b3)),(47,cy (ap) e.root.I'),(48,iQ e.root.I'),(49,bS (i:Int))]) (fun i has os h=>?_) (fun e2 tl ih i has os h=>?_) e.root.I' 0 ([]:List (Int×Bool)) [] ⟨Y,h⟩) (bA Y)
     ·obtain⟨V,h⟩:=h;refine dq V Y<|aw<|bc<|cL 1 m9 Y<|cL 8 uy Y<|T (bP fS Y Y (pZ gR nv) (.tail _ (.head _)) (J Y))<|ca iG Y<|T (bQ hI)<|bI<|an ?_;refine bm (k:=72) Y fun hN1=>bM<|dm<|pI ?_;refine aI (jP (ay:=fun ls1 i1 x1=>(y.root.Q'.drop i1=ls1)/\lJ t e has ls1 i1 x1=some R) (Of:=fun _ i1 x1=>[bx aN 87 b x1,tF af1 qh b3 none os has]) (Gf:=fun _ i1 x1=>[(2,bH aN t),(4,tV (aE b 0)),(6,bH aN e),(8,tV (uv b3)),(73,iQ y.root.Q'),(74,bS (i1:Int))]) (fun i1 x1 h=>?_) (fun e3 tl1 ih1 i1 x1 h=>?_) y.root.Q' 0 He ⟨Y,h⟩) (bA Y)
      ·obtain⟨Z',h⟩:=h;exact dq Z' Y<|aw<|aQ<|bq cq Y<|aW cq af Y<|dd<|aF 4 Y<|aO<|so h▸br Y Y ⟨aU cq Y Y Y,aL Y,Z⟩
      ·obtain⟨Z',h⟩:=h;refine dp Z' Y<|aC<|an<|aD Y<|aS Y<|aD Y<|bj Y<|T (LC (γ:=fun y:Bool=>Q rB y) (z:=false) underlying218 (eU me) zv4 (fun S=>⟨_,Y,(fun _=>Y) S⟩) (.tail _ (.head _)) (J Y) (pD (J Y)))<|T (jj (J Y)) ?_;refine cn h Y (fun h=>?_) (fun h=>?_)
       ·exact aQ<|bq cq Y<|aW cq af Y<|dd<|cR<|am<|cR<|aF 4 Y<|aO<|so h▸br Y Y ⟨aU cq Y Y Y,aL Y,Z⟩
       ·refine bO<|cV Z' hN1 Y ?_;exact bg (aI (ih1 (i1+1) x1 ⟨cJ Z',h⟩) (bA Y))
     ·obtain⟨V,h⟩:=h;refine dp V Y<|aC<|an<|aQ<|d8 qp bR Y (de V)<|ax bR dQ Y fun b4=>aW bR af Y<|aA 10 Y<|bI<|aQ<|vh fh dV Y ?_;refine bq nH Y<|cj h fun e4 A_ h=>T (bn j6 dF Y (J Y) hI A_)<|bq dF Y<|ax dF mg Y fun b5=>aW dF af Y<|aA 11 Y<|bI<|aQ<|bX fh dV nH Y<|ca j6 Y<|dA Y<|bj Y<|bk Y (gU lE fy Y Y)<|bk Y (gK cz Y Y)<|bk Y (qT Y)<|i9 Y<|cn h Y (fun h=>?_) (fun h=>?_)
      ·refine aG<|bj Y<|bX rG lD cz Y<|eF<|aeY (γ:=fun y:Bool=>iF y) underlying218 (eU me) (J Y) (pD (J Y)) hB fun os1=>bD<|cV V hN Y<|aH<|aH ?_;exact bg (aI (ih (i+1) (dO has e4.X' true) os1 ⟨cJ V,h⟩) (bA Y))
      ·refine bO<|cV V hN Y ?_;exact bg (aI (ih (i+1) has os ⟨cJ V,h⟩) (bA Y))
   ·skip;refine aQ<|cL 1 m9 Y<|cL 1 qF Y<|T (bP cz Y Y (pZ gR iD) (.head _) (J Y))<|dA Y<|cn h Y (fun h=>?_) (fun h=>?_)
    ·refine aG<|cL 13 rt Y<|T (bP Cd Y Y lL (.head _) (J Y))<|cj h fun e5 p_ h=>T (bn uh cq Y (J Y) hI p_)<|bq cq Y<|aW cq af Y<|bD<|bv ?_;exact cQ (K e5 h) (bA Y)
    ·refine bO<|bv ?_;exact cQ (K e1 h) (bA Y)
def ai8{rec__:Option (List (Int×(aB->Bool->Option (aB×Int))))}(hr__: ∀{R:(List (Int×(aB->Bool->Option (aB×Int))))},rec__=some R->bZ aP 68 [] (KN (fun y:(aB->Bool->Option (aB×Int))=>zw aP Hk Hl (fun(x:aB×Bool)=>y x.1 x.2)) qh R)){R}(h:B0 rec__=some R):bZ aP 68 [] (KN (fun y:(aB->Bool->Option (aB×Int))=>zw aP Hk Hl (fun(x:aB×Bool)=>y x.1 x.2)) qh R):=by
 exact cx func68 Y<|aQ<|T (bu (show be _ _ (.const (.map none)) (tV (.map none))from fun _ _ _=>Y))<|bI<|aQ<|zf (CO (fun y:(aB->Bool->Option (aB×Int))=>zw aP Hk Hl (fun(x:aB×Bool)=>y x.1 x.2))) qh Y fun b=>gF (γ:=(fun y:(aB->Bool->Option (aB×Int))=>zw aP Hk Hl (fun(x:aB×Bool)=>y x.1 x.2))) (y:=(fH rec__)) underlying137 (eU me) (J Y) (pD hI) (qq (A3 ak6 fun x y h=>ahT hr__ _ _ h)) fun os=>gF (γ:=(fun y:(aB->Bool->Option (aB×Int))=>zw aP Hk Hl (fun(x:aB×Bool)=>y x.1 x.2))) (y:=iK) underlying137 (eU me) (J Y) (pD hI) (qq (A3 ak5 fun x y h=>aer _ _ h)) fun os1=>gF (γ:=(fun y:(aB->Bool->Option (aB×Int))=>zw aP Hk Hl (fun(x:aB×Bool)=>y x.1 x.2))) (y:=iS) underlying137 (eU me) (J Y) (pD hI) (qq (A3 ak4 fun x y h=>aeq _ _ h)) fun os2=>bj Y<|bf Y<|Jp 0 Y<|so h▸aM Y Y
def ac1: ∀(fu:Nat) {R:(List (Int×(aB->Bool->Option (aB×Int))))} (h:cA fu=some R),bZ aP 68 [] (KN (fun y:(aB->Bool->Option (aB×Int))=>zw aP Hk Hl (fun(x:aB×Bool)=>y x.1 x.2)) qh R):=by
 intro fu
 induction fu with
 |zero=>intro R h;exact(nn h).elim
 |succ fu ih=>intro R h;exact ai8 ih h
def aaH{R}(h:ra=some R):bZ aP 68 [] (KN (fun y:(aB->Bool->Option (aB×Int))=>zw aP Hk Hl (fun(x:aB×Bool)=>y x.1 x.2)) qh R):=ac1 jl h
def ahy x0 x1{R}(h:z7 x0 x1=some R):bZ aP 41 [Q aN x0,iF x1] (tT [Q aN R.1,bS R.2]):=afr aaH _ _ h
def ahz x0{R}(h:s6 x0=some R):bZ aP 39 [Q aN x0] (tT [Q aN R.1,iF R.2]):=afs aaH _ h
def ac7: ∀(fu:Nat) (bslf:Nat) (t:aB) {R:aB×Bool} (h:g9 fu t=some R),bZ aP 37 [Q aN t,Js 37 bslf] (tT [Q aN R.1,iF R.2]):=by
 intro fu
 induction fu with
 |zero=>intro bslf t R h;exact(nn h).elim
 |succ fu ihR=>
  intro bslf t R h;refine cx func37 Y<|aQ<|cg Y<|ax cq iN Y fun b=>ck<|bI<|bc<|bX rt lL Cd Y<|ca uh Y<|dA Y<|cn h Y (fun h=>?_) (fun h=>?_)
  ·exact aQ<|bq cq Y<|aW cq af Y<|ck<|cX<|am<|aF 3 Y<|so h▸br Y Y ⟨aU cq Y Y Y,aL Y,Z⟩
  ·refine iq<|aQ<|bJ false aN 87<|T (bu tK)<|bI<|bc<|bX rt lL Cd Y<|ca uh Y<|T (bQ hI)<|bI<|an<|bm (k:=18) Y fun hN=>bM ?_;refine aI (qe (ay:=fun ls i parts l c x=>(t.parts.drop i=ls)/\kL (g9 fu) t ls parts x=some R) (Of:=fun _ i parts l c x=>[eV aN 87 l c parts,bx aN 87 b x]) (Gf:=fun _ i parts l c x=>[(1,Js 37 bslf),(2,bH aN t),(3,tV (aE b 0)),(5,rr l c parts),(18,cy (aN) t.parts),(19,iQ t.parts),(20,bS (i:Int))]) (fun i parts l c x h=>?_) (fun e tl ih i parts l c x h=>?_) t.parts 0 Rq none 0 He ⟨Y,h⟩) (bA Y)
   ·obtain⟨V,h⟩:=h;refine dq V Y<|aw<|aQ<|bX m9 gR fL Y<|bj Y<|gk<|gW 5 Y<|gW 41 Y<|cC h abm (Mn _ _) ⟨(J Y),(kX (J Y)),Z⟩ fun r h=>bj Y ?_;refine bL Y Y<|bL Y Y<|ax cq iN Y fun b1=>aW cq af Y<|aA 10 Y<|aS Y<|bc<|bj Y<|T (jj (J Y))<|cn h Y (fun h=>?_) (fun h=>?_)
    ·exact aQ<|bq cq Y<|bo<|aW cq af Y<|ck<|cX<|am<|aF 3 Y<|aO<|so h▸br Y Y ⟨aU cq Y Y Y,aL Y,Z⟩
    ·exact iq<|aQ<|bq cq Y<|cC h ajy (ahz _) (bN Y) fun r1 h=>bL Y Y<|bL Y Y<|bo<|aW cq af Y<|bf Y<|aF 3 Y<|aO<|so h▸br Y Y ⟨aU cq Y Y Y,aL Y,Z⟩
   ·obtain⟨V,h⟩:=h;refine dp V Y<|aC<|an<|aQ<|d8 uh cq Y (de V)<|ax cq iN Y fun b2=>aW cq af Y<|aA 7 Y<|bI<|aQ<|T (LE Zp (J Y)) ?_;refine bq cq Y<|cj h fun r2 d_ h=>T (LF (ts:=[Q aN e]) (J Y) (cp:= .tmp 1) (J Y) aig (ihR _ _ d_) ⟨(J Y),Z⟩)<|bj Y<|bL Y Y<|bL Y Y<|ax cq iN Y fun b3=>aW cq af Y<|aA 8 Y<|aS Y<|bc<|bj Y<|T (jj (J Y))<|cn h Y (fun h=>?_) (fun h=>?_)
    ·exact aQ<|bq cq Y<|bo<|aW cq af Y<|ck<|cX<|am<|cR<|am<|cR<|aF 3 Y<|aO<|so h▸br Y Y ⟨aU cq Y Y Y,aL Y,Z⟩
    ·refine iq<|aG<|bj Y<|bq cq Y<|T (aK (r:=aN) (ys:=[r2.1]) (xs:=[.tmp 34]) uh cq Y Y Y Y Y ⟨(J Y),Z⟩)<|cj h fun parts1 N_ h=>cD cq Y Y Y Y uh Y Y (J Y) (J Y) N_ fun l1 c1=>iH Y<|bD<|cV V hN Y ?_;exact bg (aI (ih (i+1) parts1 l1 c1 x ⟨cJ V,h⟩) (bA Y))
def aaK(bslf:Nat) t{R}(h:vv t=some R):bZ aP 37 [Q aN t,Js 37 bslf] (tT [Q aN R.1,iF R.2]):=ac7 jl bslf t h
def aaM l place{R}(h:nu l place=some R):bZ aP 35 [Q aX l,bS place] (tT [Q aX R.1,bS R.2]):=by
 refine cx func35 Y<|aQ<|cg Y<|ax dC fU Y fun b=>bU<|bI<|aQ<|bq dC Y<|cC h aie (U4 _) (bN Y) fun r h=>bj Y<|bL Y Y<|bL Y Y<|bL Y Y<|iH Y<|iH Y<|aS Y<|aC<|an ?_;refine aD Y<|T (jj (J Y))<|aS Y<|px h Y (fun h=>?_) (fun h=>?_)
 ·exact aQ<|T (bW dC Qk fU Y)<|aW dC af Y<|dd<|cR<|aF 4 Y<|so h▸br Y Y ⟨aU dC Y Y Y,aL Y,Z⟩
 ·refine aD Y<|T (jk (J Y) hI)<|bj Y<|co Y (fa Y)<|co Y (gU ju fx Y Y)<|co Y (gK r0 Y Y)<|co Y (vi oo Y)<|co Y (fun hg=>iZ (db Y hg) (db Y hg))<|py Y<|aS Y<|px h Y (fun h=>?_) (fun h=>?_)
  ·exact aQ<|T (bW dC Qk fU Y)<|aW dC af Y<|dd<|cR<|aF 4 Y<|so h▸br Y Y ⟨aU dC Y Y Y,aL Y,Z⟩
  ·refine bO<|bt<|aw<|aQ<|bJ true aq 52<|ax (r:=f9) (x:=ic zq af3) dC Bb Y fun b1=>bI<|bc<|bj Y<|T (PU (J Y))<|bX wI GM fS Y<|bj Y<|cj h fun e i_ h=>d8 iG cz Y i_<|aS Y<|an ?_;refine bM<|dm<|dm<|gS ?_;refine aI (XF (ay:=fun n i out l1 c=>ri l place e n i out=some R) (Of:=fun i out l1 c=>[bx aX 24 b zq,bx f9 24 b1 (ic out (aY l1 c out.j'.length)),gh aq 52 l1 c out.j']) (Gf:=fun i out l1 c=>[(1,bS place),(2,bH aX l),(4,tV (aE b 0)),(6,bH cd r.1),(9,tV (aE b1 0)),(10,bS i)]) (fun i out l1 c h=>nn h) (fun n ih i out l1 c h=>?_) jl e (⟨abS⟩:aZ) none 0 h) (bA Y);refine ig<|bc<|bj Y<|bj Y<|T (sv (J Y) (J Y))<|cn h Y (fun h=>?_) (fun h=>?_)
   ·refine iq<|aC<|an<|cj h fun e1 Y' h=>cj h fun r1 a_ h=>?_;refine Cb 17 (ts:=[tV (aE b1 0),tO aq l1 c out.j',bH Ni l.j',cy (aq) l.j',bS i,bH aq e1,Q aq e1,bH cd r.1,bH cd r.1,bH u8z r.1.first,oA r.1.first,bS place,bH cM e,bS e,bS (i64.wrap (0-e)),Q aq r1,cy (aq) ([r1])]) mixed Y Y Y
     ⟨oq 9 Y Y (rP 0 ju Y Y Y),
     ⟨dy 44 0 Y Y (lK r0 o8 (.tail _ (.head _)) (.tail _ (.tail _ (.head _))) Y (J Y)),
     ⟨oq 2 Y Y (mW ju fx Y Y),
     ⟨fm 2 r0 Y Y,
     ⟨eX Y Y,
     ⟨dX 47 3 48 4 Y Y Y (Ky oo fL Y Y Y Y'),
     ⟨fm 5 fL Y Y,
     ⟨eX Y Y,
     ⟨dy 51 7 Y Y (PU (J Y)),
     ⟨dy 52 8 Y Y (mW wI GM Y Y),
     ⟨fm 9 fS Y Y,
     ⟨eX Y Y,
     ⟨dX 54 10 55 11 Y Y Y (Ky iG cz Y Y Y i_),
     ⟨fm 12 cz Y Y,
     ⟨dy 57 13 Y Y (HG (J Y)),
     ⟨dX 50 6 58 14 Y Y Y (bG aia (U1 _ _ a_) ⟨(J Y),(J Y),Z⟩),
     ⟨dy 59 15 Y Y (aK (r:=aq) (ys:=[r1]) (xs:=[.tmp 59]) oo fL Y Y Y Y Y ⟨(J Y),Z⟩),
     Z⟩⟩⟩⟩⟩⟩⟩⟩⟩⟩⟩⟩⟩⟩⟩⟩⟩ ?_
    refine eF<|cj h fun l2 w_ h=>nD fL Y Y Y Y oo Y Y (J Y) (J Y) w_ fun l3 c1=>cL 0 ju Y<|eF<|gL r0 Y (r9 _ _ _) Y (J Y) (Hf (Cx (J Y)))<|bD<|bt<|aw<|aG<|bj Y<|T (mC (J Y) hI)<|iH Y<|bD<|bv<|bv<|aH ?_;exact bg (aI (ih (i64.wrap (i+1)) ({out with j':=l2}:aZ) l3 c1 h) (bA Y))
   ·exact ji<|bh<|bh<|d5<|aw<|aQ<|eF<|T (mz (q:=aX) (y:=out) dC Y Y Y Y (.tail _ (.tail _ (.head _))) (fun _ _ _ ho h=>ue (o5 ho (.head _)) h) (J Y))<|bo<|aW dC af Y<|dd<|aF 4 Y<|aO<|aO<|so h▸br Y Y ⟨aU dC Y Y Y,aL Y,Z⟩
