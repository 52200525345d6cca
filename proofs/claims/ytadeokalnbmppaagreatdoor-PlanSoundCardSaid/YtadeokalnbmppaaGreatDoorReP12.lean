import Derived.Test.YtadeokalnbmppaaGreatDoorReT
import Derived.Test.YtadeokalnbmppaaGreatDoorReP11
set_option linter.all false
namespace Go.Proofs.YtadeokalnbmppaaGreatDoor
open Go IntKind Tryz EffOK
set_option maxRecDepth 100000
def abO(b:Nat)(ix:OI) l{R}(h:jA l=some R):dj aL 118 [tV (an b 0)] (fW b l ix) (fun _:OI=>gp R.1) (fun j=>fW b R.2 j):=by
 refine dj.of func118 J J J fun w0 S0=>?_;refine(show CG _ _ _ [bx (rH bG [(1,ak (ix.h 0).1 (ix.h 0).2 l.j'.length),(2,ak (ix.h 1).1 (ix.h 1).2 l.D'.length)]) 145 b l,dM gG 40 (ix.h 0).1 (ix.h 0).2 l.j',fa bY 3 (ix.h 1).1 (ix.h 1).2 l.D'] _ from ?_);refine aV<|bn<|bA<|aB J<|cy h fun r F_ h=>nI (fr2 (fr2 (fr2 (jo (xs:=[.tmp 6]) (ts:=[tV (an b 0)]) (fW b l ix) _ J ZI (abP b ix l F_) ⟨(Y J),aW⟩ (fun _=>J))))) J fun i=>?_;refine(show RG _ _ _ _ [_,_,_,_] ((7,gp r.1)::_)from ?_);refine aU J<|bc<|aQ J<|M (gz (Y J))<|cD h J (fun h=>?_) (fun h=>?_)
 ·exact aV<|bn<|bO<|ai<|aM<|gQ<|bj<|xR (r' :=rH bG [(1,ak (i.h 0).1 (i.h 0).2 r.2.j'.length),(2,ak (i.h 1).1 (i.h 1).2 r.2.D'.length)]) (x' :=r.2) (fun _ _ _ ho h=>YP h (fun h=>kK (nM ho (.head _)) h))<|bj<|aJ<|ah<|ah<|ah<|so h▸fm J i J J (fun _ _ h=>h)
 ·refine kp<|bc<|aQ J<|M (aP (Y J))<|bI 3 jX J<|bI 11 kI J<|M (ay (r:=rH cE [(1,ak (i.h 0).1 (i.h 0).2 r.2.j'.length),(2,ak (i.h 1).1 (i.h 1).2 r.2.D'.length)]) (x:=db r.2 (ak (i.h 2).1 (i.h 2).2 r.2.B'.length)) tm J J (jD (gj Az fH)) (.head _) (Y J))<|cm oP J<|M (bH hI)<|bA<|am<|aR (k:=14) J fun hN=>bE ?_;refine aE (wS (h3:=fun ls i1 ob l1 c l2 c1 l3 c2=>(r.2.n.L'.drop i1=ls)/\fQ ls i1 ob=some R) (Of:=fun _ i1 ob l1 c l2 c1 l3 c2=>[bx (rH cE [(1,ak l1 c ob.j'.length),(2,ak l2 c1 ob.D'.length)]) 145 b (db ob (ak l3 c2 ob.B'.length)),dM gG 40 l1 c ob.j',fa bY 3 l2 c1 ob.D',fa bY 3 l3 c2 ob.B']) (Gf:=fun _ i1 ob l1 c l2 c1 l3 c2=>[(0,tV (an b 0)),(14,fI (eg) r.2.n.L'),(15,jg r.2.n.L'),(16,bX (i1:Int))]) (fun i1 ob l1 c l2 c1 l3 c2 h=>?_) (fun e tl ih i1 ob l1 c l2 c1 l3 c2 h=>?_) r.2.n.L' 0 r.2 (i.h 0).1 (i.h 0).2 (i.h 1).1 (i.h 1).2 (i.h 2).1 (i.h 2).2 ⟨J,h⟩) (aX J)
  ·obtain⟨I,h⟩:=h;refine dH I J<|ax<|aV<|bn<|bO<|aM<|gQ<|bj<|xR (r' :=rH bG [(1,ak l1 c ob.j'.length),(2,ak l2 c1 ob.D'.length)]) (x' :=ob) (fun _ _ _ ho h=>YP h (fun h=>kK (nM ho (.head _)) h))<|bj ?_;exact aJ<|ah<|ah<|ah<|so h▸fm J (D8 [(l1,c),(l2,c1)]) J J (fun _ _ h=>h)
  ·obtain⟨I,h⟩:=h;refine dG I J<|aw<|am<|aB J<|dN oP oT J (dE I)<|aO oT vo J fun b1=>fX J<|bv oT ae J<|aH 5 J<|bA<|aw ?_;refine au<|bg rq mR bN J<|cz J<|cD h J (fun h=>?_) (fun h=>?_)
   ·refine cy h fun e1 s_ h=>?_;refine mS 13 (ts:=[tV (an b 0),tV (an b 0),tV (an b 17),s5 l3 c2 ob.B',tV (an b 0),tV (an b 0),tV (an b 3),tV (an b 10),gM ob.n.I',jg ob.n.I',bX (i1:Int),bX (i64.wrap ((ob.n.I'.length:Int)+(i1:Int))),tV (qv l3 ((i64.wrap ((ob.n.I'.length:Int)+(i1:Int))).toNat*1+0))]) mixed J J J
     ⟨fg J J,
     ⟨dy 24 0 J J (aP (Y J)),
     ⟨dy 25 1 J J (qd 17 iG J J J),
     ⟨dy 26 2 J J (jH bK (jD ov) (.head _) J (Y J)),
     ⟨fg J J,
     ⟨dy 28 4 J J (aP (Y J)),
     ⟨dy 29 5 J J (qd 3 jX J J J),
     ⟨dy 30 6 J J (qd 10 mf J J J),
     ⟨dy 31 7 J J (ay (r:=rH cE [(1,ak l1 c ob.j'.length),(2,ak l2 c1 ob.D'.length)]) (x:=db ob (ak l3 c2 ob.B'.length)) bK J J (jD (gj Az eV)) (.head _) (Y J)),
     ⟨dy 32 8 J J (WP dI J),
     ⟨fg J J,
     ⟨eQ 33 9 34 10 J J J (nT (Y J) (Y J)),
     ⟨eQ 27 3 35 11 J J J (c9 dI bN (.tail _ (.tail _ (.tail _ (.head _)))) (Y J) (Y J) s_),
     aW⟩⟩⟩⟩⟩⟩⟩⟩⟩⟩⟩⟩⟩ ?_
    refine eh<|cy h fun st R_ h=>pw bN J ae J s_ (so R_) (Y J) hI<|ir (gS (so R_)) 27 J<|yz (O' :=[fa bY 3 l3 c2 st,bx (rH cE [(1,ak l1 c ob.j'.length),(2,ak l2 c1 ob.D'.length)]) 145 b (db ob (ak l3 c2 st.length)),dM gG 40 l1 c ob.j',fa bY 3 l2 c1 ob.D']) (by first|(rw [gS (so R_)];done)|(rw [gS (so R_)];exact J)|exact J)<|bm<|dg I hN J<|aM<|aM<|aM ?_;exact aT (aE (ih (i1+1) ({ob with B':=st}:ap) l1 c l2 c1 l3 c2 ⟨cV I,h⟩) (aX J))
   ·refine bl<|dg I hN J ?_;exact aT (aE (ih (i1+1) ob l1 c l2 c1 l3 c2 ⟨cV I,h⟩) (aX J))
def abN(b:Nat)(ix:OI) l{R}(h:kV l=some R):dj aL 119 [tV (an b 0)] (fW b l ix) (fun _:OI=>gp R.1) (fun j=>fW b R.2 j):=by
 refine dj.of func119 J J J fun w0 S0=>?_;refine(show CG _ _ _ [bx (rH bG [(1,ak (ix.h 0).1 (ix.h 0).2 l.j'.length),(2,ak (ix.h 1).1 (ix.h 1).2 l.D'.length)]) 145 b l,dM gG 40 (ix.h 0).1 (ix.h 0).2 l.j',fa bY 3 (ix.h 1).1 (ix.h 1).2 l.D'] _ from ?_);refine aV<|bn<|bA<|aB J<|M (aP (Y J))<|bI 3 jX J<|M (ay (r:=rH bG [(1,ak (ix.h 0).1 (ix.h 0).2 l.j'.length),(2,ak (ix.h 1).1 (ix.h 1).2 l.D'.length)]) (x:=l) dc J J (jD ip) (.head _) (Y J))<|aO dc fC J fun b1=>bv dc ae J<|aH 3 J<|bA<|aV<|bg mf eV bK J<|cm dI J<|aU J ?_;refine aw<|cy h fun e U_ h=>?_;refine eE (ts:=[_,_,_,_,_,_,_,_,_,_,_,_,_,_,_,_,_,_,_,_,_,_,_,_,_,_,_,_,_,_,_,_,_,_]) mixed J J
  ⟨fg J J,
  ⟨dy 18 0 J J (aP (Y J)),
  ⟨dy 19 1 J J (qd 0 Lg J J J),
  ⟨dy 20 2 J J (ay (r:=rH bG [(1,ak (ix.h 0).1 (ix.h 0).2 l.j'.length),(2,ak (ix.h 1).1 (ix.h 1).2 l.D'.length)]) (x:=l) o5 J J (jD EI) (.head _) (Y J)),
  ⟨oU 3 J J (mj j8 d8 J J),
  ⟨gH 4 bN J J,
  ⟨eQ 21 3 23 5 J J J (GN kw dc J J J U_),
  ⟨dy 24 6 J J (mj jy dA J J),
  ⟨gH 7 bN J J,
  ⟨dy 26 8 J J (WI J),
  ⟨dy 27 9 J J (kR J),
  ⟨rn 4 28 10 J J J (cX J J J J (fun H=>kR J)),
  ⟨hY 29 11 28 10 J J J (cX J J J J (fun H=>kZ (br J H) hI)),
  ⟨eQ 28 10 30 12 J J J (zpa J J),
  ⟨dy 31 13 J J (kR J),
  ⟨rn 3 32 14 J J J (cX J J J J (fun H=>mj kI fH J J)),
  ⟨hY 33 15 32 14 J J J (cX J J J J (fun H=>eJ tm J J (br J H))),
  ⟨hY 34 16 32 14 J J J (cX J J J J (fun H=>iY oP (br J H))),
  ⟨hY 35 17 32 14 J J J (cX J J J J (fun H=>kZ (br J H) hI)),
  ⟨eQ 32 14 36 18 J J J (zpa J J),
  ⟨dy 37 19 J J (kR J),
  ⟨rn 4 38 20 J J J (cX J J J J (fun H=>kR J)),
  ⟨rn 3 38 20 J J J (cX J J J J (fun H=>mj kI fH J J)),
  ⟨hY 40 22 38 20 J J J (cX J J J J (fun H=>eJ tm J J (br J H))),
  ⟨hY 41 23 38 20 J J J (cX J J J J (fun H=>iY oP (br J H))),
  ⟨w8 39 21 42 24 38 20 J J J J (cX J J J J (fun H=>nT (br J H) (br J H))),
  ⟨rn 0 38 20 J J J (cX J J J J (fun H=>kR J)),
  ⟨hY 44 26 38 20 J J J (cX J J J J (fun H=>aP (br J H))),
  ⟨hY 45 27 38 20 J J J (cX J J J J (fun H=>bS (n:=15) lQ J (br J H) J)),
  ⟨hY 46 28 38 20 J J J (cX J J J J (fun H=>ay (r:=rH bG [(1,ak (ix.h 0).1 (ix.h 0).2 l.j'.length),(2,ak (ix.h 1).1 (ix.h 1).2 l.D'.length)]) (x:=l) bK J J (jD re) (.head _) (br J H))),
  ⟨hY 47 29 38 20 J J J (cX J J J J (fun H=>iY dI (br J H))),
  ⟨w8 43 25 48 30 38 20 J J J J (cX J J J J (fun H=>fc (br J H) (br J H))),
  ⟨eQ 38 20 49 31 J J J (zpa J J),
  ⟨dy 50 32 J J (yO J),
  aW⟩⟩⟩⟩⟩⟩⟩⟩⟩⟩⟩⟩⟩⟩⟩⟩⟩⟩⟩⟩⟩⟩⟩⟩⟩⟩⟩⟩⟩⟩⟩⟩⟩⟩ ?_
 refine ax<|bc<|aQ J<|M (gz (Y J))<|cD h J (fun h=>?_) (fun h=>?_)
 ·exact aV<|bn<|bO<|ai<|ah<|ah<|ah<|so h▸fm J ix J J (fun _ _ h=>h)
 ·refine kp<|aB J<|aQ J<|M (aP (Y J))<|bI 15 lQ J<|M (ay (r:=rH bG [(1,ak (ix.h 0).1 (ix.h 0).2 l.j'.length),(2,ak (ix.h 1).1 (ix.h 1).2 l.D'.length)]) (x:=l) bK J J (jD re) (.head _) (Y J))<|t7 h Ge (xv _) (cA J) fun r h l1 c=>M (aP (Y J))<|bI 17 iG J<|bM<|f9 bK J (wn (hs' :=[(1,ak (ix.h 0).1 (ix.h 0).2 l.j'.length),(2,ak (ix.h 1).1 (ix.h 1).2 l.D'.length)]) (oc _ _) ⟨.inr ⟨J,J⟩,.inr ⟨J,J⟩,aW⟩ J) J (Y J) (Ih (Y J)) ?_;refine(show RG _ _ _ _ [_,_,_,_] _ from ?_);refine bA<|bc<|bg mf eV bK J<|cm dI J<|M (bH hI)<|bA<|am<|aR (k:=62) J fun hN=>bE<|gE<|fK<|fK<|fK ?_;refine aE (qc (h3:=fun ls i ok=>(l.n.I'.drop i=ls)/\iW l r ls i ok=some R) (Of:=fun _ i ok=>[bx (rH cE [(1,ak (ix.h 0).1 (ix.h 0).2 l.j'.length),(2,ak (ix.h 1).1 (ix.h 1).2 l.D'.length)]) 145 b (db l (ak l1 c r.length)),dM gG 40 (ix.h 0).1 (ix.h 0).2 l.j',fa bY 3 (ix.h 1).1 (ix.h 1).2 l.D',fa bY 3 l1 c r]) (Gf:=fun _ i ok=>[(0,tV (an b 0)),(3,aY al l.n),(4,jg l.n.I'),(5,gp ok),(62,gM l.n.I'),(63,jg l.n.I'),(64,bX (i:Int))]) (fun i ok h=>?_) (fun e1 tl ih i ok h=>?_) l.n.I' 0 ((((e.Op==9)&&(decide ((l.n.I'.length:Int)<=3)))&&(decide ((l.n.L'.length:Int)<=12)))&&((i64.wrap ((l.n.I'.length:Int)+(l.n.L'.length:Int)))==(l.a_.length:Int))) ⟨J,h⟩) (aX J)
  ·obtain⟨I,h⟩:=h;refine dH I J<|ax<|bc<|bg kI fH tm J<|cm oP J<|M (bH hI)<|bA<|am<|aR (k:=87) J fun hN1=>?_;refine bE ?_;refine aE (DX (h3:=fun ls1 i1 ok1 ob l2 c1 l3 c2 l4 c3=>(l.n.L'.drop i1=ls1)/\dd l ls1 i1 ok1 ob=some R) (Of:=fun _ i1 ok1 ob l2 c1 l3 c2 l4 c3=>[bx (rH cE [(1,ak l2 c1 ob.j'.length),(2,ak l3 c2 ob.D'.length)]) 145 b (db ob (ak l4 c3 ob.B'.length)),dM gG 40 l2 c1 ob.j',fa bY 3 l3 c2 ob.D',fa bY 3 l4 c3 ob.B']) (Gf:=fun _ i1 ok1 ob l2 c1 l3 c2 l4 c3=>[(0,tV (an b 0)),(4,jg l.n.I'),(5,gp ok1),(87,fI (eg) l.n.L'),(88,jg l.n.L'),(89,bX (i1:Int))]) (fun i1 ok1 ob l2 c1 l3 c2 l4 c3 h=>?_) (fun e2 tl1 ih1 i1 ok1 ob l2 c1 l3 c2 l4 c3 h=>?_) l.n.L' 0 ok ({l with B':=r}:ap) (ix.h 0).1 (ix.h 0).2 (ix.h 1).1 (ix.h 1).2 l1 c ⟨J,h⟩) (aX J)
   ·obtain⟨m_,h⟩:=h;refine dH m_ J<|ax<|aB J<|bz J<|aM<|gQ<|bj<|xR (r' :=rH bG [(1,ak l2 c1 ob.j'.length),(2,ak l3 c2 ob.D'.length)]) (x' :=ob) (fun _ _ _ ho h=>YP h (fun h=>kK (nM ho (.head _)) h)) ?_;exact bj<|aJ<|ah<|ah<|ah<|so h▸fm J (D8 [(l2,c1),(l3,c2)]) J J (fun _ _ h=>h)
   ·obtain⟨m_,h⟩:=h;refine dG m_ J<|aw<|am<|aB J<|dN oP oT J (dE m_)<|aO oT vo J fun b2=>fX J<|bv oT ae J<|aH 9 J<|bA<|aw ?_;refine au<|aQ J<|M (aP (Y J))<|bI 15 lQ J<|M (ay (r:=rH cE [(1,ak l2 c1 ob.j'.length),(2,ak l3 c2 ob.D'.length)]) (x:=db ob (ak l4 c3 ob.B'.length)) bK J J (jD m7) (.head _) (Y J))<|aQ J<|aQ J<|M (nT (Y J) (Y J))<|cy h fun e3 P_ h=>dN dI bN J P_<|aU J<|aB J<|aQ J<|aj J (cZ xO rK J J)<|aj J (fun H=>dP gI J dF J (br J H))<|aj J (cG pC J J)<|aj J (fM oD J)<|aj J (iu J)<|dx J ?_;refine aU J<|aV<|bg rq mR bN J<|bA<|am ?_;refine fL (h3:=fun x=>j5 l (dd l tl1) i1 e2 ok1 ob e3 x=some R) (Of:=fun x=>[bx (rH cE [(1,ak l2 c1 ob.j'.length),(2,ak l3 c2 ob.D'.length)]) 145 b (db ob (ak l4 c3 ob.B'.length)),dM gG 40 l2 c1 ob.j',fa bY 3 l3 c2 ob.D',fa bY 3 l4 c3 ob.B']) (Gf:=fun x=>[(0,tV (an b 0)),(4,jg l.n.I'),(5,gp (ok1&&((e2.N_.u'.length:Int)==0))),(8,bX (i1:Int)),(10,bX e3),(87,fI (eg) l.n.L'),(88,jg l.n.L'),(89,bX (i1:Int)),(112,bX e2.Tag),(113,gp x)]) (fun x h=>?_) (fun hb=>?_)
    ·skip;refine oS h J (fun h=>?_) (fun h=>?_)
     ·refine au<|aQ J<|aQ J<|aj J (cY J)<|aj J (iu J)<|dx J<|fX J<|bm<|bf<|dg m_ hN1 J ?_;exact aT (aE (ih1 (i1+1) ((ok1&&((e2.N_.u'.length:Int)==0))&&(e3==2)) ob l2 c1 l3 c2 l4 c3 ⟨cV m_,h⟩) (aX J))
     ·refine aV<|cz J<|aU J<|oS h J (fun h=>?_) (fun h=>?_)
      ·refine aB J<|aQ J<|aj J (cY J)<|aj J (iu J)<|dx J<|aU J<|au<|aQ J<|M (aP (Y J))<|bI 17 iG J<|M (jH bK (jD ov) (.head _) J (Y J))<|aQ J<|aQ J<|M (nT (Y J) (Y J))<|cy h fun e4 q_e4 h=>M (c9 dI bN (.tail _ (.tail _ (.tail _ (.head _)))) (Y J) (Y J) q_e4)<|eh<|cy h fun st R_ h=>pw bN J ae J q_e4 (so R_) (Y J) hI<|ir (gS (so R_)) 131 J ?_;refine yz (O' :=[fa bY 3 l4 c3 st,bx (rH cE [(1,ak l2 c1 ob.j'.length),(2,ak l3 c2 ob.D'.length)]) 145 b (db ob (ak l4 c3 st.length)),dM gG 40 l2 c1 ob.j',fa bY 3 l3 c2 ob.D']) (by first|(rw [gS (so R_)];done)|(rw [gS (so R_)];exact J)|exact J)<|bm<|bf<|dg m_ hN1 J<|aM<|aM<|aM ?_;exact aT (aE (ih1 (i1+1) ((ok1&&((e2.N_.u'.length:Int)==0))&&(e3==4)) ({ob with B':=st}:ap) l2 c1 l3 c2 l4 c3 ⟨cV m_,h⟩) (aX J))
      ·refine fL (h3:=fun x1=>nD (dd l tl1) i1 e2 ok1 ob e3 x1=some R) (Of:=fun x1=>[bx (rH cE [(1,ak l2 c1 ob.j'.length),(2,ak l3 c2 ob.D'.length)]) 145 b (db ob (ak l4 c3 ob.B'.length)),dM gG 40 l2 c1 ob.j',fa bY 3 l3 c2 ob.D',fa bY 3 l4 c3 ob.B']) (Gf:=fun x1=>[(0,tV (an b 0)),(4,jg l.n.I'),(5,gp (ok1&&((e2.N_.u'.length:Int)==0))),(10,bX e3),(87,fI (eg) l.n.L'),(88,jg l.n.L'),(89,bX (i1:Int)),(136,gp x1)]) (fun x1 h=>?_) (fun K1=>?_)
       ·skip;refine oS h J (fun h=>?_) (fun h=>?_)
        ·refine au<|aQ J<|aQ J<|aj J (cY J)<|aj J (uV J)<|dx J<|fX J<|bm<|bf<|dg m_ hN1 J ?_;exact aT (aE (ih1 (i1+1) ((ok1&&((e2.N_.u'.length:Int)==0))&&(e3 !=4)) ob l2 c1 l3 c2 l4 c3 ⟨cV m_,h⟩) (aX J))
        ·refine au<|bn<|bm<|bf<|dg m_ hN1 J ?_;exact aT (aE (ih1 (i1+1) false ob l2 c1 l3 c2 l4 c3 ⟨cV m_,h⟩) (aX J))
       ·skip;refine aV<|cz J<|aU J<|oS h J (fun h=>?_) (fun h=>?_)
        ·refine bl ?_;exact bQ (K1 (e2.Tag==4) h) (aX J)
        ·refine au<|cz J<|fX J<|bm ?_;exact bQ (K1 (e2.Tag==5) h) (aX J)
    ·skip;refine aV<|cz J<|aU J<|oS h J (fun h=>?_) (fun h=>?_)
     ·refine bl ?_;exact bQ (hb (e2.Tag==1) h) (aX J)
     ·refine au<|cz J<|fX J<|bm ?_;exact bQ (hb (e2.Tag==2) h) (aX J)
  ·obtain⟨I,h⟩:=h;refine dG I J<|aw<|am<|aB J<|dN dI bN J (dE I)<|fX J<|aU J<|au<|aQ J<|aQ J ?_;refine aj J (cY J)<|aj J (cY J)<|aj J (fun H=>fc (br J H) (br J H))<|dx J<|aQ J<|cy h fun t Z_ h=>aj J (cY J)<|aj J (fun H=>aP (br J H))<|aj J (fun H=>bS (n:=15) lQ J (br J H) J)<|aj J (fun H=>ay (r:=rH cE [(1,ak (ix.h 0).1 (ix.h 0).2 l.j'.length),(2,ak (ix.h 1).1 (ix.h 1).2 l.D'.length)]) (x:=db l (ak l1 c r.length)) bK J J (jD m7) (.head _) (br J H))<|aj J (cY J) ?_;obtain⟨e5,B_,h0t⟩:=og Z_;have q_e5g:=fun K=>(B_ K).1;refine aj J (fun H=>aS dI bN J (br J H) (br J H) (q_e5g H))<|aj J (cG bN J J)<|aj J (uV J)<|M (dW (Y J) (fun K=>(br J K)) (fun K=>(B_ K).2) h0t)<|fX J<|bm<|dg I hN J ?_;exact aT (aE (ih (i+1) t ⟨cV I,h⟩) (aX J))
def abL(b:Nat)(ix:OI) l{R}(h:mp l=some R):dj aL 120 [tV (an b 0)] (fW b l ix) (fun _:OI=>gp R.1) (fun j=>fW b R.2 j):=by
 refine dj.of func120 J J J fun w0 S0=>?_;refine(show CG _ _ _ [bx (rH bG [(1,ak (ix.h 0).1 (ix.h 0).2 l.j'.length),(2,ak (ix.h 1).1 (ix.h 1).2 l.D'.length)]) 145 b l,dM gG 40 (ix.h 0).1 (ix.h 0).2 l.j',fa bY 3 (ix.h 1).1 (ix.h 1).2 l.D'] _ from ?_);refine aV<|bn<|bA<|aB J<|M (aP (Y J))<|bI 17 iG J<|cr false bY 3<|bM<|f9 bK J (wn (hs' :=[(1,ak (ix.h 0).1 (ix.h 0).2 l.j'.length),(2,ak (ix.h 1).1 (ix.h 1).2 l.D'.length)]) (oc _ _) ⟨.inr ⟨J,J⟩,.inr ⟨J,J⟩,aW⟩ J) J (Y J) (Ih (show aG _ _ _ WS from xq)) ?_;refine(show RG _ _ _ _ [_,_,_,_] _ from ?_);refine bA<|bc<|aQ J<|M (aP (Y J))<|bI 3 jX J<|bI 12 qT J<|M (ay (r:=rH cE [(1,ak (ix.h 0).1 (ix.h 0).2 l.j'.length),(2,ak (ix.h 1).1 (ix.h 1).2 l.D'.length)]) (x:=db l (ak none 0 (vH.length))) zP J J (jD (gj Az lH)) (.head _) (Y J))<|cm s7 J<|M (bH hI)<|bA<|am<|aR (k:=14) J fun hN=>bE<|gE<|fK<|fK<|fK ?_;refine aE (wS (h3:=fun ls i ob l1 c l2 c1 l3 c2=>(l.n.N'.drop i=ls)/\iU ls ob=some R) (Of:=fun _ i ob l1 c l2 c1 l3 c2=>[bx (rH cE [(1,ak l1 c ob.j'.length),(2,ak l2 c1 ob.D'.length)]) 145 b (db ob (ak l3 c2 ob.B'.length)),dM gG 40 l1 c ob.j',fa bY 3 l2 c1 ob.D',fa bY 3 l3 c2 ob.B']) (Gf:=fun _ i ob l1 c l2 c1 l3 c2=>[(0,tV (an b 0)),(14,fI (cg) l.n.N'),(15,jg l.n.N'),(16,bX (i:Int))]) (fun i ob l1 c l2 c1 l3 c2 h=>?_) (fun e tl ih i ob l1 c l2 c1 l3 c2 h=>?_) l.n.N' 0 ({l with B':=vH}:ap) (ix.h 0).1 (ix.h 0).2 (ix.h 1).1 (ix.h 1).2 none 0 ⟨J,h⟩) (aX J)
 ·obtain⟨I,h⟩:=h;refine dH I J<|ax<|aB J<|M (aP (Y J))<|bI 17 iG J<|M (jH bK (jD ov) (.head _) J (Y J))<|M (iF dI (.tail _ (.tail _ (.tail _ (.head _)))) (Y J))<|M (fR (Y J) hI)<|aU J ?_;exact kM<|aM<|gQ<|d6 45 J<|bj<|xR (r' :=rH bG [(1,ak l1 c ob.j'.length),(2,ak l2 c1 ob.D'.length)]) (x' :=ob) (fun _ _ _ ho h=>YP h (fun h=>kK (nM ho (.head _)) h))<|bj<|aJ<|ah<|ah<|ah<|so h▸fm J (D8 [(l1,c),(l2,c1)]) J J (fun _ _ h=>h)
 ·obtain⟨I,h⟩:=h;refine dG I J<|aw<|am<|aV<|dN s7 jM J (dE I)<|aO jM te J fun b1=>bv jM ae J<|aH 4 J<|bA<|aw<|cy h fun r F_ h=>?_;refine eE (ts:=[_,_,_,_,_,_,_,_,_,_,_]) mixed J J
   ⟨oU 4 J J (m9 jM J J),
   ⟨fg J J,
   ⟨dy 22 1 J J (aP (Y J)),
   ⟨dy 23 2 J J (qd 15 lQ J J J),
   ⟨dy 24 3 J J (ay (r:=rH cE [(1,ak l1 c ob.j'.length),(2,ak l2 c1 ob.D'.length)]) (x:=db ob (ak l3 c2 ob.B'.length)) bK J J (jD m7) (.head _) (Y J)),
   ⟨eQ 21 0 25 4 J J J (cq H1 (zq _ _ F_) ⟨(Y J),(Y J),aW⟩),
   ⟨dy 26 5 J J (kR J),
   ⟨dy 20 6 J J (Sw J J),
   ⟨dy 20 6 J J (Sw J J),
   ⟨dy 27 7 J J (yO J),
   ⟨dy 28 8 J J (yO J),
   aW⟩⟩⟩⟩⟩⟩⟩⟩⟩⟩⟩ ?_
  refine ax<|bc<|aQ J<|mn J<|cD h J (fun h=>?_) (fun h=>?_)
  ·exact aV<|bn<|bO<|ai<|dB<|ai<|dB<|aM<|gQ<|bj<|xR (r' :=rH bG [(1,ak l1 c ob.j'.length),(2,ak l2 c1 ob.D'.length)]) (x' :=ob) (fun _ _ _ ho h=>YP h (fun h=>kK (nM ho (.head _)) h))<|bj<|aJ<|ah<|ah<|ah<|so h▸fm J (D8 [(l1,c),(l2,c1)]) J J (fun _ _ h=>h)
  ·refine kp<|au<|aQ J<|aQ J<|M (aP (Y J))<|bI 17 iG J<|M (jH bK (jD ov) (.head _) J (Y J))<|aQ J<|M (aI (r:=bY) (ys:=[r.1]) (xs:=[.tmp 36]) dI bN J J J J J ⟨(Y J),aW⟩)<|eh<|cy h fun l4 q_l4 h=>ea bN J J J J dI J J (Y J) (Y J) q_l4 fun l5 c3=>M (aP (Y J))<|bI 17 iG J<|bM<|f9 bK J (wn (hs' :=[(1,ak l1 c ob.j'.length),(2,ak l2 c1 ob.D'.length)]) (kN _ _ _) ⟨.inr ⟨J,J⟩,.inr ⟨J,J⟩,aW⟩ J) J (Y J) (Ih (Y J)) ?_;refine(show RG _ _ _ _ [_,_,_,_] _ from ?_);refine bm<|dg I hN J<|bj<|aM<|aM<|aM ?_;exact aT (aE (ih (i+1) ({ob with B':=l4}:ap) l1 c l2 c1 l5 c3 ⟨cV I,h⟩) (aX J))
def abK(b:Nat)(ix:OI) l{R}(h:nX l=some R):dj aL 121 [tV (an b 0)] (fW b l ix) (fun _:OI=>gp R.1) (fun j=>fW b R.2 j):=by
 refine dj.of func121 J J J fun w0 S0=>?_;refine(show CG _ _ _ [bx (rH bG [(1,ak (ix.h 0).1 (ix.h 0).2 l.j'.length),(2,ak (ix.h 1).1 (ix.h 1).2 l.D'.length)]) 145 b l,dM gG 40 (ix.h 0).1 (ix.h 0).2 l.j',fa bY 3 (ix.h 1).1 (ix.h 1).2 l.D'] _ from ?_);refine aV<|bn<|bA<|aB J<|aQ J<|M (aP (Y J))<|bI 15 lQ J<|M (ay (r:=rH bG [(1,ak (ix.h 0).1 (ix.h 0).2 l.j'.length),(2,ak (ix.h 1).1 (ix.h 1).2 l.D'.length)]) (x:=l) bK J J (jD re) (.head _) (Y J))<|M (aP (Y J))<|bI 17 iG J<|mD (gD bK J (Ac (hs' :=[(1,ak (ix.h 0).1 (ix.h 0).2 l.j'.length),(2,ak (ix.h 1).1 (ix.h 1).2 l.D'.length)]) vY ⟨.inr ⟨J,J⟩,.inr ⟨J,J⟩,aW⟩ J) J (Y J) (Y J)) fun i=>?_;refine(show RG _ _ _ _ [_,_,_] _ from ?_);exact bA<|aV<|bn<|bO<|ah<|ah<|ah<|so h▸fm J ix J J (fun _ _ h=>h)
def abJ(b:Nat)(ix:OI) l{R}(h:kT l=some R):dj aL 122 [tV (an b 0)] (fW b l ix) (fun _:OI=>gp R.1) (fun j=>fW b R.2 j):=by
 refine dj.of func122 J J J fun w0 S0=>?_;refine(show CG _ _ _ [bx (rH bG [(1,ak (ix.h 0).1 (ix.h 0).2 l.j'.length),(2,ak (ix.h 1).1 (ix.h 1).2 l.D'.length)]) 145 b l,dM gG 40 (ix.h 0).1 (ix.h 0).2 l.j',fa bY 3 (ix.h 1).1 (ix.h 1).2 l.D'] _ from ?_);refine aV<|bn<|bA<|aw<|aw ?_;refine eE (ts:=[_,_,_,_,_,_,_,_,_,_,_]) mixed J J
  ⟨fg J J,
  ⟨dy 6 0 J J (aP (Y J)),
  ⟨dy 7 1 J J (qd 15 lQ J J J),
  ⟨dy 8 2 J J (ay (r:=rH bG [(1,ak (ix.h 0).1 (ix.h 0).2 l.j'.length),(2,ak (ix.h 1).1 (ix.h 1).2 l.D'.length)]) (x:=l) bK J J (jD re) (.head _) (Y J)),
  ⟨dy 9 3 J J (WP dI J),
  ⟨fg J J,
  ⟨dy 11 5 J J (aP (Y J)),
  ⟨dy 12 6 J J (qd 16 Dx J J J),
  ⟨dy 13 7 J J (ay (r:=rH bG [(1,ak (ix.h 0).1 (ix.h 0).2 l.j'.length),(2,ak (ix.h 1).1 (ix.h 1).2 l.D'.length)]) (x:=l) bK J J (jD JK) (.head _) (Y J)),
  ⟨dy 14 8 J J (WP dI J),
  ⟨eQ 10 4 15 9 J J J (jV (Y J) (Y J)),
  aW⟩⟩⟩⟩⟩⟩⟩⟩⟩⟩⟩ ?_
 refine ax<|oS h J (fun h=>?_) (fun h=>?_)
 ·exact aV<|bn<|bO<|ai<|ah<|ah<|ah<|so h▸fm J ix J J (fun _ _ h=>h)
 ·refine kp<|aB J<|M (aP (Y J))<|bI 17 iG J<|cr false bY 3<|bM<|f9 bK J (wn (hs' :=[(1,ak (ix.h 0).1 (ix.h 0).2 l.j'.length),(2,ak (ix.h 1).1 (ix.h 1).2 l.D'.length)]) (oc _ _) ⟨.inr ⟨J,J⟩,.inr ⟨J,J⟩,aW⟩ J) J (Y J) (Ih (show aG _ _ _ WS from xq)) ?_;refine(show RG _ _ _ _ [_,_,_,_] _ from ?_);refine bA<|bc<|aQ J<|M (aP (Y J))<|bI 15 lQ J<|M (ay (r:=rH cE [(1,ak (ix.h 0).1 (ix.h 0).2 l.j'.length),(2,ak (ix.h 1).1 (ix.h 1).2 l.D'.length)]) (x:=db l (ak none 0 (vH.length))) bK J J (jD m7) (.head _) (Y J))<|cm dI J<|M (bH hI)<|bA<|am<|aR (k:=23) J fun hN=>bE<|gE<|fK<|fK<|fK ?_;refine aE (wS (h3:=fun ls i ob l1 c l2 c1 l3 c2=>(l.a_.drop i=ls)/\d7 ls i ob=some R) (Of:=fun _ i ob l1 c l2 c1 l3 c2=>[bx (rH cE [(1,ak l1 c ob.j'.length),(2,ak l2 c1 ob.D'.length)]) 145 b (db ob (ak l3 c2 ob.B'.length)),dM gG 40 l1 c ob.j',fa bY 3 l2 c1 ob.D',fa bY 3 l3 c2 ob.B']) (Gf:=fun _ i ob l1 c l2 c1 l3 c2=>[(0,tV (an b 0)),(23,gM l.a_),(24,jg l.a_),(25,bX (i:Int))]) (fun i ob l1 c l2 c1 l3 c2 h=>?_) (fun e tl ih i ob l1 c l2 c1 l3 c2 h=>?_) l.a_ 0 ({l with B':=vH}:ap) (ix.h 0).1 (ix.h 0).2 (ix.h 1).1 (ix.h 1).2 none 0 ⟨J,h⟩) (aX J)
  ·obtain⟨I,h⟩:=h;refine dH I J<|ax<|aV<|bn<|bO<|aM<|gQ<|bj<|xR (r' :=rH bG [(1,ak l1 c ob.j'.length),(2,ak l2 c1 ob.D'.length)]) (x' :=ob) (fun _ _ _ ho h=>YP h (fun h=>kK (nM ho (.head _)) h))<|bj ?_;exact aJ<|ah<|ah<|ah<|so h▸fm J (D8 [(l1,c),(l2,c1)]) J J (fun _ _ h=>h)
  ·obtain⟨I,h⟩:=h;refine dG I J<|aw<|am<|aB J<|dN dI bN J (dE I)<|fX J<|aU J<|aB J ?_;refine M (aP (Y J))<|bI 16 Dx J<|M (ay (r:=rH cE [(1,ak l1 c ob.j'.length),(2,ak l2 c1 ob.D'.length)]) (x:=db ob (ak l3 c2 ob.B'.length)) bK J J (jD NF) (.head _) (Y J))<|aQ J<|cy h fun e1 s_ h=>dN dI bN J s_<|aU J ?_;refine fL (h3:=fun k=>gU (d7 tl) i ob e1 k=some R) (Of:=fun k=>[bx (rH cE [(1,ak l1 c ob.j'.length),(2,ak l2 c1 ob.D'.length)]) 145 b (db ob (ak l3 c2 ob.B'.length)),dM gG 40 l1 c ob.j',fa bY 3 l2 c1 ob.D',fa bY 3 l3 c2 ob.B']) (Gf:=fun k=>[(0,tV (an b 0)),(4,bX k),(5,bX e1),(23,gM l.a_),(24,jg l.a_),(25,bX (i:Int))]) (fun k h=>?_) (fun hb=>?_)
   ·skip;refine bc<|aQ J<|mn J<|aQ J<|aj J (cY J)<|aj J (cY J)<|aj J (fun H=>jV (br J H) (br J H))<|dx J<|cD h J (fun h=>?_) (fun h=>?_)
    ·exact aV<|bn<|bO<|ai<|dB<|ai<|dB<|aM<|gQ<|bj<|xR (r' :=rH bG [(1,ak l1 c ob.j'.length),(2,ak l2 c1 ob.D'.length)]) (x' :=ob) (fun _ _ _ ho h=>YP h (fun h=>kK (nM ho (.head _)) h))<|bj<|aJ<|ah<|ah<|ah<|so h▸fm J (D8 [(l1,c),(l2,c1)]) J J (fun _ _ h=>h)
    ·refine kp<|au<|aQ J<|aQ J<|M (aP (Y J))<|bI 17 iG J<|M (jH bK (jD ov) (.head _) J (Y J))<|aQ J<|M (aI (r:=bY) (ys:=[k]) (xs:=[.tmp 52]) dI bN J J J J J ⟨(Y J),aW⟩)<|eh<|cy h fun l4 q_l4 h=>ea bN J J J J dI J J (Y J) (Y J) q_l4 fun l5 c3=>M (aP (Y J))<|bI 17 iG J<|bM<|f9 bK J (wn (hs' :=[(1,ak l1 c ob.j'.length),(2,ak l2 c1 ob.D'.length)]) (kN _ _ _) ⟨.inr ⟨J,J⟩,.inr ⟨J,J⟩,aW⟩ J) J (Y J) (Ih (Y J)) ?_;refine(show RG _ _ _ _ [_,_,_,_] _ from ?_);refine bm<|dg I hN J<|bj<|aM<|aM<|aM ?_;exact aT (aE (ih (i+1) ({ob with B':=l4}:ap) l1 c l2 c1 l5 c3 ⟨cV I,h⟩) (aX J))
   ·skip;refine aB J<|cz J<|cD h J (fun h=>?_) (fun h=>?_)
    ·refine au<|aQ J<|fX J<|bm ?_;exact bQ (hb e1 h) (aX J)
    ·refine bl ?_;exact bQ (hb e h) (aX J)
