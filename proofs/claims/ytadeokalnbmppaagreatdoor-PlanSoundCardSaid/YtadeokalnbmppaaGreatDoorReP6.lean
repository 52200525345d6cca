import Derived.Test.YtadeokalnbmppaaGreatDoorReT
import Derived.Test.YtadeokalnbmppaaGreatDoorReP5
set_option linter.all false
namespace Go.Proofs.YtadeokalnbmppaaGreatDoor
open Go IntKind Tryz EffOK
set_option maxRecDepth 100000
def abD l place{R}(h:y8 l place=some R):cN aL 18 [tD dO l,bX place] (tT [tD dO R.1,bX R.2]):=by
 refine dL func18 J<|aV<|cR J<|aO t6 uU J fun b=>cM<|bA<|aV<|cx t6 J<|eG h ace (Qk _) (cA J) fun r h=>aQ J<|dq J J<|dq J J<|dq J J<|fX J<|fX J<|aU J<|aw<|am ?_;refine aB J<|M (gz (Y J))<|aU J<|oS h J (fun h=>?_) (fun h=>?_)
 ·exact aV<|M (dl t6 aaT uU J)<|bv t6 ae J<|jK<|dB<|ce 4 J<|so h▸rj J J ⟨jP t6 J J J,fb J,aW⟩
 ·refine aB J<|M (gA (Y J) hI)<|aQ J<|aC J (cY J)<|aC J (cZ tL mJ J J)<|aC J (cG o5 J J)<|aC J (fM kw J)<|aC J (fun H=>eT (br J H) (br J H))<|fV J<|aU J<|oS h J (fun h=>?_) (fun h=>?_)
  ·exact aV<|M (dl t6 aaT uU J)<|bv t6 ae J<|jK<|dB<|ce 4 J<|so h▸rj J J ⟨jP t6 J J J,fb J,aW⟩
  ·refine bl<|bf<|ax<|aV<|cr true al 48<|aO (r:=sf) (x:=ur (⟨[]⟩:cQ) (ak none 0 (OJ.length))) t6 OF J fun b1=>bA<|bc<|aQ J<|M (Di (Y J))<|bg AE Dw bK J<|aQ J<|cy h fun e U_ h=>dN dI bN J U_<|aU J<|am ?_;refine bE<|gE<|gE<|qq ?_;refine aE (LH (h3:=fun n i out l1 c=>qm l place e n i out=some R) (Of:=fun i out l1 c=>[bx dO 24 b (⟨[]⟩:cQ),bx sf 24 b1 (ur out (ak l1 c out.u'.length)),dM al 48 l1 c out.u']) (Gf:=fun i out l1 c=>[(1,bX place),(2,aY dO l),(4,tV (an b 0)),(6,aY bP r.1),(9,tV (an b1 0)),(10,bX i)]) (fun i out l1 c h=>nn h) (fun n ih i out l1 c h=>?_) ko e (⟨OJ⟩:cQ) none 0 h) (aX J);refine lI<|bc<|aQ J<|aQ J<|M (kZ (Y J) (Y J))<|cD h J (fun h=>?_) (fun h=>?_)
   ·refine kp<|aw<|am<|cy h fun e1 s_ h=>cy h fun r1 Y_ h=>?_;refine mS 17 (ts:=[tV (an b1 0),tO al l1 c out.u',aY Ik l.u',fI (al) l.u',bX i,aY al e1,tD al e1,aY bP r.1,aY bP r.1,aY gG r.1.first,gM r.1.first,bX place,aY bY e,bX e,bX (i64.wrap (0-e)),tD al r1,fI (al) ([r1])]) mixed J J J
     ⟨oU 9 J J (qd 0 tL J J J),
     ⟨dy 44 0 J J (sO o5 K9 (.tail _ (.head _)) (.tail _ (.tail _ (.head _))) J (Y J)),
     ⟨oU 2 J J (mj tL mJ J J),
     ⟨gH 2 o5 J J,
     ⟨fg J J,
     ⟨eQ 47 3 48 4 J J J (GN kw dc J J J s_),
     ⟨gH 5 dc J J,
     ⟨fg J J,
     ⟨dy 51 7 J J (Di (Y J)),
     ⟨dy 52 8 J J (mj AE Dw J J),
     ⟨gH 9 bK J J,
     ⟨fg J J,
     ⟨eQ 54 10 55 11 J J J (GN dI bN J J J U_),
     ⟨gH 12 bN J J,
     ⟨dy 57 13 J J (aaE (Y J)),
     ⟨eQ 50 6 58 14 J J J (cq afO (abp _ _ Y_) ⟨(Y J),(Y J),aW⟩),
     ⟨dy 59 15 J J (aI (r:=al) (ys:=[r1]) (xs:=[.tmp 59]) kw dc J J J J J ⟨(Y J),aW⟩),
     aW⟩⟩⟩⟩⟩⟩⟩⟩⟩⟩⟩⟩⟩⟩⟩⟩⟩ ?_
    refine gi<|cy h fun l2 q_l2 h=>uA dc J J J J kw J J (Y J) (Y J) q_l2 fun l3 c1=>bI 0 tL J<|gi<|f9 o5 J (z7 _ _ _) J (Y J) (Ih (Ei (Y J)))<|bm<|bf<|ax<|au<|aQ J<|M (nT (Y J) hI)<|fX J<|bm<|bj<|bj<|ah ?_;exact aT (aE (ih (i64.wrap (i+1)) ({out with u':=l2}:cQ) l3 c1 h) (aX J))
   ·exact iN<|aN<|aN<|dY<|ax<|aV<|gi<|M (wA (q:=dO) (y:=out) t6 J J J J (.tail _ (.tail _ (.head _))) (fun _ _ _ ho h=>Gc (nM ho (.head _)) h) (Y J))<|bM<|bv t6 ae J<|jK<|ce 4 J<|aJ<|aJ<|so h▸rj J J ⟨jP t6 J J J,fb J,aW⟩
def FD(b:Nat)(ix:OI) p s way d_{R}(h:ez p s way d_=some R):dj aL 39 [tV (an b 0),tD aq s,bX way,gM d_] (jW b p ix) (fun _:OI=>tD aq R.1) (fun j=>jW b R.2 j):=by
 refine dj.of func39 J J J fun w0 S0=>?_;refine(show CG _ _ _ [bx (rH bB [(0,ak (ix.h 0).1 (ix.h 0).2 p.c_.J'.length),(3,ak (ix.h 1).1 (ix.h 1).2 p.j'.length)]) 73 b p,dM bk 50 (ix.h 0).1 (ix.h 0).2 p.c_.J',dM gG 40 (ix.h 1).1 (ix.h 1).2 p.j'] _ from ?_);refine aV<|cR J<|aO cj iC J fun b1=>bA<|aw<|cy h fun r F_ h=>cy h fun l q_l h=>?_;refine lw 16 [tc (tV (an b 0)),tc (tV (an b 0)),tc (tV (an b 0)),tc (tV (an b 0)),tc (tV (an b 0)),tc (tO bk (ix.h 0).1 (ix.h 0).2 p.c_.J'),tc (aY Ik s.A'),tc (fI (al) s.A'),tc (aY bY s.h_),tc (bX s.h_),tc (bX way),tc (gM d_),tc (gM r),tc (tD bk (⟨s.A',s.h_,way,r⟩:bt)),tc (fI (bk) ([(⟨s.A',s.h_,way,r⟩:bt)])),([15],fun s=>tO bk ((s.getD 0 rs).h 0).1 ((s.getD 0 rs).h 0).2 l)] [false,false,false,false,false,false,false,false,false,false,false,false,false,false,false,true] [fun _=>[bx aq 77 b1 vz,bx (rH bB [(0,ak (ix.h 0).1 (ix.h 0).2 p.c_.J'.length),(3,ak (ix.h 1).1 (ix.h 1).2 p.j'.length)]) 73 b p,dM bk 50 (ix.h 0).1 (ix.h 0).2 p.c_.J',dM gG 40 (ix.h 1).1 (ix.h 1).2 p.j'],fun sg=>[dM bk 50 ((sg 15).h 0).1 ((sg 15).h 0).2 l,bx aq 77 b1 vz,bx (rH bB [(0,ak (ix.h 0).1 (ix.h 0).2 p.c_.J'.length),(3,ak (ix.h 1).1 (ix.h 1).2 p.j'.length)]) 73 b p,dM gG 40 (ix.h 1).1 (ix.h 1).2 p.j']] J mixed J J J J J
  ⟨⟨[⟨0,fun _=>tV (an b 0),none⟩],_,0,1,J,⟨(fun _=>J),aW⟩,J,J,J,J,J,fun _ sg _ _=>aa J (kR J)⟩,
  ⟨⟨[⟨0,fun _=>tV (an b 0),none⟩],_,0,0,J,⟨(fun _=>J),aW⟩,J,J,J,J,J,fun _ sg _ _=>aa J (kR J)⟩,
  ⟨⟨[⟨12,fun _=>tV (an b 0),some 1⟩],_,0,0,J,⟨(fun _=>J),aW⟩,J,J,J,J,J,fun _ sg _ _=>aa J (aP (Y J))⟩,
  ⟨⟨[⟨13,fun _=>tV (an b 0),some 2⟩],_,0,0,J,⟨(fun _=>J),aW⟩,J,J,J,J,J,fun _ sg _ _=>aa J (qd 0 AF J J J)⟩,
  ⟨⟨[⟨14,fun _=>tV (an b 0),some 3⟩],_,0,0,J,⟨(fun _=>J),aW⟩,J,J,J,J,J,fun _ sg _ _=>aa J (qd 0 jz J J J)⟩,
  ⟨⟨[⟨15,fun _=>tV (an b 0),some 4⟩],_,0,0,J,⟨(fun _=>J),aW⟩,J,J,J,J,J,vI (fun sg=>aa J (fi qY J (.tail _ (.head _)) (.tail _ (.tail _ (.head _))) (Y J)))⟩,
  ⟨⟨[⟨5,fun _=>aY aq s,none⟩],_,0,0,J,⟨(fun _=>J),aW⟩,J,J,J,J,J,fun _ sg _ _=>aa J (mj xN EG J J)⟩,
  ⟨⟨[⟨17,fun _=>aY Ik s.A',some 6⟩],_,0,0,J,⟨(fun _=>J),aW⟩,J,J,J,J,J,fun _ sg _ _=>aa J (m9 o5 J J)⟩,
  ⟨⟨[⟨5,fun _=>aY aq s,none⟩],_,0,0,J,⟨(fun _=>J),aW⟩,J,J,J,J,J,fun _ sg _ _=>aa J (mj wK pn J J)⟩,
  ⟨⟨[⟨19,fun _=>aY bY s.h_,some 8⟩],_,0,0,J,⟨(fun _=>J),aW⟩,J,J,J,J,J,fun _ sg _ _=>aa J (m9 bN J J)⟩,
  ⟨⟨[⟨2,fun _=>tD bY way,none⟩],_,0,0,J,⟨(fun _=>J),aW⟩,J,J,J,J,J,fun _ sg _ _=>aa J (kR J)⟩,
  ⟨⟨[⟨3,fun _=>tD oQ d_,none⟩],_,0,0,J,⟨(fun _=>J),aW⟩,J,J,J,J,J,fun _ sg _ _=>aa J (kR J)⟩,
  ⟨⟨[⟨22,fun _=>tD oQ d_,some 11⟩],_,0,0,J,⟨(fun _=>J),aW⟩,J,J,J,J,J,fun _ sg _ _=>aa J (cq Ge (Ln _ F_) ⟨(Y J),aW⟩)⟩,
  ⟨⟨[⟨18,fun _=>tD Ik s.A',some 7⟩,⟨20,fun _=>tD bY s.h_,some 9⟩,⟨21,fun _=>tD bY way,some 10⟩,⟨23,fun _=>tD oQ r,some 12⟩],_,0,0,J,⟨(fun _=>J),(fun _=>J),(fun _=>J),(fun _=>J),aW⟩,J,J,J,J,J,fun _ sg _ _=>aa J (dl (y:=(⟨s.A',s.h_,way,r⟩:bt)) nP acY td (⟨_,_,_,_,_,J,Jf,J,(Y J),⟨_,_,_,_,_,J,Je,J,(Y J),⟨_,_,_,_,_,J,Jd,J,(Y J),⟨_,_,_,_,_,J,SW,J,(Y J),J⟩⟩⟩⟩))⟩,
  ⟨⟨[⟨24,fun _=>tD bk (⟨s.A',s.h_,way,r⟩:bt),some 13⟩],_,0,0,J,⟨(fun _=>J),aW⟩,J,J,J,J,J,fun _ sg _ _=>aa J (aI (r:=bk) (ys:=[(⟨s.A',s.h_,way,r⟩:bt)]) (xs:=[.tmp 24]) pH nP J J J J J ⟨(Y J),aW⟩)⟩,
  ⟨⟨[⟨16,fun _=>tO bk (ix.h 0).1 (ix.h 0).2 p.c_.J',some 5⟩,⟨25,fun _=>tD Uy ([(⟨s.A',s.h_,way,r⟩:bt)]),some 14⟩],_,J,⟨(fun _=>J),(fun _=>J),aW⟩,J,J,J,fun sg=>cL J (fr2 (vg nP J J J J pH J (Y J) (Y J) q_l))⟩,
  aW⟩⟩⟩⟩⟩⟩⟩⟩⟩⟩⟩⟩⟩⟩⟩⟩ (fun sg=>?_)
 refine(show RG _ _ _ _ [_,_,_,_] _ from ?_);refine M (aP (Y J))<|bI 0 AF J<|bI 0 jz J<|mD (fr2 (sx (hs' :=[(0,ak ((sg 15).h 0).1 ((sg 15).h 0).2 l.length),(3,ak (ix.h 1).1 (ix.h 1).2 p.j'.length)]) (u:=ak ((sg 15).h 0).1 ((sg 15).h 0).2 l.length) qY J J (AY zh C2 Jc) J ⟨.inl ⟨J,J,J⟩,.inr ⟨J,J⟩,aW⟩ (Y J) (nt (Y J)) (Ei (Y J)))) fun i=>?_;refine(show RG _ _ _ _ [_,_,_,_] _ from ?_);refine bA<|aw<|cy h fun r1 Y_ h=>?_;refine lw 12 [tc (tV (an b 0)),tc (tV (an b 0)),tc (tV (an b 0)),tc (tV (an b 0)),tc (tO bk ((sg 15).h 0).1 ((sg 15).h 0).2 l),tc (jg l),tc (bX (i64.wrap ((l.length:Int)-1))),tc (aY gG s.j'),tc (gM s.j'),tc (gM r1),tc (tD al (⟨9,(-1),(-1),(i64.wrap ((l.length:Int)-1)),r1,false,⟨[]⟩,[],[],[],[],0⟩:ac)),([11],fun s=>tV (an ((s.getD 0 rs).h 0).2 0))] [false,false,false,false,false,false,false,false,false,false,false,true] [fun _=>[bx (rH bB [(0,ak ((sg 15).h 0).1 ((sg 15).h 0).2 l.length),(3,ak (ix.h 1).1 (ix.h 1).2 p.j'.length)]) 73 b ({p with c_:=({p.c_ with J':=l}:dp)}:aK),dM bk 50 ((sg 15).h 0).1 ((sg 15).h 0).2 l,bx aq 77 b1 vz,dM gG 40 (ix.h 1).1 (ix.h 1).2 p.j'],fun sg1=>[bx al 48 ((sg1 11).h 0).2 (⟨0,0,0,0,[],false,⟨[]⟩,[],[],[],[],0⟩:ac),bx (rH bB [(0,ak ((sg 15).h 0).1 ((sg 15).h 0).2 l.length),(3,ak (ix.h 1).1 (ix.h 1).2 p.j'.length)]) 73 b ({p with c_:=({p.c_ with J':=l}:dp)}:aK),dM bk 50 ((sg 15).h 0).1 ((sg 15).h 0).2 l,bx aq 77 b1 vz,dM gG 40 (ix.h 1).1 (ix.h 1).2 p.j']] J mixed J J J J J
  ⟨⟨[⟨0,fun _=>tV (an b 0),none⟩],_,0,1,J,⟨(fun _=>J),aW⟩,J,J,J,J,J,fun _ sg1 _ _=>aa J (kR J)⟩,
  ⟨⟨[⟨30,fun _=>tV (an b 0),some 0⟩],_,0,1,J,⟨(fun _=>J),aW⟩,J,J,J,J,J,fun _ sg1 _ _=>aa J (aP (Y J))⟩,
  ⟨⟨[⟨31,fun _=>tV (an b 0),some 1⟩],_,0,1,J,⟨(fun _=>J),aW⟩,J,J,J,J,J,fun _ sg1 _ _=>aa J (qd 0 AF J J J)⟩,
  ⟨⟨[⟨32,fun _=>tV (an b 0),some 2⟩],_,0,1,J,⟨(fun _=>J),aW⟩,J,J,J,J,J,fun _ sg1 _ _=>aa J (qd 0 jz J J J)⟩,
  ⟨⟨[⟨33,fun _=>tV (an b 0),some 3⟩],_,0,1,J,⟨(fun _=>J),aW⟩,J,J,J,J,J,Ee (fun sg1=>aa J (fi qY J (.head _) (.tail _ (.head _)) (Y J))) (vI (fun sg1=>aa J (fi qY J (.tail _ (.head _)) (.tail _ (.tail _ (.head _))) (Y J))))⟩,
  ⟨⟨[⟨34,fun _=>tO bk ((sg 15).h 0).1 ((sg 15).h 0).2 l,some 4⟩],_,0,1,J,⟨(fun _=>J),aW⟩,J,J,J,J,J,fun _ sg1 _ _=>aa J (iY pH (nt (Y J)))⟩,
  ⟨⟨[⟨35,fun _=>tD bY (l.length:Int),some 5⟩],_,0,1,J,⟨(fun _=>J),aW⟩,J,J,J,J,J,fun _ sg1 _ _=>aa J (ij (Y J) hI)⟩,
  ⟨⟨[⟨5,fun _=>aY aq s,none⟩],_,0,1,J,⟨(fun _=>J),aW⟩,J,J,J,J,J,fun _ sg1 _ _=>aa J (mj Qa EF J J)⟩,
  ⟨⟨[⟨37,fun _=>aY oQ s.j',some 7⟩],_,0,1,J,⟨(fun _=>J),aW⟩,J,J,J,J,J,fun _ sg1 _ _=>aa J (m9 bK J J)⟩,
  ⟨⟨[⟨38,fun _=>tD oQ s.j',some 8⟩],_,0,1,J,⟨(fun _=>J),aW⟩,J,J,J,J,J,fun _ sg1 _ _=>aa J (cq Ge (Ln _ Y_) ⟨(Y J),aW⟩)⟩,
  ⟨⟨[⟨36,fun _=>tD bY (i64.wrap ((l.length:Int)-1)),some 6⟩,⟨39,fun _=>tD oQ r1,some 9⟩],_,0,1,J,⟨(fun _=>J),(fun _=>J),aW⟩,J,J,J,J,J,fun _ sg1 _ _=>aa J (dl (y:=(⟨9,(-1),(-1),(i64.wrap ((l.length:Int)-1)),r1,false,⟨[]⟩,[],[],[],[],0⟩:ac)) dc TF fC (⟨_,_,_,_,_,J,yX,J,hI,⟨_,_,_,_,_,J,uh,J,hI,⟨_,_,_,_,_,J,se,J,hI,⟨_,_,_,_,_,J,Ci,J,(Y J),⟨_,_,_,_,_,J,yW,J,(Y J),J⟩⟩⟩⟩⟩))⟩,
  ⟨⟨[],_,J,aW,J,J,J,fun sg1=>cL J (km dc fC)⟩,
  aW⟩⟩⟩⟩⟩⟩⟩⟩⟩⟩⟩⟩ (fun sg1=>?_)
 refine(show RG _ _ _ _ [_,_,_,_,_] _ from ?_);refine bv dc ae J<|aH 9 J<|bA<|aV<|cM<|bA ?_;refine fL (h3:=fun r_=>om p s d_ l r1 r_=some R) (Of:=fun r_=>[bx aq 77 b1 vz,bx (rH bB [(0,ak ((sg 15).h 0).1 ((sg 15).h 0).2 l.length),(3,ak (ix.h 1).1 (ix.h 1).2 p.j'.length)]) 73 b ({p with c_:=({p.c_ with J':=l}:dp)}:aK),dM bk 50 ((sg 15).h 0).1 ((sg 15).h 0).2 l,dM gG 40 (ix.h 1).1 (ix.h 1).2 p.j']) (Gf:=fun r_=>[(3,gM d_),(5,aY aq s),(8,tV (an b1 0)),(9,aY al (⟨9,(-1),(-1),(i64.wrap ((l.length:Int)-1)),r1,false,⟨[]⟩,[],[],[],[],0⟩:ac)),(10,bX r_)]) (fun r_ h=>?_) (fun hb=>?_)
 ·skip;exact aV<|cx dc J<|M (aI (r:=al) (ys:=[(⟨9,(-1),(-1),(i64.wrap ((l.length:Int)-1)),r1,false,⟨[]⟩,[],[],[],[],0⟩:ac)]) (xs:=[.tmp 43]) kw dc J J J J J ⟨(Y J),aW⟩)<|bg Qa EF bK J<|aQ J<|aQ J<|M (dl (y:=(⟨[(⟨9,(-1),(-1),(i64.wrap ((l.length:Int)-1)),r1,false,⟨[]⟩,[],[],[],[],0⟩:ac)],s.j',r_,d_⟩:be)) cj aaQ iC (⟨_,_,_,_,_,J,I9,J,(Y J),⟨_,_,_,_,_,J,I8,J,(Y J),⟨_,_,_,_,_,J,I7,J,(Y J),⟨_,_,_,_,_,J,AZ,J,(Y J),J⟩⟩⟩⟩))<|bv cj ae J<|aH 8 J<|bO<|ah<|ah<|ah<|so h▸lx J cj J J J (D8 [(((sg 15).h 0).1,((sg 15).h 0).2),((ix.h 1).1,(ix.h 1).2)]) J J
 ·skip;refine aB J<|cz J<|cD h J (fun h=>?_) (fun h=>?_)
  ·refine au<|cM<|bm<|aM<|ah<|ah<|aM ?_;exact bQ (hb 2 h) (aX J)
  ·refine bl<|aM<|ah<|ah<|aM ?_;exact bQ (hb 1 h) (aX J)
def JM(b:Nat)(ix:OI) p s{R}(h:eC p s=some R):dj aL 19 [tV (an b 0),tD aq s] (jW b p ix) (fun _:OI=>tD aq R.1) (fun j=>jW b R.2 j):=by
 refine dj.of func19 J J J fun w0 S0=>?_;refine(show CG _ _ _ [bx (rH bB [(0,ak (ix.h 0).1 (ix.h 0).2 p.c_.J'.length),(3,ak (ix.h 1).1 (ix.h 1).2 p.j'.length)]) 73 b p,dM bk 50 (ix.h 0).1 (ix.h 0).2 p.c_.J',dM gG 40 (ix.h 1).1 (ix.h 1).2 p.j'] _ from ?_);refine aV<|cR J<|aO cj iC J fun b1=>bA<|bc<|bg wK pn bN J<|cz J<|cD h J (fun h=>?_) (fun h=>?_)
 ·exact aV<|cx cj J<|bv cj ae J<|bO<|ai<|ce 4 J<|ah<|ah<|ah<|so h▸lx J cj J J J ix J J
 ·refine kp<|aB J<|cx cj J<|cy h fun r F_ h=>nI (fr3 (fr3 (fr3 (jo (xs:=[.tmp 9,.tmp 10,.const (.int .i64 (3)),.const (.slice none 0 0)]) (ts:=[tV (an b 0),tD aq s,bX 3,gM ([])]) (jW b p ix) _ J NY (FD b ix p _ _ _ F_) ⟨(Y J),(Y J),hI,ID,aW⟩ (fun _=>J))))) J fun i=>?_;refine(show RG _ _ _ _ [_,_,_,_] ((11,tD aq r.1)::_)from ?_);exact eh<|bv cj ae J<|bO<|ce 4 J<|ah<|ah<|ah<|so h▸lx J cj J J J i J J
def adj(b:Nat)(ix:OI) p n j' x{R}(h:mu p n j' x=some R):dj aL 40 [tV (an b 0),tD al n,gM j',fI (aq) x] (jW b p ix) (fun _:OI=>tD aq R) (fun _=>(jW b p ix)):=by
 refine dj.of func40 J J J fun w0 S0=>?_;refine(show CG _ _ _ [bx (rH bB [(0,ak (ix.h 0).1 (ix.h 0).2 p.c_.J'.length),(3,ak (ix.h 1).1 (ix.h 1).2 p.j'.length)]) 73 b p,dM bk 50 (ix.h 0).1 (ix.h 0).2 p.c_.J',dM gG 40 (ix.h 1).1 (ix.h 1).2 p.j'] _ from ?_);refine aV<|cR J<|aO cj iC J fun b1=>bA<|aw<|cy h fun e U_ h=>?_;refine mS 14 (ts:=[tD al n,fI (al) ([n]),gM j',tV (an b 0),tV (an b 0),tV (an b 2),tV (an b 2),fI (fD) p.catalog.i_,aY bY n.M',bX n.M',aY fD e,aY gG e.I',gM e.I',tD aq (⟨[n],j',1,e.I'⟩:be)]) mixed J J J
  ⟨oU 5 J J (m9 dc J J),
  ⟨dy 9 0 J J (aI (r:=al) (ys:=[n]) (xs:=[.tmp 9]) kw dc J J J J J ⟨(Y J),aW⟩),
  ⟨fg J J,
  ⟨fg J J,
  ⟨dy 12 3 J J (aP (Y J)),
  ⟨dy 13 4 J J (qd 2 aaW J J J),
  ⟨dy 14 5 J J (qd 2 wL J J J),
  ⟨dy 15 6 J J (ay (r:=rH bB [(0,ak (ix.h 0).1 (ix.h 0).2 p.c_.J'.length),(3,ak (ix.h 1).1 (ix.h 1).2 p.j'.length)]) (x:=p) GX J J (jD (gj Lc kH)) (.tail _ (.head _)) (Y J)),
  ⟨oU 5 J J (mj oM gC J J),
  ⟨gH 8 bN J J,
  ⟨eQ 16 7 18 9 J J J (GN Bs yR J J J U_),
  ⟨dy 19 10 J J (mj HO wI J J),
  ⟨gH 11 bK J J,
  ⟨E9 10 1 11 2 21 12 J J J J (dl (y:=(⟨[n],j',1,e.I'⟩:be)) cj aaQ iC (⟨_,_,_,_,_,J,I9,J,(Y J),⟨_,_,_,_,_,J,I8,J,(Y J),⟨_,_,_,_,_,J,I7,J,hI,⟨_,_,_,_,_,J,AZ,J,(Y J),J⟩⟩⟩⟩)),
  aW⟩⟩⟩⟩⟩⟩⟩⟩⟩⟩⟩⟩⟩⟩ ?_
 exact bv cj ae J<|aH 8 J<|bO<|ah<|ah<|ah<|so h▸lx J cj J J J rs J J
def V6 s{R}(h:fP s=some R):mi aL 135 [fI (al) s] false al 48 R:=by
 refine mi.of func135 J J J fun w0 S0=>aV<|cr false al 48<|M (bL xq)<|bA<|bc<|aQ J<|yy kw (Y J) J fun isnil hisnil=>bA<|qC (Y J) (fun hc=>?_) (fun hc=>?_)
 ·have I:=hisnil hc;have h:some OJ=some R:=by simpa [fP,nH,I] using h
  exact aV<|cr false al 48<|M (bL xq)<|bO<|ai<|so h▸lR J J
 ·exact kp<|aV<|pF (r:=al) (ys:=OJ) (xs:=[]) kw dc J J J J J trivial J fun l c=>aQ J<|cy h fun x q_x h=>ea dc J J J J kw J J (Y J) (Y J) q_x fun l1 c1=>bz J<|so h▸lR J J
def tM n j' l{R}(h:gh n j' l=some R):cN aL 72 [tD al n,gM j',fI (aq) l] (tD aq R):=by
 refine dL func72 J<|aV<|tU (Y J) J fun b=>aO cj iC J fun b1=>bA<|aV<|bI 1 j8 J<|bM<|dZ bN J uh J (Y J) hI<|bI 2 oN J<|dZ bN J se J (Y J) hI<|bA<|aB J<|aQ J<|cy h fun e U_ h=>M (aS n7 cj J (Y J) hI U_)<|bg wK pn bN J ?_;refine cr true al 48<|M (dl (y:=ql (⟨[],j',e.h_,[]⟩:be) (ak none 0 (OJ.length))) cj aaQ IV (⟨_,_,_,_,_,J,Ml,J,(Y J),⟨_,_,_,_,_,J,Mk,J,(Y J),J⟩⟩))<|cr true al 48<|aO (r:=nc) (x:=ql vz (ak none 0 (OJ.length))) cj IV J fun b2=>gi<|bM<|f9 (r' :=nc) cj J (o6 J) J (Y J) (Y J)<|gi<|LE<|bA<|bc<|aQ J<|cm n7 J<|M (bH hI)<|bA<|am<|aR (k:=21) J fun hN=>bE<|gE<|gE ?_;refine fK<|fK ?_;refine aE (yB (h3:=fun ls i n1 out l1 c=>(l.drop i=ls)/\gV ls i n1 out=some R) (Of:=fun _ i n1 out l1 c=>[bx al 48 b n1,bx aq 77 b1 vz,bx nc 77 b2 (ql out (ak l1 c out.A'.length)),dM al 48 l1 c out.A']) (Gf:=fun _ i n1 out l1 c=>[(3,tV (an b 0)),(6,tV (an b1 0)),(7,tV (an b2 0)),(21,fI (aq) l),(22,jg l),(23,bX (i:Int))]) (fun i n1 out l1 c h=>?_) (fun e1 tl ih i n1 out l1 c h=>?_) l 0 (ac.mk n.Op (-1) (-1) n.M' n.U' n.Left n.f_ n.I' n.L' n.N' n.Y' n.Z') (⟨OJ,j',e.h_,[]⟩:be) none 0 ⟨J,h⟩) (aX J)
 ·obtain⟨I,h⟩:=h;refine dH I J<|ax<|aV<|bI 0 xN J<|M (sO o5 vd (.tail _ (.tail _ (.head _))) (.tail _ (.tail _ (.tail _ (.head _)))) J (Y J))<|M (ay dc J J bC (.head _) (Y J))<|M (aI (r:=al) (ys:=[n1]) (xs:=[.tmp 77]) kw dc J J J J J ⟨(Y J),aW⟩)<|eh<|cy h fun l2 q_l2 h=>uA dc J J J J kw J J (Y J) (Y J) q_l2 fun l3 c1=>bI 0 xN J<|eh ?_;exact f9 o5 J (vB _ _ _) J (Y J) (Ih (Ei (Y J)))<|bA<|aV<|bM<|M (wA (q:=aq) (y:=({out with A':=l2}:be)) cj J J J J (.tail _ (.head _)) (fun _ _ _ ho h=>HY (nM ho (.head _)) h) (Y J))<|eh<|bv cj ae J<|aH 6 J<|bO<|aJ<|aJ<|aJ<|so h▸gF J cj J J J
 ·obtain⟨I,h⟩:=h;refine dG I J<|aw<|am<|aB J<|dN n7 cj J (dE I)<|aO cj iC J fun b3=>fX J<|bv cj ae J<|aH 9 J<|bA<|aw ?_;refine au<|bI 0 xN J<|M (sO o5 vd (.tail _ (.tail _ (.head _))) (.tail _ (.tail _ (.tail _ (.head _)))) J (Y J))<|M (iY kw (nt (Y J)))<|aU J<|bc<|bg xN EG o5 J<|t7 h aec (V6 _) (cA J) fun r h l4 c2=>M (iF kw (.head _) (Y J))<|M (bH hI)<|bA<|am<|oB (.head _) fun hN1=>bE ?_;refine aE (qb (h3:=fun ls1 i1 g_ l5 c3=>(r.drop i1=ls1)/\eD (gV tl) i n1 out ls1 g_=some R) (Of:=fun _ i1 g_ l5 c3=>[fa al 48 l4 c2 r,bx al 48 b n1,bx aq 77 b1 vz,bx nc 77 b2 (ql g_ (ak l5 c3 g_.A'.length)),dM al 48 l5 c3 g_.A']) (Gf:=fun _ i1 g_ l5 c3=>[(3,tV (an b 0)),(6,tV (an b1 0)),(7,tV (an b2 0)),(8,bX (i:Int)),(10,jg out.A'),(21,fI (aq) l),(22,jg l),(23,bX (i:Int)),(33,s5 l4 c2 r),(34,jg r),(35,bX (i1:Int))]) (fun i1 g_ l5 c3 h=>?_) (fun e2 tl1 ih1 i1 g_ l5 c3 h=>?_) r 0 out l1 c ⟨J,h⟩) (aX J)
  ·obtain⟨m_,h⟩:=h;refine dH m_ J<|ax<|aB J<|cz J<|cD h J (fun h=>?_) (fun h=>?_)
   ·refine au<|bI 0 xN J<|M (sO o5 vd (.tail _ (.tail _ (.tail _ (.head _)))) (.tail _ (.tail _ (.tail _ (.tail _ (.head _))))) J (Y J))<|M (iY kw (nt (Y J)))<|M (ij (Y J) hI)<|bI 1 j8 J<|bM<|bv bN uh J<|bm<|dg I hN J<|bj<|aJ ?_;exact aT (aE (ih (i+1) (ac.mk n1.Op (i64.wrap ((g_.A'.length:Int)-1)) n1.B n1.M' n1.U' n1.Left n1.f_ n1.I' n1.L' n1.N' n1.Y' n1.Z') g_ l5 c3 ⟨cV I,h⟩) (aX J))
   ·refine au<|bI 0 xN J<|M (sO o5 vd (.tail _ (.tail _ (.tail _ (.head _)))) (.tail _ (.tail _ (.tail _ (.tail _ (.head _))))) J (Y J))<|M (iY kw (nt (Y J)))<|M (ij (Y J) hI)<|bI 2 oN J<|bM<|bv bN se J<|bm<|dg I hN J<|bj<|aJ ?_;exact aT (aE (ih (i+1) (ac.mk n1.Op n1.A (i64.wrap ((g_.A'.length:Int)-1)) n1.M' n1.U' n1.Left n1.f_ n1.I' n1.L' n1.N' n1.Y' n1.Z') g_ l5 c3 ⟨cV I,h⟩) (aX J))
  ·obtain⟨m_,h⟩:=h;refine dG m_ J<|aw<|am<|aV<|M (c9 kw dc (.head _) (Y J) (Y J) (dE m_))<|M (il (r:=al) (i:=(i1:Int)) (J_:=0) dc J J bC J (.head _) (dE m_) (Y J))<|aO dc fC J fun b4=>bv dc ae J<|bA ?_;refine fL (h3:=fun x=>tB out (eD (gV tl) i n1 out tl1) g_ x=some R) (Of:=fun x=>[fa al 48 l4 c2 r,bx al 48 b n1,bx aq 77 b1 vz,bx al 48 b4 x,bx nc 77 b2 (ql g_ (ak l5 c3 g_.A'.length)),dM al 48 l5 c3 g_.A']) (Gf:=fun x=>[(3,tV (an b 0)),(6,tV (an b1 0)),(7,tV (an b2 0)),(8,bX (i:Int)),(10,jg out.A'),(12,tV (an b4 0)),(21,fI (aq) l),(22,jg l),(23,bX (i:Int)),(33,s5 l4 c2 r),(34,jg r),(35,bX (i1:Int))]) (fun x h=>?_) (fun hb=>?_)
   ·skip;refine fL (h3:=fun x1=>tA (eD (gV tl) i n1 out tl1) g_ x1=some R) (Of:=fun x1=>[fa al 48 l4 c2 r,bx al 48 b n1,bx aq 77 b1 vz,bx al 48 b4 x1,bx nc 77 b2 (ql g_ (ak l5 c3 g_.A'.length)),dM al 48 l5 c3 g_.A']) (Gf:=fun x1=>[(3,tV (an b 0)),(6,tV (an b1 0)),(7,tV (an b2 0)),(8,bX (i:Int)),(10,jg out.A'),(12,tV (an b4 0)),(21,fI (aq) l),(22,jg l),(23,bX (i:Int)),(33,s5 l4 c2 r),(34,jg r),(35,bX (i1:Int))]) (fun x1 h=>?_) (fun K1=>?_)
    ·skip;refine au<|bI 0 xN J<|M (sO o5 vd (.tail _ (.tail _ (.tail _ (.tail _ (.head _))))) (.tail _ (.tail _ (.tail _ (.tail _ (.tail _ (.head _)))))) J (Y J))<|M (ay dc J J bC (.tail _ (.tail _ (.tail _ (.head _)))) (Y J))<|M (aI (r:=al) (ys:=[x1]) (xs:=[.tmp 57]) kw dc J J J J J ⟨(Y J),aW⟩)<|Bm<|cy h fun l6 q_l6 h=>uA dc J J J J kw J J (Y J) (Y J) q_l6 fun l7 c4=>bI 0 xN J<|Bm<|f9 o5 J (vB _ _ _) J (Y J) (Ih (Ei (Y J)))<|bm<|dg m_ hN1 J<|dJ<|aJ<|bj<|bj<|eb<|eb ?_;refine eb ?_;exact aT (aE (ih1 (i1+1) ({g_ with A':=l6}:be) l7 c4 ⟨cV m_,h⟩) (aX J))
    ·skip;refine aV<|bI 2 oN J<|M (ay bN J J jd (.tail _ (.tail _ (.tail _ (.head _)))) (Y J))<|M (eT (Y J) hI)<|cD h J (fun h=>?_) (fun h=>?_)
     ·refine au<|bI 2 oN J<|M (ay bN J J jd (.tail _ (.tail _ (.tail _ (.head _)))) (Y J))<|aQ J<|M (nT (Y J) (Y J))<|bI 2 oN J<|eh<|bv bN se J<|bm<|dJ<|dJ<|ah<|dJ<|dJ<|dJ ?_;exact bQ (K1 (ac.mk x.Op x.A (i64.wrap (x.B+(out.A'.length:Int))) x.M' x.U' x.Left x.f_ x.I' x.L' x.N' x.Y' x.Z') h) (aX J)
     ·refine bl ?_;exact bQ (K1 x h) (aX J)
   ·skip;refine aV<|bI 1 j8 J<|M (ay bN J J d8 (.head _) (Y J))<|M (eT (Y J) hI)<|cD h J (fun h=>?_) (fun h=>?_)
    ·refine au<|bI 1 j8 J<|M (ay bN J J d8 (.head _) (Y J))<|aQ J<|M (nT (Y J) (Y J))<|bI 1 j8 J<|bv bN uh J<|bm<|dJ<|dJ<|ah<|dJ<|dJ<|dJ ?_;exact bQ (hb (ac.mk e2.Op (i64.wrap (e2.A+(out.A'.length:Int))) e2.B e2.M' e2.U' e2.Left e2.f_ e2.I' e2.L' e2.N' e2.Y' e2.Z') h) (aX J)
    ·refine bl<|dJ<|dJ<|ah<|dJ<|dJ<|dJ ?_;exact bQ (hb e2 h) (aX J)
def AI s columns{R}(h:ig s columns=some R):cN aL 73 [tD aq s,gM columns] (tD aq R):=by
 refine dL func73 J<|aV<|tU (Y J) J fun b=>aO cj iC J fun b1=>bA<|aB J<|bI 3 ss J<|bM<|bv bK AZ J<|bA<|aV<|M (ay (x:=(be.mk s.A' s.j' s.h_ columns)) cj J J bC (.head _) (Y J))<|bM<|bv cj ae J<|aH 4 J<|bO ?_;exact aJ<|so h▸gF J cj J J J
def adi(b:Nat)(ix:OI) p n j' l{R}(h:kO p n j' l=some R):dj aL 41 [tV (an b 0),tD al n,gM j',fI (aq) l] (jW b p ix) (fun _:OI=>tD aq R) (fun _=>(jW b p ix)):=by
 refine dj.of func41 J J J fun w0 S0=>?_;refine(show CG _ _ _ [bx (rH bB [(0,ak (ix.h 0).1 (ix.h 0).2 p.c_.J'.length),(3,ak (ix.h 1).1 (ix.h 1).2 p.j'.length)]) 73 b p,dM bk 50 (ix.h 0).1 (ix.h 0).2 p.c_.J',dM gG 40 (ix.h 1).1 (ix.h 1).2 p.j'] _ from ?_);refine aV<|cR J<|aO cj iC J fun b1=>bA<|aw<|cy h fun e U_ h=>cy h fun r F_ h=>cy h fun r1 Y_ h=>?_;refine mS 12 (ts:=[tD al n,gM j',fI (aq) l,aY aq e,tD aq e,fI (aq) ([e]),tD aq r,fI (aq) l,aY aq e,aY gG e.V',gM e.V',tD aq r1]) mixed J J J
  ⟨oU 5 J J (m9 dc J J),
  ⟨fg J J,
  ⟨fg J J,
  ⟨dy 11 2 J J (aS n7 cj J (Y J) hI U_),
  ⟨gH 3 cj J J,
  ⟨dy 13 4 J J (aI (r:=aq) (ys:=[e]) (xs:=[.tmp 13]) n7 cj J J J J J ⟨(Y J),aW⟩),
  ⟨E9 9 0 10 1 14 5 J J J J (cq DL (tM _ _ _ F_) ⟨(Y J),(Y J),(Y J),aW⟩),
  ⟨fg J J,
  ⟨dy 16 7 J J (aS n7 cj J (Y J) hI U_),
  ⟨dy 17 8 J J (mj ss nj J J),
  ⟨gH 9 bK J J,
  ⟨eQ 15 6 19 10 J J J (cq NX (AI _ _ Y_) ⟨(Y J),(Y J),aW⟩),
  aW⟩⟩⟩⟩⟩⟩⟩⟩⟩⟩⟩⟩ ?_
 exact bv cj ae J<|aH 8 J<|bO<|ah<|ah<|ah<|so h▸lx J cj J J J rs J J
def Lo s v{R}(h:fN s v=some R):cN aL 136 [gM s,bX v] (bX R):=by
 refine dL func136 J<|aV<|cM<|bA<|bc<|aQ J<|cm dI J<|M (bH hI)<|bA<|am<|aR (k:=6) J fun hN=>bE ?_;refine aE (fj (h3:=fun ls i=>(s.drop i=ls)/\gw v ls i=some R) (Of:=fun _ i=>[]) (Gf:=fun _ i=>[(0,gM s),(1,bX v),(7,jg s),(8,bX (i:Int))]) (fun i h=>?_) (fun e tl ih i h=>?_) s 0 ⟨J,h⟩) (aX J)
 ·obtain⟨I,h⟩:=h;exact dH I J<|ax<|aV<|jK<|so h▸aD J J
 ·obtain⟨I,h⟩:=h;refine dG I J<|aw<|am<|aB J<|aU J<|aB J<|aQ J<|aQ J<|vA dI bN J (dE I) ?_;refine cx bN J<|M (fc (Y J) (Y J))<|cD h J (fun h=>?_) (fun h=>?_)
  ·exact aB J<|bz J<|dB<|ai<|dB<|so h▸aD J J
  ·refine bl<|dg I hN J ?_;exact aT (aE (ih (i+1) ⟨cV I,h⟩) (aX J))
