/- cT of this claim: P3. -/
import Derived.Test.YtdohlidddcgfjaaGreatFaT
import Derived.Test.YtdohlidddcgfjaaGreatFaP2
set_option linter.all false
namespace Go.Proofs.YtdohlidddcgfjaaGreat
open Go
set_option maxRecDepth 100000

theorem Mi(e:bv){R:(List Int)}(h:tR e=some R):eN ba 234 [tD bL e] false cq 3 R:=by
 refine eN.of Tryz.func234 I I I fun w0 S0=>aj<|zo I (kp I)<|cd false cq 3<|zo I (aN sf)<|ai<|aa<|aj<|zo I (bf fv I I)<|bA h fun r q_r h=>zo I (aG PG (I3 _ q_r) ⟨(ht I),aZ⟩)<|zo I (Aq I)<|ai<|bR h I (fun h=>?_) (fun h=>?_)
 ·refine aj<|cd false cq 3<|zo I (aN sf)<|ai<|ah<|J ?_;cases so h;exact dL I I
 ·refine dk<|aj<|cd false cq 3<|zo I (aN sf)<|ai<|aa<|aj<|zo I (aU fd di I I)<|zo I (bf lN I I)<|zo I (d5 jh I)<|zo I (bm hI)<|ai<|ak<|aT (k:=10) I fun hN=>bn<|dB<|jv ?_;refine aD (gF (Z:=fun ls i out l c=>(e.Nodes.drop i=ls)∧mg ls out=some R) (Of:=fun _ i out l c=>[df cq 3 l c out]) (Gf:=fun _ i out l c=>[(3,oY l c out),(10,dM (bG) e.Nodes),(11,iB e.Nodes),(12,cb (i:Int))]) (fun i out l c h=>?_) (fun e1 tl ih i out l c h=>?_) e.Nodes 0 sr none 0 ⟨I,h⟩) (aR I)
  ·obtain⟨hx,h⟩:=h
   refine aq<|aj<|zo I (ek I I)<|ai<|aa<|bu (ht I) (de hx)<|bc ?_;refine M (M (aC ?_));refine af<|aj<|av rfl<|bA h fun Sy q_srt h=>?_;refine MO (n:=out.length) (ys:=Sy) CI ?_ Ti ?_ ?_ ?_ ?_ ?_
   ·rfl
   ·exact q_srt
   ·exact(ht I)
   ·rfl
   ·rfl
   intro hl
   refine GL hl 3 I<|GL hl 25 I<|ai<|aj<|av I<|bA h fun r1 q_r1 h=>BZ [df cq 3 l c Sy] _ I Th (Rh l c _ q_r1) ⟨(ht I),aZ⟩ I fun i1=>?_;refine(show RG _ _ _ _ [df cq 3 (i1.h 0).1 (i1.h 0).2 r1] ((28,oY (i1.h 0).1 (i1.h 0).2 r1)::_)from ?_);refine aS I<|ai<|ah ?_;cases so h;exact dL I I
  ·obtain⟨hx,h⟩:=h
   refine aq<|aj<|zo I (ek I I)<|ai<|aa<|bt (ht I) (cX hx)<|dk<|aa<|ak<|aj<|zo I (gI jh eb I I I (cS hx))<|zo I (bf eb I I)<|bJ (r:=bG) (x:=AQ) eb (fun _=>lp _) I fun b=>aQ eb I aY I (ht I) (ht I)<|bE 5 I<|ai<|aj<|zo I (aU iU eo I I) ?_;refine zo I (bf bp I I)<|zo I (d6 I)<|ai<|bR h I (fun h=>?_) (fun h=>?_)
   ·refine ae<|av I<|zo I (aU na gO I I)<|zo I (bf bp I I)<|zo I (aH (r:=cq) (ys:=[e1.Col]) (xs:=[.tmp 21]) cR bp I I I I I ⟨(ht I),aZ⟩)<|bA h fun out1 q_out1 h=>be bp I I I I cR I I (ht I) (ht I) q_out1 fun l2 c2=>aS I<|ay<|ac<|af<|ae<|zo rfl (jL (cy hx hN) rfl)<|av rfl<|ay ?_;exact aM (aD (ih (i+1) out1 l2 c2 ⟨cx hx,h⟩) (aR I))
   ·refine aP<|ac<|af<|ae<|zo rfl (jL (cy hx hN) rfl)<|av rfl<|ay ?_;exact aM (aD (ih (i+1) out l c ⟨cx hx,h⟩) (aR I))
theorem Gw(s:(List Int)){R:(List Int)}(h:dY s=some R):eN ba 128 [iK s] false cq 3 R:=by
 refine eN.of Tryz.func128 I I I fun w0 S0=>aj<|cd false cq 3<|zo I (aN sf)<|ai<|aa<|aj<|av I<|GM cR (ht I) I fun isnil hisnil=>ai<|rF (ht I) (fun hc=>?_) (fun hc=>?_)
 ·have hx:=hisnil hc
  have h:some sr=some R:=by simpa [dY,gn,hx] using h
  refine aj<|cd false cq 3<|zo I (aN sf)<|ai<|ah<|J ?_;cases so h;exact dL I I
 ·refine dk<|aj<|ge (r:=cq) (ys:=sr) (xs:=[]) cR bp I I I I I trivial I fun l c=>av I<|bA h fun x q_x h=>be bp I I I I cR I I (ht I) (ht I) q_x fun l1 c1=>aS I<|ai<|ah ?_;cases so h;exact dL I I
theorem RB{l:Option Nat}{c:Nat}{xs s:List Int}{lo:Int}{R:List Int}(hs:eP xs lo (xs.length:Int)=some s)(h:dY s=some R):dK ba 128 [tV (m0 1 l c lo.toNat s.length)] [df cq 3 l c xs] (fun i:OI=>oY (i.h 0).1 (i.h 0).2 R) (fun i=>[df cq 3 (i.h 0).1 (i.h 0).2 R,df cq 3 l c xs]):=by
 refine dK.of Tryz.func128 I I I fun w0 S0=>aj<|zo I (aN sf)<|ai<|aa<|aj<|av I<|KD (r:=cq) cR (.head _) hs (ht I) I fun isnil hisnil=>ai<|rF (ht I) (fun hc=>?_) (fun hc=>?_)
 ·have hx:=hisnil hc
  have h:some sr=some R:=by simpa [dY,gn,hx] using h
  refine aj<|cd false cq 3<|zo I (aN sf)<|ai<|ah<|J ?_;cases so h;exact ee I (oi none 0) I I (fun _ _ h=>h)
 ·refine dk<|aj<|ge (r:=cq) (ys:=sr) (xs:=[]) cR bp I I I I I trivial I fun l1 c1=>av I<|bA h fun x q_x h=>If bp I I I I cR I I (ht I) (.tail _ (.head _)) hs (ht I) q_x fun l2 c2=>aS I<|ai<|ah ?_;cases so h;exact ee I (oi l2 c2) I I (fun _ _ h=>h)

theorem Rg(b:Nat)(l:Option Nat)(c:Nat)(stack:(List Int))(k:Int){R:(List Int)×(List Int)}(h:oU stack k=some R):dK ba 253 [cb k,tV (aL b 0)] [bx rV 69 b (ax l c stack.length),df cq 3 l c stack] (fun i:OI=>iK R.1) (fun i=>[bx rV 69 b (ax (i.h 0).1 (i.h 0).2 R.2.length),df cq 3 (i.h 0).1 (i.h 0).2 R.2]):=by
 refine dK.of Tryz.func253 I I I fun w0 S0=>aj<|zo I (aN (show aK _ _ _ qN from iE))<|ai<|aj<|zo I (tM bV (.head _) (ht I))<|zo I (tM bV (.head _) (ht I))<|zo I (hY cR (.tail _ (.head _)) (ht I))<|av I<|zo I (dG (ht I) (ht I))<|bA h fun y q_y h=>zo I (pg cR bp I (.tail _ (.head _)) (ht I) (ht I) q_y)<|pP (.tail _ (.head _)) q_y fun hv=>bT<|bA h fun r q_r h=>BZ [df cq 3 l c stack] _ I MF (RB q_y q_r) ⟨(ht I),aZ⟩ I fun i=>?_;refine(show RG _ _ _ _ [df cq 3 (i.h 0).1 (i.h 0).2 r,df cq 3 l c stack,bx rV 69 b (ax l c stack.length)] _ from ?_);refine aS I<|ai<|aj<|zo I (tM bV (.tail _ (.tail _ (.head _))) (ht I))<|zo I (tM bV (.tail _ (.tail _ (.head _))) (ht I))<|zo I (hY cR (.tail _ (.head _)) (ht I))<|av I<|zo I (dG (ht I) (ht I))<|bA h fun y1 q_y1 h=>zo I (ph cR bp I (.tail _ (.head _)) (ht I) (ht I) q_y1)<|bT<|EN q_y1<|kE<|aQ bV I aY I (ht I) (EX (ht I))<|ai<|aj<|av I<|aS I<|ai ?_;refine ah<|bl<|ea<|bS 3 I<|bS 11 I<|bS 4 I<|bS 18 I<|fT 3 I<|aX<|aV<|aV ?_;cases so h;exact ee I (oi l c) I I (fun _ _ h=>h)

theorem Oa(e:bv)(do1:(bC→(List Int)→Option (Int×Int))){R:Int×Int}(h:oL e do1=some R):bk ba 235 [tD bL e,(kG ba M0 MY (fun(x:bC×(List Int))=>do1 x.1 x.2))] (tT [cb R.1,cb R.2]):=by
 refine bk.of Tryz.func235 I I I fun w0 S0=>aj<|zo I (kp I)<|zo I (dD)<|zo I (dD)<|ai<|Ca<|aj<|cd false cq 3<|bJ (x:=ax none 0 0) bV (fun _=>Qo) I fun b=>ai<|aj<|zo I (dD)<|ai<|aj<|zo I (FY (cts:=[tV (aL b 0)]) (caps:=[.tmp 6]) ⟨(ht I),aZ⟩)<|aS I ?_;refine ai<|aj<|zo I (dD)<|ai<|aa<|Cb<|af<|aa<|aj<|zo rfl (aU fd di rfl rfl)<|zo rfl (bf lN rfl rfl)<|zo rfl (d5 jh rfl)<|zo rfl (bm hI)<|ai ?_;refine KO (Z:=fun bad stack l c=>lF bad stack=some R) (Of:=fun bad stack l c=>[bx rV 69 b (ax l c stack.length),df cq 3 l c stack]) (Gf:=fun bad stack l c=>[(6,tV (aL b 0)),(7,cb 0),(9,cb bad)]) (fun bad stack l c h=>?_) (fun K=>?_)
 ·skip
  refine af<|aa<|aj<|av rfl<|zo rfl (Aq rfl)<|ai<|bR h rfl (fun h=>?_) (fun h=>?_)
  ·refine aj<|av I<|av I<|aS I<|aS I<|ai<|ah ?_;refine J (pp ?_);refine aX<|aX ?_;cases so h;exact bQ I I I
  ·refine dk<|aj<|zo I (tM bV (.head _) (ht I))<|bA h fun e1 q_e1 h=>zo I (eh cR bp (.tail _ (.head _)) (ht I) hI q_e1)<|zo I (jc (r:=cq) (i:=(0:Int)) (foff:=0) bp I I cA I (.tail _ (.head _)) q_e1 (ht I))<|aS I<|zo I (dD)<|ai<|ah<|pp<|aX<|aX ?_;cases so h;exact bQ I I I
 ·skip
  refine aT (k:=16) I fun hN=>bn ?_;refine aD (wc (Z:=fun ls i bad1 stack1 l1 c1=>(e.Nodes.drop i=ls)∧gS do1 ls bad1 stack1=some R) (Of:=fun _ i bad1 stack1 l1 c1=>[bx rV 69 b (ax l1 c1 stack1.length),df cq 3 l1 c1 stack1]) (Gf:=fun _ i bad1 stack1 l1 c1=>[(1,(kG ba M0 MY (fun(x:bC×(List Int))=>do1 x.1 x.2))),(6,tV (aL b 0)),(7,cb 0),(8,tC 253 [tV (aL b 0)]),(9,cb bad1),(16,dM (bG) e.Nodes),(17,iB e.Nodes),(18,cb (i:Int))]) (fun i bad1 stack1 l1 c1 h=>?_) (fun e2 tl ih i bad1 stack1 l1 c1 h=>?_) e.Nodes 0 (0:Int) sr none 0 ⟨I,h⟩) (aR I)
  ·obtain⟨hx,h⟩:=h
   refine aq<|aj<|zo I (ek I I)<|ai<|aa<|bu (ht I) (de hx)<|bc ?_;refine M (M (aC ?_));exact bD (K bad1 stack1 l1 c1 h) (aR I)
  ·obtain⟨hx,h⟩:=h
   refine aq<|aj<|zo I (ek I I)<|ai<|aa<|bt (ht I) (cX hx)<|dk<|aa<|ak<|aj<|zo I (gI jh eb I I I (cS hx))<|zo I (bf eb I I)<|bJ (r:=bG) (x:=AQ) eb (fun _=>lp _) I fun b1=>aQ eb I aY I (ht I) (ht I)<|bE 11 I<|ai<|aa<|bA h fun r q_r h=>bA h fun r1 q_r1 h=>?_
   obtain⟨r2,q_r2,h⟩:=bs h
   refine lJ 12 [tc ((kG ba M0 MY (fun(x:bC×(List Int))=>do1 x.1 x.2))),tc (tD bG e2),tc (tC 253 [tV (aL b 0)]),tc (ce cq e2.Tag),tc (cb e2.Tag),tc (cb r),tc (iK r1.1),tc (tT [cb r2.1,cb r2.2]),tc (tT [cb r2.1,cb r2.2]),tc (cb r2.1),tc (cb r2.2),tc (cb r2.1)] [false,false,false,false,false,false,true,false,false,false,false,false] [fun _=>[bx rV 69 b (ax l1 c1 stack1.length),df cq 3 l1 c1 stack1],fun sg=>[bx rV 69 b (ax ((sg 6).h 0).1 ((sg 6).h 0).2 r1.2.length),df cq 3 ((sg 6).h 0).1 ((sg 6).h 0).2 r1.2]] I mixed I I I I I
    ⟨⟨[⟨1,fun _=>(kG ba PZ PX (fun(x:bC×(List Int))=>do1 x.1 x.2)),none⟩],_,0,1,I,⟨(fun _=>I),aZ⟩,I,I,I,I,I,fun _ sg _ _=>aB I (cw I)⟩,
    ⟨⟨[⟨11,fun _=>ce bG e2,none⟩],_,0,1,I,⟨(fun _=>I),aZ⟩,I,I,I,I,I,fun _ sg _ _=>aB I (bf eb I I)⟩,
    ⟨⟨[⟨8,fun _=>tC 253 [tV (aL b 0)],none⟩],_,0,0,I,⟨(fun _=>I),aZ⟩,I,I,I,I,I,fun _ sg _ _=>aB I (cw I)⟩,
    ⟨⟨[⟨11,fun _=>ce bG e2,none⟩],_,0,0,I,⟨(fun _=>I),aZ⟩,I,I,I,I,I,fun _ sg _ _=>aB I (aU iU eo I I)⟩,
    ⟨⟨[⟨26,fun _=>ce cq e2.Tag,some 3⟩],_,0,0,I,⟨(fun _=>I),aZ⟩,I,I,I,I,I,fun _ sg _ _=>aB I (bf bp I I)⟩,
    ⟨⟨[⟨27,fun _=>tD cq e2.Tag,some 4⟩],_,0,0,I,⟨(fun _=>I),aZ⟩,I,I,I,I,I,fun _ sg _ _=>aB I (aG PF (I2 _ q_r) ⟨(ht I),aZ⟩)⟩,
    ⟨⟨[⟨25,fun _=>tC 253 [tV (aL b 0)],some 2⟩,⟨28,fun _=>tD cq r,some 5⟩],_,I,⟨(fun _=>I),(fun _=>I),aZ⟩,I,I,I,fun sg=>gP I (EffOK.fr1 (EffOK.fr1 (Dt (xs:=[.tmp 28]) (ts:=[tD cq r]) (cts:=[tV (aL b 0)]) [bx rV 69 b (ax l1 c1 stack1.length),df cq 3 l1 c1 stack1] _ I Tg (Rg b l1 c1 _ _ q_r1) (ht I) ⟨(ht I),aZ⟩ (fun _=>I))))⟩,
    ⟨⟨[⟨23,fun _=>(kG ba PZ PX (fun(x:bC×(List Int))=>do1 x.1 x.2)),some 0⟩,⟨24,fun _=>tD bG e2,some 1⟩,⟨29,fun _=>tD tw r1.1,some 6⟩],_,1,1,I,⟨(fun _=>I),(fun _=>I),(fun _=>I),aZ⟩,I,I,I,I,I,fun _ sg _ _=>aB I (kM (args:=PZ) (res:=PX) (f:=(fun(x:bC×(List Int))=>do1 x.1 x.2)) (x:=((e2,r1.1):bC×(List Int))) (ht I) q_r2 ⟨(ht I),(ht I),aZ⟩)⟩,
    ⟨⟨[⟨30,fun _=>tT [tD cq r2.1,tD cq r2.2],some 7⟩],_,1,1,I,⟨(fun _=>I),aZ⟩,I,I,I,I,I,fun _ sg _ _=>aB I (cw I)⟩,
    ⟨⟨[⟨22,fun _=>tT [tD cq r2.1,tD cq r2.2],some 8⟩],_,1,1,I,⟨(fun _=>I),aZ⟩,I,I,I,I,I,fun _ sg _ _=>aB I (nj I I)⟩,
    ⟨⟨[⟨22,fun _=>tT [tD cq r2.1,tD cq r2.2],some 8⟩],_,1,1,I,⟨(fun _=>I),aZ⟩,I,I,I,I,I,fun _ sg _ _=>aB I (nj I I)⟩,
    ⟨⟨[⟨31,fun _=>tD cq r2.1,some 9⟩],_,1,1,I,⟨(fun _=>I),aZ⟩,I,I,I,I,I,fun _ sg _ _=>aB I (Cd I)⟩,
    aZ⟩⟩⟩⟩⟩⟩⟩⟩⟩⟩⟩⟩ (fun sg=>?_)
   refine(show RG _ _ _ _ [bx rV 69 b (ax ((sg 6).h 0).1 ((sg 6).h 0).2 r1.2.length),df cq 3 ((sg 6).h 0).1 ((sg 6).h 0).2 r1.2] _ from ?_);refine aS I<|ai<|aa<|aj<|av I<|zo I (Aq I)<|ai<|bR h I (fun h=>?_) (fun h=>?_)
   ·refine aj<|av I<|aS I<|ai<|bc ?_;refine M (cF I (M (M (aC ?_))));exact bD (K r2.2 r1.2 ((sg 6).h 0).1 ((sg 6).h 0).2 h) (aR I)
   ·refine dk<|ae<|zo I (tM bV (.head _) (ht I))<|av I<|zo I (aH (r:=cq) (ys:=[r2.1]) (xs:=[.tmp 37]) cR bp I I I I I ⟨(ht I),aZ⟩)<|bT<|bA h fun l2 q_l2 h=>be bp I I I I cR I I (ht I) (ht I) q_l2 fun l3 c2=>bT<|aQ bV I aY I (ht I) (EX (ht I))<|ay<|ac<|af<|ae<|zo rfl (jL (cy hx hN) rfl)<|av rfl<|ay ?_;exact aM (aD (ih (i+1) bad1 l2 l3 c2 ⟨cx hx,h⟩) (aR I))

theorem N8(tag:Int){R:Bool}(h:uU tag=some R):bk ba 237 [cb tag] (fx R):=by
 refine bk.of Tryz.func237 I I I fun w0 S0=>aj<|zo I (dd)<|ai<|aj<|av I<|zo I (d6 I)<|av I<|bI I I (fun hg=>cw I)<|bI I I (fun hg=>dc (aA I hg) hI)<|bI I I (fun hg=>bm (aA I hg))<|cP I I I I (fun hg=>cw I)<|cP I I I I (fun hg=>dV (aA I hg) hI)<|bI I I (fun hg=>hX (aA I hg) (fun hb=>(aA I (pT hg hb))))<|zo I (kh I I)<|aS I<|ai<|ah ?_;cases so h;exact aw I I

theorem N9(kinds:(List Int))(n:bC)(l:(List Int)){R:Int×Int}(h:je kinds n l=some R):bk ba 236 [tD bG n,iK l,ce iW kinds] (tT [cb R.1,cb R.2]):=by
 refine bk.of Tryz.func236 I I I fun w0 S0=>aj<|zo I (kp I)<|zo I (dD)<|zo I (dD)<|ai<|aj<|zo I (dD)<|ai<|aa<|aj<|av I<|zo I (d5 cR I)<|zo I (bm hI)<|ai<|ak<|aT (k:=12) I fun hN=>bn ?_;refine aD (q5 (Z:=fun ls i own=>(l.drop i=ls)∧lH kinds n ls own=some R) (Of:=fun _ i own=>[]) (Gf:=fun _ i own=>[(2,ce iW kinds),(3,ce bG n),(7,cb own),(12,iK l),(13,iB l),(14,cb (i:Int))]) (fun i own h=>?_) (fun e tl ih i own h=>?_) l 0 (0:Int) ⟨I,h⟩) (aR I)
 ·obtain⟨hx,h⟩:=h
  refine aq<|aj<|zo I (ek I I)<|ai<|aa<|bu (ht I) (de hx)<|bc ?_;refine M (M (aC ?_));refine af<|aj<|av rfl<|aS rfl<|ai<|aj<|zo rfl (dD)<|ai<|aa<|ak<|aj<|zo rfl (aU iU eo rfl rfl)<|zo rfl (bf bp rfl rfl)<|zo rfl (d6 rfl)<|aS rfl<|ai<|bR h rfl (fun h=>?_) (fun h=>?_)
  ·refine aj<|zo I (aU pM jC I I)<|zo I (aU nc jB I I)<|zo I (bf bp I I)<|aS I<|zo I (dD)<|ai<|ah ?_;refine au (J ?_);cases so h;exact bQ I I I
  ·refine aj<|zo I (aU iU eo I I)<|zo I (bf bp I I)<|zo I (d6 I)<|aS I<|ai<|bR h I (fun h=>?_) (fun h=>?_)
   ·refine aj<|zo I (bf bV I I)<|zo I (aU na gO I I)<|zo I (bf bp I I)<|bA h fun e1 q_e1 h=>zo I (gI cR bp I I I q_e1)<|zo I (bf bp I I)<|aS I<|zo I (dD)<|ai<|ah ?_;refine au (J ?_);cases so h;exact bQ I I I
   ·refine aj<|zo I (aU iU eo I I)<|zo I (bf bp I I)<|bA h fun r q_r h=>zo I (aG Tt (N8 _ q_r) ⟨(ht I),aZ⟩)<|aS I<|ai<|bR h I (fun h=>?_) (fun h=>?_)
    ·refine ae<|zo I (dD)<|zo I (dD)<|ay<|ac<|af<|aa<|aj<|av rfl<|zo rfl (d6 rfl)<|av rfl<|bI rfl rfl (fun hg=>cw I)<|bI I I (fun hg=>bM (aA I hg) hI)<|bI I I (fun hg=>bm (aA I hg))<|cP I I I I (fun hg=>cw I)<|cP I I I I (fun hg=>cw I)<|cP I I I I (fun hg=>bM (aA I hg) (aA I hg))<|bI I I (fun hg=>hX (aA I hg) (fun hb=>(aA I (pT hg hb))))<|zo I (kh I I)<|ai<|bR h I (fun h=>?_) (fun h=>?_)
     ·refine aj<|zo I (dD)<|zo I (dD)<|ai<|ah<|J ?_;cases so h;exact bQ I I I
     ·refine dk<|aj<|av I<|aS I<|zo I (dD)<|ai<|ah ?_;cases so h;exact bQ I I I
    ·refine aj<|zo I (aU iU eo I I)<|zo I (bf bp I I)<|zo I (d6 I)<|av I<|bI I I (fun hg=>aU iU eo I I)<|bI I I (fun hg=>am bp I I (aA I hg))<|bI I I (fun hg=>bz (aA I hg) hI)<|zo I (kh I I)<|av I<|bI I I (fun hg=>aU iU eo I I)<|bI I I (fun hg=>am bp I I (aA I hg))<|bI I I (fun hg=>bz (aA I hg) hI)<|zo I (kh I I)<|aS I<|ai<|bR h I (fun h=>?_) (fun h=>?_)
     ·refine ae<|zo I (dD)<|ay<|ac<|af<|aa<|aj<|av rfl<|zo rfl (d6 rfl)<|av rfl<|bI rfl rfl (fun hg=>cw I)<|bI I I (fun hg=>bM (aA I hg) hI)<|bI I I (fun hg=>bm (aA I hg))<|cP I I I I (fun hg=>cw I)<|cP I I I I (fun hg=>cw I)<|cP I I I I (fun hg=>bM (aA I hg) (aA I hg))<|bI I I (fun hg=>hX (aA I hg) (fun hb=>(aA I (pT hg hb))))<|zo I (kh I I)<|ai<|bR h I (fun h=>?_) (fun h=>?_)
      ·refine aj<|zo I (dD)<|zo I (dD)<|ai<|ah<|J ?_;cases so h;exact bQ I I I
      ·refine dk<|aj<|av I<|aS I<|zo I (dD)<|ai<|ah ?_;cases so h;exact bQ I I I
     ·refine aP<|ac<|af<|aa<|aj<|av rfl<|zo rfl (d6 rfl)<|av rfl<|bI rfl rfl (fun hg=>cw I)<|bI I I (fun hg=>bM (aA I hg) hI)<|bI I I (fun hg=>bm (aA I hg))<|cP I I I I (fun hg=>cw I)<|cP I I I I (fun hg=>cw I)<|cP I I I I (fun hg=>bM (aA I hg) (aA I hg))<|bI I I (fun hg=>hX (aA I hg) (fun hb=>(aA I (pT hg hb))))<|zo I (kh I I)<|ai<|bR h I (fun h=>?_) (fun h=>?_)
      ·refine aj<|zo I (dD)<|zo I (dD)<|ai<|ah<|J ?_;cases so h;exact bQ I I I
      ·refine dk<|aj<|av I<|aS I<|zo I (dD)<|ai<|ah ?_;cases so h;exact bQ I I I
 ·obtain⟨hx,h⟩:=h
  refine aq<|aj<|zo I (ek I I)<|ai<|aa<|bt (ht I) (cX hx)<|dk<|aa<|ak<|aj<|zo I (gI cR bp I I I (cS hx))<|zo I (bf bp I I)<|aS I<|ai<|ak<|aj<|av I<|zo I (d6 I) ?_;refine av I<|bI I I (fun hg=>cw I)<|bI I I (fun hg=>cw I)<|bI I I (fun hg=>bz (aA I hg) (aA I hg))<|zo I (kh I I)<|aS I<|ai<|bR h I (fun h=>?_) (fun h=>?_)
  ·refine aP<|ac<|ac<|af<|ae<|zo rfl (jL (cy hx hN) rfl)<|av rfl<|ay ?_;exact aM (aD (ih (i+1) own ⟨cx hx,h⟩) (aR I))
  ·refine aj<|av I<|zo I (d6 I)<|aS I<|ai<|bR h I (fun h=>?_) (fun h=>?_)
   ·refine ae<|av I<|aS I<|ay<|ac<|ac<|af<|ae<|zo rfl (jL (cy hx hN) rfl)<|av rfl<|ay ?_;exact aM (aD (ih (i+1) e ⟨cx hx,h⟩) (aR I))
   ·refine ae<|zo I (dD)<|ay<|ac<|ac<|af<|ae<|zo rfl (jL (cy hx hN) rfl)<|av rfl<|ay ?_;exact aM (aD (ih (i+1) xR ⟨cx hx,h⟩) (aR I))

theorem AE(e:bv)(kinds:(List Int)){R:Int×Int}(h:mV e kinds=some R):bk ba 206 [tD bL e,iK kinds] (tT [cb R.1,cb R.2]):=by
 refine bk.of Tryz.func206 I I I fun w0 S0=>aj<|zo I (kp I)<|zo I (kp I)<|zo I (dD)<|zo I (dD)<|ai<|aa<|aj<|zo I (bf fv I I)<|bA h fun r q_r h=>zo I (aG PG (I3 _ q_r) ⟨(ht I),aZ⟩)<|aS I<|ai<|aj<|av I<|zo I (Aq I)<|ai ?_;refine bR h I (fun h=>?_) (fun h=>?_)
 ·refine aj<|av I<|zo I (dD)<|aS I<|ai<|ah<|J ?_;cases so h;exact bQ I I I
 ·refine dk<|aa<|aj<|zo I (bf bV I I)<|zo I (d5 cR I)<|zo I (bm hI)<|ai<|ak<|aT (k:=16) I fun hN=>bn ?_;refine aD (dv (Z:=fun ls i=>(kinds.drop i=ls)∧pO e kinds ls=some R) (Of:=fun _ i=>[]) (Gf:=fun _ i=>[(2,ce bL e),(3,ce iW kinds),(16,iK kinds),(17,iB kinds),(18,cb (i:Int))]) (fun i h=>?_) (fun e1 tl ih i h=>?_) kinds 0 ⟨I,h⟩) (aR I)
  ·obtain⟨hx,h⟩:=h
   refine aq<|aj<|zo I (ek I I)<|ai<|aa<|bu (ht I) (de hx)<|bc ?_;refine M (M (aC ?_));refine af<|aa<|aj<|zo rfl (bf fv rfl rfl)<|bA h fun r1 q_r1 h=>cY Tw (Mi _ q_r1) ⟨(ht I),aZ⟩ I fun l c=>zo I (hY cR (.head _) (ht I))<|zo I (bm hI)<|ai<|ak<|yR (.head _) fun hN1=>bn ?_;refine aD (dv (Z:=fun ls1 i1=>(r1.drop i1=ls1)∧me e kinds ls1=some R) (Of:=fun _ i1=>[df cq 3 l c r1]) (Gf:=fun _ i1=>[(2,ce bL e),(3,ce iW kinds),(30,oY l c r1),(31,iB r1),(32,cb (i1:Int))]) (fun i1 h=>?_) (fun e2 tl1 ih1 i1 h=>?_) r1 0 ⟨I,h⟩) (aR I)
   ·obtain⟨hx1,h⟩:=h
    refine aq<|aj<|zo I (ek I I)<|ai<|aa<|bu (ht I) (de hx1)<|bc ?_;refine M (M (aC ?_));refine af<|aj<|zo rfl (bf fv rfl rfl)<|zo rfl ((show cE _ _ _ _ ((kG ba M0 MY (fun(x:bC×(List Int))=>(je kinds) x.1 x.2)))from vL (cts:=[ce iW kinds]) (caps:=[.tmp 3]) Tu ⟨(ht I),aZ⟩ (fun x y h=>N9 _ _ _ h)))<|bA h fun r2 q_r2 h=>zo I (aG Tv (Oa _ _ q_r2) ⟨(ht I),(ht I),aZ⟩)<|zo I (nj I I)<|zo I (nj I I)<|aS I<|aS I<|ai<|ah<|aX ?_;cases so h;exact bQ I I I
   ·obtain⟨hx1,h⟩:=h
    refine aq<|aj<|zo I (ek I I)<|ai<|aa<|bt (ht I) (cX hx1)<|dk<|aa<|ak<|aj<|zo I (eh cR bp (.head _) (ht I) (ht I) (cS hx1))<|zo I (jc (r:=cq) (i:=(i1:Int)) (foff:=0) bp I I cA I (.head _) (cS hx1) (ht I))<|aS I<|ai<|aj<|av I<|zo I (bf bV I I)<|zo I (d5 cR I) ?_;refine zo I (dc (ht I) (ht I))<|ai<|bR h I (fun h=>?_) (fun h=>?_)
    ·refine aj<|zo I (dD)<|zo I (dD)<|ai<|ah ?_;refine au (J (J (au (J ?_))));refine aX ?_;cases so h;exact bQ I I I
    ·refine aP<|ac<|af<|ae<|zo rfl (jL (cy hx1 hN1) rfl)<|av rfl<|ay ?_;exact aM (aD (ih1 (i1+1) ⟨cx hx1,h⟩) (aR I))
  ·obtain⟨hx,h⟩:=h
   refine aq<|aj<|zo I (ek I I)<|ai<|aa<|bt (ht I) (cX hx)<|dk<|aa<|ak<|aj<|zo I (gI cR bp I I I (cS hx))<|zo I (bf bp I I)<|aS I<|ai<|aj<|av I<|zo I (d8 (ht I) hI)<|av I ?_;refine bI I I (fun hg=>cw I)<|bI I I (fun hg=>cH (aA I hg) hI)<|zo I (kh I I)<|ai<|bR h I (fun h=>?_) (fun h=>?_)
   ·refine aj<|zo I (dD)<|zo I (dD)<|ai<|ah ?_;refine au (J (J (au (J ?_))));cases so h;exact bQ I I I
   ·refine aP<|ac<|af<|ae<|zo rfl (jL (cy hx hN) rfl)<|av rfl<|ay ?_;exact aM (aD (ih (i+1) ⟨cx hx,h⟩) (aR I))

theorem I5(e:bv)(kinds:(List Int)){R:Bool}(h:jy e kinds=some R):bk ba 205 [tD bL e,iK kinds] (fx R):=by
 refine bk.of Tryz.func205 I I I fun w0 S0=>aj<|zo I (kp I)<|zo I (dd)<|ai<|aj<|zo I (bf fv I I)<|av I<|bA h fun r q_r h=>zo I (aG Jd (AE _ _ q_r) ⟨(ht I),(ht I),aZ⟩)<|av I<|zo I (nj I I)<|zo I (nj I I)<|aS I<|aS I<|ai<|aj<|av I<|zo I (d6 I) ?_;refine av I<|aO I I (fun hg=>cw I)<|aO I I (fun hg=>bz (aA I hg) hI)<|aO I I (fun hg=>bm (aA I hg))<|ck I I I I (fun hg=>cw I)<|ck I I I I (fun hg=>bz (aA I hg) hI)<|aO I I (fun hg=>jn (aA I hg) (fun hb=>(aA I (pT hg (oH hb)))))<|zo I (fV I I)<|aS I<|ai<|ah ?_;cases so h;exact aw I I

theorem Rx(b:Nat)(ix:OI)(l:al){R:Bool×al}(h:gC l=some R):dK ba 165 [tV (aL b 0)] (eD b l ix) (fun _:OI=>fx R.1) (fun j=>eD b R.2 j):=by
 refine dK.of Tryz.func165 I I I fun w0 S0=>?_;refine(show CG _ _ _ [bx (rH bo [(1,ax (ix.h 0).1 (ix.h 0).2 l.kinds.length),(2,ax (ix.h 1).1 (ix.h 1).2 l.open_.length)]) 168 b l,tip iW 69 (ix.h 0).1 (ix.h 0).2 l.kinds,df cq 3 (ix.h 1).1 (ix.h 1).2 l.open_] _ from ?_);refine aj<|zo I (dd)<|ai<|aa<|bA h fun r q_r h=>?_
 refine q6 13 (ts:=[tV (aL b 0),tV (aL b 0),tV (aL b 0),tV (aL b 15),iK l.a_,tV (aL b 0),tV (aL b 0),tV (aL b 16),iK l.b,dM (iW) ([l.a_,l.b]),iK r,tV (aL b 0),tV (aL b 17)]) mixed I I I
  ⟨im 0 I I I (cw I),
  ⟨im 0 I I I (cw I),
  ⟨dQ 4 1 I I I (bg (ht I)),
  ⟨dQ 5 2 I I I (fe 15 iT I I I),
  ⟨dQ 6 3 I I I (br (r:=rH bo [(1,ax (ix.h 0).1 (ix.h 0).2 l.kinds.length),(2,ax (ix.h 1).1 (ix.h 1).2 l.open_.length)]) (x:=l) bV I I (gW ot) (.head _) (ht I)),
  ⟨im 0 I I I (cw I),
  ⟨dQ 8 5 I I I (bg (ht I)),
  ⟨dQ 9 6 I I I (fe 16 yC I I I),
  ⟨dQ 10 7 I I I (br (r:=rH bo [(1,ax (ix.h 0).1 (ix.h 0).2 l.kinds.length),(2,ax (ix.h 1).1 (ix.h 1).2 l.open_.length)]) (x:=l) bV I I (gW Do) (.head _) (ht I)),
  ⟨eF 7 4 11 8 I I I I (aH (r:=tw) (ys:=[l.a_,l.b]) (xs:=[.tmp 7,.tmp 11]) rN bV I I I I I ⟨(ht I),(ht I),aZ⟩),
  ⟨dQ 12 9 I I I (aG TJ (On _ q_r) ⟨(ht I),aZ⟩),
  ⟨dQ 3 0 I I I (bg (ht I)),
  ⟨dQ 14 11 I I I (fe 17 fK I I I),
  aZ⟩⟩⟩⟩⟩⟩⟩⟩⟩⟩⟩⟩⟩ ?_
 refine iV (jD bV I (vv (hs' :=[(1,ax (ix.h 0).1 (ix.h 0).2 l.kinds.length),(2,ax (ix.h 1).1 (ix.h 1).2 l.open_.length)]) rJ ⟨.inr ⟨I,I⟩,.inr ⟨I,I⟩,aZ⟩ I) I (ht I) (ht I)) (fun i=>?_);refine(show RG _ _ _ _ [bx (rH bo [(1,ax (ix.h 0).1 (ix.h 0).2 l.kinds.length),(2,ax (ix.h 1).1 (ix.h 1).2 l.open_.length)]) 168 b ({l with result:=r}:al),tip iW 69 (ix.h 0).1 (ix.h 0).2 l.kinds,df cq 3 (ix.h 1).1 (ix.h 1).2 l.open_] _ from ?_);refine ai<|aa<|bA h fun r1 q_r1 h=>?_
 refine fq (ts:=[_,_,_,_,_,_,_,_,_,_,_]) mixed I I
  ⟨im 0 I I I (cw I),
  ⟨dQ 16 0 I I I (bg (ht I)),
  ⟨dQ 17 1 I I I (fe 3 gH I I I),
  ⟨dQ 18 2 I I I (fe 9 o8 I I I),
  ⟨dQ 19 3 I I I (br (r:=rH bo [(1,ax (ix.h 0).1 (ix.h 0).2 l.kinds.length),(2,ax (ix.h 1).1 (ix.h 1).2 l.open_.length)]) (x:=({l with result:=r}:al)) fv I I (gW (gD fD gN)) (.head _) (ht I)),
  ⟨im 0 I I I (cw I),
  ⟨dQ 21 5 I I I (bg (ht I)),
  ⟨dQ 22 6 I I I (fe 17 fK I I I),
  ⟨dQ 23 7 I I I (br (r:=rH bo [(1,ax (ix.h 0).1 (ix.h 0).2 l.kinds.length),(2,ax (ix.h 1).1 (ix.h 1).2 l.open_.length)]) (x:=({l with result:=r}:al)) bV I I (gW zk) (.head _) (ht I)),
  ⟨eF 20 4 24 8 I I I I (aG PI (I5 _ _ q_r1) ⟨(ht I),(ht I),aZ⟩),
  ⟨dQ 25 9 I I I (Cd I),
  aZ⟩⟩⟩⟩⟩⟩⟩⟩⟩⟩⟩ ?_
 refine af<|ah<|bl<|bl<|bl ?_;cases so h;exact ee I ix I I (fun _ _ h=>h)

theorem Rw(b:Nat)(ix:OI)(l:al){R:Bool×al}(h:fC l=some R):dK ba 166 [tV (aL b 0)] (eD b l ix) (fun _:OI=>fx R.1) (fun j=>eD b R.2 j):=by
 refine dK.of Tryz.func166 I I I fun w0 S0=>?_;refine(show CG _ _ _ [bx (rH bo [(1,ax (ix.h 0).1 (ix.h 0).2 l.kinds.length),(2,ax (ix.h 1).1 (ix.h 1).2 l.open_.length)]) 168 b l,tip iW 69 (ix.h 0).1 (ix.h 0).2 l.kinds,df cq 3 (ix.h 1).1 (ix.h 1).2 l.open_] _ from ?_);refine aj<|zo I (dd)<|ai<|aj<|av I<|av I<|zo I (bg (ht I))<|zo I (fe 15 iT I I I)<|zo I (br (r:=rH bo [(1,ax (ix.h 0).1 (ix.h 0).2 l.kinds.length),(2,ax (ix.h 1).1 (ix.h 1).2 l.open_.length)]) (x:=l) bV I I (gW ot) (.head _) (ht I))<|zo I (bg (ht I))<|zo I (fe 17 fK I I I)<|iV (jD bV I (vv (hs' :=[(1,ax (ix.h 0).1 (ix.h 0).2 l.kinds.length),(2,ax (ix.h 1).1 (ix.h 1).2 l.open_.length)]) rJ ⟨.inr ⟨I,I⟩,.inr ⟨I,I⟩,aZ⟩ I) I (ht I) (ht I)) fun i=>?_;refine(show RG _ _ _ _ [bx (rH bo [(1,ax (ix.h 0).1 (ix.h 0).2 l.kinds.length),(2,ax (ix.h 1).1 (ix.h 1).2 l.open_.length)]) 168 b ({l with result:=l.a_}:al),tip iW 69 (ix.h 0).1 (ix.h 0).2 l.kinds,df cq 3 (ix.h 1).1 (ix.h 1).2 l.open_] _ from ?_);refine ai<|aa<|bA h fun r q_r h=>?_
 refine fq (ts:=[_,_,_,_,_,_,_,_,_,_,_]) mixed I I
  ⟨im 0 I I I (cw I),
  ⟨dQ 10 0 I I I (bg (ht I)),
  ⟨dQ 11 1 I I I (fe 3 gH I I I),
  ⟨dQ 12 2 I I I (fe 9 o8 I I I),
  ⟨dQ 13 3 I I I (br (r:=rH bo [(1,ax (ix.h 0).1 (ix.h 0).2 l.kinds.length),(2,ax (ix.h 1).1 (ix.h 1).2 l.open_.length)]) (x:=({l with result:=l.a_}:al)) fv I I (gW (gD fD gN)) (.head _) (ht I)),
  ⟨im 0 I I I (cw I),
  ⟨dQ 15 5 I I I (bg (ht I)),
  ⟨dQ 16 6 I I I (fe 15 iT I I I),
  ⟨dQ 17 7 I I I (br (r:=rH bo [(1,ax (ix.h 0).1 (ix.h 0).2 l.kinds.length),(2,ax (ix.h 1).1 (ix.h 1).2 l.open_.length)]) (x:=({l with result:=l.a_}:al)) bV I I (gW ot) (.head _) (ht I)),
  ⟨eF 14 4 18 8 I I I I (aG PI (I5 _ _ q_r) ⟨(ht I),(ht I),aZ⟩),
  ⟨dQ 19 9 I I I (Cd I),
  aZ⟩⟩⟩⟩⟩⟩⟩⟩⟩⟩⟩ ?_
 refine af<|ah<|bl<|bl<|bl ?_;cases so h;exact ee I ix I I (fun _ _ h=>h)

end Go.Proofs.YtdohlidddcgfjaaGreat

