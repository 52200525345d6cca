/- eJ of this claim: P3. -/
import Derived.Test.YtpgjgkdpeagjbaaGreatDoorJaT
import Derived.Test.YtpgjgkdpeagjbaaGreatDoorJaP2
set_option linter.all false
namespace Go.Proofs.YtpgjgkdpeagjbaaGreatDoor
open Go
set_option maxRecDepth 100000

def YR s f{R}(h:gr s f=some R):bY aU 184 [cr (gU) s,(fL aU UE qd (fun(x:jG)=>f x))] (gM R):=by
 exact co Tryz.func184 J<|Z<|ca<|bB<|ax J<|Q J<|bS h aer (Yn _ _) (bj J) fun r h=>T (eF (Y J) hI)<|aM J<|so h▸av J J

def acx(b:Nat)(ix:OI) c n{R}(h:iU c n=some R):ea aU 126 [tV (ba b 0),tD aW n] (fJ b c ix) (fun _:OI=>tT [kq R.1,gM R.2]) (fun _=>(fJ b c ix)):=by
 refine ea.of Tryz.func126 J J J fun w0 S0=>?_;refine(show CG _ _ _ [bx (rH cg [(1,bw (ix.h 0).1 (ix.h 0).2 c.kinds.length),(2,bw (ix.h 1).1 (ix.h 1).2 c.first.length)]) 108 b c,gO sH 39 (ix.h 0).1 (ix.h 0).2 c.kinds,gO cI 3 (ix.h 1).1 (ix.h 1).2 c.first] _ from ?_);refine Z<|bO J<|dO cI<|ca<|bB<|aA<|ci h fun e q_e h=>?_
 refine lS 9 [tc (tV (ba b 0)),tc (tV (ba b 0)),tc (tV (ba b 1)),tc (tO sH (ix.h 0).1 (ix.h 0).2 c.kinds),tc (bF cI n.A),tc (bD n.A),tc (bF sH e),tc (kq e),([8],fun s=>tV (ba ((s.getD 0 sF).h 0).2 0))] [false,false,false,false,false,false,false,false,true] [([],fun _=>[bx (rH cg [(1,bw (ix.h 0).1 (ix.h 0).2 c.kinds.length),(2,bw (ix.h 1).1 (ix.h 1).2 c.first.length)]) 108 b c,gO sH 39 (ix.h 0).1 (ix.h 0).2 c.kinds,gO cI 3 (ix.h 1).1 (ix.h 1).2 c.first]),([8],fun sg=>[bx sH 39 ((sg 8).h 0).2 ([]),bx (rH cg [(1,bw (ix.h 0).1 (ix.h 0).2 c.kinds.length),(2,bw (ix.h 1).1 (ix.h 1).2 c.first.length)]) 108 b c,gO sH 39 (ix.h 0).1 (ix.h 0).2 c.kinds,gO cI 3 (ix.h 1).1 (ix.h 1).2 c.first])] (fun _=>J) mixed J J J J
  ⟨⟨[⟨0,fun _=>tV (ba b 0),none⟩],_,[[],[8]],J,⟨(fun _=>J),O⟩,J,J,J,J,J,⟨fun sg=>ai J (gL J),fun sg=>ai J (gL J),O⟩⟩,
  ⟨⟨[⟨9,fun _=>tV (ba b 0),some 0⟩],_,[[],[8]],J,⟨(fun _=>J),O⟩,J,J,J,J,J,⟨fun sg=>ai J (ee (Y J)),fun sg=>ai J (ee (Y J)),O⟩⟩,
  ⟨⟨[⟨10,fun _=>tV (ba b 0),some 1⟩],_,[[],[8]],J,⟨(fun _=>J),O⟩,J,J,J,J,J,⟨fun sg=>ai J (tp 1 oP J J J),fun sg=>ai J (tp 1 oP J J J),O⟩⟩,
  ⟨⟨[⟨11,fun _=>tV (ba b 1),some 2⟩],_,[[],[8]],J,⟨(fun _=>J),O⟩,J,J,J,J,J,⟨fun sg=>ai J (eD we J (.head _) (.tail _ (.head _)) (Y J)),fun sg=>ai J (eD we J (.tail _ (.head _)) (.tail _ (.tail _ (.head _))) (Y J)),O⟩⟩,
  ⟨⟨[⟨3,fun _=>bF aW n,none⟩],_,[[],[8]],J,⟨(fun _=>J),O⟩,J,J,J,J,J,⟨fun sg=>ai J (ic iO de J J),fun sg=>ai J (ic iO de J J),O⟩⟩,
  ⟨⟨[⟨13,fun _=>bF cI n.A,some 4⟩],_,[[],[8]],J,⟨(fun _=>J),O⟩,J,J,J,J,J,⟨fun sg=>ai J (nE cj J J),fun sg=>ai J (nE cj J J),O⟩⟩,
  ⟨⟨[⟨12,fun _=>tO Ak (ix.h 0).1 (ix.h 0).2 c.kinds,some 3⟩,⟨14,fun _=>tD cI n.A,some 5⟩],_,[[],[8]],J,⟨(fun _=>J),(fun _=>J),O⟩,J,J,J,J,J,⟨fun sg=>ai J (bm xP eQ J (km (Y J)) (Y J) q_e),fun sg=>ai J (bm xP eQ J (km (Y J)) (Y J) q_e),O⟩⟩,
  ⟨⟨[⟨15,fun _=>bF Ak e,some 6⟩],_,[[],[8]],J,⟨(fun _=>J),O⟩,J,J,J,J,J,⟨fun sg=>ai J (nE eQ J J),fun sg=>ai J (nE eQ J J),O⟩⟩,
  ⟨⟨[],_,[([],[8])],J,O,J,J,J,J,J,⟨fun sg=>dS J (sx (r:=Ak) (x:=[]) eQ (fun _=>⟨none,0,J,fa _,lG _,.inl J⟩)),O⟩⟩,
  O⟩⟩⟩⟩⟩⟩⟩⟩⟩ (fun sg=>?_)
 refine(show RG _ _ _ _ [_,_,_,_] _ from ?_);refine be eQ ah J<|aV 6 J<|bB<|Z<|T ((show cz _ _ _ _ ((fL aU UE qd (fun(x:jG)=>(mG e) x)))from kg (cts:=[bF sH e]) (caps:=[.tmp 6]) aeX ⟨(Y J),O⟩ (fun x y h=>YS _ _ h)))<|aC J<|Z<|bg pX kh Cy J<|ck xu J<|T (jm (Y J) hI)<|Q J<|ci h fun t q_t h=>aw J (cZ pX kh J J)<|aw J (cN Cy J J)<|aw J (cG J) ?_
 obtain⟨r,h1t,h0t⟩:=og q_t
 have q_rg:=fun M=>(h1t M).1
 refine aw J (fun H=>bo aeW (YR _ _ (q_rg H)) ⟨(bG J H),(bG J H),O⟩)<|aw J (nI J)<|T (cQ (Y J) (fun M=>(bG J M)) (fun M=>(h1t M).2) h0t)<|Q J<|aw J (cZ vE oy J J)<|aw J (cN cj J J)<|aw J (fun H=>eF (bG J H) hI)<|dv J<|Q J<|aw J (cZ vE oy J J)<|aw J (cN cj J J)<|aw J (fun H=>jm (bG J H) hI)<|dv J<|aC J<|aA ?_
 refine iQ (ts:=[_,_,_,_,_,_,_,_,_,_,_,_,_,_,_,_,_,_,_]) mixed J J
  ⟨jH 6 J J (nE eQ J J),
  ⟨dc J J,
  ⟨cT 40 1 J J (gL J),
  ⟨jF 0 41 2 J J J (bU J J J J (fun H=>gL J)),
  ⟨fq 42 3 41 2 J J J (bU J J J J (fun H=>ee (bG J H))),
  ⟨fq 43 4 41 2 J J J (bU J J J J (fun H=>rl (n:=1) oP J (bG J H) J)),
  ⟨fq 44 5 41 2 J J J (bU J J J J (fun H=>eD we J (.head _) (.tail _ (.head _)) (bG J H))),
  ⟨fq 45 6 41 2 J J J (bU J J J J (fun H=>kZ xP (km (bG J H)))),
  ⟨jF 0 41 2 J J J (bU J J J J (fun H=>gL J)),
  ⟨fq 47 8 41 2 J J J (bU J J J J (fun H=>ee (bG J H))),
  ⟨fq 48 9 41 2 J J J (bU J J J J (fun H=>rl (n:=0) Ml J (bG J H) J)),
  ⟨fq 49 10 41 2 J J J (bU J J J J (fun H=>rl (n:=0) mM J (bG J H) J)),
  ⟨fq 50 11 41 2 J J J (bU J J J J (fun H=>bR (r:=rH cg [(1,bw (ix.h 0).1 (ix.h 0).2 c.kinds.length),(2,bw (ix.h 1).1 (ix.h 1).2 c.first.length)]) (x:=c) wR J J (XZ (yq zk gi)) (.head _) (bG J H))),
  ⟨fq 51 12 41 2 J J J (bU J J J J (fun H=>kZ tm (bG J H))),
  ⟨fq 52 13 41 2 J J J (bU J J J J (fun H=>dX (bG J H) hI)),
  ⟨lZ 46 7 53 14 41 2 J J J J (bU J J J J (fun H=>iK (bG J H) (bG J H))),
  ⟨cM 41 2 54 15 J J J (UB J J),
  ⟨cT 39 0 J J (sE J),
  ⟨cT 55 16 J J (sE J),
  O⟩⟩⟩⟩⟩⟩⟩⟩⟩⟩⟩⟩⟩⟩⟩⟩⟩⟩⟩ ?_
 exact ap<|fD<|aP<|aP<|aP<|so h▸fS (ts:=[kq e,gM (((t&&(decide (yM<=n.Limit)))&&(decide (n.Limit<=(2147483647:Int))))&&((c.kinds.length:Int)==(IntKind.i64.wrap ((c.Logic.Nodes.length:Int)-(1:Int)))))]) (rvs:=[.tmp 4,.tmp 5]) J J ⟨aN J,aN J,O⟩ sF J J

def Zo n{R}(h:wt n=some R):bY aU 127 [tD aW n] (gM R):=by
 refine co Tryz.func127 J<|Z<|bO J<|ca<|bB<|Z<|bg qX jp cj J<|bP J<|Q J<|aw J (cZ pU iZ J J)<|aw J (cN eQ J J)<|aw J (jJ fz J)<|aw J (fV J)<|dv J<|Q J<|aw J (cZ Il zl J J)<|aw J (cN zZ J J)<|aw J (nI J)<|dv J<|Q J ?_;refine aw J (cZ rZ kK J J)<|aw J (fun H=>oK la J gj J (bG J H))<|aw J (cN uD J J)<|aw J (jJ qC J)<|aw J (fV J)<|dv J<|Q J<|aw J (cZ pT iY J J)<|aw J (cN eQ J J)<|aw J (jJ fz J)<|aw J (fV J)<|dv J<|Q J<|aw J (cZ oM kJ J J)<|aw J (cN zY J J)<|aw J (jJ uz J)<|aw J (fV J)<|dv J<|Q J<|aw J (cZ pS kI J J)<|aw J (cN zX J J)<|aw J (jJ vk J)<|aw J (fV J)<|dv J ?_;exact Q J<|aw J (cZ pX kh J J)<|aw J (cN Cy J J)<|aw J (jJ xu J)<|aw J (fV J)<|dv J<|Q J<|aw J (cZ vE oy J J)<|aw J (cN cj J J)<|aw J (fV J)<|dv J<|aM J<|so h▸av J J

def Zn n{R}(h:wu n=some R):bY aU 128 [tD aW n] (tD aW R):=by
 refine co Tryz.func128 J<|Z<|vI (Y J) J fun b=>aQ iE mS J fun b1=>bB<|aE<|eZ 0 oN J<|T (bR cj J J gJ (.tail _ (.head _)) (Y J))<|bB<|am<|Z<|bP J<|aC J<|gp h J (fun h=>?_) (fun h=>?_)
 ·exact au<|eZ 3 qX J<|bu<|dA cj J PY J (Y J) hI<|eZ 4 pU J<|dA eQ J CD J (Y J) zh<|aY<|ay<|ap<|Z<|T (bR (x:=(aq.mk n.Op n.A n.B (0:Int) ([]) n.Left n.Cond n.Keys n.Aggs n.Items n.Order n.Limit)) iE J J bz (.head _) (Y J))<|bu<|be iE ah J<|aV 2 J<|cK<|aG<|so h▸fT J iE J J J
 ·refine Z<|bP J<|aC J<|gp h J (fun h=>?_) (fun h=>?_)
  ·exact au<|T (bM jk abI vm J)<|eZ 5 Il J<|bu<|dA zZ J PX J (Y J) hB<|eZ 6 rZ J<|be jk CC J<|aY<|ay<|ap<|Z<|T (bR (x:=(aq.mk n.Op n.A n.B n.Table n.Kinds false Nl n.Keys n.Aggs n.Items n.Order n.Limit)) iE J J bz (.head _) (Y J))<|bu<|be iE ah J<|aV 2 J<|cK<|aG<|so h▸fT J iE J J J
  ·refine Z<|bP J<|aC J<|gp h J (fun h=>?_) (fun h=>?_)
   ·exact au<|T (bM jk abI vm J)<|eZ 6 rZ J<|bu<|be jk CC J<|aY<|ay<|ap<|Z<|T (bR (x:=(aq.mk n.Op n.A n.B n.Table n.Kinds n.Left Nl n.Keys n.Aggs n.Items n.Order n.Limit)) iE J J bz (.head _) (Y J))<|bu<|be iE ah J<|aV 2 J<|cK<|aG<|so h▸fT J iE J J J
   ·refine Z<|bP J<|aC J<|gp h J (fun h=>?_) (fun h=>?_)
    ·exact au<|eZ 7 pT J<|bu<|dA eQ J Hj J (Y J) zh<|eZ 8 oM J<|dA zY J Hi J (Y J) zh<|aY<|ay<|ap<|Z<|T (bR (x:=(aq.mk n.Op n.A n.B n.Table n.Kinds n.Left n.Cond ([]) ([]) n.Items n.Order n.Limit)) iE J J bz (.head _) (Y J))<|bu<|be iE ah J<|aV 2 J<|cK<|aG<|so h▸fT J iE J J J
    ·refine Z<|bP J<|aC J<|gp h J (fun h=>?_) (fun h=>?_)
     ·exact au<|eZ 9 pS J<|bu<|dA zX J PW J (Y J) zh<|aY<|ay<|ap<|Z<|T (bR (x:=(aq.mk n.Op n.A n.B n.Table n.Kinds n.Left n.Cond n.Keys n.Aggs ([]) n.Order n.Limit)) iE J J bz (.head _) (Y J))<|bu<|be iE ah J<|aV 2 J<|cK<|aG<|so h▸fT J iE J J J
     ·refine Z<|bP J<|aC J<|gp h J (fun h=>?_) (fun h=>?_)
      ·exact au<|eZ 10 pX J<|bu<|dA Cy J FJ J (Y J) zh<|eZ 11 vE J<|dA cj J NL J (Y J) hI<|aY<|ay<|ap<|Z<|T (bR (x:=(aq.mk n.Op n.A n.B n.Table n.Kinds n.Left n.Cond n.Keys n.Aggs n.Items ([]) (0:Int))) iE J J bz (.head _) (Y J))<|bu<|be iE ah J<|aV 2 J<|cK<|aG<|so h▸fT J iE J J J
      ·exact bc<|ay<|ap<|Z<|T (bR iE J J bz (.tail _ (.head _)) (Y J))<|be iE ah J<|aV 2 J<|cK<|aG<|so h▸fT J iE J J J

def YQ op{R}(h:xf op=some R):bY aU 185 [bD op] (bD R):=by
 refine co Tryz.func185 J<|Z<|bh<|bB<|aE<|Q J<|bB<|am<|Z<|bP J<|aC J<|gp h J (fun h=>?_) (fun h=>?_)
 ·exact Z<|cd<|bT<|so h▸av J J
 ·refine fi (aF:=fun x=>s5 x=some R) (Of:=fun x=>[]) (Gf:=fun x=>[(6,gM x)]) (fun x h=>?_) (fun h2=>?_)
  ·skip
   refine gp h J (fun h=>?_) (fun h=>?_)
   ·exact Z<|cd<|bT<|so h▸av J J
   ·exact bc<|ay<|ap<|Z<|cd<|so h▸av J J
  ·skip
   refine Z<|bP J<|aC J<|gp h J (fun h=>?_) (fun h=>?_)
   ·refine bc ?_;exact ce (h2 (op==(2:Int)) h) (bf J)
   ·refine au<|bP J<|dC J<|aY ?_;exact ce (h2 (op==(7:Int)) h) (bf J)

def acw(b:Nat)(ix:OI) c i{R}(h:lN c i=some R):ea aU 129 [tV (ba b 0),bD i] (fJ b c ix) (fun _:OI=>tT [bD R.1,gM R.2]) (fun _=>(fJ b c ix)):=by
 refine ea.of Tryz.func129 J J J fun w0 S0=>?_;refine(show CG _ _ _ [bx (rH cg [(1,bw (ix.h 0).1 (ix.h 0).2 c.kinds.length),(2,bw (ix.h 1).1 (ix.h 1).2 c.first.length)]) 108 b c,gO sH 39 (ix.h 0).1 (ix.h 0).2 c.kinds,gO cI 3 (ix.h 1).1 (ix.h 1).2 c.first] _ from ?_);refine Z<|bh<|ca<|bB<|ax J<|T (ee (Y J))<|eZ 0 Ml J<|eZ 0 mM J<|T (bR (r:=rH cg [(1,bw (ix.h 0).1 (ix.h 0).2 c.kinds.length),(2,bw (ix.h 1).1 (ix.h 1).2 c.first.length)]) (x:=c) wR J J (XZ (yq zk gi)) (.head _) (Y J))<|Q J<|ci h fun e q_e h=>cW tm iE J q_e<|aQ iE mS J fun b1=>be iE ah J<|aV 6 J<|bB<|aA<|aA ?_;refine au<|bg oN gJ cj J<|bS h aeV (YQ _) (bj J) fun r h=>bB<|am<|Z<|bP J<|aC J<|gp h J (fun h=>?_) (fun h=>?_)
 ·refine aA ?_
  refine iQ (ts:=[_,_,_,_,_,_,_,_,_,_,_]) mixed J J
   ⟨dc J J,
   ⟨jH 6 J J (ic iO de J J),
   ⟨dh 1 cj J J,
   ⟨cT 22 2 J J (Uy J),
   ⟨cT 23 3 J J (gL J),
   ⟨jF 6 24 4 J J J (bU J J J J (fun H=>ic mL fW J J)),
   ⟨fq 25 5 24 4 J J J (bU J J J J (fun H=>cJ cj J J (bG J H))),
   ⟨fq 26 6 24 4 J J J (bU J J J J (fun H=>iK (bG J H) hI)),
   ⟨cM 24 4 27 7 J J J (UB J J),
   ⟨cT 20 0 J J (sE J),
   ⟨cT 28 8 J J (sE J),
   O⟩⟩⟩⟩⟩⟩⟩⟩⟩⟩⟩ ?_
  exact ap<|fD<|bT<|aP<|aP<|aP<|so h▸fS (ts:=[bD i,gM ((e.A==yM)&&(e.B==yM))]) (rvs:=[.tmp 4,.tmp 5]) J J ⟨aN J,aN J,O⟩ sF J J
 ·refine Z<|bP J<|aC J<|gp h J (fun h=>?_) (fun h=>?_)
  ·refine aE<|bg iO de cj J<|Q J<|T (dX (Y J) hI)<|T (d6 (Y J) (Y J))<|Q J<|aO J (cZ mL fW J J)<|aO J (cN cj J J)<|aO J (sK J)<|fj J<|Q J<|aO J (cG J)<|aO J (fV J)<|fj J<|bE h J (fun h=>?_) (fun h=>?_)
   ·exact Z<|bh<|ca<|cK<|af<|bT<|aP<|aP<|aP<|so h▸fS (ts:=[bD 0,gM false]) (rvs:=[.tmp 4,.tmp 5]) J J ⟨aN J,aN J,O⟩ sF J J
   ·refine dZ<|aA<|ci h fun e1 q_e1 h=>?_
    refine iQ (ts:=[_,_,_,_,_,_,_,_,_,_]) mixed J J
     ⟨dc J J,
     ⟨cT 45 0 J J (ee (Y J)),
     ⟨cT 46 1 J J (tp 2 uv J J J),
     ⟨cT 47 2 J J (eD eQ J (.head _) (.tail _ (.tail _ (.head _))) (Y J)),
     ⟨jH 6 J J (ic iO de J J),
     ⟨dh 4 cj J J,
     ⟨cM 48 3 50 5 J J J (bm fz cj J (km (Y J)) (Y J) q_e1),
     ⟨dh 6 cj J J,
     ⟨cT 52 7 J J (sE J),
     ⟨PI J (zab),
     O⟩⟩⟩⟩⟩⟩⟩⟩⟩⟩ ?_
    exact ap<|fD<|bT<|aP<|aP<|aP<|so h▸fS (ts:=[bD e1,gM true]) (rvs:=[.tmp 4,.tmp 5]) J J ⟨aN J,aN J,O⟩ sF J J
  ·refine bc<|ay<|ap<|aA<|aA<|ci h fun t q_t h=>?_
   obtain⟨e2,h1t,h0t⟩:=og q_t
   have q_e2g:=fun M=>(h1t M).1
   refine iQ (ts:=[_,_,_,_,_,_,_,_,_,_,_,_,_,_,_,_,_,_,_,_,_,_,_,_,_,_,_,_]) mixed J J
    ⟨jH 6 J J (ic mL fW J J),
    ⟨dh 0 cj J J,
    ⟨dc J J,
    ⟨cT 55 2 J J (dX (Y J) hI),
    ⟨cM 54 1 56 3 J J J (d6 (Y J) (Y J)),
    ⟨cT 57 4 J J (gL J),
    ⟨jF 1 58 5 J J J (gV J J J J (fun H=>gL J)),
    ⟨fq 59 6 58 5 J J J (gV J J J J (fun H=>iK (bG J H) hI)),
    ⟨cM 58 5 60 7 J J J (zpo J J),
    ⟨cT 61 8 J J (gL J),
    ⟨jF 6 62 9 J J J (gV J J J J (fun H=>ic iO de J J)),
    ⟨fq 63 10 62 9 J J J (gV J J J J (fun H=>cJ cj J J (bG J H))),
    ⟨jF 0 62 9 J J J (gV J J J J (fun H=>gL J)),
    ⟨fq 65 12 62 9 J J J (gV J J J J (fun H=>ee (bG J H))),
    ⟨fq 66 13 62 9 J J J (gV J J J J (fun H=>rl (n:=2) uv J (bG J H) J)),
    ⟨fq 67 14 62 9 J J J (gV J J J J (fun H=>eD eQ J (.head _) (.tail _ (.tail _ (.head _))) (bG J H))),
    ⟨jF 6 62 9 J J J (gV J J J J (fun H=>ic mL fW J J)),
    ⟨fq 69 16 62 9 J J J (gV J J J J (fun H=>cJ cj J J (bG J H))),
    ⟨lZ 68 15 70 17 62 9 J J J J (gV J J J J (fun H=>bm fz cj J (km (bG J H)) (bG J H) (q_e2g H))),
    ⟨fq 71 18 62 9 J J J (gV J J J J (fun H=>cJ cj J J (bG J H))),
    ⟨fq 72 19 62 9 J J J (gV J J J J (fun H=>dX (bG J H) hI)),
    ⟨lZ 64 11 73 20 62 9 J J J J (gV J J J J (fun H=>d6 (bG J H) (bG J H))),
    ⟨cM 62 9 74 21 J J J (eC (Y J) (fun M=>(bG J (pQ M))) (fun M=>(h1t M).2) h0t),
    ⟨cT 75 22 J J (gL J),
    ⟨jF 6 76 23 J J J (gV J J J J (fun H=>ic iO de J J)),
    ⟨fq 77 24 76 23 J J J (gV J J J J (fun H=>cJ cj J J (bG J H))),
    ⟨fq 78 25 76 23 J J J (gV J J J J (fun H=>du (bG J H) hI)),
    ⟨cM 76 23 79 26 J J J (zpo J J),
    O⟩⟩⟩⟩⟩⟩⟩⟩⟩⟩⟩⟩⟩⟩⟩⟩⟩⟩⟩⟩⟩⟩⟩⟩⟩⟩⟩⟩ ?_
   refine ap<|gp h J (fun h=>?_) (fun h=>?_)
   ·exact Z<|bh<|ca<|cK<|af<|aP<|aP<|aP<|so h▸fS (ts:=[bD 0,gM false]) (rvs:=[.tmp 4,.tmp 5]) J J ⟨aN J,aN J,O⟩ sF J J
   ·refine dZ<|aA<|ci h fun e3 q_e3 h=>?_
    refine iQ (ts:=[_,_,_,_,_,_,_,_,_,_]) mixed J J
     ⟨dc J J,
     ⟨cT 81 0 J J (ee (Y J)),
     ⟨cT 82 1 J J (tp 2 uv J J J),
     ⟨cT 83 2 J J (eD eQ J (.head _) (.tail _ (.tail _ (.head _))) (Y J)),
     ⟨jH 6 J J (ic iO de J J),
     ⟨dh 4 cj J J,
     ⟨cM 84 3 86 5 J J J (bm fz cj J (km (Y J)) (Y J) q_e3),
     ⟨dh 6 cj J J,
     ⟨cT 88 7 J J (sE J),
     ⟨PI J (zab),
     O⟩⟩⟩⟩⟩⟩⟩⟩⟩⟩ ?_
    exact ap<|fD<|aP<|aP<|aP<|so h▸fS (ts:=[bD e3,gM true]) (rvs:=[.tmp 4,.tmp 5]) J J ⟨aN J,aN J,O⟩ sF J J

def VV(b:Nat)(ix:OI)(c:aX):EA aU 118 (fun(x:Int×Bool)=>[bD x.1,gM x.2]) (fun _=>nG c) (fJ b) (fJ b c ix) [bF (rT (tV (ba b 0))) ()]:=by
 refine EA.of Tryz.func118 J J J fun Sg yld s R h h1 yv hy e he w0 S0 B hB=>?_
 replace h:nG c yld s=some R:=h
 refine(show CG _ _ _ [e,bx (rH cg [(1,bw (ix.h 0).1 (ix.h 0).2 c.kinds.length),(2,bw (ix.h 1).1 (ix.h 1).2 c.first.length)]) 108 b c,gO sH 39 (ix.h 0).1 (ix.h 0).2 c.kinds,gO cI 3 (ix.h 1).1 (ix.h 1).2 c.first] _ from ?_);refine Z<|C2 (ED (fun y:(aX->aq->Option (((List Int)×Bool)×aX))=>gq aU uB (fJ b) FF y)) tE J fun b1=>T (lL q5 (Y J)) ?_
 refine ru ((show cz _ _ _ _ (gq aU uB (fJ b) FF abe)from lK afE (Y J) (fun c x R h i=>by
   obtain⟨r,I,rfl⟩:=yK.1 h
   exact j8 (Ob:=fun j=>fJ b c j) (i:=i) (acE _ i c _ I)))) J ?_
 refine gw (γ:=(fun y:(aX->aq->Option (((List Int)×Bool)×aX))=>gq aU uB (fJ b) FF y)) (y:=abe) Dn (fH mK) (Y J) (p9 hI) (Y J) fun os=>T (lL q5 (Y J)) ?_
 refine ru ((show cz _ _ _ _ (gq aU uB (fJ b) FF abd)from lK afD (Y J) (fun c x R h i=>by
   obtain⟨r,I,rfl⟩:=yK.1 h
   exact j8 (Ob:=fun j=>fJ b c j) (i:=i) (acD _ i c _ I)))) J ?_
 refine gw (γ:=(fun y:(aX->aq->Option (((List Int)×Bool)×aX))=>gq aU uB (fJ b) FF y)) (y:=abd) Dn (fH mK) (Y J) (p9 hI) (Y J) fun os1=>T (lL q5 (Y J)) ?_
 refine ru ((show cz _ _ _ _ (gq aU uB (fJ b) FF abi)from lK afC (Y J) (fun c x R h i=>by
   obtain⟨r,I,rfl⟩:=yK.1 h
   exact j8 (Ob:=fun j=>fJ b c j) (i:=i) (acC _ i c _ I)))) J ?_
 refine gw (γ:=(fun y:(aX->aq->Option (((List Int)×Bool)×aX))=>gq aU uB (fJ b) FF y)) (y:=abi) Dn (fH mK) (Y J) (p9 hI) (Y J) fun os2=>T (lL q5 (Y J)) ?_
 refine ru ((show cz _ _ _ _ (gq aU uB (fJ b) FF abf)from lK afB (Y J) (fun c x R h i=>by
   obtain⟨r,I,rfl⟩:=yK.1 h
   exact j8 (Ob:=fun j=>fJ b c j) (i:=i) (acB _ i c _ I)))) J ?_
 refine gw (γ:=(fun y:(aX->aq->Option (((List Int)×Bool)×aX))=>gq aU uB (fJ b) FF y)) (y:=abf) Dn (fH mK) (Y J) (p9 hI) (Y J) fun os3=>T (lL q5 (Y J)) ?_
 refine ru ((show cz _ _ _ _ (gq aU uB (fJ b) FF abj)from lK afA (Y J) (fun c x R h i=>by
   obtain⟨r,I,rfl⟩:=yK.1 h
   exact j8 (Ob:=fun j=>fJ b c j) (i:=i) (acA _ i c _ I)))) J ?_
 refine gw (γ:=(fun y:(aX->aq->Option (((List Int)×Bool)×aX))=>gq aU uB (fJ b) FF y)) (y:=abj) Dn (fH mK) (Y J) (p9 hI) (Y J) fun os4=>T (lL q5 (Y J)) ?_
 refine ru ((show cz _ _ _ _ (gq aU uB (fJ b) FF abk)from lK afz (Y J) (fun c x R h i=>by
   obtain⟨r,I,rfl⟩:=yK.1 h
   exact j8 (Ob:=fun j=>fJ b c j) (i:=i) (acz _ i c _ I)))) J ?_
 refine gw (γ:=(fun y:(aX->aq->Option (((List Int)×Bool)×aX))=>gq aU uB (fJ b) FF y)) (y:=abk) Dn (fH mK) (Y J) (p9 hI) (Y J) fun os5=>T (lL q5 (Y J)) ?_
 refine ru ((show cz _ _ _ _ (gq aU uB (fJ b) FF abh)from lK afy (Y J) (fun c x R h i=>by
   obtain⟨r,I,rfl⟩:=yK.1 h
   exact j8 (Ob:=fun j=>fJ b c j) (i:=i) (acy _ i c _ I)))) J ?_
 refine gw (γ:=(fun y:(aX->aq->Option (((List Int)×Bool)×aX))=>gq aU uB (fJ b) FF y)) (y:=abh) Dn (fH mK) (Y J) (p9 hI) (Y J) fun os6=>T (lL q5 (Y J)) ?_
 refine ru ((show cz _ _ _ _ (gq aU uB (fJ b) FF abg)from lK afx (Y J) (fun c x R h i=>by
   obtain⟨r,I,rfl⟩:=yK.1 h
   exact j8 (Ob:=fun j=>fJ b c j) (i:=i) (acx _ i c _ I)))) J ?_
 refine gw (γ:=(fun y:(aX->aq->Option (((List Int)×Bool)×aX))=>gq aU uB (fJ b) FF y)) (y:=abg) Dn (fH mK) (Y J) (p9 hI) (Y J) fun os7=>Q J<|aC J<|Z<|T (lL q5 (Y J))<|T (ee (Y J))<|eZ 0 Ml J<|eZ 0 mM J<|T (bR (r:=rH cg [(1,bw (ix.h 0).1 (ix.h 0).2 c.kinds.length),(2,bw (ix.h 1).1 (ix.h 1).2 c.first.length)]) (x:=c) wR J J (XZ (yq zk gi)) (.tail _ (.tail _ (.head _))) (Y J))<|ck tm J<|T (cv hI)<|bB<|am<|aZ (k:=33) J fun hN=>bA<|mQ<|mQ<|mQ<|om<|mQ ?_;refine aD (Pp (aF:=fun ls i e1 s1 ob l c1 l1 c2=>(c.Logic.Nodes.drop i=ls)/\h1 s1 e1/\cq yld ls i s1 ob=some R) (Of:=fun _ i e1 s1 ob l c1 l1 c2=>[e1,tZ (ED (fun y:(aX->aq->Option (((List Int)×Bool)×aX))=>gq aU uB (fJ b) FF y)) tE b1 none os7 Xi,bx (rH cg [(1,bw l c1 ob.kinds.length),(2,bw l1 c2 ob.first.length)]) 108 b ob,gO sH 39 l c1 ob.kinds,gO cI 3 l1 c2 ob.first]) (Gf:=fun _ i e1 s1 ob l c1 l1 c2=>[(0,tV yv),(1,bF (rT (tV (ba b 0))) ()),(3,tV (tY b1)),(33,cr (aW) c.Logic.Nodes),(34,kP c.Logic.Nodes),(35,bD (i:Int))]) (fun i e1 s1 ob l c1 l1 c2 h=>?_) (fun e2 tl ih i e1 s1 ob l c1 l1 c2 h=>?_) c.Logic.Nodes 0 e s c (ix.h 0).1 (ix.h 0).2 (ix.h 1).1 (ix.h 1).2 ⟨J,⟨he,h⟩⟩) (bf J)
 ·obtain⟨V,h⟩:=h
  obtain⟨he1,h⟩:=h
  exact eY V J<|bK<|aG<|db<|db<|db<|db<|so h▸Uw J he1 (oiL [(l,c1),(l1,c2)]) J
 ·obtain⟨V,h⟩:=h
  obtain⟨he1,h⟩:=h
  refine eX V J<|aA<|am<|ax J<|cW tm iE J (cD V)<|aQ iE mS J fun b2=>dC J<|be iE ah J<|aV 5 J<|bB<|aA ?_;refine au<|Q J<|bg oN gJ cj J<|T (Oh (γ:=(fun y:(aX->aq->Option (((List Int)×Bool)×aX))=>gq aU uB (fJ b) (fun(x:(List Int)×Bool)=>tT [tD Ak x.1,tD rB x.2]) y)) (z:=fun _ _=>none) Dn (fH mK) acZ (fun _=>JT) (.tail _ (.head _)) (Y J) (p9 (Y J)))<|Q J<|bv J J<|bv J J<|dC J<|aC J<|ax J<|Q J<|ci h fun t q_t h=>aw J (fun H=>nE iE J J) ?_
  obtain⟨r,h1t,h0t⟩:=og q_t
  have q_rg:=fun M=>(h1t M).1
  refine aw J (fun H=>bo afv (Zn _ (q_rg H)) ⟨(bG J H),O⟩) ?_
  obtain⟨r1,h1t⟩:=RI (fun M=>(h1t M).2)
  have q_r1g:=fun M=>(h1t M).1
  refine aw J (fun H=>bo afw (Zo _ (q_r1g H)) ⟨(bG J H),O⟩)<|T (cQ (Y J) (fun M=>(bG J M)) (fun M=>(h1t M).2) h0t)<|aC J ?_;refine Uo (aF:=fun ok ob1 l2 c3 l3 c4=>fP yld (cq yld tl) i e2 s1 ok ob1=some R) (Of:=fun ok ob1 l2 c3 l3 c4=>[e1,tZ (ED (fun y:(aX->aq->Option (((List Int)×Bool)×aX))=>gq aU uB (fJ b) FF y)) tE b1 none os7 Xi,bx (rH cg [(1,bw l2 c3 ob1.kinds.length),(2,bw l3 c4 ob1.first.length)]) 108 b ob1,gO sH 39 l2 c3 ob1.kinds,gO cI 3 l3 c4 ob1.first]) (Gf:=fun ok ob1 l2 c3 l3 c4=>[(0,tV yv),(1,bF (rT (tV (ba b 0))) ()),(3,tV (tY b1)),(4,bD (i:Int)),(5,bF aW e2),(6,gq aU uB (fJ b) FF ((rm Xi e2.Op).getD (fun _ _=>none))),(8,gM ok),(33,cr (aW) c.Logic.Nodes),(34,kP c.Logic.Nodes),(35,bD (i:Int))]) (fun ok ob1 l2 c3 l3 c4 h=>?_) (fun h2=>?_)
  ·skip
   refine Z<|dO cI<|bB ?_;refine Un (aF:=fun ok1 kinds ob2 l4 c5 l5 c6=>iM yld (cq yld tl) i s1 ok1 kinds ob2=some R) (Of:=fun ok1 kinds ob2 l4 c5 l5 c6=>[e1,tZ (ED (fun y:(aX->aq->Option (((List Int)×Bool)×aX))=>gq aU uB (fJ b) FF y)) tE b1 none os7 Xi,bx (rH cg [(1,bw l4 c5 ob2.kinds.length),(2,bw l5 c6 ob2.first.length)]) 108 b ob2,gO sH 39 l4 c5 ob2.kinds,gO cI 3 l5 c6 ob2.first]) (Gf:=fun ok1 kinds ob2 l4 c5 l5 c6=>[(0,tV yv),(1,bF (rT (tV (ba b 0))) ()),(3,tV (tY b1)),(4,bD (i:Int)),(8,gM ok1),(10,kq kinds),(33,cr (aW) c.Logic.Nodes),(34,kP c.Logic.Nodes),(35,bD (i:Int))]) (fun ok1 kinds ob2 l4 c5 l5 c6 h=>?_) (fun K1=>?_)
   ·skip
    refine ax J<|Q J<|aw J (cG J)<|aw J (jJ fz J)<|aw J (fun H=>jm (bG J H) hI)<|dv J<|aC J<|aA<|ci h fun l6 q_l6 h=>?_
    refine lS 8 [tc (tV (ba b 0)),tc (tV (ba b 0)),tc (tV (ba b 0)),tc (tV (ba b 1)),tc (tO sH l4 c5 ob2.kinds),tc (kq kinds),tc (cr (sH) ([kinds])),([7],fun s=>tO sH ((s.getD 0 sF).h 0).1 ((s.getD 0 sF).h 0).2 l6)] [false,false,false,false,false,false,false,true] [([],fun _=>[e1,tZ (ED (fun y:(aX->aq->Option (((List Int)×Bool)×aX))=>gq aU uB (fJ b) FF y)) tE b1 none os7 Xi,bx (rH cg [(1,bw l4 c5 ob2.kinds.length),(2,bw l5 c6 ob2.first.length)]) 108 b ob2,gO sH 39 l4 c5 ob2.kinds,gO cI 3 l5 c6 ob2.first]),([7],fun sg=>[gO sH 39 ((sg 7).h 0).1 ((sg 7).h 0).2 l6,e1,tZ (ED (fun y:(aX->aq->Option (((List Int)×Bool)×aX))=>gq aU uB (fJ b) FF y)) tE b1 none os7 Xi,bx (rH cg [(1,bw l4 c5 ob2.kinds.length),(2,bw l5 c6 ob2.first.length)]) 108 b ob2,gO cI 3 l5 c6 ob2.first])] (fun _=>J) mixed J J J J
     ⟨⟨[⟨1,fun _=>bF (rT (tV (ba b 0))) (),none⟩],_,[[],[7]],J,⟨(fun _=>J),O⟩,J,J,J,J,J,⟨fun sg=>ai J (lL q5 (Y J)),fun sg=>ai J (lL q5 (Y J)),O⟩⟩,
     ⟨⟨[⟨1,fun _=>bF (rT (tV (ba b 0))) (),none⟩],_,[[]],J,⟨(fun _=>J),O⟩,J,J,J,J,J,⟨fun sg=>ai J (lL q5 (Y J)),O⟩⟩,
     ⟨⟨[⟨84,fun _=>tV (ba b 0),some 1⟩],_,[[]],J,⟨(fun _=>J),O⟩,J,J,J,J,J,⟨fun sg=>ai J (ee (Y J)),O⟩⟩,
     ⟨⟨[⟨85,fun _=>tV (ba b 0),some 2⟩],_,[[]],J,⟨(fun _=>J),O⟩,J,J,J,J,J,⟨fun sg=>ai J (tp 1 oP J J J),O⟩⟩,
     ⟨⟨[⟨86,fun _=>tV (ba b 1),some 3⟩],_,[[]],J,⟨(fun _=>J),O⟩,J,J,J,J,J,⟨fun sg=>ai J (eD we J (.tail _ (.tail _ (.head _))) (.tail _ (.tail _ (.tail _ (.head _)))) (Y J)),O⟩⟩,
     ⟨⟨[⟨10,fun _=>tD Ak kinds,none⟩],_,[[]],J,⟨(fun _=>J),O⟩,J,J,J,J,J,⟨fun sg=>ai J (gL J),O⟩⟩,
     ⟨⟨[⟨88,fun _=>tD Ak kinds,some 5⟩],_,[[]],J,⟨(fun _=>J),O⟩,J,J,J,J,J,⟨fun sg=>ai J (aI (r:=Ak) (ys:=[kinds]) (xs:=[.tmp 88]) xP eQ J J J J J ⟨(Y J),O⟩),O⟩⟩,
     ⟨⟨[⟨87,fun _=>tO Ak l4 c5 ob2.kinds,some 4⟩,⟨89,fun _=>tD (f9 Ak) ([kinds]),some 6⟩],_,[([],[7])],J,⟨(fun _=>J),(fun _=>J),O⟩,J,J,J,J,J,⟨fun sg=>dS J (EffOK.fr3 (xp eQ J J J J xP J (Y J) (Y J) q_l6)),O⟩⟩,
     O⟩⟩⟩⟩⟩⟩⟩⟩ (fun sg=>?_)
    refine(show RG _ _ _ _ [_,_,_,_,_] _ from ?_);refine T (ee (Y J))<|eZ 1 oP J<|o6 (EffOK.fr3 (zt (hs' :=[(1,bw ((sg 7).h 0).1 ((sg 7).h 0).2 l6.length),(2,bw l5 c6 ob2.first.length)]) (u:=bw ((sg 7).h 0).1 ((sg 7).h 0).2 l6.length) we J J Lr J ⟨.inl ⟨J,J,J⟩,.inr ⟨J,J⟩,O⟩ (Y J) (km (Y J)) (Nw (Y J)))) fun i1=>?_;refine(show RG _ _ _ _ [_,_,_,_,_] _ from ?_);refine bB<|ax J<|Q J<|Q J<|gk<|ci h fun r2 q_r2 h=>IS hy he1 q_r2 (Y J) ⟨(Y J),(Y J),O⟩ J fun e3 he2=>T (dY (Y J))<|Q J<|aO J (cG J)<|aO J (nI J)<|fj J<|bE h J (fun h=>?_) (fun h=>?_)
    ·exact fD<|bT<|af<|lq<|db<|aG<|db<|db<|db<|db<|so h▸PB J he2 (oiL [(((sg 7).h 0).1,((sg 7).h 0).2),(l5,c6)]) J
    ·refine bc<|dR V hN J<|hJ<|db<|db<|hJ<|hJ ?_;exact aR (aD (ih (i+1) e3 r2.2 ({ob2 with kinds:=l6}:aX) ((sg 7).h 0).1 ((sg 7).h 0).2 l5 c6 ⟨cH V,⟨he2,h⟩⟩) (bf J))
   ·skip
    refine ax J<|bE h J (fun h=>?_) (fun h=>?_)
    ·refine au<|Q J<|bn iE J<|ci h fun r3 q_r3 h=>C3 (EffOK.fr4 (EffOK.fr4 (EffOK.fr4 (Ec (args:=uB) (Ob:=fJ b) (res:=FF) (f:=((rm Xi e2.Op).getD (fun _ _=>none))) (x:=ob1) (y:=((e2):aq)) (R:=r3) (i:=(oiL [(l2,c3),(l3,c4)])) (xs:=[.tmp 73]) _ J (Y J) q_r3 ⟨(Y J),O⟩ (fun _=>J))))) J fun i2=>?_;refine(show RG _ _ _ _ [_,_,_,_,_] ((74,tT [kq r3.1.1,gM r3.1.2])::_)from ?_);refine Q J<|bv J J<|bv J J<|dC J<|dC J<|aY<|aP<|aP<|aP<|hJ<|hJ ?_;exact ce (K1 r3.1.2 r3.1.1 r3.2 (i2.h 0).1 (i2.h 0).2 (i2.h 1).1 (i2.h 1).2 h) (bf J)
    ·refine bc ?_;exact ce (K1 ok ([]) ob1 l2 c3 l3 c4 h) (bf J)
  ·skip
   refine ax J<|bE h J (fun h=>?_) (fun h=>?_)
   ·refine Z<|bh<|bB<|Z<|T (lL q5 (Y J))<|Q J<|ci h fun r4 q_r4 h=>C3 (EffOK.fr4 (EffOK.fr4 (EffOK.fr4 (T8 (xs:=[.tmp 55,.tmp 56]) (ts:=[tV (ba b 0),bD (i:Int)]) (fJ b ob (oiL [(l,c1),(l1,c2)])) _ J afu (acw b (oiL [(l,c1),(l1,c2)]) ob _ q_r4) ⟨(Y J),(Y J),O⟩ (fun _=>J))))) J fun i3=>?_;refine(show RG _ _ _ _ [_,_,_,_,_] ((57,tT [bD r4.1,gM r4.2])::_)from ?_);refine Q J<|bv J J<|bv J J<|dC J<|aC J<|ci h fun l7 q_l7 h=>?_
    refine lS 8 [tc (tV (ba b 0)),tc (tV (ba b 0)),tc (tV (ba b 0)),tc (tV (ba b 2)),tc (tO cI l1 c2 ob.first),tc (bD r4.1),tc (kq ([r4.1])),([7],fun s=>tO cI ((s.getD 0 sF).h 0).1 ((s.getD 0 sF).h 0).2 l7)] [false,false,false,false,false,false,false,true] [([],fun _=>[bx (rH cg [(1,bw l c1 ob.kinds.length),(2,bw l1 c2 ob.first.length)]) 108 b ob,gO sH 39 l c1 ob.kinds,gO cI 3 l1 c2 ob.first,e1,tZ (ED (fun y:(aX->aq->Option (((List Int)×Bool)×aX))=>gq aU uB (fJ b) FF y)) tE b1 none os7 Xi]),([7],fun sg1=>[gO cI 3 ((sg1 7).h 0).1 ((sg1 7).h 0).2 l7,bx (rH cg [(1,bw l c1 ob.kinds.length),(2,bw l1 c2 ob.first.length)]) 108 b ob,gO sH 39 l c1 ob.kinds,e1,tZ (ED (fun y:(aX->aq->Option (((List Int)×Bool)×aX))=>gq aU uB (fJ b) FF y)) tE b1 none os7 Xi])] (fun _=>J) mixed J J J J
     ⟨⟨[⟨1,fun _=>bF (rT (tV (ba b 0))) (),none⟩],_,[[],[7]],J,⟨(fun _=>J),O⟩,J,J,J,J,J,⟨fun sg1=>ai J (lL q5 (Y J)),fun sg1=>ai J (lL q5 (Y J)),O⟩⟩,
     ⟨⟨[⟨1,fun _=>bF (rT (tV (ba b 0))) (),none⟩],_,[[]],J,⟨(fun _=>J),O⟩,J,J,J,J,J,⟨fun sg1=>ai J (lL q5 (Y J)),O⟩⟩,
     ⟨⟨[⟨61,fun _=>tV (ba b 0),some 1⟩],_,[[]],J,⟨(fun _=>J),O⟩,J,J,J,J,J,⟨fun sg1=>ai J (ee (Y J)),O⟩⟩,
     ⟨⟨[⟨62,fun _=>tV (ba b 0),some 2⟩],_,[[]],J,⟨(fun _=>J),O⟩,J,J,J,J,J,⟨fun sg1=>ai J (tp 2 uv J J J),O⟩⟩,
     ⟨⟨[⟨63,fun _=>tV (ba b 2),some 3⟩],_,[[]],J,⟨(fun _=>J),O⟩,J,J,J,J,J,⟨fun sg1=>ai J (eD eQ J (.head _) (.tail _ (.tail _ (.head _))) (Y J)),O⟩⟩,
     ⟨⟨[⟨9,fun _=>tD cI r4.1,none⟩],_,[[]],J,⟨(fun _=>J),O⟩,J,J,J,J,J,⟨fun sg1=>ai J (gL J),O⟩⟩,
     ⟨⟨[⟨65,fun _=>tD cI r4.1,some 5⟩],_,[[]],J,⟨(fun _=>J),O⟩,J,J,J,J,J,⟨fun sg1=>ai J (aI (r:=cI) (ys:=[r4.1]) (xs:=[.tmp 65]) fz cj J J J J J ⟨(Y J),O⟩),O⟩⟩,
     ⟨⟨[⟨64,fun _=>tO cI l1 c2 ob.first,some 4⟩,⟨66,fun _=>tD Ak ([r4.1]),some 6⟩],_,[([],[7])],J,⟨(fun _=>J),(fun _=>J),O⟩,J,J,J,J,J,⟨fun sg1=>dS J (EffOK.fr2 (xp cj J J J J fz J (Y J) (Y J) q_l7)),O⟩⟩,
     O⟩⟩⟩⟩⟩⟩⟩⟩ (fun sg1=>?_)
    refine(show RG _ _ _ _ [_,_,_,_,_] _ from ?_);refine T (ee (Y J))<|eZ 2 uv J<|o6 (EffOK.fr1 (zt (hs' :=[(1,bw l c1 ob.kinds.length),(2,bw ((sg1 7).h 0).1 ((sg1 7).h 0).2 l7.length)]) (u:=bw ((sg1 7).h 0).1 ((sg1 7).h 0).2 l7.length) eQ J J Lq J ⟨.inr ⟨J,J⟩,.inl ⟨J,J,J⟩,O⟩ (Y J) (km (Y J)) (Nw (Y J)))) fun i4=>?_;refine(show RG _ _ _ _ [_,_,_,_,_] _ from ?_);refine aY<|bK<|aP<|aP<|hJ<|hJ ?_;exact ce (h2 r4.2 ({ob with first:=l7}:aX) l c1 ((sg1 7).h 0).1 ((sg1 7).h 0).2 h) (bf J)
   ·refine bc ?_;exact ce (h2 t ob l c1 l1 c2 h) (bf J)

end Go.Proofs.YtpgjgkdpeagjbaaGreatDoor

