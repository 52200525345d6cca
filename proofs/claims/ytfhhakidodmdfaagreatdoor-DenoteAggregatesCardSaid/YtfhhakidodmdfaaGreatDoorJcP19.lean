/- di of this claim: P19. -/
import Derived.Test.YtfhhakidodmdfaaGreatDoorJcT
import Derived.Test.YtfhhakidodmdfaaGreatDoorJcP18
set_option linter.all false
namespace Go.Proofs.YtfhhakidodmdfaaGreatDoor
open Go
set_option maxRecDepth 100000

theorem OQ(a1:ac)(b:ac){R:ac×Int}(h:pQ a1 b=some R):aR aU 295 [tD af a1,tD af b] (tT [tD af R.1,bM R.2]):=by
 refine aR.of Tryz.func295 J J J fun w0 S0=>av<|zo J (gi J)<|zo J (gi J)<|aP (r:=af) (x:=d3) au (fun _=>aJ _) J fun b1=>zo J (bW)<|aq<|av<|zo J (bh au J J)<|zo J (bh au J J)<|bo h fun r q_r h=>zo J (ap Xi (OK _ _ q_r) ⟨(ht J),(ht J),aL⟩)<|bg J<|aq<|ah<|av<|aE J<|zo J (sx J)<|aE J ?_;refine dD J J (fun hg=>bX cz br J J)<|dD J J (fun hg=>bj cg J J (bm J hg))<|dD J J (fun hg=>cd (bm J hg) hI)<|zo J (uo J J)<|aE J<|dD J J (fun hg=>bX cz br J J)<|dD J J (fun hg=>bj cg J J (bm J hg))<|dD J J (fun hg=>cd (bm J hg) hI)<|zo J (uo J J)<|aq<|ce h J (fun h=>?_) (fun h=>?_)
 ·refine av<|zo J (bB (y:=d3) au gW aJ (J))<|aE J<|am au J ai J (ht J) (ht J)<|bg J<|aq<|aj<|ae<|aF 4 J ?_;cases so h;exact be J J ⟨aN au J J J,aK J,aL⟩
 ·refine df<|av<|zo J (bh au J J)<|zo J (bh au J J)<|bo h fun r1 q_r1 h=>zo J (ap Xh (OJ _ _ q_r1) ⟨(ht J),(ht J),aL⟩)<|zo J (hM J)<|bo h fun r2 q_r2 h=>zo J (ap Ft (wF _ q_r2) ⟨(ht J),aL⟩)<|am au J ai J (ht J) (ht J)<|zo J (bW)<|aq<|aj<|aF 4 J ?_;cases so h;exact be J J ⟨aN au J J J,aK J,aL⟩

theorem DU(a1:ac)(b:ac){R:ac×Int}(h:lO a1 b=some R):aR aU 296 [tD af a1,tD af b] (tT [tD af R.1,bM R.2]):=by
 refine aR.of Tryz.func296 J J J fun w0 S0=>av<|zo J (gi J)<|zo J (gi J)<|aP (r:=af) (x:=d3) au (fun _=>aJ _) J fun b1=>zo J (bW)<|aq<|av<|zo J (bh au J J)<|zo J (bh au J J)<|bo h fun r q_r h=>zo J (ap Xi (OK _ _ q_r) ⟨(ht J),(ht J),aL⟩)<|bg J<|aq<|ah<|av<|aE J<|zo J (sx J)<|aE J ?_;refine dD J J (fun hg=>bX cz br J J)<|dD J J (fun hg=>bj cg J J (bm J hg))<|dD J J (fun hg=>cd (bm J hg) hI)<|zo J (uo J J)<|aE J<|dD J J (fun hg=>bX cz br J J)<|dD J J (fun hg=>bj cg J J (bm J hg))<|dD J J (fun hg=>cd (bm J hg) hI)<|zo J (uo J J)<|aq<|ce h J (fun h=>?_) (fun h=>?_)
 ·refine av<|zo J (bB (y:=d3) au gW aJ (J))<|aE J<|am au J ai J (ht J) (ht J)<|bg J<|aq<|aj<|ae<|aF 4 J ?_;cases so h;exact be J J ⟨aN au J J J,aK J,aL⟩
 ·refine df<|av<|zo J (bh au J J)<|zo J (bh au J J)<|bo h fun r1 q_r1 h=>zo J (ap Xh (OJ _ _ q_r1) ⟨(ht J),(ht J),aL⟩)<|zo J (dJ (ht J) hI)<|bo h fun r2 q_r2 h=>zo J (ap Ft (wF _ q_r2) ⟨(ht J),aL⟩)<|am au J ai J (ht J) (ht J)<|zo J (bW)<|aq<|aj<|aF 4 J ?_;cases so h;exact be J J ⟨aN au J J J,aK J,aL⟩

theorem Vt(tag:Int)(a1:ac)(b:ac){R:ac×Int}(h:xO tag a1 b=some R):aR aU 225 [bM tag,tD af a1,tD af b] (tT [tD af R.1,bM R.2]):=by
 refine aR.of Tryz.func225 J J J fun w0 S0=>av<|zo J (gi J)<|zo J (gi J)<|aP (r:=af) (x:=d3) au (fun _=>aJ _) J fun b1=>zo J (bW)<|aq<|ah<|av<|aE J<|aq<|aC<|av<|zo J (hM J)<|bg J<|aq<|ce h J (fun h=>?_) (fun h=>?_)
 ·refine av<|zo J (bh au J J)<|zo J (bh au J J)<|bo h fun r q_r h=>zo J (ap Xo (OQ _ _ q_r) ⟨(ht J),(ht J),aL⟩)<|zo J (dX J J)<|zo J (dX J J)<|am au J ai J (ht J) (ht J)<|bg J<|aq<|aj ?_;refine aB (ae ?_);refine aF 6 J ?_;cases so h;exact be J J ⟨aN au J J J,aK J,aL⟩
 ·refine av<|zo J (hM J)<|bg J<|aq<|ce h J (fun h=>?_) (fun h=>?_)
  ·refine av<|zo J (bh au J J)<|zo J (bh au J J)<|bo h fun r1 q_r1 h=>zo J (ap Pj (DU _ _ q_r1) ⟨(ht J),(ht J),aL⟩)<|zo J (dX J J)<|zo J (dX J J)<|am au J ai J (ht J) (ht J)<|bg J<|aq<|aj ?_;refine aB (ae ?_);refine aF 6 J ?_;cases so h;exact be J J ⟨aN au J J J,aK J,aL⟩
  ·refine av<|zo J (hM J)<|bg J<|aq<|ce h J (fun h=>?_) (fun h=>?_)
   ·refine av<|zo J (bh au J J)<|zo J (bh au J J)<|bo h fun r2 q_r2 h=>zo J (ap Pj (DU _ _ q_r2) ⟨(ht J),(ht J),aL⟩)<|zo J (dX J J)<|zo J (dX J J)<|am au J ai J (ht J) (ht J)<|bg J<|aq<|aj ?_;refine aB (ae ?_);refine aF 6 J ?_;cases so h;exact be J J ⟨aN au J J J,aK J,aL⟩
   ·refine av<|zo J (hM J)<|bg J<|aq<|ce h J (fun h=>?_) (fun h=>?_)
    ·refine av<|zo J (bh au J J)<|zo J (bh au J J)<|bo h fun r3 q_r3 h=>zo J (ap Xo (OQ _ _ q_r3) ⟨(ht J),(ht J),aL⟩)<|aE J<|zo J (dX J J)<|zo J (dX J J)<|aP (r:=af) (x:=d3) au (fun _=>aJ _) J fun b2=>am au J ai J (ht J) (ht J)<|bg J<|aq<|av<|zo J (bE au J J bw (.head _) (ht J))<|bo h fun r4 q_r4 h=>zo J (ap Fu (wG _ q_r4) ⟨(ht J),aL⟩)<|aE J<|zo J (dX J J)<|zo J (dX J J)<|am au J ai J (ht J) (ht J)<|aQ ?_;refine ax<|av<|zo rfl (bE au rfl rfl bw (.head _) (ht rfl))<|aE rfl<|bq<|am au rfl ai rfl (ht rfl) (ht rfl)<|bg rfl<|aq<|aj ?_;refine aB (ae ?_);refine aF 6 J<|aZ ?_;cases so h;exact be J J ⟨aN au J J J,aK J,aL⟩
    ·refine av<|zo J (hM J)<|bg J<|aq<|ce h J (fun h=>?_) (fun h=>?_)
     ·refine av<|zo J (bh au J J)<|zo J (bh au J J)<|bo h fun r5 q_r5 h=>zo J (ap Pj (DU _ _ q_r5) ⟨(ht J),(ht J),aL⟩)<|aE J<|zo J (dX J J)<|zo J (dX J J)<|aP (r:=af) (x:=d3) au (fun _=>aJ _) J fun b3=>am au J ai J (ht J) (ht J)<|bg J<|aq<|av<|zo J (bE au J J bw (.head _) (ht J))<|bo h fun r6 q_r6 h=>zo J (ap Fu (wG _ q_r6) ⟨(ht J),aL⟩)<|aE J<|zo J (dX J J)<|zo J (dX J J)<|am au J ai J (ht J) (ht J)<|aQ ?_;refine ax<|av<|zo rfl (bE au rfl rfl bw (.head _) (ht rfl))<|aE rfl<|bq<|am au rfl ai rfl (ht rfl) (ht rfl)<|bg rfl<|aq<|aj ?_;refine aB (ae ?_);refine aF 6 J<|aZ ?_;cases so h;exact be J J ⟨aN au J J J,aK J,aL⟩
     ·refine bA<|aw<|ax<|av<|zo rfl (bh au rfl rfl)<|zo rfl (bh au rfl rfl)<|bo h fun r7 q_r7 h=>zo J (ap Pj (DU _ _ q_r7) ⟨(ht J),(ht J),aL⟩)<|aE J<|zo J (dX J J)<|zo J (dX J J)<|aP (r:=af) (x:=d3) au (fun _=>aJ _) J fun b4=>am au J ai J (ht J) (ht J)<|bg J<|aq<|av<|zo J (bE au J J bw (.head _) (ht J))<|bo h fun r8 q_r8 h=>zo J (ap Fu (wG _ q_r8) ⟨(ht J),aL⟩)<|aE J<|zo J (dX J J) ?_;refine zo J (dX J J)<|am au J ai J (ht J) (ht J)<|aq<|av<|zo J (bE au J J bw (.head _) (ht J))<|aE J<|bq<|am au J ai J (ht J) (ht J)<|bg J<|aq<|aj<|aF 6 J<|aZ ?_;cases so h;exact be J J ⟨aN au J J J,aK J,aL⟩

theorem VV(tag:Int)(a1:ac)(b:ac){R:ac×Int}(h:Ak tag a1 b=some R):aR aU 141 [bM tag,tD af a1,tD af b] (tT [tD af R.1,bM R.2]):=by
 refine aR.of Tryz.func141 J J J fun w0 S0=>av<|zo J (gi J)<|zo J (gi J)<|aP (r:=af) (x:=d3) au (fun _=>aJ _) J fun b1=>zo J (bW)<|aq<|ah<|av<|aE J<|aq<|aC<|av<|zo J (hM J)<|bg J<|aq<|ce h J (fun h=>?_) (fun h=>?_)
 ·refine ah<|bo h fun r q_r h=>bo h fun r1 q_r1 h=>?_
  refine my 5 (ts:=[tD af r,tD af a1,tT [tD af r1.1,bM r1.2],tD af r1.1,bM r1.2]) mixed J J J
   ⟨NX J J (ap Lr (yf _ q_r) ⟨hI,aL⟩),
   ⟨dB 4 J J J (bh au J J),
   ⟨cK 11 0 12 1 J J J J (ap Ls (Bq _ _ _ q_r1) ⟨hI,(ht J),(ht J),aL⟩),
   ⟨bT 13 2 J J J (dX J J),
   ⟨bT 13 2 J J J (dX J J),
   aL⟩⟩⟩⟩⟩ ?_
  refine am au J ai J (ht J) (ht J)<|bg J<|aq<|aj ?_;refine aB (ae ?_);refine aF 6 J ?_;cases so h;exact be J J ⟨aN au J J J,aK J,aL⟩
 ·refine av<|zo J (hM J)<|bg J<|aq<|ce h J (fun h=>?_) (fun h=>?_)
  ·refine av<|zo J (bh au J J)<|zo J (bh au J J)<|bo h fun r2 q_r2 h=>zo J (ap Ls (Bq _ _ _ q_r2) ⟨hI,(ht J),(ht J),aL⟩)<|zo J (dX J J)<|zo J (dX J J)<|am au J ai J (ht J) (ht J)<|bg J<|aq<|aj ?_;refine aB (ae ?_);refine aF 6 J ?_;cases so h;exact be J J ⟨aN au J J J,aK J,aL⟩
  ·refine av<|zo J (hM J)<|bg J<|aq<|ce h J (fun h=>?_) (fun h=>?_)
   ·refine av<|zo J (bh au J J)<|zo J (bh au J J)<|bo h fun r3 q_r3 h=>zo J (ap Ls (Bq _ _ _ q_r3) ⟨hI,(ht J),(ht J),aL⟩)<|zo J (dX J J)<|zo J (dX J J)<|am au J ai J (ht J) (ht J)<|bg J<|aq<|aj ?_;refine aB (ae ?_);refine aF 6 J ?_;cases so h;exact be J J ⟨aN au J J J,aK J,aL⟩
   ·refine av<|zo J (hM J)<|bg J<|aq<|ce h J (fun h=>?_) (fun h=>?_)
    ·refine av<|zo J (bh au J J)<|zo J (bh au J J)<|bo h fun r4 q_r4 h=>zo J (ap Ls (Bq _ _ _ q_r4) ⟨hI,(ht J),(ht J),aL⟩)<|zo J (dX J J)<|zo J (dX J J)<|am au J ai J (ht J) (ht J)<|bg J<|aq<|aj ?_;refine aB (ae ?_);refine aF 6 J ?_;cases so h;exact be J J ⟨aN au J J J,aK J,aL⟩
    ·refine av<|zo J (hM J)<|bg J<|aq<|ce h J (fun h=>?_) (fun h=>?_)
     ·refine av<|zo J (bh au J J)<|zo J (bh au J J)<|bo h fun r5 q_r5 h=>zo J (ap Ls (Bq _ _ _ q_r5) ⟨hI,(ht J),(ht J),aL⟩)<|zo J (dX J J)<|zo J (dX J J)<|am au J ai J (ht J) (ht J)<|bg J<|aq<|aj ?_;refine aB (ae ?_);refine aF 6 J ?_;cases so h;exact be J J ⟨aN au J J J,aK J,aL⟩
     ·refine av<|zo J (hM J)<|bg J<|aq<|ce h J (fun h=>?_) (fun h=>?_)
      ·refine av<|zo J (bh au J J)<|bo h fun r6 q_r6 h=>zo J (ap Fu (wG _ q_r6) ⟨(ht J),aL⟩)<|zo J (dX J J)<|zo J (dX J J)<|am au J ai J (ht J) (ht J)<|bg J<|aq<|aj ?_;refine aB (ae ?_);refine aF 6 J ?_;cases so h;exact be J J ⟨aN au J J J,aK J,aL⟩
      ·refine av<|zo J (hM J)<|bg J<|aq<|ce h J (fun h=>?_) (fun h=>?_)
       ·refine av<|zo J (bh au J J)<|zo J (bh au J J)<|bo h fun r7 q_r7 h=>zo J (ap Xy (OZ _ _ q_r7) ⟨(ht J),(ht J),aL⟩)<|zo J (dX J J)<|zo J (dX J J)<|am au J ai J (ht J) (ht J)<|bg J<|aq<|aj ?_;refine aB (ae ?_);refine aF 6 J ?_;cases so h;exact be J J ⟨aN au J J J,aK J,aL⟩
       ·refine av<|zo J (hM J)<|bg J<|aq<|ce h J (fun h=>?_) (fun h=>?_)
        ·refine av<|zo J (bh au J J)<|zo J (bh au J J)<|bo h fun r8 q_r8 h=>zo J (ap abA (Vu _ _ q_r8) ⟨(ht J),(ht J),aL⟩)<|zo J (dX J J)<|zo J (dX J J)<|am au J ai J (ht J) (ht J)<|bg J<|aq<|aj ?_;refine aB (ae ?_);refine aF 6 J ?_;cases so h;exact be J J ⟨aN au J J J,aK J,aL⟩
        ·refine av<|zo J (hM J)<|bg J<|aq<|ce h J (fun h=>?_) (fun h=>?_)
         ·refine av<|zo J (bX cz br J J)<|zo J (bh cg J J)<|zo J (hM J)<|bo h fun r9 q_r9 h=>zo J (ap Ft (wF _ q_r9) ⟨(ht J),aL⟩)<|am au J ai J (ht J) (ht J)<|zo J (bW)<|aq<|aj ?_;refine aB (ae ?_);refine aF 6 J ?_;cases so h;exact be J J ⟨aN au J J J,aK J,aL⟩
         ·refine av<|zo J (hM J)<|bg J<|aq<|ce h J (fun h=>?_) (fun h=>?_)
          ·refine av<|zo J (bX cz br J J)<|zo J (bh cg J J)<|zo J (sx J)<|bo h fun r10 q_r10 h=>zo J (ap Ft (wF _ q_r10) ⟨(ht J),aL⟩)<|am au J ai J (ht J) (ht J)<|zo J (bW)<|aq<|aj ?_;refine aB (ae ?_);refine aF 6 J ?_;cases so h;exact be J J ⟨aN au J J J,aK J,aL⟩
          ·refine bA<|aw<|ax<|av<|aE rfl<|zo rfl (bh au rfl rfl)<|zo rfl (bh au rfl rfl)<|bo h fun r11 q_r11 h=>zo J (ap abz (Vt _ _ _ q_r11) ⟨(ht J),(ht J),(ht J),aL⟩)<|zo J (dX J J)<|zo J (dX J J)<|am au J ai J (ht J) (ht J)<|bg J<|aq<|aj<|aF 6 J ?_;cases so h;exact be J J ⟨aN au J J J,aK J,aL⟩

theorem YL(e:bS)(r:(List ac)){R:ac×Int}(h:wv e r=some R):aR aU 79 [tD ck e,cq (af) r] (tT [tD af R.1,bM R.2]):=by
 refine aR.of Tryz.func79 J J J fun w0 S0=>av<|zo J (gi J)<|aP (r:=af) (x:=d3) au (fun _=>aJ _) J fun b=>zo J (bW)<|aq<|ah<|av<|zo J (bh k5 J J)<|bo h fun r1 q_r1 h=>zo J (ap abm (Sr _ q_r1) ⟨(ht J),aL⟩)<|zo J (cx (ht J))<|aq<|ce h J (fun h=>?_) (fun h=>?_)
 ·refine av<|zo J (bB (y:=d3) au gW aJ (J))<|am au J ai J (ht J) (ht J)<|zo J (bW)<|aq<|aj<|ae<|aF 4 J ?_;cases so h;exact be J J ⟨aN au J J J,aK J,aL⟩
 ·refine df<|ah<|av<|zo J (bX ku fQ J J)<|zo J (bh sQ J J)<|zo J (jw p6 J)<|zo J (bJ hI)<|aq<|aC<|bp (k:=20) J fun hN=>bQ ?_;refine ba (ox (Z:=fun ls i x=>(e.Nodes.drop i=ls)∧oY e r ls x=some R) (Of:=fun _ i x=>[bx af 46 b x]) (Gf:=fun _ i x=>[(1,cq (af) r),(2,bN ck e),(4,tV (aS b 0)),(20,cq (bO) e.Nodes),(21,ky e.Nodes),(22,bM (i:Int))]) (fun i x h=>?_) (fun e1 tl ih i x h=>?_) e.Nodes 0 d3 ⟨J,h⟩) (bD J)
  ·obtain⟨hx,h⟩:=h
   refine aG<|av<|zo J (fY J J)<|aq<|ah<|bL (ht J) (dO hx)<|bG ?_;refine ak (ak (aV ?_));refine ax<|av<|ca false af 46<|zo rfl (aT tg)<|aq<|ah<|av<|zo rfl (bX ku fQ rfl rfl)<|zo rfl (bh sQ rfl rfl)<|zo rfl (jw p6 rfl)<|zo rfl (bJ hI)<|aq<|aC<|bp (k:=48) J fun hN1=>bQ ?_;refine ba (su (Z:=fun ls1 i1 own l c x1=>(e.Nodes.drop i1=ls1)∧c0 r ls1 own x1=some R) (Of:=fun _ i1 own l c x1=>[fL af 46 l c own,bx af 46 b x1]) (Gf:=fun _ i1 own l c x1=>[(1,cq (af) r),(4,tV (aS b 0)),(8,sw l c own),(48,cq (bO) e.Nodes),(49,ky e.Nodes),(50,bM (i1:Int))]) (fun i1 own l c x1 h=>?_) (fun e2 tl1 ih1 i1 own l c x1 h=>?_) e.Nodes 0 F2 none 0 x ⟨J,h⟩) (bD J)
   ·obtain⟨hx1,h⟩:=h
    refine aG<|av<|zo J (fY J J)<|aq<|ah<|bL (ht J) (dO hx1)<|bG ?_;refine ak (ak (aV ?_));refine ax<|av<|aE rfl<|aE rfl<|zo rfl (jB i7 (.head _) (ht rfl))<|zo rfl (ft (ht rfl) hI)<|bo h fun e3 q_e3 h=>zo J (cB i7 au (.head _) (ht J) (ht J) q_e3)<|zo J (fJ (r:=af) (i:=(IntKind.i64.wrap ((own.length:Int)-(1:Int)))) (foff:=0) au J J bw J (.head _) q_e3 (ht J))<|bq<|am au J ai J (ht J) (ht J)<|zo J (bW)<|aq<|aj<|aF 4 J<|aZ ?_;cases so h;exact be J J ⟨aN au J J J,aK J,aL⟩
   ·obtain⟨hx1,h⟩:=h
    refine aG<|av<|zo J (fY J J)<|aq<|ah<|bK (ht J) (dL hx1)<|df<|ah<|aC<|av<|zo J (ne p6 lI J J J (dA hx1))<|zo J (bh lI J J)<|aP (r:=bO) (x:=JC) lI (fun _=>qa _) J fun b1=>am lI J ai J (ht J) (ht J)<|aY 10 J<|aq<|av<|zo J (bX mS fz J J) ?_;refine zo J (bh cg J J)<|aq<|aC<|av<|zo J (hM J)<|bg J<|aq<|ce h J (fun h=>?_) (fun h=>?_)
    ·refine aA<|aE J<|zo J (bX vb lP J J)<|zo J (bh au J J)<|zo J (bf (r:=af) (ys:=[e2.Value]) (xs:=[.tmp 93]) i7 au J J J J J ⟨(ht J),aL⟩)<|bo h fun own1 q_own1 h=>cV au J J J J i7 J J (ht J) (ht J) q_own1 fun l1 c1=>bg J<|aQ<|aw<|aw<|ax<|aA<|zo rfl (nf (dd hx1 hN1) rfl)<|aE rfl<|aQ ?_;exact bn (ba (ih1 (i1+1) own1 l1 c1 x1 ⟨dc hx1,h⟩) (bD J))
    ·refine av<|zo J (hM J)<|bg J<|aq<|ce h J (fun h=>?_) (fun h=>?_)
     ·refine aA<|aE J<|aE J<|zo J (bX qw iO J J)<|zo J (bh cg J J)<|bo h fun e4 q_e4 h=>zo J (ne iw au J J J q_e4)<|zo J (bh au J J)<|zo J (bf (r:=af) (ys:=[e4]) (xs:=[.tmp 103]) i7 au J J J J J ⟨(ht J),aL⟩)<|bo h fun own2 q_own2 h=>cV au J J J J i7 J J (ht J) (ht J) q_own2 fun l2 c2=>bg J<|aQ<|aw<|aw<|ax<|aA<|zo rfl (nf (dd hx1 hN1) rfl)<|aE rfl<|aQ ?_;exact bn (ba (ih1 (i1+1) own2 l2 c2 x1 ⟨dc hx1,h⟩) (bD J))
     ·refine av<|aE J<|zo J (bX Fj t6 J J)<|zo J (bh cg J J)<|bo h fun e5 q_e5 h=>zo J (cB i7 au (.head _) (ht J) (ht J) q_e5)<|zo J (fJ (r:=af) (i:=e2.L) (foff:=0) au J J bw J (.head _) q_e5 (ht J))<|zo J (bB (y:=d3) au gW aJ (J))<|aP (r:=af) (x:=d3) au (fun _=>aJ _) J fun b2=>aP (r:=af) (x:=d3) au (fun _=>aJ _) J fun b3=>bq<|am au J ai J (ht J) (ht J)<|aY 11 J<|am au J ai J (ht J) (ht J)<|aq ?_;refine i6 (Z:=fun b4=>oZ (c0 r tl1) e2 own x1 e5 b4=some R) (Of:=fun b4=>[fL af 46 l c own,bx af 46 b x1,bx af 46 b3 b4]) (Gf:=fun b4=>[(1,cq (af) r),(4,tV (aS b 0)),(8,sw l c own),(10,bN bO e2),(11,bN af e5),(12,tV (aS b3 0)),(48,cq (bO) e.Nodes),(49,ky e.Nodes),(50,bM (i1:Int))]) (fun b4 h=>?_) (fun K=>?_)
      ·skip
       refine av<|zo J (bX mS fz J J)<|zo J (bh cg J J)<|zo J (bh au J J)<|zo J (bE au J J bw (.tail _ (.tail _ (.head _))) (ht J))<|bo h fun r2 q_r2 h=>zo J (ap ach (VV _ _ _ q_r2) ⟨(ht J),(ht J),(ht J),aL⟩)<|aE J<|zo J (dX J J)<|zo J (dX J J)<|aP (r:=af) (x:=d3) au (fun _=>aJ _) J fun b5=>am au J ai J (ht J) (ht J)<|aY 13 J<|bg J<|aq<|ah<|av<|aE J<|zo J (hM J)<|aq ?_;refine ce h J (fun h=>?_) (fun h=>?_)
       ·refine av<|zo J (bB (y:=d3) au gW aJ (J))<|aE J<|bq<|am au J ai J (ht J) (ht J)<|bg J<|aq<|aj ?_;refine ae (aB (aB (ae (ae (aB (ae ?_))))));refine aF 4 J<|aZ<|aZ ?_;cases so h;exact be J J ⟨aN au J J J,aK J,aL⟩
       ·refine df<|ah<|av<|aE J<|zo J (sx J)<|aq<|ce h J (fun h=>?_) (fun h=>?_)
        ·refine av<|zo J (bB (y:=d3) au gW aJ (J))<|bq<|am au J ai J (ht J) (ht J)<|zo J (bW)<|aq<|aj ?_;refine ae (aB (aB (ae (ae (aB (ae ?_))))));refine aF 4 J<|aZ<|aZ ?_;cases so h;exact be J J ⟨aN au J J J,aK J,aL⟩
        ·refine df<|aA<|aE J<|zo J (bh au J J)<|zo J (bf (r:=af) (ys:=[r2.1]) (xs:=[.tmp 86]) i7 au J J J J J ⟨(ht J),aL⟩)<|bo h fun own3 q_own3 h=>cV au J J J J i7 J J (ht J) (ht J) q_own3 fun l3 c3=>bg J<|aQ<|aw<|aw<|ax<|aA<|zo rfl (nf (dd hx1 hN1) rfl)<|aE rfl<|aQ<|aM<|aZ ?_;exact bn (ba (ih1 (i1+1) own3 l3 c3 x1 ⟨dc hx1,h⟩) (bD J))
      ·skip
       refine av<|zo J (bX Co rk J J)<|zo J (bh cg J J)<|zo J (gh (ht J) hI)<|aq<|ce h J (fun h=>?_) (fun h=>?_)
       ·refine aA<|aE J<|zo J (bX Co rk J J)<|zo J (bh cg J J)<|bo h fun e6 q_e6 h=>zo J (cB i7 au (.tail _ (.head _)) (ht J) (ht J) q_e6)<|zo J (fJ (r:=af) (i:=e2.R) (foff:=0) au J J bw J (.tail _ (.head _)) q_e6 (ht J))<|am au J ai J (ht J) (ht J)<|aQ<|aM<|aM ?_;exact ci (K e6 h) (bD J)
       ·refine bA<|aM<|aM ?_;exact ci (K d3 h) (bD J)
  ·obtain⟨hx,h⟩:=h
   refine aG<|av<|zo J (fY J J)<|aq<|ah<|bK (ht J) (dL hx)<|df<|ah<|aC<|av<|zo J (ne p6 lI J J J (dA hx))<|zo J (bh lI J J)<|aP (r:=bO) (x:=JC) lI (fun _=>qa _) J fun b6=>am lI J ai J (ht J) (ht J)<|aY 7 J<|aq<|av<|zo J (bX mS fz J J) ?_;refine zo J (bh cg J J)<|zo J (hM J)<|aE J<|bo h fun t q_t h=>co J J (fun hg=>bX qw iO J J)<|co J J (fun hg=>bj cg J J (bm J hg))<|co J J (fun hg=>cX J)<|co J J (fun hg=>dK iw (bm J hg))<|co J J (fun hg=>gh (bm J hg) (bm J hg))<|co J J (fun hg=>bJ (bm J hg)) ?_
   obtain⟨t1,h1t,h0t⟩:=og q_t
   have q_t1g:=fun hb=>(h1t hb).1
   refine fg J J J J (fun hg=>cX J)<|fg J J J J (fun hg=>bX qw iO J J)<|fg J J J J (fun hg=>bj cg J J (bm J hg)) ?_
   obtain⟨e7,h1t1,h0t1⟩:=ZZ q_t1g
   have q_e7g:=fun hb=>(h1t1 hb).1
   refine fg J J J J (fun hg=>bF iw au J (bm J hg) (bm J hg) (q_e7g hg))<|fg J J J J (fun hg=>bj au J J (bm J hg)) ?_
   obtain⟨r3,h1t1⟩:=WR (fun hb=>(h1t1 hb).2)
   have q_r3g:=fun hb=>(h1t1 hb).1
   refine fg J J J J (fun hg=>ap Ho (yT _ (q_r3g hg)) ⟨(bm J hg),aL⟩)<|fg J J J J (fun hg=>cx (bm J hg))<|co J J (fun hg=>eO (bm J hg) (fun hb=>(bm J (qD hg (qo hb)))) (fun hb=>(h1t1 (qD hg hb)).2) (fun hb=>h0t1 hg hb))<|zo J (cH (ht J) (fun hb=>(bm J hb)) (fun hb=>(h1t hb).2) h0t)<|aq<|ce h J (fun h=>?_) (fun h=>?_)
   ·refine av<|zo J (bB (y:=d3) au gW aJ (J))<|am au J ai J (ht J) (ht J)<|zo J (bW)<|aq<|aj ?_;refine aB (ae (ae (aB (ae ?_))));refine aF 4 J ?_;cases so h;exact be J J ⟨aN au J J J,aK J,aL⟩
   ·refine bA<|aw<|ax<|aA<|zo rfl (nf (dd hx hN) rfl)<|aE rfl<|aQ ?_;exact bn (ba (ih (i+1) x ⟨dc hx,h⟩) (bD J))

end Go.Proofs.YtfhhakidodmdfaaGreatDoor

