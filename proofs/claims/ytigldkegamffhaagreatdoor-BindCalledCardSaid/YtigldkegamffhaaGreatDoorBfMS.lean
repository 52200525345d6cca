/- de of this claim: MS. -/
import Derived.Test.YtigldkegamffhaaGreatDoorBfT
import Derived.Test.YtigldkegamffhaaGreatDoorBfP10
set_option linter.all false
namespace Go.Proofs.YtigldkegamffhaaGreatDoor
open Go
set_option maxRecDepth 100000

def abp t{R}(h:lB t=some R):eJ aY 20 [K aX t] [] (fun i:OI=>K eu (fD R (Y (i.h 0).1 (i.h 0).2 R.Nodes.length))) (fun i=>[dv cd 113 (i.h 0).1 (i.h 0).2 R.Nodes]):=by
 refine eJ.of Tryz.func20 I I I fun w0 S0=>bA<|eA I<|ba ic qj I fun b=>co<|bA<|cU nK lm ye I<|Qi h abG (Rf _ _) (gm I) fun r h l c=>Q (cQ (y:=fD (⟨r⟩:bT) (Y l c r.length)) ic Y4 wa (⟨_,_,_,_,_,I,E0,I,(Nz (M I)),I⟩))<|cM false cd 113<|ba (r:=eu) (x:=fD (⟨[]⟩:bT) (Y none 0 (([]:List cx).length))) ic wa I fun b1=>fv (r' :=eu) ic I (fB I) I (M I) (M I)<|cY<|ny<|co<|bN ?_;refine ca 0 nK I<|Q (fg ye p4 (.head _) I (M I))<|Q (fa sP (.tail _ (.head _)) (M I))<|Q (bG hI)<|co<|am<|fQ (.tail _ (.head _)) fun hN=>cc<|gx<|gx<|jt ?_;refine aP (gY (tV:=fun ls i out=>(r.drop i=ls)/\kW ls i out=some R) (Of:=fun _ i out=>[bx aX 50 b (⟨[]⟩:bT),bx eu 50 b1 (fD out (Y l c out.Nodes.length)),dv cd 113 l c out.Nodes]) (Gf:=fun _ i out=>[(2,Z (al b 0)),(3,Z (al b1 0)),(12,mY r),(13,br (i:Int))]) (fun i out h=>?_) (fun e tl ih i out h=>?_) r 0 ({(⟨r⟩:bT)with Nodes:=r}:bT) ⟨I,h⟩) (bO I)
 ·obtain⟨D,h⟩:=h
  exact fH D I<|aC<|bA<|Q (bn (r:=eu) (q:=eu) (get:=fun x=>x) (x:=fD out (Y l c out.Nodes.length)) ic I I cg (.tail _ (.head _)) (M I))<|fv (r' :=eu) (x' :=fD out (Y l c out.Nodes.length)) ic I (fB I) I (M I) (M I)<|fh<|dV 2 I<|aZ<|so h▸Ny I ic I I I (oiL [(l,c)]) I I
 ·obtain⟨D,h⟩:=h
  refine fG D I<|aE<|am<|aQ I<|bP I<|bA<|ca 0 nK I<|Q (fg ye p4 (.tail _ (.head _)) I (M I))<|bC I<|cV h fun e1 q_e1 h=>?_;refine Q (bo sP nL (.tail _ (.tail _ (.head _))) (M I) (M I) q_e1)<|bP I<|cV h fun y q_y h=>cV h fun y1 q_y1 h=>cV h fun y2 q_y2 h=>cV h fun st q_st h=>cV h fun e2 q_e2 h=>cV h fun st1 q_st1 h=>?_
  refine fY 45 [tc (Z (bh l ((i:Int).toNat*9+0))),tc (Z (bh l ((i:Int).toNat*9+0))),tc (Z (bh l ((i:Int).toNat*9+0))),tc (Z (bh l ((i:Int).toNat*9+0))),tc (Z (bh l ((i:Int).toNat*9+0))),tc (Z (bh l ((i:Int).toNat*9+3))),tc (Z (bh l ((i:Int).toNat*9+6))),tc (K rS e1.Value.S),tc (Z (bh l ((i:Int).toNat*9+0))),tc (Z (bh l ((i:Int).toNat*9+0))),tc (Z (bh l ((i:Int).toNat*9+3))),tc (Z (bh l ((i:Int).toNat*9+6))),tc (K rS e1.Value.S),tc (mY e1.Value.S),tc (br (min (e1.Value.S.length:Int) (60:Int))),tc (K rS y),tc (Z (bh l ((i:Int).toNat*9+0))),tc (Z (bh l ((i:Int).toNat*9+0))),tc (Z (bh l ((i:Int).toNat*9+7))),tc (K rS e1.Table),tc (Z (bh l ((i:Int).toNat*9+0))),tc (Z (bh l ((i:Int).toNat*9+0))),tc (Z (bh l ((i:Int).toNat*9+7))),tc (K rS e1.Table),tc (mY e1.Table),tc (br (min (e1.Table.length:Int) (40:Int))),tc (K rS y1),tc (Z (bh l ((i:Int).toNat*9+0))),tc (Z (bh l ((i:Int).toNat*9+0))),tc (Z (bh l ((i:Int).toNat*9+8))),tc (K rS e1.Name),tc (Z (bh l ((i:Int).toNat*9+0))),tc (Z (bh l ((i:Int).toNat*9+0))),tc (Z (bh l ((i:Int).toNat*9+8))),tc (K rS e1.Name),tc (mY e1.Name),tc (br (min (e1.Name.length:Int) (40:Int))),tc (K rS y2),tc (Z (bh l ((i:Int).toNat*9+0))),tc (Z (bh l ((i:Int).toNat*9+3))),tc (Z (bh l ((i:Int).toNat*9+6))),tc (tw),tc (Z (bh l ((i:Int).toNat*9+0))),tc (Z (bh l ((i:Int).toNat*9+7))),tc (tw)] [false,false,false,false,false,false,false,false,false,false,false,false,false,false,false,false,false,false,false,false,false,false,false,false,false,false,false,false,false,false,false,false,false,false,false,false,false,false,false,false,false,true,false,false,true] [fun _=>[bx aX 50 b (⟨[]⟩:bT),bx eu 50 b1 (fD out (Y l c out.Nodes.length)),dv cd 113 l c out.Nodes],fun sg=>[dv cd 113 l c st,bx aX 50 b (⟨[]⟩:bT),bx eu 50 b1 (fD out (Y l c out.Nodes.length))],fun sg=>[dv cd 113 l c st1,bx aX 50 b (⟨[]⟩:bT),bx eu 50 b1 (fD out (Y l c out.Nodes.length))]] I mixed I I I I I
   ⟨⟨[⟨5,fun _=>Z (bh l ((i:Int).toNat*9+0)),none⟩],_,0,0,I,⟨(fun _=>I),J⟩,I,I,I,I,I,fun _ sg _ _=>aK I (jM I)⟩,
   ⟨⟨[⟨5,fun _=>Z (bh l ((i:Int).toNat*9+0)),none⟩],_,0,1,I,⟨(fun _=>I),J⟩,I,I,I,I,I,fun _ sg _ _=>aK I (jM I)⟩,
   ⟨⟨[⟨5,fun _=>Z (bh l ((i:Int).toNat*9+0)),none⟩],_,0,2,I,⟨(fun _=>I),J⟩,I,I,I,I,I,fun _ sg _ _=>aK I (jM I)⟩,
   ⟨⟨[⟨5,fun _=>Z (bh l ((i:Int).toNat*9+0)),none⟩],_,0,0,I,⟨(fun _=>I),J⟩,I,I,I,I,I,fun _ sg _ _=>aK I (jM I)⟩,
   ⟨⟨[⟨23,fun _=>Z (bh l ((i:Int).toNat*9+0)),some 3⟩],_,0,0,I,⟨(fun _=>I),J⟩,I,I,I,I,I,dX (fun sg=>aK I (fC (.tail _ (.tail _ (.head _))) q_e1 (M I)))⟩,
   ⟨⟨[⟨24,fun _=>Z (bh l ((i:Int).toNat*9+0)),some 4⟩],_,0,0,I,⟨(fun _=>I),J⟩,I,I,I,I,I,dX (fun sg=>aK I (aW (o:=(i:Int).toNat*9+0) (n:=(i:Int).toNat*9+3) qM I (.tail _ (.tail _ (.head _))) q_e1 (M I) I))⟩,
   ⟨⟨[⟨25,fun _=>Z (bh l ((i:Int).toNat*9+3)),some 5⟩],_,0,0,I,⟨(fun _=>I),J⟩,I,I,I,I,I,dX (fun sg=>aK I (aW (o:=(i:Int).toNat*9+3) (n:=(i:Int).toNat*9+6) xi I (.tail _ (.tail _ (.head _))) q_e1 (M I) I))⟩,
   ⟨⟨[⟨26,fun _=>Z (bh l ((i:Int).toNat*9+6)),some 6⟩],_,0,0,I,⟨(fun _=>I),J⟩,I,I,I,I,I,dX (fun sg=>aK I (cb (r:=cd) (i:=(i:Int)) (foff:=6) mT I I (fV mE pO) I (.tail _ (.tail _ (.head _))) q_e1 (M I)))⟩,
   ⟨⟨[⟨5,fun _=>Z (bh l ((i:Int).toNat*9+0)),none⟩],_,0,0,I,⟨(fun _=>I),J⟩,I,I,I,I,I,fun _ sg _ _=>aK I (jM I)⟩,
   ⟨⟨[⟨28,fun _=>Z (bh l ((i:Int).toNat*9+0)),some 8⟩],_,0,0,I,⟨(fun _=>I),J⟩,I,I,I,I,I,dX (fun sg=>aK I (fC (.tail _ (.tail _ (.head _))) q_e1 (M I)))⟩,
   ⟨⟨[⟨29,fun _=>Z (bh l ((i:Int).toNat*9+0)),some 9⟩],_,0,0,I,⟨(fun _=>I),J⟩,I,I,I,I,I,dX (fun sg=>aK I (aW (o:=(i:Int).toNat*9+0) (n:=(i:Int).toNat*9+3) qM I (.tail _ (.tail _ (.head _))) q_e1 (M I) I))⟩,
   ⟨⟨[⟨30,fun _=>Z (bh l ((i:Int).toNat*9+3)),some 10⟩],_,0,0,I,⟨(fun _=>I),J⟩,I,I,I,I,I,dX (fun sg=>aK I (aW (o:=(i:Int).toNat*9+3) (n:=(i:Int).toNat*9+6) xi I (.tail _ (.tail _ (.head _))) q_e1 (M I) I))⟩,
   ⟨⟨[⟨31,fun _=>Z (bh l ((i:Int).toNat*9+6)),some 11⟩],_,0,0,I,⟨(fun _=>I),J⟩,I,I,I,I,I,dX (fun sg=>aK I (cb (r:=cd) (i:=(i:Int)) (foff:=6) mT I I (fV mE pO) I (.tail _ (.tail _ (.head _))) q_e1 (M I)))⟩,
   ⟨⟨[⟨32,fun _=>K rS e1.Value.S,some 12⟩],_,0,0,I,⟨(fun _=>I),J⟩,I,I,I,I,I,fun _ sg _ _=>aK I (tK i6 (M I))⟩,
   ⟨⟨[⟨33,fun _=>K (rI .i64) (e1.Value.S.length:Int),some 13⟩],_,0,0,I,⟨(fun _=>I),J⟩,I,I,I,I,I,fun _ sg _ _=>aK I (lz (M I) hI)⟩,
   ⟨⟨[⟨27,fun _=>K rS e1.Value.S,some 7⟩,⟨34,fun _=>K (rI .i64) (min (e1.Value.S.length:Int) (60:Int)),some 14⟩],_,0,0,I,⟨(fun _=>I),(fun _=>I),J⟩,I,I,I,I,I,fun _ sg _ _=>aK I (t8 i6 (M I) (M I) q_y)⟩,
   ⟨⟨[⟨5,fun _=>Z (bh l ((i:Int).toNat*9+0)),none⟩],_,0,0,I,⟨(fun _=>I),J⟩,I,I,I,I,I,fun _ sg _ _=>aK I (jM I)⟩,
   ⟨⟨[⟨36,fun _=>Z (bh l ((i:Int).toNat*9+0)),some 16⟩],_,0,0,I,⟨(fun _=>I),J⟩,I,I,I,I,I,dX (fun sg=>aK I (fC (.tail _ (.tail _ (.head _))) q_e1 (M I)))⟩,
   ⟨⟨[⟨37,fun _=>Z (bh l ((i:Int).toNat*9+0)),some 17⟩],_,0,0,I,⟨(fun _=>I),J⟩,I,I,I,I,I,dX (fun sg=>aK I (aW (o:=(i:Int).toNat*9+0) (n:=(i:Int).toNat*9+7) qL I (.tail _ (.tail _ (.head _))) q_e1 (M I) I))⟩,
   ⟨⟨[⟨38,fun _=>Z (bh l ((i:Int).toNat*9+7)),some 18⟩],_,0,0,I,⟨(fun _=>I),J⟩,I,I,I,I,I,dX (fun sg=>aK I (cb (r:=cd) (i:=(i:Int)) (foff:=7) mT I I p6 I (.tail _ (.tail _ (.head _))) q_e1 (M I)))⟩,
   ⟨⟨[⟨5,fun _=>Z (bh l ((i:Int).toNat*9+0)),none⟩],_,0,0,I,⟨(fun _=>I),J⟩,I,I,I,I,I,fun _ sg _ _=>aK I (jM I)⟩,
   ⟨⟨[⟨40,fun _=>Z (bh l ((i:Int).toNat*9+0)),some 20⟩],_,0,0,I,⟨(fun _=>I),J⟩,I,I,I,I,I,dX (fun sg=>aK I (fC (.tail _ (.tail _ (.head _))) q_e1 (M I)))⟩,
   ⟨⟨[⟨41,fun _=>Z (bh l ((i:Int).toNat*9+0)),some 21⟩],_,0,0,I,⟨(fun _=>I),J⟩,I,I,I,I,I,dX (fun sg=>aK I (aW (o:=(i:Int).toNat*9+0) (n:=(i:Int).toNat*9+7) qL I (.tail _ (.tail _ (.head _))) q_e1 (M I) I))⟩,
   ⟨⟨[⟨42,fun _=>Z (bh l ((i:Int).toNat*9+7)),some 22⟩],_,0,0,I,⟨(fun _=>I),J⟩,I,I,I,I,I,dX (fun sg=>aK I (cb (r:=cd) (i:=(i:Int)) (foff:=7) mT I I p6 I (.tail _ (.tail _ (.head _))) q_e1 (M I)))⟩,
   ⟨⟨[⟨43,fun _=>K rS e1.Table,some 23⟩],_,0,1,I,⟨(fun _=>I),J⟩,I,I,I,I,I,fun _ sg _ _=>aK I (tK i6 (M I))⟩,
   ⟨⟨[⟨44,fun _=>K (rI .i64) (e1.Table.length:Int),some 24⟩],_,0,1,I,⟨(fun _=>I),J⟩,I,I,I,I,I,fun _ sg _ _=>aK I (lz (M I) hI)⟩,
   ⟨⟨[⟨39,fun _=>K rS e1.Table,some 19⟩,⟨45,fun _=>K (rI .i64) (min (e1.Table.length:Int) (40:Int)),some 25⟩],_,0,1,I,⟨(fun _=>I),(fun _=>I),J⟩,I,I,I,I,I,fun _ sg _ _=>aK I (t8 i6 (M I) (M I) q_y1)⟩,
   ⟨⟨[⟨5,fun _=>Z (bh l ((i:Int).toNat*9+0)),none⟩],_,0,0,I,⟨(fun _=>I),J⟩,I,I,I,I,I,fun _ sg _ _=>aK I (jM I)⟩,
   ⟨⟨[⟨47,fun _=>Z (bh l ((i:Int).toNat*9+0)),some 27⟩],_,0,0,I,⟨(fun _=>I),J⟩,I,I,I,I,I,dX (fun sg=>aK I (fC (.tail _ (.tail _ (.head _))) q_e1 (M I)))⟩,
   ⟨⟨[⟨48,fun _=>Z (bh l ((i:Int).toNat*9+0)),some 28⟩],_,0,0,I,⟨(fun _=>I),J⟩,I,I,I,I,I,dX (fun sg=>aK I (aW (o:=(i:Int).toNat*9+0) (n:=(i:Int).toNat*9+8) sj I (.tail _ (.tail _ (.head _))) q_e1 (M I) I))⟩,
   ⟨⟨[⟨49,fun _=>Z (bh l ((i:Int).toNat*9+8)),some 29⟩],_,0,0,I,⟨(fun _=>I),J⟩,I,I,I,I,I,dX (fun sg=>aK I (cb (r:=cd) (i:=(i:Int)) (foff:=8) mT I I p5 I (.tail _ (.tail _ (.head _))) q_e1 (M I)))⟩,
   ⟨⟨[⟨5,fun _=>Z (bh l ((i:Int).toNat*9+0)),none⟩],_,0,0,I,⟨(fun _=>I),J⟩,I,I,I,I,I,fun _ sg _ _=>aK I (jM I)⟩,
   ⟨⟨[⟨51,fun _=>Z (bh l ((i:Int).toNat*9+0)),some 31⟩],_,0,0,I,⟨(fun _=>I),J⟩,I,I,I,I,I,dX (fun sg=>aK I (fC (.tail _ (.tail _ (.head _))) q_e1 (M I)))⟩,
   ⟨⟨[⟨52,fun _=>Z (bh l ((i:Int).toNat*9+0)),some 32⟩],_,0,0,I,⟨(fun _=>I),J⟩,I,I,I,I,I,dX (fun sg=>aK I (aW (o:=(i:Int).toNat*9+0) (n:=(i:Int).toNat*9+8) sj I (.tail _ (.tail _ (.head _))) q_e1 (M I) I))⟩,
   ⟨⟨[⟨53,fun _=>Z (bh l ((i:Int).toNat*9+8)),some 33⟩],_,0,0,I,⟨(fun _=>I),J⟩,I,I,I,I,I,dX (fun sg=>aK I (cb (r:=cd) (i:=(i:Int)) (foff:=8) mT I I p5 I (.tail _ (.tail _ (.head _))) q_e1 (M I)))⟩,
   ⟨⟨[⟨54,fun _=>K rS e1.Name,some 34⟩],_,0,2,I,⟨(fun _=>I),J⟩,I,I,I,I,I,fun _ sg _ _=>aK I (tK i6 (M I))⟩,
   ⟨⟨[⟨55,fun _=>K (rI .i64) (e1.Name.length:Int),some 35⟩],_,0,2,I,⟨(fun _=>I),J⟩,I,I,I,I,I,fun _ sg _ _=>aK I (lz (M I) hI)⟩,
   ⟨⟨[⟨50,fun _=>K rS e1.Name,some 30⟩,⟨56,fun _=>K (rI .i64) (min (e1.Name.length:Int) (40:Int)),some 36⟩],_,0,2,I,⟨(fun _=>I),(fun _=>I),J⟩,I,I,I,I,I,fun _ sg _ _=>aK I (t8 i6 (M I) (M I) q_y2)⟩,
   ⟨⟨[⟨20,fun _=>Z (bh l ((i:Int).toNat*9+0)),some 0⟩],_,0,0,I,⟨(fun _=>I),J⟩,I,I,I,I,I,dX (fun sg=>aK I (fC (.tail _ (.tail _ (.head _))) q_e1 (M I)))⟩,
   ⟨⟨[⟨58,fun _=>Z (bh l ((i:Int).toNat*9+0)),some 38⟩],_,0,0,I,⟨(fun _=>I),J⟩,I,I,I,I,I,dX (fun sg=>aK I (aW (o:=(i:Int).toNat*9+0) (n:=(i:Int).toNat*9+3) qM I (.tail _ (.tail _ (.head _))) q_e1 (M I) I))⟩,
   ⟨⟨[⟨59,fun _=>Z (bh l ((i:Int).toNat*9+3)),some 39⟩],_,0,0,I,⟨(fun _=>I),J⟩,I,I,I,I,I,dX (fun sg=>aK I (aW (o:=(i:Int).toNat*9+3) (n:=(i:Int).toNat*9+6) xi I (.tail _ (.tail _ (.head _))) q_e1 (M I) I))⟩,
   ⟨⟨[⟨60,fun _=>Z (bh l ((i:Int).toNat*9+6)),some 40⟩,⟨35,fun _=>K rS y,some 15⟩],_,I,⟨(fun _=>I),(fun _=>I),J⟩,I,I,I,fun sg=>bL I (EffOK.fr2 (rK (r:=cd) (i:=(i:Int)) (foff:=6) mT I (j8 mE I5 Bl) I q_e1 (so q_st) (M I) (M I)))⟩,
   ⟨⟨[⟨21,fun _=>Z (bh l ((i:Int).toNat*9+0)),some 1⟩],_,1,1,I,⟨(fun _=>I),J⟩,I,I,I,I,I,dX (fun sg=>aK I (fC (.head _) q_e2 (M I)))⟩,
   ⟨⟨[⟨61,fun _=>Z (bh l ((i:Int).toNat*9+0)),some 42⟩],_,1,1,I,⟨(fun _=>I),J⟩,I,I,I,I,I,dX (fun sg=>aK I (aW (o:=(i:Int).toNat*9+0) (n:=(i:Int).toNat*9+7) qL I (.head _) q_e2 (M I) I))⟩,
   ⟨⟨[⟨62,fun _=>Z (bh l ((i:Int).toNat*9+7)),some 43⟩,⟨46,fun _=>K rS y1,some 26⟩],_,I,⟨(fun _=>I),(fun _=>I),J⟩,I,I,I,fun sg=>bL I (rK (r:=cd) (i:=(i:Int)) (foff:=7) mT I DV I q_e2 (so q_st1) (M I) (M I))⟩,
   J⟩⟩⟩⟩⟩⟩⟩⟩⟩⟩⟩⟩⟩⟩⟩⟩⟩⟩⟩⟩⟩⟩⟩⟩⟩⟩⟩⟩⟩⟩⟩⟩⟩⟩⟩⟩⟩⟩⟩⟩⟩⟩⟩⟩⟩ (fun sg=>?_)
  refine(show RG _ _ _ _ [_,_,_] _ from ?_);refine jm (O' :=[dv cd 113 l c st1,bx aX 50 b (⟨[]⟩:bT),bx eu 50 b1 (fD out (Y l c st1.length))]) (by first|(rw [dS (so q_st1),dS (so q_st)];done)|(rw [dS (so q_st1),dS (so q_st)];exact I)|exact I)<|cV h fun e3 q_e3 h=>Q (fC (.head _) q_e3 (M I))<|Q (aW (o:=(i:Int).toNat*9+0) (n:=(i:Int).toNat*9+8) sj I (.head _) q_e3 (M I) I)<|cV h fun st2 q_st2 h=>ir mT I DU I q_e3 (so q_st2) (M I) (M I)<|jm (O' :=[dv cd 113 l c st2,bx aX 50 b (⟨[]⟩:bT),bx eu 50 b1 (fD out (Y l c st2.length))]) (by first|(rw [dS (so q_st2)];done)|(rw [dS (so q_st2)];exact I)|exact I)<|bu<|eP D hN I<|fF<|fF ?_;exact bl (aP (ih (i+1) ({out with Nodes:=st2}:bT) ⟨eg D,h⟩) (bO I))
end Go.Proofs.YtigldkegamffhaaGreatDoor

