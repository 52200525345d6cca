/- cE of this claim: P15. -/
import Derived.Test.YtdohlidddcgfjaaGreatFcT
import Derived.Test.YtdohlidddcgfjaaGreatFcP14
set_option linter.all false
namespace Go.Proofs.YtdohlidddcgfjaaGreat
open Go
set_option maxRecDepth 100000

def Uh tag{R}(h:ye tag=some R):cX bd 247 [bH tag] (bH R):=by
 refine dK Tryz.func247 J<|d<|ca<|bu<|aP<|ak<|ax J<|s (fH (D J) hI)<|Q J<|aD J (bX J)<|aD J (fun Y=>dD (bl J Y) hI)<|dG J<|aN J<|fy h J (fun h=>?_) (fun h=>?_)
 ·exact d<|eg<|cx<|so h▸aA J J
 ·refine ax J<|s (eY (D J) hI)<|aN J<|fy h J (fun h=>?_) (fun h=>?_)
  ·exact d<|eg<|cx<|so h▸aA J J
  ·refine ax J<|s (eY (D J) hI)<|aN J<|fy h J (fun h=>?_) (fun h=>?_)
   ·exact d<|eg<|cx<|so h▸aA J J
   ·exact bc<|al<|au<|d<|eg<|so h▸aA J J

def Uv tag{R}(h:vf tag=some R):cX bd 227 [bH tag] (bH R):=by
 refine dK Tryz.func227 J<|d<|ca<|bu<|aS<|Q J<|bp J<|Q J<|aD J (bX J)<|aD J (fun Y=>dB (bl J Y) hI)<|aD J (nQ J)<|de J J J J (fun Y=>mt J)<|de J J J J (fun Y=>eY (bl J Y) hI)<|aD J (fun Y=>jm (bl J Y) (fun H=>(bl J (sd Y H))))<|dG J<|bW h J (fun h=>?_) (fun h=>?_)
 ·exact d<|eg<|af<|so h▸aA J J
 ·exact fN<|ax J<|eE h aar (Uh _) (cy J) fun r h=>bf J<|so h▸aA J J

def T6 v{R}(h:vi v=some R):cX bd 277 [tD bF v] (fM R):=by
 exact dK Tryz.func277 J<|d<|dl J<|bm<|bu<|d<|dH dh J<|eE h abG (UW _) (cy J) fun r h=>Q J<|ae J (bv mT js J J)<|ae J (bq bB J J)<|ae J (se J)<|cm J<|bf J<|so h▸aA J J

def T9 n{R}(h:ka n=some R):cX bd 263 [tD bt n] (fM R):=by
 refine dK Tryz.func263 J<|d<|dl J<|bm<|bu<|aS<|aQ iJ ef bB J<|bu<|ak<|d<|bp J<|aN J<|fy h J (fun h=>?_) (fun h=>?_)
 ·exact d<|aQ qR k7 dh J<|eE h aad (T6 _) (cy J) fun r h=>Q J<|ae J (bv od iR J J)<|ae J (bq bB J J)<|ae J (gQ J)<|cm J<|bf J<|cx<|so h▸aA J J
 ·refine d<|bp J<|aN J<|fy h J (fun h=>?_) (fun h=>?_)
  ·exact d<|aQ qR k7 dh J<|s (ee dh G9 lJ J)<|s (y6 Fa (D J) (D J))<|Q J<|ae J (bv od iR J J)<|ae J (bq bB J J)<|ae J (fun Y=>dB (bl J Y) hI)<|cm J<|Q J<|ae J (bv od iR J J)<|ae J (bq bB J J)<|ae J (fun Y=>fH (bl J Y) hI)<|cm J<|bf J<|cx<|so h▸aA J J
  ·exact bc<|al<|au<|d<|aQ qR k7 dh J<|s (ee dh G9 lJ J)<|s (y6 Fa (D J) (D J))<|Q J<|ae J (bv od iR J J)<|ae J (bq bB J J)<|ae J (gQ J)<|cm J<|bf J<|so h▸aA J J

def RI: ∀(fu:Nat) (e:aW) (place:Int) {R:Int} (h:jj fu e place=some R),cX bd 255 [tD bN e,bH place] (bH R):=by
 intro fu
 induction fu with
 |zero=>intro e place R h;exact(nn h).elim
 |succ fu ih=>
  intro e place R h
  refine dK Tryz.func255 J<|d<|dl J<|ca<|bu<|aS<|Q J<|s (fH (D J) hI)<|Q J<|aD J (bX J)<|aD J (bv f7 dw J J)<|aD J (bq nM J J)<|aD J (gp j5 J)<|aD J (fun Y=>dB (bl J Y) (bl J Y))<|dG J<|bW h J (fun h=>?_) (fun h=>?_)
  ·exact d<|eg<|af<|so h▸aA J J
  ·refine fN<|d<|aQ f7 dw nM J<|Q J<|bR h fun e1 q_e1 h=>dg j5 eo J q_e1<|bz eo lc J fun b=>bO eo aB J<|bj 5 J<|bu<|d<|aQ iJ ef bB J<|eE h aaI (Uv _) (cy J) fun r h=>aN J ?_;refine aS<|Q J<|s (fH (D J) hI)<|Q J<|bR h fun t q_t h=>aD J (fun Y=>yT eo J J) ?_
   obtain⟨r1,h1t,h0t⟩:=og q_t
   have q_r1g:=fun H=>(h1t H).1
   refine aD J (fun Y=>cD aag (T9 _ (q_r1g Y)) ⟨(bl J Y),aZ⟩)<|aD J (uo J)<|s (jl (D J) (fun H=>(bl J (sb H))) (fun H=>(h1t H).2) h0t)<|bW h J (fun h=>?_) (fun h=>?_)
   ·exact d<|eg<|af<|so h▸aA J J
   ·refine fN<|aS<|Q J<|bp J<|bW h J (fun h=>?_) (fun h=>?_)
    ·refine aS<|aQ qv pY bB J<|nP J<|Q J<|aD J (bv pq oa J J)<|aD J (bq bB J J)<|aD J (se J)<|dG J<|bW h J (fun h=>?_) (fun h=>?_)
     ·exact d<|eg<|af<|af<|so h▸aA J J
     ·exact fN<|d<|eg<|af<|so h▸aA J J
    ·refine fN<|d<|dH gn J<|Q J<|s (dP (D J) hI)<|eE h Sf (ih _ _) (cy J) fun r2 h=>aN J<|aS<|Q J<|bp J<|bW h J (fun h=>?_) (fun h=>?_)
     ·exact d<|eg<|af<|so h▸aA J J
     ·refine fN<|aS<|Q J<|bp J<|bW h J (fun h=>?_) (fun h=>?_)
      ·refine aS<|aQ qv pY bB J<|Q J<|s (dP (D J) hI)<|s (du (D J) (D J))<|Q J<|aD J (bv pq oa J J)<|aD J (bq bB J J)<|aD J (se J)<|dG J<|bW h J (fun h=>?_) (fun h=>?_)
       ·exact d<|eg<|af<|af<|so h▸aA J J
       ·exact fN<|ax J<|s (cW (D J) hI)<|bf J<|af<|so h▸aA J J
      ·refine fN<|d<|dH gn J<|Q J<|s (dP (D J) hI)<|Q J<|s (dP (D J) (D J))<|eE h Sf (ih _ _) (cy J) fun r3 h=>aN J<|aS<|Q J<|bp J<|Q J<|aD J (bv pq oa J J)<|aD J (bq bB J J)<|aD J (bX J)<|aD J (fun Y=>dP (bl J Y) hI) ?_;refine aD J (fun Y=>du (bl J Y) (bl J Y))<|dG J<|Q J<|aD J (bv qv pY J J)<|aD J (bq bB J J)<|aD J (bX J)<|aD J (fun Y=>dP (bl J Y) hI)<|aD J (bX J)<|aD J (fun Y=>dP (bl J Y) (bl J Y))<|aD J (fun Y=>du (bl J Y) (bl J Y))<|dG J<|bW h J (fun h=>?_) (fun h=>?_)
       ·exact d<|eg<|af<|so h▸aA J J
       ·exact fN<|ax J<|Q J<|s (cW (D J) (D J))<|s (cW (D J) hI)<|bf J<|so h▸aA J J
def Ud e place{R}(h:Ah e place=some R):cX bd 255 [tD bN e,bH place] (bH R):=RI dk e place h

def Uk e{R}(h:ve e=some R):cX bd 240 [tD bN e] (fM R):=by
 refine dK Tryz.func240 J<|d<|dl J<|bm<|bu<|aP<|bR h fun t q_t h=>?_
 obtain⟨r,h1t,h0t⟩:=og q_t
 have q_rg:=fun H=>(h1t H).1
 refine gO (ts:=[_,_,_,_,_,_,_,_,_,_,_,_,_,_,_,_,_,_,_,_,_,_,_]) mixed J J
  ⟨zZ 1 J J (oq f7 dw J J),
  ⟨lK 0 nM J J,
  ⟨ff 4 1 J J (ST j5 J),
  ⟨ff 5 2 J J (dB (D J) hI),
  ⟨ff 6 3 J J (mt J),
  ⟨tt 1 7 4 J J J (dX J J J J (fun Y=>oq f7 dw J J)),
  ⟨km 8 5 7 4 J J J (dX J J J J (fun Y=>ej nM J J (bl J Y))),
  ⟨km 9 6 7 4 J J J (dX J J J J (fun Y=>eS j5 (bl J Y))),
  ⟨km 10 7 7 4 J J J (dX J J J J (fun Y=>eY (bl J Y) hI)),
  ⟨ga 7 4 11 8 J J J (PR J J),
  ⟨ff 12 9 J J (mt J),
  ⟨tt 1 13 10 J J J (dX J J J J (fun Y=>yT gn J J)),
  ⟨tt 1 13 10 J J J (dX J J J J (fun Y=>oq f7 dw J J)),
  ⟨km 15 12 13 10 J J J (dX J J J J (fun Y=>ej nM J J (bl J Y))),
  ⟨km 16 13 13 10 J J J (dX J J J J (fun Y=>eS j5 (bl J Y))),
  ⟨km 17 14 13 10 J J J (dX J J J J (fun Y=>dP (bl J Y) hI)),
  ⟨CP 14 11 18 15 13 10 J J J J (dX J J J J (fun Y=>cD Sf (Ud _ _ (q_rg Y)) ⟨(bl J Y),(bl J Y),aZ⟩)),
  ⟨tt 1 13 10 J J J (dX J J J J (fun Y=>oq f7 dw J J)),
  ⟨km 20 17 13 10 J J J (dX J J J J (fun Y=>ej nM J J (bl J Y))),
  ⟨km 21 18 13 10 J J J (dX J J J J (fun Y=>eS j5 (bl J Y))),
  ⟨CP 19 16 22 19 13 10 J J J J (dX J J J J (fun Y=>di (bl J Y) (bl J Y))),
  ⟨ga 13 10 23 20 J J J (co (D J) (fun H=>(bl J H)) (fun H=>(h1t H).2) h0t),
  ⟨ff 24 21 J J (DX J),
  aZ⟩⟩⟩⟩⟩⟩⟩⟩⟩⟩⟩⟩⟩⟩⟩⟩⟩⟩⟩⟩⟩⟩⟩ ?_
 exact au<|pd<|so h▸aA J J

def DA k want{R}(h:q0 k want=some R):cX bd 256 [bH k,bH want] (fM R):=by
 exact dK Tryz.func256 J<|d<|bm<|bu<|ax J<|Q J<|s (di (D J) (D J))<|Q J<|aD J (bX J)<|aD J (gQ J)<|dG J<|bf J<|so h▸aA J J

def Uj tag l r{R}(h:sx tag l r=some R):cX bd 241 [bH tag,bH l,bH r] (tT [bH R.1,fM R.2]):=by
 refine dK Tryz.func241 J<|d<|ca<|bm<|bu<|aP<|ak<|ax J<|bp J<|Q J<|aD J (bX J)<|aD J (fun Y=>dB (bl J Y) hI)<|aD J (nQ J)<|de J J J J (fun Y=>mt J)<|de J J J J (fun Y=>eY (bl J Y) hI)<|aD J (fun Y=>jm (bl J Y) (fun H=>(bl J (sd Y H))))<|dG J<|aN J ?_;refine fy h J (fun h=>?_) (fun h=>?_)
 ·refine ax J<|eE h NO (DA _ _) (cy J) fun r1 h=>Q J<|bR h fun t q_t h=>ae J (bX J) ?_
  obtain⟨r2,h1t,h0t⟩:=og q_t
  have q_r2g:=fun H=>(h1t H).1
  exact ae J (fun Y=>cD NO (DA _ _ (q_r2g Y)) ⟨(bl J Y),hI,aZ⟩)<|s (co (D J) (fun H=>(bl J H)) (fun H=>(h1t H).2) h0t)<|ca<|bf J<|cx<|so h▸cg J J J
 ·refine ax J<|bp J<|Q J<|aD J (bX J)<|aD J (fun Y=>dB (bl J Y) hI)<|dG J<|aN J<|fy h J (fun h=>?_) (fun h=>?_)
  ·refine ax J<|eE h NO (DA _ _) (cy J) fun r3 h=>Q J<|bR h fun t1 q_t1 h=>ae J (bX J) ?_
   obtain⟨r4,h1t1,h0t1⟩:=og q_t1
   have q_r4g:=fun H=>(h1t1 H).1
   exact ae J (fun Y=>cD NO (DA _ _ (q_r4g Y)) ⟨(bl J Y),hI,aZ⟩)<|s (co (D J) (fun H=>(bl J H)) (fun H=>(h1t1 H).2) h0t1)<|ca<|bf J<|cx<|so h▸cg J J J
  ·refine ax J<|bp J<|Q J<|aD J (bX J)<|aD J (gQ J)<|dG J<|aN J<|fy h J (fun h=>?_) (fun h=>?_)
   ·exact d<|ca<|bm<|bM<|cx<|so h▸cg J J J
   ·exact bc<|al<|au<|ax J<|Q J<|s (di (D J) (D J))<|Q J<|aD J (bX J)<|aD J (gQ J)<|dG J<|Q J<|aD J (bX J)<|aD J (gQ J)<|dG J<|ca<|bf J<|so h▸cg J J J

def Iy e kinds{R}(h:sC e kinds=some R):cX bd 213 [tD bN e,jK kinds] (tT [bH R.1,bH R.2]):=by
 refine dK Tryz.func213 J<|d<|dl J<|ca<|ca<|bu<|aS<|dH gn J<|eE h aaw (Uk _) (cy J) fun r h=>s (fG (D J))<|bW h J (fun h=>?_) (fun h=>?_)
 ·exact d<|ca<|eg<|af<|so h▸cg J J J
 ·refine fN<|aS<|Q J<|bI df J<|s (bT hI)<|bu<|ak<|bo (k:=20) J fun hN=>bA ?_;refine aH (eU (aa:=fun ls i=>(kinds.drop i=ls)/\qJ e kinds ls=some R) (Of:=fun _ i=>[]) (Gf:=fun _ i=>[(1,jK kinds),(2,ck bN e),(20,jK kinds),(21,kE kinds),(22,bH (i:Int))]) (fun i h=>?_) (fun e1 tl ih i h=>?_) kinds 0 ⟨J,h⟩) (aX J)
  ·obtain⟨V,h⟩:=h
   refine ez V J<|au<|aS<|aQ f7 dw nM J<|bI j5 J<|s (bT hI)<|bu<|ak<|bo (k:=34) J fun hN1=>?_;refine bA ?_;refine aH (eU (aa:=fun ls1 i1=>(e.Nodes.drop i1=ls1)/\oL e kinds ls1=some R) (Of:=fun _ i1=>[]) (Gf:=fun _ i1=>[(1,jK kinds),(2,ck bN e),(34,em (bt) e.Nodes),(35,kE e.Nodes),(36,bH (i1:Int))]) (fun i1 h=>?_) (fun e2 tl1 ih1 i1 h=>?_) e.Nodes 0 ⟨J,h⟩) (aX J)
   ·obtain⟨hx1,h⟩:=h
    refine ez hx1 J<|au<|d<|ci false bV 3<|s (bU tE)<|bu<|aS<|aQ f7 dw nM J ?_;refine bI j5 J<|s (bT hI)<|bu<|ak<|bo (k:=52) J fun hN2=>bA ?_;refine aH (jz (aa:=fun ls2 i2 own l c=>(e.Nodes.drop i2=ls2)/\dI kinds ls2 own=some R) (Of:=fun _ i2 own l c=>[db bV 3 l c own]) (Gf:=fun _ i2 own l c=>[(1,jK kinds),(10,nO l c own),(52,em (bt) e.Nodes),(53,kE e.Nodes),(54,bH (i2:Int))]) (fun i2 own l c h=>?_) (fun e3 tl2 ih2 i2 own l c h=>?_) e.Nodes 0 pu none 0 ⟨J,h⟩) (aX J)
    ·obtain⟨hx2,h⟩:=h
     refine ez hx2 J<|au<|ax J<|Q J<|s (ir df (.head _) (D J))<|s (dP (D J) hI)<|bR h fun e4 q_e4 h=>s (eH df bB (.head _) (D J) (D J) q_e4)<|s (jP (r:=bV) (i:=(IntKind.i64.wrap ((own.length:Int)-(1:Int)))) (foff:=0) bB J J bC J (.head _) q_e4 (D J))<|d6 J<|ca ?_;exact bM<|aV<|so h▸cg J J J
    ·obtain⟨hx2,h⟩:=h
     refine ew hx2 J<|aP<|ak<|d<|dg j5 eo J (dJ hx2)<|bz eo lc J fun b=>bO eo aB J<|bj 12 J<|bu<|ak<|d ?_;refine aQ iJ ef bB J<|bp J<|aN J<|fy h J (fun h=>?_) (fun h=>?_)
     ·refine aj<|Q J<|qE qR k7 J<|aQ mT js bB J<|s (aI (r:=bV) (ys:=[e3.Value.Kind]) (xs:=[.tmp 92]) df bB J J J J J ⟨(D J),aZ⟩)<|bR h fun own1 q_own1 h=>bD bB J J J J df J J (D J) (D J) q_own1 fun l1 c1=>d6 J<|aJ<|al<|dd hx2 hN2 J ?_;exact aU (aH (ih2 (i2+1) own1 l1 c1 ⟨da hx2,h⟩) (aX J))
     ·refine d<|aQ iJ ef bB J<|bp J<|aN J<|fy h J (fun h=>?_) (fun h=>?_)
      ·refine aj<|Q J<|Q J<|aQ od iR bB J<|bR h fun e5 q_e5 h=>dg df bB J q_e5<|s (aI (r:=bV) (ys:=[e5]) (xs:=[.tmp 104]) df bB J J J J J ⟨(D J),aZ⟩)<|bR h fun own2 q_own2 h=>bD bB J J J J df J J (D J) (D J) q_own2 fun l2 c2=>d6 J<|aJ<|al<|dd hx2 hN2 J ?_;exact aU (aH (ih2 (i2+1) own2 l2 c2 ⟨da hx2,h⟩) (aX J))
      ·refine ax J<|aQ qv pY bB J<|bR h fun e6 q_e6 h=>s (eH df bB (.head _) (D J) (D J) q_e6)<|s (jP (r:=bV) (i:=e3.L) (foff:=0) bB J J bC J (.head _) q_e6 (D J))<|d6 J<|ca<|bu ?_;refine d5 (aa:=fun r1=>qK (dI kinds tl2) e3 own e6 r1=some R) (Of:=fun r1=>[db bV 3 l c own]) (Gf:=fun r1=>[(1,jK kinds),(10,nO l c own),(12,ck bt e3),(13,bH e6),(14,bH r1),(52,em (bt) e.Nodes),(53,kE e.Nodes),(54,bH (i2:Int))]) (fun r1 h=>?_) (fun h2=>?_)
       ·skip
        refine d<|aQ iJ ef bB J<|Q J<|Q J<|eE h aav (Uj _ _ _) (cy J) fun r2 h=>Q J<|dz J J<|dz J J<|d6 J<|aN J<|aS<|Q J<|s (fG (D J))<|bW h J (fun h=>?_) (fun h=>?_)
        ·exact d<|ca<|eg<|af<|CJ<|cx<|af<|cx<|aV<|so h▸cg J J J
        ·refine fN<|aj<|Q J<|Q J<|s (aI (r:=bV) (ys:=[r2.1]) (xs:=[.tmp 82]) df bB J J J J J ⟨(D J),aZ⟩)<|bR h fun own3 q_own3 h=>bD bB J J J J df J J (D J) (D J) q_own3 fun l3 c3=>d6 J<|aJ<|al<|dd hx2 hN2 J ?_;exact aU (aH (ih2 (i2+1) own3 l3 c3 ⟨da hx2,h⟩) (aX J))
       ·skip
        refine d<|aQ pq oa bB J<|s (dB (D J) hI)<|bW h J (fun h=>?_) (fun h=>?_)
        ·refine aj<|Q J<|aQ pq oa bB J<|bR h fun e7 q_e7 h=>s (eH df bB (.head _) (D J) (D J) q_e7)<|s (jP (r:=bV) (i:=e3.R) (foff:=0) bB J J bC J (.head _) q_e7 (D J))<|d6 J<|aJ ?_;exact bE (h2 e7 h) (aX J)
        ·refine bc ?_;exact bE (h2 (0:Int) h) (aX J)
   ·obtain⟨hx1,h⟩:=h
    refine ew hx1 J<|aP<|ak<|d<|dg j5 eo J (dJ hx1)<|bz eo lc J fun b1=>bO eo aB J<|bj 9 J<|bu<|d<|qE iJ ef J ?_;refine dH bB J<|bp J<|Q J<|ae J (bv od iR J J)<|ae J (bq bB J J)<|ae J (bX J)<|ae J (gp df J)<|ae J (fun Y=>dB (bl J Y) (bl J Y))<|cm J<|bW h J (fun h=>?_) (fun h=>?_)
    ·exact d<|ca<|eg<|cx<|af<|cx<|so h▸cg J J J
    ·refine bc<|dd hx1 hN1 J ?_;exact aU (aH (ih1 (i1+1) ⟨da hx1,h⟩) (aX J))
  ·obtain⟨V,h⟩:=h
   refine ew V J<|aP<|ak<|d<|dg df bB J (dJ V)<|aN J<|ax J<|s (fH (D J) hI)<|Q J ?_;refine aD J (bX J)<|aD J (fun Y=>dD (bl J Y) hI)<|dG J<|bW h J (fun h=>?_) (fun h=>?_)
   ·exact d<|ca<|eg<|cx<|af<|cx<|so h▸cg J J J
   ·refine bc<|dd V hN J ?_;exact aU (aH (ih (i+1) ⟨da V,h⟩) (aX J))

def ND e kinds{R}(h:s8 e kinds=some R):cX bd 211 [tD bN e,jK kinds] (fM R):=by
 refine dK Tryz.func211 J<|d<|dl J<|bm<|bu<|d<|dH gn J<|Q J<|eE h Sh (Iy _ _) (cy J) fun r h=>Q J<|dz J J<|dz J J<|d6 J<|aN J<|ax J<|bp J ?_;exact Q J<|ae J (bX J)<|ae J (gQ J)<|ae J (nQ J)<|cF J J J J (fun Y=>mt J)<|cF J J J J (fun Y=>di (bl J Y) hI)<|ae J (fun Y=>kL (bl J Y) (fun H=>(bl J (sd Y (sb H)))))<|cm J<|bf J<|so h▸aA J J

def Uw a1 kinds{R}(h:mA a1 kinds=some R):cX bd 212 [tD fh a1,jK kinds] (tT [bH R.1,fM R.2]):=by
 refine dK Tryz.func212 J<|d<|dl J<|ca<|bm<|bu<|aS<|aQ jx hM bB J<|bp J<|bW h J (fun h=>?_) (fun h=>?_)
 ·refine aP ?_
  refine gO (ts:=[_,_,_,_,_,_,_]) mixed J J
   ⟨zZ 2 J J (oq oe ma J J),
   ⟨ff 11 0 J J (oq f7 dw J J),
   ⟨lK 1 nM J J,
   ⟨ff 13 2 J J (ST j5 J),
   ⟨ff 14 3 J J (YS J),
   ⟨zd0 J (zai),
   ⟨ff 15 4 J J (DX J),
   aZ⟩⟩⟩⟩⟩⟩⟩ ?_
  exact au<|pd<|af<|so h▸cg J J J
 ·refine fN<|d<|aQ oe ma gn J<|Q J<|eE h Sh (Iy _ _) (cy J) fun r h=>Q J<|dz J J<|dz J J<|d6 J<|aN J<|aS<|aQ jx hM bB J<|s (fH (D J) hI)<|Q J<|aD J (bv jx hM J J) ?_;refine aD J (bq bB J J)<|aD J (fun Y=>dD (bl J Y) hI)<|dG J<|Q J<|aD J (bX J)<|aD J (se J)<|dG J<|bW h J (fun h=>?_) (fun h=>?_)
  ·exact d<|ca<|bm<|bM<|af<|so h▸cg J J J
  ·refine fN<|aS<|aQ jx hM bB J<|bp J<|Q J<|ae J (bX J)<|ae J (se J)<|cm J<|Q J<|ae J (bX J)<|ae J (se J)<|cm J<|bW h J (fun h=>?_) (fun h=>?_)
   ·exact d<|ca<|bm<|bM<|af<|so h▸cg J J J
   ·refine fN<|aS<|aQ jx hM bB J<|s (dB (D J) hI)<|bW h J (fun h=>?_) (fun h=>?_)
    ·exact ax J<|d6 J<|bm<|bM<|af<|so h▸cg J J J
    ·exact fN<|d<|ca<|bm<|bM<|so h▸cg J J J

end Go.Proofs.YtdohlidddcgfjaaGreat

