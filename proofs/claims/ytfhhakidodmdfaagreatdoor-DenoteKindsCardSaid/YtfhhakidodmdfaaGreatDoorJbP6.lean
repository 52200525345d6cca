/- db of this claim: P6. -/
import Derived.Test.YtfhhakidodmdfaaGreatDoorJbT
import Derived.Test.YtfhhakidodmdfaaGreatDoorJbP5
set_option linter.all false
namespace Go.Proofs.YtfhhakidodmdfaaGreatDoor
open Go
set_option maxRecDepth 100000

theorem Ur(a1:Int)(b:Int){R:Int×Bool}(h:py a1 b=some R):aU aO 332 [bM a1,bM b] (tT [bM R.1,ig R.2]):=by
 refine aU.of Tryz.func332 J J J fun w0 S0=>au<|zo J (cw)<|zo J (jj)<|aq<|au<|aF J<|aF J<|zo J (jp (ht J) (ht J))<|bp J<|aq<|au<|aF J<|aF J<|aF J<|zo J (BO (ht J) (ht J))<|aF J<|aF J<|zo J (BO (ht J) (ht J)) ?_;refine zo J (BR (ht J) (ht J))<|zo J (iu (ht J) hI)<|bp J<|bp J<|aq<|ak ?_;cases so h;exact cJ J J J

theorem Oe(a1:ac)(b:ac){R:ac×Int}(h:vg a1 b=some R):aU aO 268 [tD af a1,tD af b] (tT [tD af R.1,bM R.2]):=by
 refine aU.of Tryz.func268 J J J fun w0 S0=>au<|zo J (je J)<|zo J (je J)<|aZ (r:=af) (x:=ie) aH (fun _=>bh _) J fun b1=>zo J (cw)<|aq<|au<|zo J (bB aH J J)<|zo J (bB aH J J)<|bC h fun r q_r h=>zo J (aD OD (Dn _ _ _ q_r) ⟨(ht J),(ht J),(yF aam fun x y h=>Ur _ _ h),aT⟩)<|zo J (hY J J)<|zo J (hY J J)<|ax aH J an J (ht J) (ht J)<|aW 4 J<|bp J<|aq<|ak ?_;cases so h;exact bR J J ⟨bt aH J J J,bc J,aT⟩

theorem UN(a1:ac){R:ac×Int}(h:yh a1=some R):aU aO 264 [tD af a1] (tT [tD af R.1,bM R.2]):=by
 refine aU.of Tryz.func264 J J J fun w0 S0=>au<|zo J (je J)<|aZ (r:=af) (x:=ie) aH (fun _=>bh _) J fun b=>zo J (cw)<|aq<|ah<|bC h fun r q_r h=>bC h fun r1 q_r1 h=>?_
 refine tG 5 (ts:=[tD af r,tD af a1,tT [tD af r1.1,bM r1.2],tD af r1.1,bM r1.2]) mixed J J J
  ⟨O4 J J (aD KO (A1 _ q_r) ⟨hI,aT⟩),
  ⟨fd 1 J J J (bB aH J J),
  ⟨d8 4 0 5 1 J J J J (aD Wz (Oe _ _ q_r1) ⟨(ht J),(ht J),aT⟩),
  ⟨bW 6 2 J J J (hY J J),
  ⟨bW 6 2 J J J (hY J J),
  aT⟩⟩⟩⟩⟩ ?_
 refine ax aH J an J (ht J) (ht J)<|aW 2 J<|bp J<|aq<|ak ?_;cases so h;exact bR J J ⟨bt aH J J J,bc J,aT⟩

theorem Uf(v:ac){R:Int}(h:wP v=some R):aU aO 365 [tD af v] (bM R):=by
 refine aU.of Tryz.func365 J J J fun w0 S0=>au<|zo J (je J)<|zo J (cw)<|aq<|ah<|au<|zo J (cW gK cy J J)<|zo J (bB cr J J)<|zo J (np J)<|aq<|c9 h J (fun h=>?_) (fun h=>?_)
 ·refine au<|zo J (cw)<|aq<|ak<|ae ?_;cases so h;exact aG J J
 ·refine dS<|au<|zo J (cW lO fz J J)<|zo J (bB FM J J)<|zo J (xg hI (ht J))<|bp J<|aq<|ak ?_;cases so h;exact aG J J

theorem Iq(to1:((List Int)→Option Int))(l:(List ac)){R:ac×Int}(h:nD to1 l=some R):aU aO 327 [(dn aO (fun(x:(List Int))=>[lW x]) yy (fun(x:(List Int))=>to1 x)),ca (af) l] (tT [tD af R.1,bM R.2]):=by
 refine aU.of Tryz.func327 J J J fun w0 S0=>au<|aZ (r:=af) (x:=ie) aH (fun _=>bh _) J fun b=>zo J (cw)<|aq<|ah<|au<|aF J<|bC h fun r q_r h=>zo J (aD Wq (N5 _ q_r) ⟨(ht J),aT⟩)<|bp J<|aq<|au<|aF J<|zo J (tJ J)<|aq<|c9 h J (fun h=>?_) (fun h=>?_)
 ·refine au<|zo J (ck (y:=ie) aH ql bh (J))<|aF J<|ax aH J an J (ht J) (ht J)<|bp J<|aq<|ak<|ae<|bn 4 J ?_;cases so h;exact bR J J ⟨bt aH J J J,bc J,aT⟩
 ·refine dS<|au<|bQ false bX 3<|zo J (aL s9)<|aq<|ah<|au<|aF J<|zo J (iM j7 J)<|zo J (bD hI)<|aq<|ay<|ba (k:=16) J fun hN=>bI ?_;refine aS (tE (Z:=fun ls i n l1 c x=>(l.drop i=ls)∧lE to1 ls n x=some R) (Of:=fun _ i n l1 c x=>[fx bX 3 l1 c n,bx af 46 b x]) (Gf:=fun _ i n l1 c x=>[(0,(dn aO (fun(x:(List Int))=>[lW x]) yy (fun(x:(List Int))=>to1 x))),(4,tV (aP b 0)),(7,rL l1 c n),(16,ca (af) l),(17,jk l),(18,bM (i:Int))]) (fun i n l1 c x h=>?_) (fun e tl ih i n l1 c x h=>?_) l 0 uL none 0 ie ⟨J,h⟩) (bv J)
  ·obtain⟨hx,h⟩:=h
   refine aC<|au<|zo J (fD J J)<|aq<|ah<|bz (ht J) (di hx)<|bu ?_;refine ai (ai (aN ?_));refine aw<|au<|aF rfl<|aF rfl<|kj<|jx 7 rfl<|jx 33 rfl<|bC h fun r1 q_r1 h=>zo J (fJ (args:=(fun(x:(List Int))=>[tD wM x])) (res:=S3) (f:=(fun(x:(List Int))=>to1 x)) (x:=((n):(List Int))) (ht J) q_r1 ⟨(lk (ht J)),aT⟩)<|bC h fun e1 q_e1 h=>zo J (PZ (r:=uz af 3) (x:=gv2) gm2 gr2 (FZ Tryz.underlying344 aH J ZG (ht J) q_e1))<|zo J (bB aH J J)<|bL<|ax aH J an J (ht J) (ht J)<|zo J (cw)<|aq<|ak<|bn 4 J<|bm ?_;cases so h;exact bR J J ⟨bt aH J J J,bc J,aT⟩
  ·obtain⟨hx,h⟩:=h
   refine aC<|au<|zo J (fD J J)<|aq<|ah<|bw (ht J) (dg hx)<|dS<|ah<|ay<|au<|zo J (lX j7 aH J J J (cS hx))<|zo J (bB aH J J)<|aZ (r:=af) (x:=ie) aH (fun _=>bh _) J fun b1=>ax aH J an J (ht J) (ht J)<|aW 9 J<|aq<|ah<|au ?_;refine zo J (cW gK cy J J)<|zo J (bB cr J J)<|zo J (gu (ht J) hI)<|aq<|c9 h J (fun h=>?_) (fun h=>?_)
   ·refine au<|zo J (ck (y:=ie) aH ql bh (J))<|bL<|ax aH J an J (ht J) (ht J)<|zo J (cw)<|aq<|ak ?_;refine ae (aA (ae (ae (aA (ae ?_)))));refine bn 4 J<|bm ?_;cases so h;exact bR J J ⟨bt aH J J J,bc J,aT⟩
   ·refine dS<|av<|aF J<|zo J (bB aH J J)<|bC h fun r2 q_r2 h=>zo J (aD Z9 (Uf _ q_r2) ⟨(ht J),aT⟩)<|zo J (aV (r:=bX) (ys:=[r2]) (xs:=[.tmp 28]) gM cr J J J J J ⟨(ht J),aT⟩)<|bC h fun n1 q_n1 h=>cV cr J J J J gM J J (ht J) (ht J) q_n1 fun l2 c1=>bp J<|aQ<|ap<|aw<|av<|zo rfl (lY (cA hx hN) rfl)<|aF rfl<|aQ ?_;exact bf (aS (ih (i+1) n1 l2 c1 x ⟨cz hx,h⟩) (bv J))

theorem Uu(l:(List Int)){R:Int}(h:Cv l=some R):aU aO 328 [lW l] (bM R):=by
 refine aU.of Tryz.func328 J J J fun w0 S0=>au<|zo J (cw)<|aq<|au<|aF J<|bC h fun e q_e h=>zo J (bq gM cr J (ht J) hI q_e)<|zo J (bB cr J J)<|zo J (jp hI (ht J))<|bp J<|aq<|ak ?_;cases so h;exact aG J J

theorem Oh(a1:ac){R:ac×Int}(h:qq a1=some R):aU aO 265 [tD af a1] (tT [tD af R.1,bM R.2]):=by
 refine aU.of Tryz.func265 J J J fun w0 S0=>au<|zo J (je J)<|aZ (r:=af) (x:=ie) aH (fun _=>bh _) J fun b=>zo J (cw)<|aq<|au<|zo J (bB aH J J)<|zo J (aV (r:=af) (ys:=[a1]) (xs:=[.tmp 4]) j7 aH J J J J J ⟨(ht J),aT⟩)<|bC h fun r q_r h=>zo J (aD Si (Iq _ _ q_r) ⟨(yF aap fun x y h=>Uu _ h),(ht J),aT⟩)<|zo J (hY J J)<|zo J (hY J J)<|ax aH J an J (ht J) (ht J)<|aW 2 J<|bp J<|aq<|ak ?_;cases so h;exact bR J J ⟨bt aH J J J,bc J,aT⟩

theorem Ut(is1:Bool)(a1:ac)(x:ac){R:ac×Int}(h:nT is1 a1 x=some R):aU aO 329 [tD af a1,tD af x,bO rB is1] (tT [tD af R.1,bM R.2]):=by
 refine aU.of Tryz.func329 J J J fun w0 S0=>au<|zo J (je J)<|zo J (je J)<|aZ (r:=af) (x:=ie) aH (fun _=>bh _) J fun b=>zo J (cw)<|aq<|au<|zo J (cW gK cy J J)<|zo J (bB cr J J)<|zo J (np J)<|zo J (bB Ji J J)<|zo J (TF No (ht J) (ht J))<|bC h fun r q_r h=>zo J (aD Sn (Iw _ q_r) ⟨(ht J),aT⟩)<|ax aH J an J (ht J) (ht J)<|aW 5 J<|zo J (cw)<|aq<|ak ?_;cases so h;exact bR J J ⟨bt aH J J J,bc J,aT⟩

theorem Og(is1:Bool){R:(ac→ac→Option (ac×Int))}(h:BY is1=some R):aU aO 266 [ig is1] ((dn aO qh sK (fun(x:ac×ac)=>R x.1 x.2))):=by
 refine aU.of Tryz.func266 J J J fun w0 S0=>au<|zo J (je J)<|zo J (aL hV)<|aq<|au<|zo J ((show bP _ _ _ _ ((dn aO qh sK (fun(x:ac×ac)=>(nT is1) x.1 x.2)))from hJ (cts:=[bO rB is1]) (caps:=[.tmp 1]) aao ⟨(ht J),aT⟩ (fun x y h=>Ut _ _ _ h)))<|bp J<|aq<|ak ?_;cases so h;exact aG J J

theorem Us(a1:Int)(b:Int){R:Int×Bool}(h:rp a1 b=some R):aU aO 331 [bM a1,bM b] (tT [bM R.1,ig R.2]):=by
 refine aU.of Tryz.func331 J J J fun w0 S0=>au<|zo J (cw)<|zo J (jj)<|aq<|au<|aF J<|aF J<|zo J (nO (ht J) (ht J))<|bp J<|aq<|au<|aF J<|aF J<|aF J<|zo J (BO (ht J) (ht J))<|aF J<|aF J<|zo J (BO (ht J) (ht J)) ?_;refine zo J (BR (ht J) (ht J))<|zo J (iu (ht J) hI)<|bp J<|bp J<|aq<|ak ?_;cases so h;exact cJ J J J

theorem UM(a1:ac)(b:ac){R:ac×Int}(h:Cc a1 b=some R):aU aO 267 [tD af a1,tD af b] (tT [tD af R.1,bM R.2]):=by
 refine aU.of Tryz.func267 J J J fun w0 S0=>au<|zo J (je J)<|zo J (je J)<|aZ (r:=af) (x:=ie) aH (fun _=>bh _) J fun b1=>zo J (cw)<|aq<|au<|zo J (bB aH J J)<|zo J (bB aH J J)<|bC h fun r q_r h=>zo J (aD OD (Dn _ _ _ q_r) ⟨(ht J),(ht J),(yF aan fun x y h=>Us _ _ h),aT⟩)<|zo J (hY J J)<|zo J (hY J J)<|ax aH J an J (ht J) (ht J)<|aW 4 J<|bp J<|aq<|ak ?_;cases so h;exact bR J J ⟨bt aH J J J,bc J,aT⟩

theorem Up(p:Int)(y:Int){R:Int×Int}(h:mU p y=some R):aU aO 334 [tD Hp p,tD Hp y] (tT [tD Hp R.1,tD Hp R.2]):=by
 refine aU.of Tryz.func334 J J J fun w0 S0=>au<|zo J (cw)<|zo J (cw)<|aq<|au<|aF J<|zo J (BR (ht J) hI)<|bp J<|aq<|au<|aF J<|zo J (BQ (ht J) hI (by decide))<|bp J<|aq<|au<|aF J ?_;refine zo J (BR (ht J) hI)<|bp J<|aq<|au<|aF J<|zo J (BQ (ht J) hI (by decide))<|bp J<|aq<|au<|aF J<|aF J<|zo J (xg (ht J) (ht J))<|bp J<|aq<|au<|aF J<|aF J<|zo J (xg (ht J) (ht J)) ?_;refine aF J<|zo J (BQ (ht J) hI (by decide))<|zo J (nO (ht J) (ht J))<|bp J<|aq<|au<|aF J<|zo J (BR (ht J) hI)<|bp J<|aq<|au<|aF J<|zo J (BQ (ht J) hI (by decide))<|bp J<|aq<|au<|aF J<|aF J ?_;refine aF J<|zo J (xg (ht J) (ht J))<|zo J (nO (ht J) (ht J))<|bp J<|aq<|au<|aF J<|aF J<|zo J (xg (ht J) (ht J))<|aF J<|zo J (nO (ht J) (ht J))<|aF J<|zo J (BQ (ht J) hI (by decide))<|zo J (nO (ht J) (ht J))<|bp J<|aq<|au<|aF J<|aF J<|zo J (xg (ht J) (ht J)) ?_;refine bp J<|aq<|ak ?_;cases so h;exact cJ J J J

theorem Dm(n:Int){R:Int}(h:pf n=some R):aU aO 335 [bM n] (tD Hp R):=by
 refine aU.of Tryz.func335 J J J fun w0 S0=>au<|zo J (cw)<|aq<|ah<|au<|aF J<|zo J (gJ (ht J) hI)<|aq<|c9 h J (fun h=>?_) (fun h=>?_)
 ·refine au<|aF J<|zo J (sd Ae Ag (ht J))<|zo J (H4 (ht J))<|bp J<|aq<|ak<|ae ?_;cases so h;exact aG J J
 ·refine dS<|au<|aF J<|zo J (sd Ae Ag (ht J))<|bp J<|aq<|ak ?_;cases so h;exact aG J J

theorem N6(u:Int)(below:Bool){R:Int×Bool}(h:mN u below=some R):aU aO 336 [tD Hp u,ig below] (tT [bM R.1,ig R.2]):=by
 refine aU.of Tryz.func336 J J J fun w0 S0=>au<|zo J (cw)<|zo J (jj)<|aq<|ah<|au<|aF J<|aq<|c9 h J (fun h=>?_) (fun h=>?_)
 ·refine au<|aF J<|zo J (H4 (ht J))<|zo J (sd Ag Ae (ht J))<|aF J<|zo J (nN (ht J) hI)<|bp J<|bp J<|aq<|ak<|ae ?_;cases so h;exact cJ J J J
 ·refine dS<|au<|aF J<|zo J (sd Ag Ae (ht J))<|aF J<|zo J (nN (ht J) hI)<|bp J<|bp J<|aq<|ak ?_;cases so h;exact cJ J J J

theorem Uq(a1:Int)(b:Int){R:Int×Bool}(h:me a1 b=some R):aU aO 333 [bM a1,bM b] (tT [bM R.1,ig R.2]):=by
 refine aU.of Tryz.func333 J J J fun w0 S0=>au<|zo J (cw)<|zo J (jj)<|aq<|au<|aF J<|bC h fun r q_r h=>zo J (aD OC (Dm _ q_r) ⟨(ht J),aT⟩)<|aF J<|bC h fun r1 q_r1 h=>zo J (aD OC (Dm _ q_r1) ⟨(ht J),aT⟩)<|bC h fun r2 q_r2 h=>zo J (aD aak (Up _ _ q_r2) ⟨(ht J),(ht J),aT⟩)<|aF J<|zo J (hY J J)<|zo J (hY J J)<|bp J<|bp J<|aq ?_;refine au<|aF J<|aF J<|zo J (gJ (ht J) hI)<|aF J<|zo J (gJ (ht J) hI)<|zo J (NI No (ht J) (ht J))<|bC h fun r3 q_r3 h=>zo J (aD Wr (N6 _ _ q_r3) ⟨(ht J),(ht J),aT⟩)<|aF J<|zo J (hY J J)<|zo J (hY J J)<|bp J<|bp J<|aq<|au<|aF J<|aF J<|aF J<|dC J J (fun hg=>dA J)<|dC J J (fun hg=>dL (bK J hg) hI) ?_;refine zo J (uK J J)<|bp J<|bp J<|aq<|ak ?_;cases so h;exact cJ J J J

theorem UL(a1:ac)(b:ac){R:ac×Int}(h:Ca a1 b=some R):aU aO 269 [tD af a1,tD af b] (tT [tD af R.1,bM R.2]):=by
 refine aU.of Tryz.func269 J J J fun w0 S0=>au<|zo J (je J)<|zo J (je J)<|aZ (r:=af) (x:=ie) aH (fun _=>bh _) J fun b1=>zo J (cw)<|aq<|au<|zo J (bB aH J J)<|zo J (bB aH J J)<|bC h fun r q_r h=>zo J (aD OD (Dn _ _ _ q_r) ⟨(ht J),(ht J),(yF aal fun x y h=>Uq _ _ h),aT⟩)<|zo J (hY J J)<|zo J (hY J J)<|ax aH J an J (ht J) (ht J)<|aW 4 J<|bp J<|aq<|ak ?_;cases so h;exact bR J J ⟨bt aH J J J,bc J,aT⟩

theorem Uo(a1:Int)(b:Int){R:Int×Bool}(h:mf a1 b=some R):aU aO 337 [bM a1,bM b] (tT [bM R.1,ig R.2]):=by
 refine aU.of Tryz.func337 J J J fun w0 S0=>au<|zo J (cw)<|zo J (jj)<|aq<|ah<|au<|aF J<|zo J (np J)<|aq<|c9 h J (fun h=>?_) (fun h=>?_)
 ·refine au<|zo J (cw)<|zo J (jj)<|aq<|ak<|ae ?_;cases so h;exact cJ J J J
 ·refine dS<|au<|aF J<|bC h fun r q_r h=>zo J (aD OC (Dm _ q_r) ⟨(ht J),aT⟩)<|aF J<|bC h fun r1 q_r1 h=>zo J (aD OC (Dm _ q_r1) ⟨(ht J),aT⟩)<|bC h fun u q_u h=>zo J (XD (ht J) (ht J) (TJ q_u))<|aF J<|zo J (gJ (ht J) hI)<|aF J<|zo J (gJ (ht J) hI)<|zo J (NI No (ht J) (ht J))<|bC h fun r2 q_r2 h=>zo J (aD Wr (N6 _ _ q_r2) ⟨(ht J),(ht J),aT⟩)<|zo J (hY J J)<|zo J (hY J J)<|bp J<|bp J<|aQ ?_;refine aw<|ak ?_;cases so h;exact cJ J J J

theorem UK(a1:ac)(b:ac){R:ac×Int}(h:Cb a1 b=some R):aU aO 270 [tD af a1,tD af b] (tT [tD af R.1,bM R.2]):=by
 refine aU.of Tryz.func270 J J J fun w0 S0=>au<|zo J (je J)<|zo J (je J)<|aZ (r:=af) (x:=ie) aH (fun _=>bh _) J fun b1=>zo J (cw)<|aq<|au<|zo J (bB aH J J)<|zo J (bB aH J J)<|bC h fun r q_r h=>zo J (aD OD (Dn _ _ _ q_r) ⟨(ht J),(ht J),(yF aaj fun x y h=>Uo _ _ h),aT⟩)<|zo J (hY J J)<|zo J (hY J J)<|ax aH J an J (ht J) (ht J)<|aW 4 J<|bp J<|aq<|ak ?_;cases so h;exact bR J J ⟨bt aH J J J,bc J,aT⟩

theorem Un(c:Int){R:Bool}(h:yQ c=some R):aU aO 338 [bM c] (ig R):=by
 refine aU.of Tryz.func338 J J J fun w0 S0=>au<|zo J (jj)<|aq<|au<|aF J<|zo J (np J)<|bp J<|aq<|ak ?_;cases so h;exact aG J J

theorem Od(a1:ac)(b:ac){R:ac×Int}(h:q6 a1 b=some R):aU aO 271 [tD af a1,tD af b] (tT [tD af R.1,bM R.2]):=by
 refine aU.of Tryz.func271 J J J fun w0 S0=>au<|zo J (je J)<|zo J (je J)<|aZ (r:=af) (x:=ie) aH (fun _=>bh _) J fun b1=>zo J (cw)<|aq<|au<|zo J (bB aH J J)<|zo J (bB aH J J)<|bC h fun r q_r h=>zo J (aD Ws (N7 _ _ _ q_r) ⟨(ht J),(ht J),(yF aai fun x y h=>Un _ h),aT⟩)<|zo J (hY J J)<|zo J (hY J J)<|ax aH J an J (ht J) (ht J)<|aW 4 J<|bp J<|aq<|ak ?_;cases so h;exact bR J J ⟨bt aH J J J,bc J,aT⟩

theorem Um(do1:(ac→ac→Option (ac×Int)))(a1:ac)(b:ac){R:ac×Int}(h:th do1 a1 b=some R):aU aO 339 [tD af a1,tD af b,bO (rT ((dn aO qh sK (fun(x:ac×ac)=>do1 x.1 x.2)))) ()] (tT [tD af R.1,bM R.2]):=by
 refine aU.of Tryz.func339 J J J fun w0 S0=>au<|zo J (je J)<|zo J (je J)<|aZ (r:=af) (x:=ie) aH (fun _=>bh _) J fun b1=>zo J (cw)<|aq<|au<|zo J (pV V4 (ht J))<|zo J (bB aH J J)<|zo J (bB aH J J)<|bC h fun r q_r h=>zo J (fJ (args:=qh) (res:=C1) (f:=(fun(x:ac×ac)=>do1 x.1 x.2)) (x:=((a1,b):ac×ac)) (ht J) q_r ⟨(ht J),(ht J),aT⟩)<|aF J<|zo J (hY J J)<|zo J (hY J J)<|aZ (r:=af) (x:=ie) aH (fun _=>bh _) J fun b2=>ax aH J an J (ht J) (ht J)<|aW 7 J<|bp J<|aQ ?_;refine aw<|ah<|au<|aF rfl<|zo rfl (tJ rfl)<|aq<|c9 h rfl (fun h=>?_) (fun h=>?_)
 ·refine au<|zo J (bB aH J J)<|aF J<|ax aH J an J (ht J) (ht J)<|bp J<|aq<|ak<|ae<|bn 5 J ?_;cases so h;exact bR J J ⟨bt aH J J J,bc J,aT⟩
 ·refine dS<|au<|zo J (bB aH J J)<|bC h fun r1 q_r1 h=>zo J (aD WB (Oh _ q_r1) ⟨(ht J),aT⟩)<|zo J (hY J J)<|zo J (hY J J)<|ax aH J an J (ht J) (ht J)<|bp J<|aq<|ak<|bn 5 J ?_;cases so h;exact bR J J ⟨bt aH J J J,bc J,aT⟩

theorem Iu(do1:(ac→ac→Option (ac×Int))){R:(ac→ac→Option (ac×Int))}(h:A3 do1=some R):aU aO 272 [(dn aO qh sK (fun(x:ac×ac)=>do1 x.1 x.2))] ((dn aO qh sK (fun(x:ac×ac)=>R x.1 x.2))):=by
 refine aU.of Tryz.func272 J J J fun w0 S0=>au<|zo J (Di (ht J))<|zo J (aL hV)<|aq<|au<|zo J ((show bP _ _ _ _ ((dn aO qh sK (fun(x:ac×ac)=>(th do1) x.1 x.2)))from hJ (cts:=[bO (rT ((dn aO qh sK (fun(x:ac×ac)=>do1 x.1 x.2)))) ()]) (caps:=[.tmp 1]) aah ⟨(ht J),aT⟩ (fun x y h=>Um _ _ _ h)))<|bp J<|aq<|ak ?_;cases so h;exact aG J J

theorem Ul(l:(List Int)){R:Int}(h:Cw l=some R):aU aO 340 [lW l] (bM R):=by
 refine aU.of Tryz.func340 J J J fun w0 S0=>au<|zo J (cw)<|aq<|ah<|bC h fun e q_e h=>bC h fun e1 q_e1 h=>?_
 refine cU (ts:=[_,_,_,_,_,_,_,_]) mixed J J
  ⟨fd 0 J J J (dA J),
  ⟨bW 3 0 J J J (bq gM cr J (ht J) hI q_e),
  ⟨bW 4 1 J J J (bB cr J J),
  ⟨fd 0 J J J (dA J),
  ⟨bW 6 3 J J J (bq gM cr J (ht J) hI q_e1),
  ⟨bW 7 4 J J J (bB cr J J),
  ⟨d8 5 2 8 5 J J J J (NJ (ht J) (ht J)),
  ⟨bW 9 6 J J J (uM J),
  aT⟩⟩⟩⟩⟩⟩⟩⟩ ?_
 refine aw<|ak ?_;cases so h;exact aG J J

theorem UJ(a1:ac)(b:ac){R:ac×Int}(h:sn a1 b=some R):aU aO 273 [tD af a1,tD af b] (tT [tD af R.1,bM R.2]):=by
 refine aU.of Tryz.func273 J J J fun w0 S0=>au<|zo J (je J)<|zo J (je J)<|aZ (r:=af) (x:=ie) aH (fun _=>bh _) J fun b1=>zo J (cw)<|aq<|au<|zo J (bB aH J J)<|zo J (bB aH J J)<|zo J (aV (r:=af) (ys:=[a1,b]) (xs:=[.tmp 6,.tmp 7]) j7 aH J J J J J ⟨(ht J),(ht J),aT⟩)<|bC h fun r q_r h=>zo J (aD Si (Iq _ _ q_r) ⟨(yF aag fun x y h=>Ul _ h),(ht J),aT⟩)<|zo J (hY J J)<|zo J (hY J J)<|ax aH J an J (ht J) (ht J)<|aW 4 J<|bp J<|aq<|ak ?_;cases so h;exact bR J J ⟨bt aH J J J,bc J,aT⟩

theorem Uk(l:(List Int)){R:Int}(h:DO l=some R):aU aO 341 [lW l] (bM R):=by
 refine aU.of Tryz.func341 J J J fun w0 S0=>au<|zo J (cw)<|aq<|ah<|bC h fun e q_e h=>bC h fun e1 q_e1 h=>?_
 refine cU (ts:=[_,_,_,_,_,_,_,_]) mixed J J
  ⟨fd 0 J J J (dA J),
  ⟨bW 3 0 J J J (bq gM cr J (ht J) hI q_e),
  ⟨bW 4 1 J J J (bB cr J J),
  ⟨fd 0 J J J (dA J),
  ⟨bW 6 3 J J J (bq gM cr J (ht J) hI q_e1),
  ⟨bW 7 4 J J J (bB cr J J),
  ⟨d8 5 2 8 5 J J J J (NK (ht J) (ht J)),
  ⟨bW 9 6 J J J (uM J),
  aT⟩⟩⟩⟩⟩⟩⟩⟩ ?_
 refine aw<|ak ?_;cases so h;exact aG J J

theorem UI(a1:ac)(b:ac){R:ac×Int}(h:uN a1 b=some R):aU aO 274 [tD af a1,tD af b] (tT [tD af R.1,bM R.2]):=by
 refine aU.of Tryz.func274 J J J fun w0 S0=>au<|zo J (je J)<|zo J (je J)<|aZ (r:=af) (x:=ie) aH (fun _=>bh _) J fun b1=>zo J (cw)<|aq<|au<|zo J (bB aH J J)<|zo J (bB aH J J)<|zo J (aV (r:=af) (ys:=[a1,b]) (xs:=[.tmp 6,.tmp 7]) j7 aH J J J J J ⟨(ht J),(ht J),aT⟩)<|bC h fun r q_r h=>zo J (aD Si (Iq _ _ q_r) ⟨(yF aaf fun x y h=>Uk _ h),(ht J),aT⟩)<|zo J (hY J J)<|zo J (hY J J)<|ax aH J an J (ht J) (ht J)<|aW 4 J<|bp J<|aq<|ak ?_;cases so h;exact bR J J ⟨bt aH J J J,bc J,aT⟩

theorem U7{R:(List (Int×(ac→ac→Option (ac×Int))))}(h:yc=some R):aU aO 183 [] (Nu (fun y:(ac→ac→Option (ac×Int))=>yA aO qh sK (fun(x:ac×ac)=>y x.1 x.2)) nu R):=by
 refine aU.of Tryz.func183 J J J fun w0 S0=>au<|zo J (aL (show aJ _ _ (.const (.map none)) (tV (.map none))from fun _ _ _=>J))<|aq<|au<|bC h fun r q_r h=>zo J (aD aaL (UO _ q_r) ⟨(yF Sm fun x y h=>Iv _ _ h),aT⟩)<|bp J<|aq<|au<|zT (ww (fun y:(ac→ac→Option (ac×Int))=>yA aO qh sK (fun(x:ac×ac)=>y x.1 x.2))) nu J fun b=>bC h fun r1 q_r1 h=>zo J (aD WC (Oj _ q_r1) ⟨(yF aaK fun x y h=>UN _ h),aT⟩)<|eJ (γ:=(fun y:(ac→ac→Option (ac×Int))=>yA aO qh sK (fun(x:ac×ac)=>y x.1 x.2))) (y:=r1) wD (d6 kW) (ht J) (nQ hI) (ov (ht J)) fun os=>bC h fun r2 q_r2 h=>zo J (aD WC (Oj _ q_r2) ⟨(yF WB fun x y h=>Oh _ h),aT⟩)<|eJ (γ:=(fun y:(ac→ac→Option (ac×Int))=>yA aO qh sK (fun(x:ac×ac)=>y x.1 x.2))) (y:=r2) wD (d6 kW) (ht J) (nQ hI) (ov (ht J)) fun os1=>bC h fun r3 q_r3 h=>zo J (aD WA (Og _ q_r3) ⟨hB,aT⟩) ?_;refine eJ (γ:=(fun y:(ac→ac→Option (ac×Int))=>yA aO qh sK (fun(x:ac×ac)=>y x.1 x.2))) (y:=r3) wD (d6 kW) (ht J) (nQ hI) (ov (ht J)) fun os2=>bC h fun r4 q_r4 h=>zo J (aD WA (Og _ q_r4) ⟨hB,aT⟩)<|eJ (γ:=(fun y:(ac→ac→Option (ac×Int))=>yA aO qh sK (fun(x:ac×ac)=>y x.1 x.2))) (y:=r4) wD (d6 kW) (ht J) (nQ hI) (ov (ht J)) fun os3=>eJ (γ:=(fun y:(ac→ac→Option (ac×Int))=>yA aO qh sK (fun(x:ac×ac)=>y x.1 x.2))) (y:=Cc) wD (d6 kW) (ht J) (nQ hI) (ov (yF aaJ fun x y h=>UM _ _ h)) fun os4=>eJ (γ:=(fun y:(ac→ac→Option (ac×Int))=>yA aO qh sK (fun(x:ac×ac)=>y x.1 x.2))) (y:=vg) wD (d6 kW) (ht J) (nQ hI) (ov (yF Wz fun x y h=>Oe _ _ h)) fun os5=>eJ (γ:=(fun y:(ac→ac→Option (ac×Int))=>yA aO qh sK (fun(x:ac×ac)=>y x.1 x.2))) (y:=Ca) wD (d6 kW) (ht J) (nQ hI) (ov (yF aaI fun x y h=>UL _ _ h)) fun os6=>eJ (γ:=(fun y:(ac→ac→Option (ac×Int))=>yA aO qh sK (fun(x:ac×ac)=>y x.1 x.2))) (y:=Cb) wD (d6 kW) (ht J) (nQ hI) (ov (yF aaH fun x y h=>UK _ _ h)) fun os7=>eJ (γ:=(fun y:(ac→ac→Option (ac×Int))=>yA aO qh sK (fun(x:ac×ac)=>y x.1 x.2))) (y:=q6) wD (d6 kW) (ht J) (nQ hI) (ov (yF Wy fun x y h=>Od _ _ h)) fun os8=>bC h fun r5 q_r5 h=>zo J (aD Sl (Iu _ q_r5) ⟨(yF Wy fun x y h=>Od _ _ h),aT⟩)<|eJ (γ:=(fun y:(ac→ac→Option (ac×Int))=>yA aO qh sK (fun(x:ac×ac)=>y x.1 x.2))) (y:=r5) wD (d6 kW) (ht J) (nQ hI) (ov (ht J)) fun os9=>eJ (γ:=(fun y:(ac→ac→Option (ac×Int))=>yA aO qh sK (fun(x:ac×ac)=>y x.1 x.2))) (y:=nE) wD (d6 kW) (ht J) (nQ hI) (ov (yF Sm fun x y h=>Iv _ _ h)) fun os10=>aF J<|eJ (γ:=(fun y:(ac→ac→Option (ac×Int))=>yA aO qh sK (fun(x:ac×ac)=>y x.1 x.2))) (y:=r) wD (d6 kW) (ht J) (nQ hI) (ov (ht J)) fun os11=>aF J<|bC h fun r6 q_r6 h=>zo J (aD Sl (Iu _ q_r6) ⟨(ht J),aT⟩)<|eJ (γ:=(fun y:(ac→ac→Option (ac×Int))=>yA aO qh sK (fun(x:ac×ac)=>y x.1 x.2))) (y:=r6) wD (d6 kW) (ht J) (nQ hI) (ov (ht J)) fun os12=>bC h fun r7 q_r7 h=>zo J (aD Sl (Iu _ q_r7) ⟨(yF Sm fun x y h=>Iv _ _ h),aT⟩)<|eJ (γ:=(fun y:(ac→ac→Option (ac×Int))=>yA aO qh sK (fun(x:ac×ac)=>y x.1 x.2))) (y:=r7) wD (d6 kW) (ht J) (nQ hI) (ov (ht J)) fun os13=>eJ (γ:=(fun y:(ac→ac→Option (ac×Int))=>yA aO qh sK (fun(x:ac×ac)=>y x.1 x.2))) (y:=sn) wD (d6 kW) (ht J) (nQ hI) (ov (yF aaG fun x y h=>UJ _ _ h)) fun os14=>eJ (γ:=(fun y:(ac→ac→Option (ac×Int))=>yA aO qh sK (fun(x:ac×ac)=>y x.1 x.2))) (y:=uN) wD (d6 kW) (ht J) (nQ hI) (ov (yF aaF fun x y h=>UI _ _ h)) fun os15=>?_;refine aF J<|bp J<|aq<|ak<|Lj 0 J ?_;cases so h;exact aG J J

theorem Ye{l:Option Nat}{c:Nat}{xs s:List ac}{lo:Int}{R:List ac}(hs:dD xs lo (xs.length:Int)=some s)(h:fH s=some R):c0 aO 276 [tV (ou 4 l c lo.toNat s.length)] [fx af 46 l c xs] (fun i:OI=>rL (i.h 0).1 (i.h 0).2 R) (fun i=>[fx af 46 (i.h 0).1 (i.h 0).2 R,fx af 46 l c xs]):=by
 refine c0.of Tryz.func276 J J J fun w0 S0=>au<|zo J (aL s9)<|aq<|ah<|au<|aF J<|G6 (r:=af) j7 (.head _) hs (ht J) J fun isnil hisnil=>aq<|oS (ht J) (fun hc=>?_) (fun hc=>?_)
 ·have hx:=hisnil hc
  have h:some Hq=some R:=by simpa [fH,app,hx] using h
  refine au<|bQ false af 46<|zo J (aL s9)<|aq<|ak<|ae ?_;cases so h;exact m7 J (oi none 0) J J (fun _ _ h=>h)
 ·refine dS<|au<|j6 (r:=af) (ys:=Hq) (xs:=[]) j7 aH J J J J J trivial J fun l1 c1=>aF J<|bC h fun x q_x h=>Fo aH J J J J j7 J J (ht J) (.tail _ (.head _)) hs (ht J) q_x fun l2 c2=>bp J<|aq<|ak ?_;cases so h;exact m7 J (oi l2 c2) J J (fun _ _ h=>h)

theorem RP(b:Nat)(l:Option Nat)(c:Nat)(stack:(List ac))(k:Int){R:(List ac)×(List ac)}(h:kI stack k=some R):c0 aO 275 [bM k,tV (aP b 0)] [bx rV 42 b (aR l c stack.length),fx af 46 l c stack] (fun i:OI=>ca (af) R.1) (fun i=>[bx rV 42 b (aR (i.h 0).1 (i.h 0).2 R.2.length),fx af 46 (i.h 0).1 (i.h 0).2 R.2]):=by
 refine c0.of Tryz.func275 J J J fun w0 S0=>au<|zo J (aL (show aJ _ _ _ (ca (af) ([]))from j9))<|aq<|au<|zo J (hM Hz (.head _) (ht J))<|zo J (hM Hz (.head _) (ht J))<|zo J (jy j7 (.tail _ (.head _)) (ht J))<|aF J<|zo J (jp (ht J) (ht J))<|bC h fun y q_y h=>zo J (nM j7 aH J (.tail _ (.head _)) (ht J) (ht J) q_y)<|mQ (.tail _ (.head _)) q_y fun hv=>bL<|bC h fun r q_r h=>Bm [fx af 46 l c stack] _ J aaE (Ye q_y q_r) ⟨(ht J),aT⟩ J fun i=>?_;refine(show RG _ _ _ _ [fx af 46 (i.h 0).1 (i.h 0).2 r,fx af 46 l c stack,bx rV 42 b (aR l c stack.length)] _ from ?_);refine bp J<|aq<|au<|zo J (hM Hz (.tail _ (.tail _ (.head _))) (ht J))<|zo J (hM Hz (.tail _ (.tail _ (.head _))) (ht J))<|zo J (jy j7 (.tail _ (.head _)) (ht J))<|aF J<|zo J (jp (ht J) (ht J))<|bC h fun y1 q_y1 h=>zo J (k7 j7 aH J (.tail _ (.head _)) (ht J) (ht J) q_y1)<|bL<|we q_y1<|hX<|ax Hz J an J (ht J) (Ru (ht J))<|aq<|au<|aF J<|bp J<|aq ?_;refine ak<|aK<|jA<|cB 3 J<|cB 11 J<|cB 4 J<|cB 18 J<|jB 3 J<|bm<|bF<|bF ?_;cases so h;exact m7 J (oi l c) J J (fun _ _ h=>h)

end Go.Proofs.YtfhhakidodmdfaaGreatDoor

