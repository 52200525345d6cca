/- Facts of this claim: NS. -/
import Derived.Test.YtegigakgcnhiaaaGreatDoorLdT
import Derived.Test.YtegigakgcnhiaaaGreatDoorLdF
namespace Go.Proofs.YtegigakgcnhiaaaGreatDoor
open Go

def hdV (N m : Nat) (hs : List (Option Nat × Nat)) : List Value := (hs.map fun o => aD o.1 o.2 m) ++ List.replicate (N - hs.length) jC
theorem hdV_len {N m : Nat} {hs : List (Option Nat × Nat)} (h : hs.length ≤ N) : (hdV N m hs).length = N := by simp [hdV]; omega
theorem hdV_at {N m : Nat} {hs : List (Option Nat × Nat)} (h : hs.length < N) : idx (hdV N m hs) (hs.length : Int) = some jC := by
 rw [be]
 unfold hdV
 rw [List.getElem?_append_right (by simp), List.length_map, Nat.sub_self, List.getElem?_replicate, if_pos (by omega)]
theorem hdV_set {N m : Nat} {hs : List (Option Nat × Nat)} {o : Option Nat × Nat} (h : hs.length < N) : (hdV N m hs).set hs.length (aD o.1 o.2 m) = hdV N m (hs ++ [o]) := by
 unfold hdV
 obtain ⟨k, hk⟩ : ∃ k, N - hs.length = k + 1 := ⟨N - hs.length - 1, by omega⟩
 rw [List.set_append_right _ _ (by simp), List.length_map, Nat.sub_self, hk, List.replicate_succ, List.set_cons_zero, List.map_append, List.length_append, List.length_singleton, show N - (hs.length + 1) = k from by omega]
 simp
set_option maxRecDepth 100000 in
theorem f42_n (c : DCatalog) (nodes : Int) {R : DLayout} (h : hY c nodes = some R) : SpecM Tryz.prog 42 [tD rpDCatalog c, tD (rI .i64) nodes] [] (fun i : OI => tV (.agg #[aD (i.h 0).1 (i.h 0).2 R.Parts.length])) (fun i : OI => [nst (fun y : DBase => y.Tables) (rSl rpDValue) 27 54 45 (i.h 0).1 (i.h 0).2 R.Parts.length i.ng R.Parts none]) := by
 obtain ⟨za, q_za, h⟩ := bs h
 obtain ⟨zb, q_zb, h⟩ := bs h
 obtain ⟨N, rfl, hN, rfl⟩ := zerosF_some q_za
 obtain ⟨m, hm, hm2, rfl⟩ := zerosF_some q_zb
 obtain rfl : m = c.Tables.length := by omega
 have hR : R = ⟨List.replicate N ⟨List.replicate c.Tables.length []⟩⟩ := by
  have := Option.some.inj h
  rw [← this, List.map_replicate]
 subst hR
 have z1 : jB (N : Int) jC = some (List.replicate N jC) := by rw [jB, if_pos ⟨by omega, by omega⟩]; rfl
 have z2 : jB (c.Tables.length : Int) jC = some (List.replicate c.Tables.length jC) := by rw [jB, if_pos ⟨by omega, by omega⟩]; rfl
 refine SpecM.of Tryz.func42 rfl rfl rfl fun w0 S0 => ?_;refine CG.seq ?_;refine CG.region ?_;refine RG.op (aS (ht rfl)) rfl ?_;refine RG.alloc (r := rpOLayout_0) (x := aJ (⟨[]⟩ : DLayout) (aD none 0 0)) cv je rfl (fun b => ?_);refine RG.nil ?_;refine AT.next ?_;refine CG.seq ?_;refine CG.region ?_;refine RG.op (ac (ht rfl)) rfl ?_;refine RG.eff (eff_make (r := rV) (x := jC) cd rfl rfl rfl Tryz.underlying34 (fun _ => ⟨rfl, rfl⟩) (ht rfl) (ht rfl) z1) rfl (fun i0 => ?_);refine RG.op (dQ (r := rpOLayout_0) (x := aJ (⟨[]⟩ : DLayout) (aD none 0 0)) (y := aJ (⟨[]⟩ : DLayout) (aD (i0.h 0).1 (i0.h 0).2 (List.replicate N jC).length)) cv fs36 je (⟨_, _, _, _, _, rfl, sfOLayout_0_0, rfl, (hRV (ht rfl)), rfl⟩)) rfl ?_;refine RG.alloc (r := rpOLayout_0) (x := aJ (⟨[]⟩ : DLayout) (aD none 0 0)) cv je rfl (fun b1 => ?_);refine gO (q := rpOLayout_0) (y := aJ (⟨[]⟩ : DLayout) (aD (i0.h 0).1 (i0.h 0).2 (List.replicate N jC).length)) (x' := aJ (⟨[]⟩ : DLayout) (aD (i0.h 0).1 (i0.h 0).2 (List.replicate N jC).length)) cv rfl (sfx_of aB) rfl (ht rfl) (ht rfl) ?_;refine RG.nil ?_;refine AT.next ?_;refine CG.seq ?_;refine CG.seq ?_;refine CG.region ?_;refine RG.op (bb (n := 0) ck rfl (ht rfl) rfl) rfl ?_;refine RG.op (el fx fF (.head _) rfl (ht rfl)) rfl ?_;refine RG.op (ok_lenO Tryz.underlying34 (.tail _ (.head _)) (ht rfl)) rfl ?_;refine RG.op (ac hI) rfl ?_;refine RG.nil ?_;refine AT.next ?_;refine CG.block ?_;refine CG.loop ?_
 have e0 : List.replicate N jC = hdV N c.Tables.length [] := by simp [hdV]
 have e1 : (List.replicate N jC).length = N := List.length_replicate
 generalize hl0 : (i0.h 0).1 = l0
 generalize hc0 : (i0.h 0).2 = c0
 refine LG.own_map (O' := [inns 54 c.Tables.length [], bx rpOLayout_0 36 b1 (aJ (⟨[]⟩ : DLayout) (aD l0 c0 N)), arr rV 27 l0 c0 (hdV N c.Tables.length []), bx rpOLayout_0 36 b (aJ (⟨[]⟩ : DLayout) (aD none 0 0))]) (fun ho => by rw [e1, e0] at ho; exact Own.inns0 54 c.Tables.length ho) ?_;refine LG.sub (LG.nat1 (Z := fun k (hs : List (Option Nat × Nat)) => N - hs.length = k ∧ hs.length ≤ N) (Of := fun _ hs => [inns 54 c.Tables.length hs, bx rpOLayout_0 36 b1 (aJ (⟨[]⟩ : DLayout) (aD l0 c0 N)), arr rV 27 l0 c0 (hdV N c.Tables.length hs), bx rpOLayout_0 36 b (aJ (⟨[]⟩ : DLayout) (aD none 0 0))]) (Gf := fun _ hs => [(2, aF rpDCatalog c), (4, tV (aR b 0)), (5, tV (aR b1 0)), (12, tD (rI .i64) (N : Int)), (13, tD (rI .i64) (hs.length : Int))]) (fun hs h => ?_) (fun k ih hs h => ?_) N [] ⟨rfl, Nat.zero_le _⟩) ⟨rfl, rfl, rfl, (by rw [e1]; rfl), rfl, trivial⟩
 ·obtain ⟨hx, hle⟩ := h
  have hnN : hs.length = N := by omega
  refine aq ?_;refine CG.seq ?_;refine CG.region ?_;refine RG.op (ay (ht rfl) (ht rfl)) rfl ?_;refine RG.nil ?_;refine AT.next ?_;refine CG.seq ?_;refine aM (ht rfl) (natF hx) ?_;refine CG.exit ?_;refine ah (ah (av ?_));refine AT.next ?_;refine CG.seq ?_;refine CG.region ?_;refine RG.op (ok_loadH (r := rpOLayout_0) (y := aJ (⟨[]⟩ : DLayout) (aD l0 c0 N)) (v := aD l0 c0 N) cv rfl rfl (fun _ _ h => h.1) (.tail _ (.head _)) (ht rfl)) rfl ?_;refine gP ?_;refine gO (q := rpOLayout_0) (y := aJ (⟨[]⟩ : DLayout) (aD l0 c0 N)) (x' := aJ (⟨[]⟩ : DLayout) (aD l0 c0 N)) cv rfl (sfx_of aB) rfl (ht rfl) (hH rfl (fun _ => ⟨rfl, osl_one _ _ _⟩) (ht rfl)) ?_;refine RG.nil ?_;refine AT.next ?_;refine CG.ret ?_;refine AT.own_map (O' := [bx rpOLayout_0 36 b (aJ (⟨[]⟩ : DLayout) (aD l0 c0 N)), nst (fun y : DBase => y.Tables) (rSl rpDValue) 27 54 45 l0 c0 N (g0 hs) (List.replicate N (⟨List.replicate c.Tables.length []⟩ : DBase)) none]) (fun ho => ?_) ?_
  ·have h1 := (Own.pick [2, 3, 1, 0] rfl ho).2.2
   have e2 : hdV N c.Tables.length hs = hs.map fun o => aD o.1 o.2 c.Tables.length := by simp [hdV, hnN]
   have h1 : Own _ _ _ _ [arr rV 27 l0 c0 (hdV N c.Tables.length hs), inns 54 c.Tables.length hs, bx rpOLayout_0 36 b (aJ (⟨[]⟩ : DLayout) (aD l0 c0 N))] := h1
   rw [e2] at h1
   have h3 := Own.assemble (r := rSl rpDValue) (T3 := 45) (prj := fun y : DBase => y.Tables) (y := (⟨List.replicate c.Tables.length []⟩ : DBase)) rfl h1
   rw [hnN] at h3
   exact Own.pick [1, 0] rfl h3
  have e3 : (⟨List.replicate N ⟨List.replicate c.Tables.length []⟩⟩ : DLayout).Parts.length = N := List.length_replicate
  exact AT.retMH rfl cv rfl rfl (fun _ _ h => h.1) rfl ({ h := fun _ => (l0, c0), ng := g0 hs } : OI) (by rw [e3]) (by rw [e3]; rfl)
 ·obtain ⟨hx, hle⟩ := h
  have hlt : hs.length < N := by omega
  have hVl := hdV_len (m := c.Tables.length) hle
  have hat := hdV_at (m := c.Tables.length) hlt
  refine aq ?_;refine CG.seq ?_;refine CG.region ?_;refine RG.op (ay (ht rfl) (ht rfl)) rfl ?_;refine RG.nil ?_;refine AT.next ?_;refine CG.seq ?_;refine aL (ht rfl) (natT hx) ?_;refine CG.skip ?_;refine AT.next ?_;refine CG.seq ?_;refine CG.block ?_;refine CG.seq ?_;refine CG.region ?_;refine RG.op (ac (ht rfl)) rfl ?_;refine RG.op (aa (ht rfl)) rfl ?_;refine RG.nil ?_;refine AT.next ?_
  refine ja 7 [tc (tV (aR b1 0)), tc (tV (aD l0 c0 N)), tc (tD (rI .i64) (hs.length : Int)), tc (aF (rSl rpDTable) c.Tables), tc (tD (rSl rpDTable) c.Tables), tc (tD (rI .i64) (c.Tables.length : Int)), ([6], fun s => tV (aD ((s.getD 0 zoi).h 0).1 ((s.getD 0 zoi).h 0).2 (List.replicate c.Tables.length jC).length))] [false, false, false, false, false, false, true] [fun _ => [inns 54 c.Tables.length hs, bx rpOLayout_0 36 b1 (aJ (⟨[]⟩ : DLayout) (aD l0 c0 N)), arr rV 27 l0 c0 (hdV N c.Tables.length hs), bx rpOLayout_0 36 b (aJ (⟨[]⟩ : DLayout) (aD none 0 0))], fun sg => [arr rV 54 ((sg 6).h 0).1 ((sg 6).h 0).2 (List.replicate c.Tables.length jC), inns 54 c.Tables.length hs, bx rpOLayout_0 36 b1 (aJ (⟨[]⟩ : DLayout) (aD l0 c0 N)), arr rV 27 l0 c0 (hdV N c.Tables.length hs), bx rpOLayout_0 36 b (aJ (⟨[]⟩ : DLayout) (aD none 0 0))]] rfl mixed rfl rfl rfl rfl rfl
   ⟨⟨[⟨5, fun _ => tV (aR b1 0), none⟩], _, 0, 1, rfl, ⟨(fun _ => rfl), trivial⟩, rfl, rfl, rfl, rfl, rfl, fun _ sg _ _ => af rfl (bb (n := 0) ck rfl (ht rfl) rfl)⟩,
   ⟨⟨[⟨16, fun _ => tV (aR b1 0), some 0⟩], _, 0, 1, rfl, ⟨(fun _ => rfl), trivial⟩, rfl, rfl, rfl, rfl, rfl, winS (fun sg => af rfl (el (l := l0) (cap := c0) (n := N) fx fF (.tail _ (.head _)) rfl (ht rfl))) (win1 (fun sg => af rfl (el (l := l0) (cap := c0) (n := N) fx fF (.tail _ (.tail _ (.head _))) rfl (ht rfl))))⟩,
   ⟨⟨[⟨6, fun _ => tD (rI .i64) (hs.length : Int), none⟩], _, 0, 1, rfl, ⟨(fun _ => rfl), trivial⟩, rfl, rfl, rfl, rfl, rfl, fun _ sg _ _ => af rfl (ac (ht rfl))⟩,
   ⟨⟨[⟨2, fun _ => aF rpDCatalog c, none⟩], _, 0, 0, rfl, ⟨(fun _ => rfl), trivial⟩, rfl, rfl, rfl, rfl, rfl, fun _ sg _ _ => af rfl (aj dl rfl ba rfl (ht rfl))⟩,
   ⟨⟨[⟨19, fun _ => aF (rSl rpDTable) c.Tables, some 3⟩], _, 0, 0, rfl, ⟨(fun _ => rfl), trivial⟩, rfl, rfl, rfl, rfl, rfl, fun _ sg _ _ => af rfl (ai iR rfl rfl (ht rfl))⟩,
   ⟨⟨[⟨20, fun _ => tD (rSl rpDTable) c.Tables, some 4⟩], _, 0, 0, rfl, ⟨(fun _ => rfl), trivial⟩, rfl, rfl, rfl, rfl, rfl, fun _ sg _ _ => af rfl (au Tryz.underlying22 (ht rfl))⟩,
   ⟨⟨[⟨21, fun _ => tD (rI .i64) (c.Tables.length : Int), some 5⟩], _, rfl, ⟨(fun _ => rfl), trivial⟩, rfl, rfl, rfl, fun sg => eW rfl (eff_make (r := rV) (x := jC) cM rfl rfl rfl Tryz.underlying25 (fun _ => ⟨rfl, rfl⟩) (ht rfl) (ht rfl) z2)⟩,
   trivial⟩⟩⟩⟩⟩⟩⟩ (fun sg => ?_)
  refine (show RG _ _ _ _ [arr rV 54 ((sg 6).h 0).1 ((sg 6).h 0).2 (List.replicate c.Tables.length jC), inns 54 c.Tables.length hs, bx rpOLayout_0 36 b1 (aJ (⟨[]⟩ : DLayout) (aD l0 c0 N)), arr rV 27 l0 c0 (hdV N c.Tables.length hs), bx rpOLayout_0 36 b (aJ (⟨[]⟩ : DLayout) (aD none 0 0))] _ from ?_);refine RG.op (cZ Tryz.underlying34 cd (.tail _ (.tail _ (.tail _ (.head _)))) (ht rfl) (ht rfl) hat (hn := hVl.symm)) rfl ?_;refine RG.op (em (n := (hs.length : Int).toNat * 1 + 0) ce rfl (.tail _ (.tail _ (.tail _ (.head _)))) hat (ht rfl) rfl) rfl ?_;refine gP ?_;refine RG.eff0 (kB (r := rV) (q := rV) (set := fun _ y => y) (i := (hs.length : Int)) (foff := 0) (y := jC) (v := aD ((sg 6).h 0).1 ((sg 6).h 0).2 (List.replicate c.Tables.length jC).length) (zs := hdV N c.Tables.length (hs ++ [(((sg 6).h 0).1, ((sg 6).h 0).2)])) fy rfl aB rfl hat (by rw [List.length_replicate]; exact hdV_set (o := (((sg 6).h 0).1, ((sg 6).h 0).2)) hlt) (ht rfl) (hRV (ht rfl))) (fun _ => ?_);refine RG.nil ?_;refine ap ?_;refine AT.next ?_;refine CG.region ?_;refine RG.op (aP (natL hx (by omega)) (ht rfl) hI) rfl ?_;refine RG.op (ac (ht rfl)) rfl ?_;refine RG.nil ?_;refine AT.own_map (O' := [inns 54 c.Tables.length (hs ++ [(((sg 6).h 0).1, ((sg 6).h 0).2)]), bx rpOLayout_0 36 b1 (aJ (⟨[]⟩ : DLayout) (aD l0 c0 N)), arr rV 27 l0 c0 (hdV N c.Tables.length (hs ++ [(((sg 6).h 0).1, ((sg 6).h 0).2)])), bx rpOLayout_0 36 b (aJ (⟨[]⟩ : DLayout) (aD none 0 0))]) (fun ho => Own.innsPush (Own.pick [1, 2, 3, 0, 4] rfl ho)) ?_;refine AT.round (LG.sub (ih (hs ++ [(((sg 6).h 0).1, ((sg 6).h 0).2)]) ⟨by simp; omega, by simp; omega⟩) ⟨rfl, rfl, rfl, rfl, (by rw [List.length_append]; rfl), trivial⟩)
end Go.Proofs.YtegigakgcnhiaaaGreatDoor

