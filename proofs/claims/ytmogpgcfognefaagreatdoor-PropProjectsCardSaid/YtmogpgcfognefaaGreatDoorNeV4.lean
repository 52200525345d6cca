/- co of this claim: W21, W27, W45, W46, W47, W52, W53, W56, W57, W58, W59, W60, W44, W55, W29, W54. -/
import Derived.Test.YtmogpgcfognefaaGreatDoorNeV2
import Derived.ProofKit
import Derived.OpenShut
import Derived.LaidMore
import Derived.Test.YtmogpgcfognefaaGreatDoorNeV3
import Derived.Laws.Externs
import Derived.WideKeyRuns
import Derived.Shelf.GgSortFunc.Insertion
import Derived.Shelf.Slices.In.SortNone
import Derived.Test.YtmogpgcfognefaaGreatDoorNeV1
import Derived.Shelf.Unicode.CaseTo
import Derived.Shelf.Unicode.DecodeSlow
set_option linter.all false
namespace Go.Proofs.YtmogpgcfognefaaGreatDoor
open Go Go.ChangeShapes Go.WideShapes Go.ChangeAt Go.RowKit

variable{E:En}{H:Type}{P:Program}{S:SH}{T:TypeId}{W:World}{a:Act}{b c cap:Nat}{cells cs:List Value}{d:Nat}{e:TypeId}{enc:TypeId×Value→H}{g:Option (Nat×Bool)}{gs:Nat}{hi:Int}{i j:Nat}{k:IntKind}{l:Option Nat}{m n:Nat}{o:Operand}{α:Type}{p:Nat}{q r r' :Rp α}{rest:List Oper}{t:TypeId}{ts:List Ty}{v:Value}{x y:Operand}{ys:List α}{z:List Value}{β:Type}
section
def E3(W:World):SH:=fun b=>W.heap[b]?
theorem SE(W:World)(hg: ∀p∈glob,∃c T fr,W.heap[p.1]? =some (.cells c T fr)∧c.toList.take p.2.length=p.2)(ht: ∀w' :World,(∀(b:Nat) (o:Obj),W.heap[b]? =some o→ ∃o',w'.heap[b]? =some o' ∧CC o o')→KA w'):gR W (E3 W):=⟨fun _ o h=>⟨o,h,q0 o⟩,hg,ht⟩
def J4(enc:TypeId×Value→H)(P:Program)(W:World){α:Type}(t:TypeId)(r:Rp α):Prop:=
 P.cellsOf t=r.sz∧ ∀fuel cs x,DataW.trod enc P W 0 (fun _=>true) true fuel t cs=some x→ ∃y,r.rc (E3 W) cs y
theorem vL{α β:Type}{f:α→Option β}: ∀{l:List α} {r:List β},l.mapM f=some r→r.length=l.length∧ ∀(i:Nat) (x:α),l[i]? =some x→ ∃y,r[i]? =some y∧f x=some y
 |[],r,h=>by
  simp at h
  subst h
  exact⟨rfl,fun i x hx=>by simp at hx⟩
 |a::l,r,h=>by
  rw [List.mapM_cons]at h
  cases hf:f a with
  |none=>rw [hf]at h;simp at h
  |some b=>
   rw [hf]at h
   cases hm:l.mapM f with
   |none=>rw [hm]at h;simp at h
   |some r' =>
    rw [hm]at h
    simp at h
    subst h
    obtain⟨h1,h2⟩:=vL hm
    refine⟨by simp [h1],fun i x hx=>?_⟩
    cases i with
    |zero=>simp at hx;subst hx;exact⟨b,rfl,hf⟩
    |succ i=>exact h2 i x (by simpa using hx)
theorem zq{a:Addr}(h:W.cell? a=some v):a.spot=none∧ ∃c E fr,W.heap[a.block]? =some (.cells c E fr)∧c[a.off]? =some v:=by
 unfold World.cell? at h
 cases ho:W.heap[a.block]? with
 |none=>rw [ho]at h;cases h
 |some o=>
  rw [ho]at h
  cases o with
  |cells c E fr=>
   simp only at h
   by_cases hs:a.spot.isSome=true
   ·rw [dy hs]at h;cases h
   ·rw [dd hs]at h
    exact⟨by cases hq:a.spot with
     |none=>rfl
     |some s=>rw [hq]at hs;simp at hs,c,E,fr,rfl,h⟩
  |_=>simp at h
theorem Ee(a:Addr):a.add 0=a:=by unfold Addr.add;rfl
theorem IG{off:Nat}(h:W.cells? 0 ⟨b,off,none⟩ n=some cs)(hn:0<n): ∃c E fr,W.heap[b]? =some (.cells c E fr)∧cs=(c.toList.drop off).take n:=by
 unfold World.cells? at h
 rw [dy (jJ _)]at h
 obtain⟨h1,h2⟩:=vL h
 obtain⟨v,_,hv⟩:=h2 0 0 (by simp [hn])
 obtain⟨_,c,E,fr,h3,h4⟩:=zq hv
 refine⟨c,E,fr,by simpa [Addr.add] using h3,?_⟩
 apply List.ext_getElem?
 intro i
 have hl:cs.length=n:=by simpa using h1
 by_cases hi:i<n
 ·obtain⟨v,h5,h6⟩:=h2 i i (by simp [hi])
  obtain⟨_,c',E',fr',h7,h8⟩:=zq h6
  rw [gA]at h7 h8
  have h7' :W.heap[b]? =some (.cells c' E' fr'):=h7
  have h3' :W.heap[b]? =some (.cells c E fr):=by simpa [Addr.add] using h3
  rw [h3']at h7'
  injection h7' with h7'
  injection h7' with e1
  subst e1
  rw [h5,yN hi,ul]
  simpa using h8.symm
 ·rw [Dg (by omega),Dg (by simp;omega)]
theorem Kw{len:Nat}{a:Addr}{x:DataW H×List MemPlace}(h0' :0<q.sz)(hq:J4 enc P W e q)(hx:(let elemAt (i:Nat):Option (DataW H×List MemPlace):=(W.cells? 0 (a.add (i*P.cellsOf e)) (P.cellsOf e)).bind (DataW.trod enc P W 0 (fun _=>true) true n e)
   if 0≤a.block∧len≤cap∧cap≤maxLen then
    ((List.range len).mapM elemAt).bind fun elems=>
     (if(fun _=>true) a.block then(List.range (cap-len)).mapM fun j=>elemAt (len+j)else some []).map fun rest=>
      (DataW.slice (elems.map (·.1)) (rest.map (·.1)),MemPlace.row a ((elems.length+rest.length)*P.cellsOf e)++(elems++rest).flatMap (·.2))
   else none)=some x): ∃y,(fz q).rc (E3 W) [.slice (some a) len cap] y:=by
 simp only at hx
 split at hx
 ·rename_i hcond
  obtain⟨_,hle,hmax⟩:=hcond
  cases hm:(List.range len).mapM (fun i=>(W.cells? 0 (a.add (i*P.cellsOf e)) (P.cellsOf e)).bind (DataW.trod enc P W 0 (fun _=>true) true n e))with
  |none=>rw [hm]at hx;simp at hx
  |some elems=>
   obtain⟨hm1,hm2⟩:=vL hm
   rw [hq.1]at hm2
   by_cases hl0:len=0
   ·subst hl0;exact⟨[],some a,cap,rfl,jJ _,hmax,.inl rfl⟩
   have hsp0:a.spot=none:=by
    obtain⟨z,_,hz⟩:=hm2 0 0 (by rw [List.getElem?_range (by omega)])
    rw [Nat.zero_mul,Ee]at hz
    cases hcs:W.cells? 0 a q.sz with
    |none=>rw [hcs]at hz;simp at hz
    |some cs1=>
     unfold World.cells? at hcs
     rw [dy (jJ _)]at hcs
     obtain⟨_,g2⟩:=vL hcs
     obtain⟨v,_,hv⟩:=g2 0 0 (by simp [h0'])
     rw [Ee]at hv
     exact(zq hv).1
   have hcell: ∀i,i<len→ ∃c E fr,a.spot=none∧W.heap[a.block]? =some (.cells c E fr)∧ ∃y,q.rc (E3 W) ((c.toList.drop (a.off+i*q.sz)).take q.sz) y:=by
    intro i hi
    obtain⟨z,_,hz⟩:=hm2 i i (by simp [hi])
    cases hcs:W.cells? 0 (a.add (i*q.sz)) q.sz with
    |none=>rw [hcs]at hz;simp at hz
    |some cs1=>
     rw [hcs]at hz
     have hsp:a.spot=none:=hsp0
     obtain⟨ab,ao,az⟩:=a
     simp only at hsp
     subst hsp
     rw [gA]at hcs
     obtain⟨c,E,fr,g1,g2⟩:=IG hcs h0'
     obtain⟨y,hy⟩:=hq.2 n cs1 z hz
     exact⟨c,E,fr,rfl,g1,y,by rw [←g2];exact hy⟩
   obtain⟨c,E,fr,hsp,hb,_⟩:=hcell 0 (by omega)
   have key: ∀m,m≤len→ ∃ys:List α,ys.length=m∧o5 q (E3 W) ((c.toList.drop a.off).take (m*q.sz)) ys:=by
    intro m
    induction m with
    |zero=>intro _;exact⟨[],rfl,by simp [o5]⟩
    |succ m ih=>
     intro hm'
     obtain⟨ys,hy1,hy2⟩:=ih (by omega)
     obtain⟨c',E',fr',_,hb',y,hy⟩:=hcell m (by omega)
     rw [hb]at hb'
     injection hb' with hb'
     injection hb' with e1
     subst e1
     refine⟨ys++[y],by simp [hy1],?_⟩
     have hsplit:(c.toList.drop a.off).take ((m+1)*q.sz)=(c.toList.drop a.off).take (m*q.sz)++(c.toList.drop (a.off+m*q.sz)).take q.sz:=by
      rw [sS,Nat.one_mul,List.take_add,ud]
     rw [hsplit]
     exact qT hy2 (H0.2 hy)
   obtain⟨ys,hy1,hy2⟩:=key len (gp _)
   obtain⟨ab,ao,az⟩:=a
   simp only at hsp
   subst hsp
   exact⟨ys,some ⟨ab,ao,none⟩,cap,by rw [hy1],by omega,hmax,.inr ⟨ab,ao,c,E,fr,rfl,hb,by rw [hy1];exact hy2⟩⟩
 ·cases hx
theorem Dm(h:P.underlying t=some (.slice e))(hc:P.cellsOf t=1)(h0:Nat.blt 0 q.sz=true)(hq:J4 enc P W e q):J4 enc P W t (fz q):=⟨hc,fun fuel cs x hx=>by
 have h0' :0<q.sz:=by simpa [sr] using h0
 cases fuel with
 |zero=>simp [DataW.trod]at hx
 |succ n=>
  unfold DataW.trod at hx
  rw [h]at hx
  split at hx
  all_goals try (injections;done)
  ·exact⟨[],none,0,rfl,gp _,jJ _,.inl rfl⟩
  ·rename_i e' a len cap heq
   injection heq with e1
   injection e1 with e1
   subst e1
   exact Kw h0' hq hx⟩
theorem Gc(h:J4 enc P W t r)(hag:r.agg=false){d:DataW H}{ps:List MemPlace}(hv:DataW.Trod enc P W 0 (fun _=>true) true t v d ps)(hc:v.cells= #[v]): ∃y,(tD r y).p (E3 W) v:=by
 obtain⟨fuel,hx⟩:=hv
 rw [hc]at hx
 obtain⟨y,hy⟩:=h.2 _ _ _ hx
 exact⟨y,_,by unfold Rp.val;rw [hag];rfl,hy⟩

theorem vl{base:Nat}(ht:P.underlying t=some (.slice e))(hv:Value.okWide P W .any base t v):v.cells= #[v]:=by
 cases v<;>first|rfl|(simp [Value.okWide,ht,Cell.okWide,Cell.ok]at hv)
theorem Ft{W' :World}{S' :SH}(h:fM om W S W' S'):Below W.heap.size W W' :=⟨h.os,h.tape,h.output,h.size,fun k hk=>h.heap k hk (fun h=>h)⟩
theorem wn(hl:laidOutB P=true){W W' :World}(hb:Below W.heap.size W W'){sp:Nat→Bool}: ∀{ts:List TypeId} {vs:List Value} {ds:List (DataW H)} {ps:List MemPlace},(∀t∈ts,P.readableRec t=true∧t<P.types.size)→
  DataW.TrodAll enc P W 0 (fun _=>true) true ts vs ds ps→(∀p∈ps,p.block<W.heap.size)→(∀p∈ps,sp p.block=true)→DataW.TrodAll enc P W' 0 sp true ts vs ds ps
 |[],[],[],_,_,h,_,_=>h
 |t::ts,v::vs,d::ds,_,hr,⟨p,q,h1,h2,e⟩,hlt,hsp=>by
  subst e
  have ht:=hr t (lV ..)
  exact⟨p,q,WideElems.Trod_stays hl ht.1 ht.2 h1 (fun x hx=>hb.same (hlt x (Df _ hx))) (fun x hx=>hsp x (Df _ hx)),
   wn hl hb (fun t ht=>hr t (kG _ ht)) h2 (fun x hx=>hlt x (List.mem_append_right _ hx)) (fun x hx=>hsp x (List.mem_append_right _ hx)),rfl⟩
theorem MK{f:Func}{s:ChangeSpec}{apart fresh handsOn again:Bool}{W' :World}{args:Array Value}{ds gs:List (DataW H)}{before:List MemPlace}{tb:TypeId}(hl:laidOutB P=true)(hr: ∀t∈f.params.toList,P.readableRec t=true∧t<P.types.size)(hvs:s.vars=[])(hres:f.resultTypes= #[tb])(htb:P.underlying tb=some .bool)(hW:DataW.Whole enc P f.params.toList s.vars apart W args.toList ds gs before)(hs:s.fn H (ds++gs)={results:=[.lit (.bool true)],args:=ds})(hb:Below W.heap.size W W'):
  s.post enc P f apart fresh handsOn again W args (.bool true) W' :=by
 have hW0:=hW
 have hlt:=hW.lt
 obtain⟨pa,pv,hA,hV,rfl,hz,hn⟩:=hW
 rw [hvs]at hV
 have hpv:pv=[]:=by
  cases gs with
  |nil=>exact hV
  |cons g gs=>exact hV.elim
 subst hpv
 have hlt' : ∀p∈pa,p.block<W.heap.size:=fun p hp=>hlt p (by simpa using hp)
 have hargs: ∀sp:Nat→Bool,(∀p∈pa,sp p.block=true)→DataW.TrodAll enc P W' 0 sp true f.params.toList args.toList ds pa:=fun sp hsp=>wn hl hb hr hA hlt' hsp
 have hresT: ∀(b:Nat) (sp:Nat→Bool) (hd:Bool),DataW.TrodAll enc P W' b sp hd f.resultTypes.toList ((Value.bool true).resultList f.resultTypes.size) [.lit (.bool true)] []:=fun b sp hd=>by
  rw [hres]
  exact⟨[],[],⟨1,by simp [DataW.trod,htb,Value.cells]⟩,rfl,rfl⟩
 have hvT: ∀sp:Nat→Bool,DataW.TrodVars enc P W' sp s.vars (s.fn H (ds++gs)).vars []:=fun sp=>by
  rw [hvs,hs];rfl
 have hargs' : ∀sp:Nat→Bool,(∀p∈pa,sp p.block=true)→DataW.TrodAll enc P W' 0 sp true f.params.toList args.toList (s.fn H (ds++gs)).args pa:=fun sp hsp=>by rw [hs];exact hargs sp hsp
 have hres' : ∀(b:Nat) (sp:Nat→Bool) (hd:Bool),DataW.TrodAll enc P W' b sp hd f.resultTypes.toList ((Value.bool true).resultList f.resultTypes.size) (s.fn H (ds++gs)).results []:=fun b sp hd=>by rw [hs];exact hresT b sp hd
 have hold: ∀p∈pa,(fun b=>decide (b<W.heap.size)) p.block=true:=fun p hp=>by simpa using hlt' p hp
 refine⟨ds,gs,pa++[],[],pa,[],hW0,hres' _ _ _,hargs' _ hold,hvT _,World.keptBut_mono (fun p hp=>⟨hp,?_⟩) (hb.frame _),fun _=>?_⟩
 ·right;simpa using hp
 ·refine⟨?_,_,_,([]++pa)++[],⟨[]++pa,[],trodAll_append (hargs' _ (fun _ _=>rfl)) (hres' _ _ _),hvT _,rfl,?_,?_⟩,?_⟩
  ·intro j t r h1 h2
   rw [hres]at h1 h2
   cases j with
   |zero=>
    simp [Value.resultList]at h1 h2
    subst h1 h2
    simp [Value.okWide,htb,Cell.okWide,Cell.ok]
   |succ j=>simp at h1
  ·intro b off hp
   have hp' :MemPlace.cell b off∈pa:=by simpa using hp
   have:=hlt' _ hp'
   rw [hb.frozen (p:=⟨b,off,none⟩) this]
   exact hz b off (by simpa using hp')
  ·intro ha
   have:=hn ha
   simpa using this
  ·intro p hp _
   simpa using hp
end

variable{ok:α→Prop}{xs:List α}
section
def SJ{α:Type}(r:Rp α)(ok:α→Prop):Rp α where
 sz:=r.sz
 agg:=r.agg
 rc:=fun S cs x=>r.rc S cs x∧ok x
 mono:=fun h k=>⟨r.mono h k.1,k.2⟩
 len:=fun k=>r.len k.1
 one:=fun k=>r.one k.1
 sc:=r.sc
def OR(k:IntKind)(n:Int):Prop:=k.min≤n∧n≤k.max
def Xz{α:Type}(ok:α→Prop)(xs:List α):Prop:=xs.length≤maxLen∧ ∀x∈xs,ok x
theorem F3(h:P.underlying t=some (.int k))(hc:P.cellsOf t=1):J4 enc P W t (SJ (rI k) (OR k)):=⟨hc,fun fuel cs x hx=>by
 cases fuel with
 |zero=>simp [DataW.trod]at hx
 |succ n=>
  unfold DataW.trod at hx
  rw [h]at hx
  split at hx
  all_goals try (injections;done)
  ·rename_i k1 k2 m heq
   injection heq with e
   injection e with e
   subst e
   split at hx
   ·rename_i h2
    obtain⟨rfl,h3⟩:=h2
    simp only [Lit.wf,iP,ui]at h3
    exact⟨m,rfl,h3⟩
   ·cases hx⟩
def TZ{α:Type}(r' r:Rp α)(ok:α→Prop):Prop:=r'.sz=r.sz∧r'.agg=r.agg∧ ∀S cs x,r'.rc S cs x→r.rc S cs x∧ok x
theorem HW:TZ (SJ r ok) r ok:=⟨rfl,rfl,fun _ _ _ h=>h⟩
theorem AR{α:Type}{r' r:Rp α}{ok:α→Prop}(h:TZ r' r ok){S:SH}: ∀{xs:List α} {cs:List Value},o5 r' S cs xs→o5 r S cs xs∧ ∀x∈xs,ok x
 |[],_,k=>⟨k,fun x hx=>by cases hx⟩
 |x::xs,_,⟨a,b,e,h1,h2⟩=>by
  obtain⟨g1,g2⟩:=h.2.2 _ _ _ h1
  obtain⟨g3,g4⟩:=AR h h2
  exact⟨⟨a,b,e,g1,g3⟩,fun y hy=>by
   rcases iC.1 hy with rfl|hy
   ·exact g2
   ·exact g4 y hy⟩
theorem HV(h:TZ r' r ok):TZ (fz r') (fz r) (Xz ok):=⟨rfl,rfl,fun S cs xs ⟨a,cap,e,h1,h2,h3⟩=>by
 rcases h3 with h3|⟨b,off,c,E,fr,e1,e2,e3⟩
 ·exact⟨⟨a,cap,e,h1,h2,.inl h3⟩,by omega,fun x hx=>by rw [h3]at hx;cases hx⟩
 ·rw [h.1]at e3
  obtain⟨g1,g2⟩:=AR h e3
  exact⟨⟨a,cap,e,h1,h2,.inr ⟨b,off,c,E,fr,e1,e2,g1⟩⟩,by omega,g2⟩⟩
theorem Ou(h:TZ r' r ok):TZ (iS r' n) (iS r n) (fun xs=>xs.length=n∧ ∀x∈xs,ok x):=
 ⟨by show n*r'.sz=n*r.sz;rw [h.1],rfl,fun S cs x ⟨h1,h2⟩=>⟨⟨h1,(AR h h2).1⟩,h1,(AR h h2).2⟩⟩
theorem Fw(h:J4 enc P W t r')(hr:TZ r' r ok)(hag:r.agg=false){d:DataW H}{ps:List MemPlace}(hv:DataW.Trod enc P W 0 (fun _=>true) true t v d ps)(hc:v.cells= #[v]): ∃y,(tD r y).p (E3 W) v∧ok y:=by
 obtain⟨y,cs,e,hy⟩:=Gc h (by rw [hr.2.1];exact hag) hv hc
 obtain⟨g1,g2⟩:=hr.2.2 _ _ _ hy
 exact⟨y,⟨cs,by rw [e];unfold Rp.val;rw [hr.2.1],g1⟩,g2⟩
end

variable{Ds:List (DataW Unit)}{agg:Bool}
section
variable{held:Bool}
def QY(P:Program)(W:World)(held:Bool)(t:TypeId)(D:DataW Unit)(cells:List Value):Prop:=
 P.cellsOf t=cells.length∧ ∀fuel cs x,DataW.trod (fun _=>()) P W 0 (fun _=>true) held fuel t cs=some x→x.1=D→cs=cells
theorem mZ{n:Int}(h:P.underlying t=some (.int k))(hc:P.cellsOf t=1):QY P W held t (.lit (.int k n)) [.int k n]:=⟨hc,fun fuel cs x hx hD=>by
 obtain⟨m,h1,h2,_⟩:=DataW.trod_int h hx
 subst h2
 simp only [DataW.lit.injEq,Lit.int.injEq,true_and]at hD
 rw [h1,hD]⟩
theorem dX{s:List UInt8}(h:P.underlying t=some .string)(hc:P.cellsOf t=1):QY P W held t (.lit (.string s)) [.string ⟨s.toArray⟩]:=⟨hc,fun fuel cs x hx hD=>by
 obtain⟨m,h1,h2,_⟩:=DataW.trod_string h hx
 subst h2
 simp only [DataW.lit.injEq,Lit.string.injEq]at hD
 subst hD
 rw [h1]⟩
def FC(P:Program)(W:World)(held:Bool)(off:Nat)(l:List (TypeId×Nat))(Ds:List (DataW Unit))(cells:List Value):Prop:=
 ∀(n:Nat) (cs:List Value),cs.length=off+cells.length→(∀(i:Nat) f,l[i]? =some f→ ∃x,DataW.trod (fun _=>()) P W 0 (fun _=>true) held n f.1 ((cs.drop f.2).take (P.cellsOf f.1))=some x∧Ds[i]? =some x.1)→cs.drop off=cells
theorem tH{off:Nat}:FC P W held off [] [] []:=fun n cs hl _=>As (by simp at hl;omega)
theorem cx{off off' :Nat}{l:List (TypeId×Nat)}{D:DataW Unit}{c:List Value}(h:QY P W held t D c)(ho:off' =off+c.length)(k:FC P W held off' l Ds cells):FC P W held off ((t,off)::l) (D::Ds) (c++cells):=fun n cs hl hx=>by
 obtain⟨x,h1,h2⟩:=hx 0 (t,off) rfl
 simp only [IX,Option.some.injEq]at h2
 have h3:=h.2 n _ x h1 h2.symm
 have h4:=k n cs (by rw [hl,ho,mq];omega) fun i f hf=>by simpa using hx (i+1) f (by simpa using hf)
 have e:cs.drop off=(cs.drop off).take (P.cellsOf t)++cs.drop off' :=by
  rw [ho,←h.1,←ud,sY]
 rw [e,h4]
 exact congrArg (· ++cells) h3
theorem oC{l:List (TypeId×Nat)}(ht:(P.underlying t).map (fun d=>match d with| .struct l=>(true,l.toList.map fun f=>(f.type,f.offset))|_=>(false,[]))=some (true,l))(hc:P.cellsOf t=cells.length)(hf:FC P W held 0 l Ds cells):QY P W held t (.agg Ds) cells:=⟨hc,fun fuel cs x hx hD=>by
 obtain⟨fs,h1,h2⟩: ∃fs,P.underlying t=some (.struct fs)∧fs.toList.map (fun f=>(f.type,f.offset))=l:=by
  cases hu:P.underlying t with
  |none=>rw [hu]at ht;cases ht
  |some d=>
   rw [hu]at ht
   cases d<;>simp at ht
   exact⟨_,rfl,ht⟩
 obtain⟨xs,n,rfl,h3,h4,h5,h6⟩:=DataW.trod_struct h1 hx
 rw [h3]at hD
 simp only [DataW.agg.injEq]at hD
 have:=hf n cs (by rw [h4,hc];omega) fun i f hi=>by
  rw [←h2,CI]at hi
  obtain⟨f0,hf0,rfl⟩:=Option.map_eq_some_iff.1 hi
  have h7:=h6 i f0 (by simpa using hf0)
  have hlt:i<xs.length:=by
   have:=(ox.1 hf0).1
   rw [h5];simpa using this
  rw [pR hlt]at h7
  exact⟨xs[i],h7,by rw [←hD];simp [hlt]⟩
 rwa [uc]at this⟩
theorem EB(ht:P.underlying t=some (.array m e))(hc:P.cellsOf t=cells.length)(hf:FC P W held 0 ((List.range m).map fun i=>(e,i*P.cellsOf e)) Ds cells):QY P W held t (.agg Ds) cells:=⟨hc,fun fuel cs x hx hD=>by
 obtain⟨xs,n,rfl,h3,h4,h5,h6⟩:=DataW.trod_array ht hx
 rw [h3]at hD
 simp only [DataW.agg.injEq]at hD
 have:=hf n cs (by rw [h4,hc];omega) fun i f hi=>by
  rw [CI]at hi
  obtain⟨j,hj,rfl⟩:=Option.map_eq_some_iff.1 hi
  obtain⟨hlt,hj2⟩:=ox.1 hj
  simp at hlt hj2
  subst hj2
  have h7:=h6 i hlt
  have hlt' :i<xs.length:=by rw [h5];exact hlt
  rw [pR hlt']at h7
  exact⟨xs[i],h7,by rw [←hD];simp [hlt']⟩
 rwa [uc]at this⟩
theorem GB: ∀{L:List (String×DataW Unit)} {ps:List MemPlace},DataW.LaidVars P W L ps→ ∀n d,(n,d)∈L→ ∃g t cs fuel p,P.globalNamed n=some g∧(P.globals[g]?).map (·.type)=some t∧W.var? P n=some cs∧DataW.trod (fun _=>()) P W 0 (fun _=>true) false fuel t cs.toList=some (d,p)
 |(_,_)::_,_,⟨g,t,cs,fuel,p,_,h1,h2,h3,h4,_,_⟩,_,_,.head _=>⟨g,t,cs,fuel,p,h1,h2,h3,h4⟩
 |(_,_)::_,_,⟨_,_,_,_,_,_,_,_,_,_,h,_⟩,n,d,.tail _ hm=>GB h n d hm
theorem tz{L:List (String×DataW Unit)}(h:laidMet P L W){n:String}{d:DataW Unit}(hm:(n,d)∈L){g:Nat}(hg:P.globalNamed n=some g)(ht:(P.globals[g]?).map (·.type)=some t)(hc:QY P W false t d cells):
  ∃c T fr,W.heap[g]? =some (.cells c T fr)∧c.toList.take cells.length=cells:=by
 obtain⟨ps,hL,_,_⟩:=h
 obtain⟨g',t',cs,fuel,p,h1,h2,h3,h4⟩:=GB hL n d hm
 obtain rfl:=mO (hg.symm.trans h1)
 obtain rfl:=mO (ht.symm.trans h2)
 have h5:=hc.2 fuel _ _ h4 rfl
 unfold World.var? at h3
 rw [hg]at h3
 simp only [cq]at h3
 split at h3
 ·rename_i c T fr hb
  cases h3
  exact⟨_,_,_,hb,by rw [h5,Bc]⟩
 ·cases h3
end

theorem Gk{α:Type}{r:Rp α}(hfree: ∀{S S' :SH} {cs:List Value} {x:α},r.rc S cs x→r.rc S' cs x){S S' :SH}: ∀{xs:List α} {cs:List Value},o5 r S cs xs→o5 r S' cs xs
 |[],_,h=>h
 |_::_,_,h=>by
  obtain⟨ds,es,h1,h2,h3⟩:=h
  exact⟨ds,es,h1,hfree h2,Gk hfree h3⟩
variable{S1:SH}{mm:Bool}{w:World}
theorem Xx(h:yq mm r T l cap xs w S)(hs:gR w S): ∃S1,SH.le S S1∧gR w S1∧(tD (fz r) xs).p S1 (aw l cap xs.length):=by
 cases mm with
 |true=>exact⟨S,SH.le_refl _,hs,ld h⟩
 |false=>
  obtain⟨cells,h1,h2,h3⟩:=h
  cases l with
  |none=>exact⟨S,SH.le_refl _,hs,ld (T:=T) ⟨cells,h1,h2,fun b hb=>(by cases hb)⟩⟩
  |some b=>
   obtain⟨cur,g1,g2,g3,g4,g5⟩:=h1
   have hoo:CC (.cells cells.toArray T (0,0)) (.cells cur T (0,0)):=by
    refine⟨cur.toList.drop (xs.length*r.sz),?_⟩
    congr 1
    apply Array.ext'
    rw [←g5,sY]
   have hn:S b=none:=h3 b rfl
   have hle:SH.le S (S.set b (.cells cells.toArray T (0,0))):=sL fun q hq=>(by rw [hn]at hq;cases hq)
   have hsat:gR w (S.set b (.cells cells.toArray T (0,0))):=hs.set g1 hoo fun q hq=>by rw [hn]at hq;cases hq
   refine⟨_,hle,hsat,ld (T:=T) ⟨cells,⟨cur,g1,g2,g3,g4,g5⟩,pr hle h2,fun b' hb' =>?_⟩⟩
   have hb2:b=b' :=mO hb'
   subst hb2
   exact kF _ _ _
variable{G:kb}{N:Fr}
section
theorem po{t:Ty}{vs:List Value}(h:t.p S1 v)(k:tP S1 ts vs):tP S1 (t::ts) (v::vs):=⟨h,k⟩
theorem IZ{G:kb}{t:Ty}(h:aE N G x t)(hf:co N S a G)(hle:SH.le S S1):t.p S1 (a.eval x):=t.mono hle (h S a hf)
theorem EH{b:Bool}(S S' :SH)(v:Value)(h:(tD rB b).p S v):(tD rB b).p S' v:=gi.2 (gi.1 h)
end
section
theorem zX{α:Type}{e:TypeId}{q:Rp α}(hq:J4 enc P W e q)(m:Nat): ∀(n:Nat) (cs:List Value),cs.length=n*q.sz→(∀i,i<n→ ∃x,DataW.trod enc P W 0 (fun _=>true) true m e ((cs.drop (i*q.sz)).take q.sz)=some x)→ ∃ys,ys.length=n∧o5 q (E3 W) cs ys
 |0,cs,hl,_=>⟨[],rfl,xm (by omega)⟩
 |n+1,cs,hl,hx=>by
  have hl' :cs.length=n*q.sz+q.sz:=by rw [hl,sS,Nat.one_mul]
  obtain⟨x,h0⟩:=hx 0 (by omega)
  rw [Nat.zero_mul,uc]at h0
  obtain⟨y,hy⟩:=hq.2 _ _ _ h0
  obtain⟨ys,h1,h2⟩:=zX hq m n (cs.drop q.sz) (by rw [zK];omega) fun i hi=>by
   obtain⟨x,h3⟩:=hx (i+1) (by omega)
   refine⟨x,?_⟩
   rw [ud,show q.sz+i*q.sz=(i+1)*q.sz from by rw [sS,Nat.one_mul];omega]
   exact h3
  exact⟨y::ys,by simp [h1],_,_,(sY q.sz cs).symm,hy,h2⟩
theorem Oh(h:P.underlying t=some (.array n e))(hc:P.cellsOf t=n*q.sz)(_h0:Nat.blt 0 q.sz=true)(hq:J4 enc P W e q):J4 enc P W t (iS q n):=⟨hc,fun fuel cs x hx=>by
 obtain⟨xs,m,_,_,h4,h5,h6⟩:=DataW.trod_array h hx
 obtain⟨ys,k1,k2⟩:=zX hq m n cs (by rw [h4,hc]) fun i hi=>by
  have h7:=h6 i hi
  rw [hq.1,pR (by rw [h5];exact hi)]at h7
  exact⟨_,h7⟩
 exact⟨ys,k1,k2⟩⟩
end

section
theorem hH{y:α}(hag:r.agg=true)(hr: ∀S,r.rc S [v] y)(h:aE N G x (tV (.agg #[v]))):aE N G x (tD r y):=fun S a hf=>⟨[v],by rw [Rp.val,dy hag];exact h S a hf,hr S⟩
end

section
variable{N:Nat}{w0:World}{S0:SH}{fn:Func}{O1:List OE}{ι:Type}{t:ι→Ty}{O2:ι→List OE}
end
section
variable{c:Code}
end


theorem J{α:Sort _}{a:α}:a=a:=rfl
theorem aU:True:=trivial
abbrev bH(x:Int):Ty:=tD (rI .i64) x
abbrev gK(x:Bool):Ty:=tD rB x
abbrev hM{α:Type}(l:List α):Ty:=tD (rI .i64) (l.length:Int)
abbrev iv:Rp (List Int):=fz (rI .i64)
abbrev kz(l:List Int):Ty:=tD (fz (rI .i64)) l
abbrev d7{α:Type}(r:Rp α)(l:List α):Ty:=tD (fz r) l
abbrev pQ{α:Type}(l:Option Nat)(c:Nat)(xs:List α):Ty:=tV (aw l c xs.length)
theorem aZ: ∀{G' G:kb},G'.map (fun p=>look G p.1)=G'.map (fun p=>some p.2)→HD G' G
 |[],_,_=>trivial
 |(_,_)::_,_,h=>⟨(List.cons.inj h).1,aZ (List.cons.inj h).2⟩

variable{O:List OE}{U:TypeId}{after:Array Edge}{bytes:Nat}{dst:Option Tmp}{pos:String}{sz:Nat}{ty:TypeId}
section
theorem cL{x:Nat}{t:Ty}(h:look G x=some t):bS E O G ⟨dst,.move (.tmp x),ty,pos,after,g⟩ t:=bl (ht h)
theorem zM{x:Nat}{t:Ty}(h:look G x=some t):bS E O G ⟨dst,.assign (.tmp x),ty,pos,after,g⟩ t:=bm (ht h)
theorem cQ{n:Int}:bS E O G ⟨dst,.assign (.const (.int k n)),ty,pos,after,g⟩ (tD (rI k) n):=bm hI
theorem fJ{b:Bool}:bS E O G ⟨dst,.assign (.const (.bool b)),ty,pos,after,g⟩ (tD rB b):=bm hB
theorem bz{x:α}(ti:TI E.P U sz bytes agg z)(hp:look G p=some (bq r x))(hs:(r.sz,r.agg)=(sz,agg)):
  bS E O G ⟨dst,.load U (.tmp p),ty,pos,after,g⟩ (tD r x):=aY ti (Prod.mk.inj hs).1 (Prod.mk.inj hs).2 (ht hp)
theorem cd{q:Rp β}{get:α→β}{x:α}{off:Nat}(hf:bZ E.P T i=some (off,sz))(hq:ka r off q get)(hp:look G p=some (bq r x))(h0:(!(Nat.beq sz 0)&&Nat.ble (off+q.sz) r.sz)=true):bS E O G ⟨dst,.fieldAddr T (.tmp p) i,ty,pos,after,g⟩ (bq q (get x)):=
 dh hf (by cases h:Nat.beq sz 0<;>simp [h]at h0 ⊢) hq (by revert h0;cases Nat.ble (off+q.sz) r.sz<;>simp) (ht hp)
theorem ja{x:Nat}(hu:E.P.underlying t=some (.slice e))(hx:look G x=some (tD (fz r) xs)):
  bS E O G ⟨dst,.call ⟨.builtin .len,#[.tmp x],#[t]⟩,ty,pos,after,g⟩ (tD (rI .i64) (xs.length:Int)):=bN hu (ht hx)
theorem hY{x:Nat}{t:Ty}(hi:ts[i]? =some t)(hx:look G x=some (tT ts)):bS E O G ⟨dst,.extract (.tmp x) i,ty,pos,after,g⟩ t:=BJ hi (ht hx)
theorem jh{v:α}{x:Nat}(hx:look G x=some (tD r v)):bS E O G ⟨dst,.box T (.tmp x),ty,pos,after,g⟩ (bq r v):=Ic (ht hx)
theorem la{x:Nat}{b q:Bool}(hc:look G c=some (tD rB b))(hx:look G x=some (qJ b (tD rB q))):bS E O G ⟨dst,.pick (.tmp c) (.tmp x) (.const (.bool false)),ty,pos,after,g⟩ (tD rB (b&&q)):=mf (ht hc) (fun hb=>aS hx hb)
theorem pZ{x:Nat}{b q:Bool}(hc:look G c=some (tD rB b))(hx:look G x=some (qJ (!b) (tD rB q))):bS E O G ⟨dst,.pick (.tmp c) (.const (.bool true)) (.tmp x),ty,pos,after,g⟩ (tD rB (b||q)):=lA (ht hc) (fun hb=>aS hx (oL hb))
variable{xt yt:TypeId}{x y:Nat}{m n:Int}
theorem eK(hx:look G x=some (tD (rI k) m))(hy:look G y=some (tD (rI k) n)):bS E O G ⟨dst,.binOp .lss xt (.tmp x) (.tmp y) yt,ty,pos,after,g⟩ (tD rB (decide (m<n))):=dI (ht hx) (ht hy)
theorem jy{j:IntKind}(hx:look G x=some (tD (rI j) m)):bS E O G ⟨dst,.binOp .eql xt (.tmp x) (.const (.int j n)) yt,ty,pos,after,g⟩ (tD rB (m==n)):=bK (ht hx) hI
theorem rn{j:IntKind}(hx:look G x=some (tD (rI j) m)):bS E O G ⟨dst,.binOp .neq xt (.tmp x) (.const (.int j n)) yt,ty,pos,after,g⟩ (tD rB (m !=n)):=dg (ht hx) hI
theorem iX{y:α}{x ix:Nat}{k:IntKind}{i:Int}(hu:E.P.underlying t=some (.slice e))(ti:TI E.P e sz bytes agg z)(hsz:r.sz=sz)(hx:look G x=some (tD (fz r) xs))(hi:look G ix=some (tD (rI k) i))(hy:dR xs i=some y):
  bS E O G ⟨dst,.indexAddr t (.tmp x) (.tmp ix),ty,pos,after,g⟩ (bq r y):=bX hu ti hsz (ht hx) (ht hi) hy
theorem jU{x:Nat}{xt yt:TypeId}(hi:i<9223372036854775807)(hx:look G x=some (tD (rI .i64) (i:Int))):
  bS E O G ⟨dst,.binOp .add xt (.tmp x) (.const (.int .i64 1)) yt,ty,pos,after,g⟩ (tD (rI .i64) ((i+1:Nat):Int)):=rA hi (ht hx) hI
theorem fI{off o:Nat}(n:Nat)(hf:bZ E.P T i=some (off,sz))(h0:Nat.beq sz 0=false)(hp:look G p=some (tV (aI b o)))(he:o+off=n):bS E O G ⟨dst,.fieldAddr T (.tmp p) i,ty,pos,after,g⟩ (tV (aI b n)):=bP (n:=n) hf h0 (ht hp) he
end
variable{Q:Exit→Act→World→Prop}{op:Op}{ops:Array Oper}
section
variable{l:List Oper}
theorem zo{t:Ty}(hd:Nat.blt d E.N.n=true)(h:bS E O G ⟨some d,op,ty,pos,after,none⟩ t)(k:RG E ops Q l O ((d,t)::G)):
  RG E ops Q (⟨some d,op,ty,pos,after,none⟩::l) O G:=NM h hd k
def Rn(n d:Nat)(r:Option Ty):Option Ty:=if Nat.blt d n then r else none
theorem jS{r:Option Ty}{t:Ty}(h:Rn n d r=some t):Nat.blt d n=true∧r=some t:=by
 unfold Rn at h;split at h
 case isTrue h1=>exact⟨h1,h⟩
 case isFalse=>cases h
theorem aA{x:Nat}{t:Ty}(h:Rn E.N.n d (look G x)=some t)(k:RG E ops Q l O ((d,t)::G)):
  RG E ops Q (⟨some d,.move (.tmp x),ty,pos,after,none⟩::l) O G:=NM (bl (ht (jS h).2)) (jS h).1 k
theorem bk{x:Nat}{t:Ty}(h:Rn E.N.n d (look G x)=some t)(k:RG E ops Q l O ((d,t)::G)):
  RG E ops Q (⟨some d,.assign (.tmp x),ty,pos,after,none⟩::l) O G:=NM (bm (ht (jS h).2)) (jS h).1 k
theorem an{y:Code}(h:CG E Q y O G):RG E ops (Exit.then (y.wpIn (fw E.r) 0 E.P Q) Q) [] O G:=aH (au h)
theorem aq{id:Nat}{l:List Oper}{y:Code}(h:RG E l.toArray (Exit.then (y.wpIn (fw E.r) 0 E.P Q) Q) l O G):CG E Q (.seq (.region id l.toArray false) y) O G:=ae (ai h)
theorem cX{β:Type _}{X Y:Option β}{r:β}{x y:Code}{b:Bool}(h:(if b=true then X else Y)=some r)(hb:look G c=some (tD rB b))(hx:X=some r→CG E Q x O G)(hy:Y=some r→CG E Q y O G):CG E Q (.cond (.tmp c) x y) O G:=
 oj (ht hb) (fun hc=>hx (ct h hc)) (fun hc=>hy (cf h hc))
theorem dA{y:Code}(h:CG E Q y O G):CG E (Exit.then (y.wpIn (fw E.r) 0 E.P Q) Q) .skip O G:=bA (au h)
theorem bO{b:Bool}{t:Ty}(hj:(ops[j]?).bind (·.dst)=some gs)(hg:Rn E.N.n gs (Rn E.N.n d (look G gs))=some (tD rB b))(h:b=true→bS E O G ⟨some d,op,ty,pos,after,some (j,true)⟩ t)(k:RG E ops Q l O ((d,qJ b t)::G)):RG E ops Q (⟨some d,op,ty,pos,after,some (j,true)⟩::l) O G:=Q8 hj (jS hg).1 (jS (jS hg).2).2 (jS (jS hg).2).1 h k
theorem cN{b:Bool}{t:Ty}(hj:(ops[j]?).bind (·.dst)=some gs)(hg:Rn E.N.n gs (Rn E.N.n d (look G gs))=some (tD rB b))(h:(!b)=true→bS E O G ⟨some d,op,ty,pos,after,some (j,false)⟩ t)(k:RG E ops Q l O ((d,qJ (!b) t)::G)):RG E ops Q (⟨some d,op,ty,pos,after,some (j,false)⟩::l) O G:=Q9 hj (jS hg).1 (jS (jS hg).2).2 (jS (jS hg).2).1 h k
end
theorem bF{α:Type _}{β:Type _}{x:Option α}{k:α→Option β}{r:β}{P:Prop}(h:x.bind k=some r)(f: ∀y,x=some y→k y=some r→P):P:=by
 obtain⟨y,h1,h2⟩:=bs h;exact f y h1 h2
variable{u u1:Ty}
section
variable{l:List Oper}{o:Oper}{t:Ty}
theorem xe{a b c:Bool}(h:(a&&b&&c)=true):a=true∧b=true∧c=true:=by revert h;cases a<;>cases b<;>cases c<;>simp
theorem Ud{x:Option α}(h:x.isNone=true):x=none:=by cases x;rfl;cases h
theorem zd0(h:ts[i]? =some t)(hb:(d8 i o&&o.guard.isNone)=true)(k:bS E O [] o t): ∃(needs:List Nd) (t:Ty),ts[i]? =some t∧pV G ts needs∧(needs.all (nc l o i))=true∧d8 i o=true∧cc E O l.toArray (iz needs) o t:=
 ⟨[],t,h,trivial,rfl,(FL.1 hb).1,ak (Ud (FL.1 hb).2) k⟩
theorem ia(a:Nat)(h:ts[i]? =some t)(hu:tS G ts ⟨a,u,none⟩)(hb:([(⟨a,u,none⟩:Nd)].all (nc l o i)&&d8 i o&&o.guard.isNone)=true)(k:bS E O [(a,u)] o t): ∃(needs:List Nd) (t:Ty),ts[i]? =some t∧pV G ts needs∧(needs.all (nc l o i))=true∧d8 i o=true∧cc E O l.toArray (iz needs) o t:=
 ⟨[(⟨a,u,none⟩:Nd)],t,h,⟨hu,trivial⟩,(xe hb).1,(xe hb).2.1,ak (Ud (xe hb).2.2) k⟩
theorem cO(a:Nat)(j:Nat)(h:ts[i]? =some t)(hu:tS G ts ⟨a,u,(some j)⟩)(hb:([(⟨a,u,(some j)⟩:Nd)].all (nc l o i)&&d8 i o&&o.guard.isNone)=true)(k:bS E O [(a,u)] o t): ∃(needs:List Nd) (t:Ty),ts[i]? =some t∧pV G ts needs∧(needs.all (nc l o i))=true∧d8 i o=true∧cc E O l.toArray (iz needs) o t:=
 ⟨[(⟨a,u,(some j)⟩:Nd)],t,h,⟨hu,trivial⟩,(xe hb).1,(xe hb).2.1,ak (Ud (xe hb).2.2) k⟩
theorem Od(a:Nat)(a1:Nat)(j1:Nat)(h:ts[i]? =some t)(hu:tS G ts ⟨a,u,none⟩)(hu1:tS G ts ⟨a1,u1,(some j1)⟩)(hb:([(⟨a,u,none⟩:Nd),⟨a1,u1,(some j1)⟩].all (nc l o i)&&d8 i o&&o.guard.isNone)=true)(k:bS E O [(a,u),(a1,u1)] o t): ∃(needs:List Nd) (t:Ty),ts[i]? =some t∧pV G ts needs∧(needs.all (nc l o i))=true∧d8 i o=true∧cc E O l.toArray (iz needs) o t:=
 ⟨[(⟨a,u,none⟩:Nd),⟨a1,u1,(some j1)⟩],t,h,⟨hu,hu1,trivial⟩,(xe hb).1,(xe hb).2.1,ak (Ud (xe hb).2.2) k⟩
theorem qD(a:Nat)(a1:Nat)(j1:Nat)(h:ts[i]? =some t)(hu:tS G ts ⟨a,u,none⟩)(hu1:tS G ts ⟨a1,u1,(some j1)⟩)(hb:([(⟨a,u,none⟩:Nd),⟨a1,u1,(some j1)⟩].all (nc l o i)&&d8 i o)=true)(k:cc E O l.toArray [(a,u),(a1,u1)] o t): ∃(needs:List Nd) (t:Ty),ts[i]? =some t∧pV G ts needs∧(needs.all (nc l o i))=true∧d8 i o=true∧cc E O l.toArray (iz needs) o t:=
 ⟨[(⟨a,u,none⟩:Nd),⟨a1,u1,(some j1)⟩],t,h,⟨hu,hu1,trivial⟩,(FL.1 hb).1,(FL.1 hb).2,k⟩
theorem ft(a:Nat)(j:Nat)(a1:Nat)(j1:Nat)(h:ts[i]? =some t)(hu:tS G ts ⟨a,u,(some j)⟩)(hu1:tS G ts ⟨a1,u1,(some j1)⟩)(hb:([(⟨a,u,(some j)⟩:Nd),⟨a1,u1,(some j1)⟩].all (nc l o i)&&d8 i o&&o.guard.isNone)=true)(k:bS E O [(a,u),(a1,u1)] o t): ∃(needs:List Nd) (t:Ty),ts[i]? =some t∧pV G ts needs∧(needs.all (nc l o i))=true∧d8 i o=true∧cc E O l.toArray (iz needs) o t:=
 ⟨[(⟨a,u,(some j)⟩:Nd),⟨a1,u1,(some j1)⟩],t,h,⟨hu,hu1,trivial⟩,(xe hb).1,(xe hb).2.1,ak (Ud (xe hb).2.2) k⟩
theorem hZ(a:Nat)(j:Nat)(a1:Nat)(j1:Nat)(h:ts[i]? =some t)(hu:tS G ts ⟨a,u,(some j)⟩)(hu1:tS G ts ⟨a1,u1,(some j1)⟩)(hb:([(⟨a,u,(some j)⟩:Nd),⟨a1,u1,(some j1)⟩].all (nc l o i)&&d8 i o)=true)(k:cc E O l.toArray [(a,u),(a1,u1)] o t): ∃(needs:List Nd) (t:Ty),ts[i]? =some t∧pV G ts needs∧(needs.all (nc l o i))=true∧d8 i o=true∧cc E O l.toArray (iz needs) o t:=
 ⟨[(⟨a,u,(some j)⟩:Nd),⟨a1,u1,(some j1)⟩],t,h,⟨hu,hu1,trivial⟩,(FL.1 hb).1,(FL.1 hb).2,k⟩
theorem Rg(a:Nat)(j:Nat)(a1:Nat)(j1:Nat)(a2:Nat)(j2:Nat){u2:Ty}(h:ts[i]? =some t)(hu:tS G ts ⟨a,u,(some j)⟩)(hu1:tS G ts ⟨a1,u1,(some j1)⟩)(hu2:tS G ts ⟨a2,u2,(some j2)⟩)(hb:([(⟨a,u,(some j)⟩:Nd),⟨a1,u1,(some j1)⟩,⟨a2,u2,(some j2)⟩].all (nc l o i)&&d8 i o&&o.guard.isNone)=true)(k:bS E O [(a,u),(a1,u1),(a2,u2)] o t): ∃(needs:List Nd) (t:Ty),ts[i]? =some t∧pV G ts needs∧(needs.all (nc l o i))=true∧d8 i o=true∧cc E O l.toArray (iz needs) o t:=
 ⟨[(⟨a,u,(some j)⟩:Nd),⟨a1,u1,(some j1)⟩,⟨a2,u2,(some j2)⟩],t,h,⟨hu,hu1,hu2,trivial⟩,(xe hb).1,(xe hb).2.1,ak (Ud (xe hb).2.2) k⟩
theorem wl(a:Nat)(j:Nat)(a1:Nat)(j1:Nat)(a2:Nat)(j2:Nat){u2:Ty}(h:ts[i]? =some t)(hu:tS G ts ⟨a,u,(some j)⟩)(hu1:tS G ts ⟨a1,u1,(some j1)⟩)(hu2:tS G ts ⟨a2,u2,(some j2)⟩)(hb:([(⟨a,u,(some j)⟩:Nd),⟨a1,u1,(some j1)⟩,⟨a2,u2,(some j2)⟩].all (nc l o i)&&d8 i o)=true)(k:cc E O l.toArray [(a,u),(a1,u1),(a2,u2)] o t): ∃(needs:List Nd) (t:Ty),ts[i]? =some t∧pV G ts needs∧(needs.all (nc l o i))=true∧d8 i o=true∧cc E O l.toArray (iz needs) o t:=
 ⟨[(⟨a,u,(some j)⟩:Nd),⟨a1,u1,(some j1)⟩,⟨a2,u2,(some j2)⟩],t,h,⟨hu,hu1,hu2,trivial⟩,(FL.1 hb).1,(FL.1 hb).2,k⟩
end

def Xg{α:Type}(r:Rp α):Rp α where
 sz:=1
 agg:=false
 rc:=fun S cs x=> ∃v,cs=[v]∧(bq r x).p S v
 mono:=fun h ⟨v,e,k⟩=>⟨v,e,(bq r _).mono h k⟩
 len:=fun⟨_,e,_⟩=>by rw [e];rfl
 one:=fun⟨v,e,b,off,c,U,fr,h,_⟩ c' hc=>by rw [e]at hc;simp at hc;subst hc;rw [h];rfl
 sc:=fun _=>rfl
theorem Oo{x:α}:(tD (Xg r) x).p S v↔(bq r x).p S v:=by
 constructor
 ·rintro⟨cs,rfl,w,rfl,h⟩;exact h
 ·intro h;exact⟨[v],rfl,v,rfl,h⟩
def LV{α:Type}(r:Rp α):Rp (Option α) where
 sz:=1
 agg:=false
 rc:=fun S cs o=> ∃v,cs=[v]∧match o with|none=>v= .pointer none|some x=>(bq r x).p S v
 mono:=fun{S S' cs o} h ⟨v,e,k⟩=>⟨v,e,by cases o with|none=>exact k|some x=>exact(bq r x).mono h k⟩
 len:=fun⟨_,e,_⟩=>by rw [e];rfl
 one:=fun{S cs o} ⟨v,e,k⟩ c' hc=>by
  rw [e]at hc;simp at hc;subst hc
  cases o with
  |none=>rw [show c' = .pointer none from k];rfl
  |some x=>obtain⟨b,off,c,U,fr,h,_⟩:=k;rw [h];rfl
 sc:=fun _=>rfl
theorem Lo:aE N G (.const (.pointer none)) (tD (LV r) none):=fun _ _ _=>⟨[.pointer none],rfl,_,rfl,rfl⟩
theorem xy{x:α}:(tD (LV r) (some x)).p S v↔(bq r x).p S v:=by
 constructor
 ·rintro⟨cs,rfl,w,rfl,h⟩;exact h
 ·intro h;exact⟨[v],rfl,v,rfl,h⟩
theorem XA{x:α}{u:Option α}(h:aE N G o (tD (LV r) u))(e:u=some x):aE N G o (bq r x):=fun S a hf=>by
 subst e;exact xy.1 (h S a hf)

theorem UA{rd:Rp β}{x:α}{y:β}(h:(bx r T b x).p w S)(hs:gR w S)(cv: ∀cs,r.rc S cs x→rd.rc S cs y): ∃S1,SH.le S S1∧gR w S1∧(bq rd y).p S1 (aI b 0):=by
 obtain⟨hn,c,h2,h3⟩:=h
 have hle:SH.le S (S.set b (.cells c T (0,0))):=sL fun q hq=>(by rw [hn]at hq;cases hq)
 have hsat:gR w (S.set b (.cells c T (0,0))):=hs.set h2 (q0 _) fun q hq=>by rw [hn]at hq;cases hq
 have h4:=cv _ h3
 have hl:c.toList.length=rd.sz:=rd.len h4
 refine⟨_,hle,hsat,b,0,c,T,(0,0),rfl,kF _ _ _,?_⟩
 rw [uc,wb (by omega)]
 exact rd.mono hle h4
variable{el:TypeId}{γ:Type}
section
theorem BK{f:FuncId}{xs:List Operand}{ats:Array TypeId}{t:Ty}{rd:Rp β}{x:α}{y:β}(hm:bx r T b x∈O)(hc:ah E.P f=true)(hs:aN E.P f ts t)(cv: ∀w S cs,dp E.base E.B w S O→r.rc S cs x→rd.rc S cs y)(hx: ∀(S S1:SH) (a:Act),co E.N S a G→SH.le S S1→(bq rd y).p S1 (aI b 0)→tP S1 ts (xs.map a.eval))(htf: ∀(S S' :SH) (v:Value),t.p S v→t.p S' v):
  bS E O G ⟨dst,.call ⟨.value (.func f),xs.toArray,ats⟩,ty,pos,after,g⟩ t:=fun a w S hS hO hF=>by
 have hr:(execOp a.eval ⟨dst,.call ⟨.value (.func f),xs.toArray,ats⟩,ty,pos,after,g⟩).run E.P w= .ok (.enter f (xs.map a.eval).toArray) w:=by
  simp [execOp,resolve,Act.eval,Deferred.ofValue,invoke,fx hc]
 refine⟨fun c h=>(by cases h),?_⟩
 rw [hr]
 obtain⟨S1,k1,k2,k3⟩:=UA (dp.mem hO _ hm).1 hS (fun cs h=>cv w S cs hO h)
 exact(hs w S1 _ k2 (hx S S1 a hF k1 k3)).mono fun e w' ⟨v,S',he,h1,h2,h3⟩=>⟨v,he,v,S,rfl,
  ⟨h1.os,h1.tape,h1.output,h1.drawn,h1.size,h1.heap,SH.le_refl _,fun _ _ _=>rfl⟩,hS.same fun b o k=>h1.heap b (hS.lt k) (fun hb=>hb),htf S' S v h3⟩
theorem I5{G:kb}{x:α}(h:aE N G o (tV (aI b 0)))(hf:co N S a G)(hk:(bq r x).p S1 (aI b 0)):(bq r x).p S1 (a.eval o):=by
 rw [show a.eval o=aI b 0 from h S a hf];exact hk

def na(t:Nat→Ty):Ty where
 p:=fun S v=> ∀b,(t b).p S v
 mono:=fun h k b=>(t b).mono h (k b)
theorem BY{t:Nat→Ty}(h: ∀b,aE N G o (t b)):aE N G o (na t):=fun S a hf b=>h b S a hf
theorem UL{t:Nat→Ty}(b:Nat)(h:aE N G o (na t)):aE N G o (t b):=fun S a hf=>h S a hf b

theorem qK{r' :Rp γ}{q:Rp β}{hs hs' :HL}{off:Nat}{x:α}{x' :γ}{y:β}(h:mY r r' off q x y x')(hk:T7 hs off q.sz none hs')(hoff:Nat.ble (off+q.sz) r.sz=true):mY (rH r hs) (rH r' hs') off q x y x' :=fun S cs ds h1 h2=>by
 refine⟨h S cs ds h1.1 h2,fun p hp=>?_⟩
 rcases hk.all p hp with⟨e,_⟩|⟨g1,g2⟩
 ·cases e
 ·have hl:=r.len h1.1
  rw [rO (q.len h2) (by have:=oq hoff;omega) g2]
  exact h1.2 _ (qq g1)
theorem QM{r' :Rp γ}{x:α}{x' :γ}{hs:HL}(h:(rH r hs).rc S cs x)(k:r.rc S cs x→r'.rc S cs x'):(rH r' hs).rc S cs x' :=⟨k h.1,h.2⟩

theorem I8(hq:q.sz=1)(h:o5 q S cs xs)(hm:m≤xs.length):o5 q S (cs.take m) (xs.take m)∧o5 q S (cs.drop m) (xs.drop m):=by
 have:=nu (xs:=xs.take m) (ys:=xs.drop m) (by rw [sY];exact h)
 rwa [CE,xi hm,hq,Nat.mul_one]at this
def rN{α:Type}(xs ys:List α):List α:=ys.take xs.length++xs.drop (min ys.length xs.length)
theorem Fs:(rN xs ys).length=xs.length:=by
 unfold rN
 simp
 omega
theorem Gy{p:Operand}(hu:E.P.underlying T=some (.array n el))(hs:((E.P.info? el).map (·.size)).isSome=true)(hp:aE E.N G p (tV (aI b 0))):
  bS E O G ⟨dst,.slice T p none none none,ty,pos,after,g⟩ (tV (.slice (some ⟨b,0,none⟩) n n)):= .of_pure fun a w S _ _ hf=>by
 have h1:a.eval p=aI b 0:=hp S a hf
 cases hq:E.P.info? el with
 |none=>simp [hq]at hs
 |some i=>exact⟨_,by simp [execOp,h1,aI,Instr.sliceAt,hU hu,Instr.sureAddr,Instr.sliceBounds,sizeOf,typeInfo,hq,Result.andThen];intro _;rfl,rfl⟩
end
variable{lo:Int}
section
variable{c:Code}
theorem eV{y:α}{u:Option α}(hx:aE E.N G x (tD (LV r) u))(e:u=some y):bS E O G ⟨dst,.nilCheck x,ty,pos,after,g⟩ (bq r y):=Jb (XA hx e)
theorem St.ptAt{x:α}{k:Nat}(h:St E O G a w S)(hk:look G k=some (bq r x)):St E O ((k,tD (LV r) (some x))::G) a w S:=h.cons (xy.2 (h.facts.at_ k _ hk))
theorem Q7{x:α}(k:Nat)(hk:look G k=some (bq r x))(h:RG E ops Q rest O ((k,tD (LV r) (some x))::G)):RG E ops Q rest O G:=fun a w S st=>h a w S (st.ptAt hk)
theorem Rf{e:Exit}{x:α}(k:Nat)(hk:look G k=some (bq r x))(h:AT E Q e O ((k,tD (LV r) (some x))::G)):AT E Q e O G:=fun a w S st=>h a w S (st.ptAt hk)
theorem Lx{dT sT:TypeId}(hq:q.sz=1)(hu:E.P.underlying dT=some (.slice el))(hs:(E.P.info? el).map (·.size)=some 1)(hx:aE E.N G x (tV (.slice (some ⟨b,0,none⟩) n n)))(hy: ∀a w S,gR w S→dp E.base E.B w S (bx (iS q n) T b xs::O)→co E.N S a G→ ∃S1,gR w S1∧(tD (fz q) ys).p S1 (a.eval y)∧ ∀cs zs,o5 q S1 cs zs→o5 q S cs (zs:List α)):
  EffOK E (bx (iS q n) T b xs::O) G ⟨some d,.call ⟨.builtin .copy,#[x,y],#[dT,sT]⟩,ty,pos,after,g⟩ (fun _=>bx (iS q n) T b (rN xs ys)::O) (fun _=>tD (rI .i64) ((min ys.length n:Nat):Int)):=fun a w S hs0 ho hf hb=>by
 have h1:a.eval x= .slice (some ⟨b,0,none⟩) n n:=hx S a hf
 obtain⟨S1,hS1,hy1,hback⟩:=hy a w S hs0 ho hf
 obtain⟨ad,cap,h2,_,_,h3⟩:=lP.1 hy1
 obtain⟨⟨hno,cur,h5,h6,h7⟩,_⟩:=ho.1
 have hcl:cur.toList.length=n:=by rw [j9 h7,hq,h6,Nat.mul_one]
 have hm:min ys.length n≤ys.length:=Nat.min_le_left _ _
 obtain⟨cs,hcs,hrun,hlen⟩: ∃cs,o5 q S cs (ys.take (min ys.length n))∧(Builtin.copy_ #[dT,sT] ty #[.slice (some ⟨b,0,none⟩) n n,a.eval y]).run E.P w= .ok (goInt cs.length) (w.setRow b (cs++cur.toList.drop cs.length).toArray)∧cs.length=min ys.length n:=by
  rw [h2]
  rcases h3 with rfl|⟨b',off,c,T',fr,rfl,e2,e3⟩
  ·refine⟨[],by simp [o5],?_,by simp⟩
   cases hel:E.P.info? el with
   |none=>simp [hel]at hs
   |some i=>
    have hi:i.size=1:=by simpa [hel] using hs
    have hself:w.setRow b (([]:List Value)++cur.toList.drop ([]:List Value).length).toArray=w:=by simpa using setRow_self w b cur T (0,0) h5
    rw [hself]
    cases ad with
    |none=>simp [Builtin.copy_,hU hu,Builtin.lenOf,Builtin.firstCells,sizeOf,typeInfo,hel,hi,storeCells]
    |some p=>
     have hl:=run_loadCells_list (P:=E.P) w p [] (fun j v hv=>by simp at hv)
     simp only [CD]at hl
     simp [Builtin.copy_,hU hu,Builtin.lenOf,Builtin.firstCells,sizeOf,typeInfo,hel,hi,storeCells,hl]
  ·obtain⟨c',h8,h9⟩:=hS1.part e2 (j9 e3)
   obtain⟨d1,d2⟩:=I8 hq e3 hm
   rw [Al,hq,Nat.mul_one,xi hm]at d1
   have hl:((c.toList.drop off).take (min ys.length n)).length=min ys.length n:=by
    rw [j9 d1,hq,Nat.mul_one,CE,xi hm]
   have hcs:cur.size=n:=by simpa using hcl
   refine⟨_,hback _ _ d1,?_,hl⟩
   have:=run_copy_row (P:=E.P) w dT sT ty el b 0 n n ⟨b',off,none⟩ ys.length cap cur T ((c.toList.drop off).take (min ys.length n)) hu hs h5 hl (fun j v hv=>?_) (by rw [hl];omega) (xH d1)
   ·simpa using this
   ·have hj:j<min ys.length n:=by rw [←hl];exact(ox.1 hv).1
    have hcell:w.cell? ⟨b',off+j,none⟩=c'[off+j]? :=vV h8 _
    rw [gA]
    show w.cell? ⟨b',off+j,none⟩=_
    rw [hcell]
    have h10:((c'.toList.drop off).take (ys.length*q.sz))[j]? =((c.toList.drop off).take (ys.length*q.sz))[j]? :=by rw [h9]
    rw [yN (by rw [hq];omega),yN (by rw [hq];omega),ul,ul]at h10
    rw [yN hj,ul]at hv
    rw [←hv,←IU,h10]
 have hx' :(execOp a.eval ⟨some d,.call ⟨.builtin .copy,#[x,y],#[dT,sT]⟩,ty,pos,after,g⟩).run E.P w= .ok (.value (goInt cs.length)) (w.setRow b (cs++cur.toList.drop cs.length).toArray):=by
  simp [execOp,resolve,h1,invoke,builtin,hrun]
 refine⟨fun c h=>(by cases h),?_⟩
 rw [hx']
 have hle:min ys.length n≤xs.length:=by rw [h6];exact Nat.min_le_right _ _
 obtain⟨_,d4⟩:=I8 hq h7 hle
 have hnew:(iS q n).rc S (cs++cur.toList.drop cs.length) (rN xs ys):=by
  refine⟨by rw [Fs];exact h6,?_⟩
  unfold rN
  rw [h6,hlen]
  have e1:ys.take n=ys.take (min ys.length n):=by
   rw [List.take_eq_take_iff];omega
  rw [e1]
  exact qT hcs d4
 obtain⟨g1,g2,g3⟩:=ly (O:=O) hs0 (w' :=w.setRow b (cs++cur.toList.drop cs.length).toArray) (bx (iS q n) T b xs) (bx (iS q n) T b (rN xs ys)) ho (fun _=>pm) (fun _=>pm) ⟨rfl,rfl,rfl,by simp [World.setRow],gp _⟩ (fun k hk=>setRow_other w b k _ hk) ⟨hno,_,setRow_heap w b cur _ T _ h5,by simpa using hnew⟩ hno
 refine⟨_,S,wc,rfl,g1.more fun k hk=>⟨_,lV ..,hk⟩,g2,g3,?_⟩
 rw [hlen]
 exact cZ.2 rfl
theorem Kt(hs:dq xs lo hi=some ys)(h:yq mm r U l cap xs w S)(hS:gR w S): ∃S1,gR w S1∧(tD (fz r) ys).p S1 (lc r.sz l cap lo.toNat ys.length):=by
 obtain⟨S1,_,k2,hd⟩:=Xx h hS
 refine⟨S1,k2,?_⟩
 obtain⟨l',m,rfl,rfl,h7,h8,rfl⟩:=fL hs
 obtain⟨ad,c,h1,h2,h3,h4⟩:=lP.1 hd
 have hlen:((xs.take m).drop l').length=m-l' :=by simp;omega
 cases l with
 |none=>
  obtain⟨cells,g1,_⟩:=h
  have hx:xs=[]:=xm g1.1
  subst hx
  have e:((([]:List α).take m).drop l')=[]:=by simp
  rw [e]
  exact EG
 |some b=>
  have e1:Value.slice (some ⟨b,0,none⟩) xs.length cap= .slice ad xs.length c:=h1
  injection e1 with e2 _ e3
  subst e2
  subst e3
  have h5:=Bs h4 h7 h8 h2
  refine lP.2 ⟨_,cap-l',?_,by omega,by omega,h5⟩
  unfold lc
  simp only [Ap,hlen,Da,gA,qx]
  split<;>rfl
theorem Fp{xs ys zs:List Int}{dT sT:TypeId}(hm:ky mm (rI k) U l cap zs∈bx (iS (rI k) n) T b xs::O)(hsl:dq zs lo hi=some ys)(hu:E.P.underlying dT=some (.slice el))(hs:(E.P.info? el).map (·.size)=some 1)(hx:aE E.N G x (tV (.slice (some ⟨b,0,none⟩) n n)))(hy:aE E.N G y (tV (lc 1 l cap lo.toNat ys.length))):
  EffOK E (bx (iS (rI k) n) T b xs::O) G ⟨some d,.call ⟨.builtin .copy,#[x,y],#[dT,sT]⟩,ty,pos,after,g⟩ (fun _=>bx (iS (rI k) n) T b (rN xs ys)::O) (fun _=>tD (rI .i64) ((min ys.length n:Nat):Int)):=
 Lx rfl hu hs hx fun a w S hs0 ho hf=>by
  obtain⟨S1,h1,h2⟩:=Kt hsl (dp.mem ho _ hm).1 hs0
  refine⟨S1,h1,?_,fun cs zs h=>by rw [xI h];exact(xI h)▸Gk (fun h=>h) h⟩
  rw [show a.eval y=lc 1 l cap lo.toNat ys.length from hy S a hf]
  exact h2
def Mn{α:Type}(r:Rp α)(y:α)(b:Nat)(t:Ty):Ty where
 p:=fun S v=> ∀S1,SH.le S S1→(bq r y).p S1 (aI b 0)→t.p S1 v
 mono:=fun h k S1 h1=>k S1 (SH.le_trans h h1)
theorem Og{y:α}{t:Ty}(h:aE N G x (Mn r y b t))(hf:co N S a G)(hle:SH.le S S1)(hk:(bq r y).p S1 (aI b 0)):t.p S1 (a.eval x):=h S a hf S1 hle hk
theorem E0{r:Rp γ}{z:γ}{args:α→List Ty}{res:β→Ty}{f:α→Option β}{fid:FuncId}{caps:List Operand}{cts:List Ty}(hc:ah E.P fid=true)(hcap: ∀(S S1:SH) (a:Act),co E.N S a G→SH.le S S1→(bq r z).p S1 (aI b 0)→tP S1 cts (caps.map a.eval))(hs: ∀x y,f x=some y→aN E.P fid (args x++cts) (res y)):bS E O G ⟨dst,.makeFunc (.func fid) #[] caps.toArray,ty,pos,after,g⟩ (Mn r z b (dJ E.P args res f)):=
 .of_pure fun a w S _ _ hf=>by
  refine⟨.func (.func fid) #[] (caps.map a.eval).toArray,by simp [execOp,Instr.makeFunc],fun S1 h1 hk=>⟨fid,_,rfl,hc,fun x y h w' S' vs hle hsat hv=>?_⟩⟩
  have hcv:=(hcap S S1 a hf h1 hk).mono hle
  simpa using hs x y h w' S' _ hsat (hv.append hcv)
theorem IH{y:α}(h:aE N G x (bq (rT (tV (aI b 0))) ()))(hf:co N S a G)(hle:SH.le S S1)(hk:(bq r y).p S1 (aI b 0)):(bq (Xg r) y).p S1 (a.eval x):=by
 obtain⟨b',off,c,E',fr,h1,h2,v,h3,_,h4⟩:=(bq (rT (tV (aI b 0))) ()).mono hle (h S a hf)
 have h4' :v=aI b 0:=h4
 subst h4'
 exact⟨b',off,c,E',fr,h1,h2,_,h3,hk⟩
theorem I0(ti:TI P T sz bytes agg z):(P.info? T).map (·.size)=some sz:=by
 obtain⟨i,_,hi,hs,_⟩:=ti.get
 simp [hi,hs]
theorem Oj(ti:TI P T sz bytes agg z):((P.info? T).map (·.size)).isSome=true:=by rw [I0 ti];rfl
def Ox{α:Type}:Rp α where
 sz:=1
 agg:=false
 rc:=fun _ cs _=> ∃v,cs=[v]∧v.oneCell' =true
 mono:=fun _ h=>h
 len:=fun⟨v,h,_⟩=>by rw [h];rfl
 one:=fun⟨v,h,k⟩ c hc=>by rw [h]at hc;simp at hc;subst hc;exact k
 sc:=fun _=>rfl
theorem XC{u:Value}{y:α}(h:aE N G x (tV u))(ho:u.oneCell' =true):aE N G x (tD Ox y):=fun S a hf=>by
 have h1:a.eval x=u:=h S a hf
 rw [h1]
 exact⟨[u],rfl,u,rfl,ho⟩
theorem MA{c:Nat}:(aw l c n).oneCell' =true:=by cases l<;>rfl
theorem IN{j:Int}{o:Oper}{post:OI→List OE}{t:OI→Ty}(h:dq xs 0 j=some ys)(k:EffOK E (cG r U l cap ys::O) G o post t):EffOK E (cG r U l cap xs::O) G o post t:=fun a w S hs ho hf hb=>by
 have h1:dp E.base E.B w S (cG r U l cap ys::O):=⟨⟨J3 h ho.1.1,ho.1.2⟩,ho.2.1,ho.2.2⟩
 refine lz (fun a' w' ⟨v,S',x,g1,g2,g3,g4,g5⟩=>⟨v,S',x,g1,g2.more fun b ⟨f,hf,hb⟩=>?_,g3,g4,g5⟩) (k a w S hs h1 hf hb)
 rcases iC.1 hf with rfl|hf
 ·exact⟨_,lV ..,hb⟩
 ·exact⟨f,kG _ hf,hb⟩
theorem FF(hm:ky mm r T l cap xs∈O)(hs:dq xs lo hi=some ys)(h:(l=none→ys.length=0)∧ys.length≤maxLen→CG E Q c O G):CG E Q c O G:=fun a w S st=>by
 refine h ?_ a w S st
 obtain⟨cells,h1,_⟩:=(st.own.mem _ hm).1
 obtain⟨l',m,_,_,_,h8,rfl⟩:=fL hs
 have hlen:((xs.take m).drop l').length≤xs.length:=by simp;omega
 cases l with
 |none=>have:=h1.1;exact⟨fun _=>by omega,by omega⟩
 |some b=>obtain⟨cur,_,g2,g3,_⟩:=h1;exact⟨fun h=>(by cases h),by omega⟩
theorem XB{b:Bool}:aE N G (.const (.bool b)) (tD rB b):=hB
theorem He(b:Bool){l:List Oper}(h1:b=true→RG E ops Q l O G)(h2:b=false→RG E ops Q l O G):RG E ops Q l O G:=by
 cases b with
 |true=>exact h1 rfl
 |false=>exact h2 rfl
theorem yu{d:Option Tmp}{pol b:Bool}(hj:(ops[j]?).bind (·.dst)=some gs)(hgs:Nat.blt gs E.N.n=true)(hb:look G gs=some (tD rB b))(e:b=pol)(k:RG E ops Q (⟨d,op,ty,pos,after,none⟩::rest) O G):
  RG E ops Q (⟨d,op,ty,pos,after,some (j,pol)⟩::rest) O G:=fun a w S st=>by
 have hgs' :gs<a.tmps.size:=by rw [st.facts.size];simpa [sr] using hgs
 have hw:=s5 (o:=⟨d,op,ty,pos,after,some (j,pol)⟩) rfl hj hgs' (nw hb S a st.facts)
 have h1:=k a w S st
 unfold wpListIn at h1 ⊢
 rw [hw,e]
 rw [dy (show Region.wanted ⟨d,op,ty,pos,after,none⟩ (yielded ops a.tmps)=true from rfl)]at h1
 rw [dy (show(true&&(pol==pol))=true from by simp)]
 exact h1
theorem nl{pol b:Bool}(hj:(ops[j]?).bind (·.dst)=some gs)(hgs:Nat.blt gs E.N.n=true)(hb:look G gs=some (tD rB b))(e:b= !pol)(hd:Nat.blt d E.N.n=true)(k:RG E ops Q rest O ((d,Bq)::G)):
  RG E ops Q (⟨some d,op,ty,pos,after,some (j,pol)⟩::rest) O G:=fun a w S st=>by
 have hgs' :gs<a.tmps.size:=by rw [st.facts.size];simpa [sr] using hgs
 have hw:=s5 (o:=⟨some d,op,ty,pos,after,some (j,pol)⟩) rfl hj hgs' (nw hb S a st.facts)
 refine wpListIn_step fun K hK=>?_
 rw [hw,e,dd (by cases pol<;>simp)]
 exact⟨fun _ _=>trivial,hK _ _ (k _ _ S (st.step (fR _ _ _) st.sat hd trivial))⟩
theorem y7{c:Operand}{b:Bool}{t:Ty}(hc:aE E.N G c (tD rB b))(e:b=true)(hx:aE E.N G x t):bS E O G ⟨dst,.pick c x y,ty,pos,after,g⟩ t:=vJ hc (fun _=>hx) (fun h=>by rw [e]at h;cases h)
theorem DE{c:Operand}{b:Bool}{t:Ty}(hc:aE E.N G c (tD rB b))(e:b=false)(hy:aE E.N G y t):bS E O G ⟨dst,.pick c x y,ty,pos,after,g⟩ t:=vJ hc (fun h=>by rw [e]at h;cases h) (fun _=>hy)
end
theorem yZ(P:Program)(fn:Func)(h' i j k:Nat)(h:fn.results= #[.tmp h',.tmp i,.tmp j,.tmp k])(tmps:Array Value)(w:World):(results fn tmps).run P w= .ok (.tuple #[tmps.getD h' undef,tmps.getD i undef,tmps.getD j undef,tmps.getD k undef]) w:=by
 simp [results,h]
theorem v8{N:Nat}{B:Nat→Prop}{w0:World}{S0:SH}{fn:Func}{k:Nat}{s t v:Ty}(hr:fn.results= #[.tmp m,.tmp i,.tmp j,.tmp k])(hm:look G m=some s)(hi:look G i=some t)(hj:look G j=some u)(hk:look G k=some v):
  AT ⟨P,⟨N,[]⟩,B,w0,S0,none⟩ (bodyPost P fn (Fo ⟨P,⟨N,[]⟩,B,w0,S0,none⟩ (tT [s,t,u,v]))) .ret O G:=fun _ _ S st=>
 ⟨st.facts.defers,_,yZ P fn m i j k hr _ _,_,S,rfl,st.ext,st.sat,[_,_,_,_],rfl,st.facts.at_ m s hm,st.facts.at_ i t hi,st.facts.at_ j u hj,st.facts.at_ k v hk,trivial⟩

structure Rb{κ:Type} [DecidableEq κ](P:Program)(kt:TypeId)(kv:κ→Value):Prop where
 chk: ∀e w k,(Instr.checkKey e 10000 kt (kv k)).run P w= .ok () w
 eql: ∀w a b,(Op.equal kt (kv a) (kv b)).run P w= .ok (decide (a=b)) w
 wide:(match P.underlying kt with|some (.array _ _)|some (.struct _)=>true|_=>false)=true
 same: ∀k,Instr.sameBits 10000 (kv k) (kv k)=true
 inj: ∀a b,kv a=kv b→a=b
def Li(p:Int×Int):Value:= .agg #[.int .i64 p.1,.int .i64 p.2]
def k2(l:List Int):Int×Int:=(l.getD 0 0,l.getD 1 0)
theorem Lj{kt el:Nat}(h:P.underlying kt=some (.array 2 el))(he:P.underlying el=some (.int .i64))(ti:TI P el sz bytes agg z)(hsz:Nat.beq sz 1=true)(hq:NO P kt (iS (rI .i64) 2)):Rb P kt Li where
 chk:=fun e w k=>by
  obtain⟨i,zv,hi,hs,_⟩:=ti.get
  have h1:sz=1:=m8 hsz
  have ha:(isAgg el).run P w= .ok false w:=by
   simp [isAgg,hU he,Result.andThen]
  have h3: ∀(j:Nat) (x:Int) (cs:Array Value),cs[j]? =some (.int .i64 x)→(part el cs (j*i.size)).run P w= .ok (.int .i64 x) w:=fun j x cs hj=>by
   simp [part,ha,Result.andThen,hs,h1,hj]
  have h4: ∀x:Int,(Instr.checkKey e 9999 el (.int .i64 x)).run P w= .ok () w:=fun x=>by
   show(Instr.checkKey e (9998+1) el (.int .i64 x)).run P w= .ok () w
   unfold Instr.checkKey
   simp only [pW,hU he,qz]
   rfl
  have e1:=h3 0 k.1 #[.int .i64 k.1,.int .i64 k.2] rfl
  have e2:=h3 1 k.2 #[.int .i64 k.1,.int .i64 k.2] rfl
  show(Instr.checkKey e (9999+1) kt (Li k)).run P w= .ok () w
  unfold Instr.checkKey
  simp only [Li,pW,hU h,qz,Std.Legacy.Range.forIn_eq_forIn_range',Std.Legacy.Range.size,Nat.sub_zero,Nat.add_sub_cancel,Nat.div_one,List.range'_succ,List.range'_zero,List.forIn_cons,List.forIn_nil,sizeOf,typeInfo,hi,Be,Nat.zero_mul,qx,Nat.one_mul]
  simp only [Nat.zero_mul,Nat.one_mul]at e1 e2
  simp [e1,e2,h4,Result.andThen,hi]
 eql:=fun w a b=>by
  have:=hq.run (fun _=>none) [.int .i64 a.1,.int .i64 a.2] [.int .i64 b.1,.int .i64 b.2] [a.1,a.2] [b.1,b.2] 9980 w ⟨rfl,[_],[_],rfl,rfl,[_],[],rfl,rfl,rfl⟩ ⟨rfl,[_],[_],rfl,rfl,[_],[],rfl,rfl,rfl⟩
  have e1:decide (([a.1,a.2]:List Int)=[b.1,b.2])=decide (a=b):=by
   obtain⟨a1,a2⟩:=a;obtain⟨b1,b2⟩:=b;simp
  rw [e1]at this
  show(Op.equalIn (9980+20) kt (Li a) (Li b)).run P w=_
  exact this
 wide:=by rw [h]
 same:=fun k=>by
  show Instr.sameBits (9999+1) (Li k) (Li k)=true
  unfold Instr.sameBits Li
  simp only [List.zip_cons_cons,List.zip_nil_left,uo,List.all_nil]
  unfold Instr.sameBits
  simp
 inj:=fun a b h=>by
  obtain⟨a1,a2⟩:=a;obtain⟨b1,b2⟩:=b
  simpa [Li] using h
section
variable{κ:Type} [DecidableEq κ]{γ:β→Ty}{kv:κ→Value}{k:κ}{kt:TypeId}
theorem Ir{w:World}{S:SH}{k:κ}(hk:Rb P kt kv): ∀{es:List MapEntry} {m:List (κ×β)} (i:Nat),rL γ kv S es m→
  ∃u,(Instr.findAsking kt (kv k) es i).run P w= .ok u w∧((u=none∧(∀x∈es,x.key≠kv k)∧nV m k=none)∨ ∃(j:Nat) (e:MapEntry) (y:β),u=some (i+j,e.val)∧es[j]? =some e∧e.key=kv k∧nV m k=some y∧(γ y).p S e.val)
 |[],[],i,_=>⟨none,by simp [Instr.findAsking],.inl ⟨rfl,fun x hx=>(by cases hx),rfl⟩⟩
 |e::es,q::m,i,⟨h1,h2,h3,h4⟩=>by
  by_cases hq:k=q.1
  ·subst hq
   refine⟨some (i,e.val),?_,.inr ⟨0,e,q.2,rfl,rfl,h1,by unfold nV;rw [dy rfl],h2⟩⟩
   unfold Instr.findAsking
   simp [h1,hk.eql,Result.andThen]
  ·obtain⟨u,g1,g2⟩:=Ir hk (k:=k) (w:=w) (i+1) h4
   refine⟨u,?_,?_⟩
   ·unfold Instr.findAsking
    simp [h1,hk.eql,hq,Result.andThen,g1]
   ·have hm:nV (q::m) k=nV m k:=by conv=>lhs;unfold nV;rw [dd (fun e=>hq e.symm)]
    rw [hm]
    rcases g2 with⟨e1,e2,e3⟩|⟨j,e',y,e1,e2,e3,e4,e5⟩
    ·refine .inl ⟨e1,fun x hx=>?_,e3⟩
     rcases iC.1 hx with rfl|hx
     ·rw [h1];exact fun e=>hq (hk.inj _ _ e).symm
     ·exact e2 x hx
    ·exact .inr ⟨j+1,e',y,by rw [e1];congr 2;omega,by simpa using e2,e3,e4,e5⟩
theorem Jh{q k:κ}{y:β}(hk:q≠k): ∀(m:List (κ×β)),(∀p∈m,p.1≠q)→ ∀p∈fB m k y,p.1≠q:=by
 intro m
 induction m with
 |nil=>intro _ p hp;rw [uk.1 hp];exact fun e=>hk e.symm
 |cons p0 m ih=>
  intro hm p hp
  unfold fB at hp
  split at hp
  ·rcases iC.1 hp with rfl|hp
   ·exact fun e=>hk e.symm
   ·exact hm p (kG _ hp)
  ·rcases iC.1 hp with rfl|hp
   ·exact hm _ (lV ..)
   ·exact ih (fun p hp=>hm p (kG _ hp)) p hp
theorem Cg(hinj: ∀a b,kv a=kv b→a=b){y:β}{v:Value}{born:Nat}(hv:(γ y).p S v): ∀{es:List MapEntry} {m:List (κ×β)},rL γ kv S es m→(∀x∈es,x.key≠kv k)→rL γ kv S (es++[⟨kv k,v,born⟩]) (fB m k y)
 |[],[],_,_=>⟨rfl,hv,fun _ h=>(by cases h),trivial⟩
 |e::es,q::m,⟨h1,h2,h3,h4⟩,hn=>by
  have hq:q.1≠k:=fun e' =>hn e (lV ..) (by rw [h1,e'])
  have hm:fB (q::m) k y=q::fB m k y:=by conv=>lhs;unfold fB;rw [dd hq]
  rw [hm]
  exact⟨h1,h2,Jh hq m h3,Cg hinj hv h4 fun x hx=>hn x (kG _ hx)⟩
theorem D9(hinj: ∀a b,kv a=kv b→a=b){y:β}{v:Value}(hv:(γ y).p S v): ∀{es:List MapEntry} {m:List (κ×β)},rL γ kv S es m→ ∀j e,es[j]? =some e→e.key=kv k→rL γ kv S (es.modify j fun e=>{e with key:=kv k,val:=v}) (fB m k y)
 |[],[],_,j,e,he,_=>by cases he
 |e0::es,q::m,⟨h1,h2,h3,h4⟩,j,e,he,hek=>by
  cases j with
  |zero=>
   have he' :e0=e:=mO he
   subst he'
   have hq:q.1=k:=hinj _ _ (by rw [←h1,hek])
   have hm:fB (q::m) k y=(k,y)::m:=by conv=>lhs;unfold fB;rw [dy hq]
   rw [hm,List.modify_zero_cons]
   exact⟨rfl,hv,fun p hp=>by rw [←hq];exact h3 p hp,h4⟩
  |succ j=>
   have he' :es[j]? =some e:=by simpa using he
   obtain⟨y',hy'⟩: ∃q' ∈m,q'.1=k:=by
    have hmem: ∀{es:List MapEntry} {m:List (κ×β)},rL γ kv S es m→ ∀(j:Nat) (e:MapEntry),es[j]? =some e→e.key=kv k→ ∃q' ∈m,q'.1=k:=by
     intro es
     induction es with
     |nil=>intro m _ j e he _;simp at he
     |cons e1 es ih=>
      intro m hm j e he hek
      cases m with
      |nil=>exact hm.elim
      |cons q1 m=>
       obtain⟨g1,_,_,g4⟩:=hm
       cases j with
       |zero=>
        have e2:e1=e:=mO he
        subst e2
        exact⟨q1,lV ..,hinj _ _ (by rw [←g1,hek])⟩
       |succ j=>
        obtain⟨q',a1,a2⟩:=ih g4 j e (by simpa using he) hek
        exact⟨q',kG _ a1,a2⟩
    exact hmem h4 j e he' hek
   have hq:q.1≠k:=fun e' =>h3 y' hy'.1 (by rw [hy'.2,e'])
   have hm:fB (q::m) k y=q::fB m k y:=by conv=>lhs;unfold fB;rw [dd hq]
   rw [hm,z6]
   exact⟨h1,h2,Jh hq m h3,D9 hinj hv h4 j e he' hek⟩
def GA(γ:β→Ty)(kv:κ→Value)(b:Nat)(m:List (κ×β)):OE where
 fp:=fun j=>j=b
 p:=fun w S=>S b=none∧ ∃es clock,w.heap[b]? =some (.map es clock)∧rL γ kv S es.toList m
 here:=by
  intro w S ⟨_,es,clock,h3,_⟩ j hj
  subst hj
  exact(pY.1 h3).1
 kept:=by
  intro C w w' S S' ⟨h1,es,clock,h3,h4⟩ k hC
  have hlt:=(pY.1 h3).1
  exact⟨by rw [k.old b hlt (hC b rfl)];exact h1,es,clock,by rw [k.heap b hlt (hC b rfl)];exact h3,tK k.keep h4⟩
end
section
variable{κ:Type} [DecidableEq κ]{γ:β→Ty}{kv:κ→Value}{m:List (κ×β)}{k:κ}{kt et:TypeId}{i v:Operand}{dst:Option Nat}
theorem MM{x:Operand}{l:List Int}(h:aE N G x (tD (iS (rI .i64) 2) l)):Ei N G x (Li (k2 l)):=fun S a hf=>by
 obtain⟨cs,e,h1,h2⟩:=h S a hf
 rw [e]
 match l,h1,h2 with
 |[p,q],_,h2=>
  have:=xI h2
  rw [this];rfl
theorem Hh(γ:β→Ty)(kv:κ→Value)(hd:Nat.blt d E.N.n=true)(k: ∀b,RG E ops Q rest (GA γ kv b []::O) ((d,tV (ne b))::G)):
  RG E ops Q (⟨some d,.makeMap t none,ty,pos,after,none⟩::rest) O G:= .of rfl fun a w S st=>by
 obtain⟨he,hs',hno⟩:=eh (w:=w) (.map #[] 0) st.sat
 have hrun:(execOp a.eval ⟨some d,.makeMap t none,ty,pos,after,none⟩).run E.P w= .ok (.value (ne w.heap.size)) (w.alloc (.map #[] 0)):=by
  simp [execOp,Instr.makeMap,ne]
 refine⟨fun c h=>(by cases h),?_⟩
 rw [hrun]
 exact k w.heap.size _ _ S ⟨st.ext.step0 he,hs',nU st.own he ⟨hno,#[],0,Am w _,trivial⟩ (fun b hb=>wk hb.symm) st.base_le,st.facts.put hd rfl⟩
theorem Ib{z:β}{zv:Value}(hm:E.P.underlying t=some (.map kt et))(hk:Rb E.P kt kv)(hz:ZV E.P et zv)(hzt: ∀S,(γ z).p S zv)(hmem:GA γ kv b m∈O)(hx:aE E.N G x (tV (ne b)))(hi:Ei E.N G i (kv k)):
  bS E O G ⟨dst,.lookup t x i false,ty,pos,after,g⟩ (γ ((nV m k).getD z)):= .of_pure fun a w S hs ho hf=>by
 obtain⟨⟨_,es,clock,h3,h4⟩,_⟩:=dp.mem ho _ hmem
 have h1:a.eval x=ne b:=hx S a hf
 have h2:a.eval i=kv k:=hi S a hf
 obtain⟨u,g1,g2⟩:=Ir hk (k:=k) (w:=w) 0 h4
 have hfk:(Instr.findKey kt (kv k) es.toList).run E.P w= .ok u w:=by rw [run_findKey_eq w hk.wide];exact g1
 rcases g2 with⟨rfl,_,g3⟩|⟨j,e,y,rfl,_,_,g3,g4⟩
 ·refine⟨zv,?_,by rw [g3];exact hzt S⟩
  simp [execOp,h1,h2,Instr.lookup,ne,hU hm,FM h3,hk.chk,hfk,hz.run,Result.andThen]
 ·refine⟨e.val,?_,by rw [g3];exact g4⟩
  simp [execOp,h1,h2,Instr.lookup,ne,hU hm,FM h3,hk.chk,hfk,Result.andThen]
theorem Q6{y:β}(hm:E.P.underlying t=some (.map kt et))(hk:Rb E.P kt kv)(hx:aE E.N G x (tV (ne b)))(hi:Ei E.N G i (kv k))(hv:aE E.N G v (γ y))
  (h:RG E ops Q rest (GA γ kv b (fB m k y)::O) G):RG E ops Q (⟨none,.mapUpdate t x i v,ty,pos,after,none⟩::rest) (GA γ kv b m::O) G:= .of rfl fun a w S st=>by
 have h1:a.eval x=ne b:=hx S a st.facts
 have h2:a.eval i=kv k:=hi S a st.facts
 have h3:(γ y).p S (a.eval v):=hv S a st.facts
 obtain⟨⟨hno,es,clock,h5,h6⟩,_⟩:=st.own.1
 have hlt:=(pY.1 h5).1
 obtain⟨u,g1,g2⟩:=Ir hk (k:=k) (w:=w) 0 h6
 have hfk:(Instr.findKey kt (kv k) es.toList).run E.P w= .ok u w:=by rw [run_findKey_eq w hk.wide];exact g1
 obtain⟨X,hrun,hX⟩: ∃X:Obj,(Instr.mapUpdate t (ne b) (kv k) (a.eval v)).run E.P w= .ok () {w with heap:=w.heap.setIfInBounds b X}∧ ∃es' cl',X= .map es' cl' ∧rL γ kv S es'.toList (fB m k y):=by
  rcases g2 with⟨rfl,g3,g4⟩|⟨j,e,y',rfl,g3,g4,_,_⟩
  ·refine⟨.map (es.push ⟨kv k,a.eval v,clock⟩) (clock+1),?_,_,_,rfl,by rw [Array.toList_push];exact Cg hk.inj h3 h6 g3⟩
   simp [Instr.mapUpdate,ne,hU hm,FM h5,hk.chk,hfk,Result.andThen,IV _ h5]
  ·refine⟨.map (es.modify j fun e=>{e with key:=kv k,val:=a.eval v}) clock,?_,_,_,rfl,by rw [Array.toList_modify];exact D9 hk.inj h3 h6 j e g3 g4⟩
   have hgd:((es[j]?).map (·.key)).getD (kv k)=kv k:=by
    rw [←IU,g3];exact g4
   simp only [qx]at hfk
   simp [Instr.mapUpdate,ne,hU hm,FM h5,hk.chk,hfk,Result.andThen,hgd,Instr.keyThatStays,hk.same,IV _ h5]
 have hrun' :(execOp a.eval ⟨none,.mapUpdate t x i v,ty,pos,after,none⟩).run E.P w= .ok .skip {w with heap:=w.heap.setIfInBounds b X}:=by simp [execOp,h1,h2,hrun]
 obtain⟨es',cl',rfl,h7⟩:=hX
 refine⟨fun c h=>(by cases h),?_⟩
 rw [hrun']
 obtain⟨q1,q2⟩:=MapKept.heap_set (o' := .map es' cl') h5
 obtain⟨f1,f2,f3⟩:=ly (O:=O) st.sat (w' :={w with heap:=w.heap.setIfInBounds b (.map es' cl')}) (GA γ kv b m) (GA γ kv b (fB m k y)) st.own (fun _=>pm) (fun _=>pm) ⟨rfl,rfl,rfl,by simp,gp _⟩ (fun j hj=>q2 j hj) ⟨hno,es',cl',q1,h7⟩ hno
 exact h _ _ S ⟨st.ext.step f1 (fun c hc=>st.own.1.2 c hc),f2,f3,st.facts⟩
end
open Go.Sort Go.Shelf

variable{os:Array Obj}
theorem xY{k:Nat}(h:k<w.heap.size):(grow w os).heap[k]? =w.heap[k]? :=by
 unfold grow;exact Array.getElem?_append_left h
theorem GD [Inhabited α]{enc:α→Value}{off:Nat}{d:Array α}{k:Nat}(h:k≠b):(putRow enc w b off d).heap[k]? =w.heap[k]? :=by
 unfold putRow mapBlock
 rw [Array.getElem?_modify,dd (Ne.symm h)]
theorem xX [Inhabited α]{enc:α→Value}{off:Nat}{d:Array α}{k:Nat}(hk:k<w.heap.size)(h:k≠b):(sortWorld enc w b off m d os).heap[k]? =w.heap[k]? :=by
 unfold sortWorld
 rw [xY (by rw [size_putRow];exact hk),GD h];rfl
theorem E8 [Inhabited α]{enc:α→Value}{off:Nat}{d:Array α}{c:Array Value}{fr:Nat×Nat}(h:w.heap[b]? =some (.cells c T fr)):
  (sortWorld enc w b off m d os).heap[b]? =some (.cells (putCells enc off d c) T fr):=by
 have hlt:=(pY.1 h).1
 unfold sortWorld
 rw [xY (by rw [size_putRow];exact hlt)]
 unfold putRow mapBlock
 rw [Array.getElem?_modify,dy rfl]
 show Option.map _ (w.heap[b]?)=_
 rw [h];rfl
theorem CY [Inhabited α]{enc:α→Value}{d:Array α}{c:Array Value}(h:d.size≤c.size):(putCells enc 0 d c).toList.take d.size=d.toList.map enc:=by
 apply List.ext_getElem?
 intro k
 by_cases hk:k<d.size
 ·rw [yN hk]
  have hc:k<c.size:=by omega
  simp [putCells,hc,hk]
 ·rw [Dg (by simp;omega),Dg (by simp;omega)]
section
theorem Hf(hl:m=n)(s:Nat)(hs:look G s=some (tV (aw l cap n)))(k:RG E ops Q rest O ((s,tV (aw l cap m))::G)):RG E ops Q rest O G:=by
 subst hl
 exact fun a w S st=>k a w S ⟨st.ext,st.sat,st.own,⟨st.facts.size,st.facts.defers,fun j t h=>by
  unfold look at h
  by_cases hb:Nat.beq s j=true
  ·rw [hb]at h
   have:=m8 hb
   subst this
   have e:tV (aw l cap m)=t:=by simpa using h
   rw [←e];exact st.facts.at_ s _ hs
  ·rw [yM]at hb
   rw [hb]at h
   exact st.facts.at_ j t h⟩⟩
end

def Uc{α:Type}(cmp:α×α→Option Int)(x y:α):Bool:=
 match cmp (x,y)with
 |some c=>decide (c<0)
 |none=>false
def UJ{α:Type}(lt:α→α→Bool)(x:α):List α→List α
 |[]=>[x]
 |y::ys=>if lt y x then y::UJ lt x ys else x::y::ys
def Rz{α:Type}(lt:α→α→Bool):List α→List α
 |[]=>[]
 |x::xs=>UJ lt x (Rz lt xs)
structure Good{α:Type}(cmp:α×α→Option Int)(xs:List α):Prop where
 len:xs.length≤1099511627776
 tot: ∀x∈xs,∀y∈xs,(cmp (x,y)).isSome=true
 irr: ∀x∈xs,Uc cmp x x=false
 tr: ∀x∈xs,∀y∈xs,∀z∈xs,Uc cmp x y=true→Uc cmp y z=true→Uc cmp x z=true
 anti: ∀x∈xs,∀y∈xs,Uc cmp x y=false→Uc cmp y x=false→x=y
def sortI(xs:List Int):List Int:=xs.mergeSort fun x y=>decide (x≤y)
theorem yW(xs:List Int):(sortI xs).length=xs.length:=by unfold sortI;simp
def Br(xs:List Int):Option (List Int):=if xs.length≤68719476736 then some (sortI xs)else none
theorem F6{xs ys:List Int}(h:Br xs=some ys):xs.length≤68719476736∧ys=sortI xs:=by
 unfold Br at h
 split at h
 ·exact⟨by assumption,by simpa using h.symm⟩
 ·cases h


theorem I7{k:IntKind}{S:SH}: ∀{xs:List Int} {cs:List Value},o5 (rI k) S cs xs→cs=xs.map (Value.int k)
 |[],cs,h=>by rw [show cs=[]from h];rfl
 |x::xs,cs,⟨a,b,e,h1,h2⟩=>by
  rw [e,show a=[.int k x]from h1,I7 h2]
  rfl
theorem Jk{k:IntKind}{S:SH}: ∀xs:List Int,o5 (rI k) S (xs.map (Value.int k)) xs
 |[]=>rfl
 |x::xs=>⟨[.int k x],_,rfl,rfl,Jk xs⟩
theorem KE{ρ:Ren}(L:Lays.n189 P ρ){xs:List Int}(hlen0:xs.length≤68719476736)(hs:gR w S)(h:(cG (rI .i64) T l cap xs).p w S):
  Calls P (ρ.f 189) #[aw l cap xs.length] w fun e w' =>e= .returned (.tuple #[])∧fM (fun k=>l=some k) w S w' S∧gR w' S∧(cG (rI .i64) T l cap (sortI xs)).p w' S:=by
 cases l with
 |none=>
  have hx:xs=[]:=xm (by obtain⟨_,h4,_⟩:=h;exact h4.1)
  subst hx
  exact(Any.slices_Sort_int_none (P:=P) (ρ:=ρ) L none 0 w).mono fun _ _ ⟨h1,h2⟩=>by subst h2;exact⟨h1,fR _ _ _,hs,by simpa [sortI] using h⟩
 |some b=>
  obtain⟨cells0,⟨cur,hb,hle,hmax,hcs,hct⟩,hrc,hno0⟩:=h
  have hno:S b=none:=hno0 b rfl
  subst hct
  have h1:(rI .i64).sz=1:=rfl
  rw [h1,Nat.mul_one]at hcs hrc
  have hcells:=I7 hrc
  have hH:Holds (Value.int .i64) w b 0 xs.toArray:=by
   intro j hj
   have hj' :j<xs.length:=by simpa using hj
   have hc:cur[j]? =some (Value.int .i64 xs.toArray[j]!):=by
    have:(cur.toList.take xs.length)[j]? =some (Value.int .i64 xs.toArray[j]!):=by
     rw [hcells,CI,getElem!_pos xs.toArray j hj]
     simp [hj']
    rw [yN (by omega)]at this
    simpa using this
   refine⟨by simp [World.cell?,hb,hc],?_⟩
   simp [World.frozen?,hb]
  have hblk:=(pY.1 hb).1
  have hcall:=calls_of_every_depth fun D=>AnyS.slices_Sort_int_alone (P:=P) (ρ:=ρ) L D b 0 cap xs w hH hblk (by omega)
  refine hcall.mono fun e w' ⟨he,n,os,hw⟩=>?_
  have hlen:=yW xs
  have hw2:w' =sortWorld (Value.int .i64) w b 0 n (sortI xs).toArray os:=hw
  subst hw2
  refine⟨he,⟨rfl,rfl,rfl,Nat.le_add_right _ _,?_,fun k hk hkb=>xX hk (fun e=>hkb (by rw [e])),SH.le_refl _,fun _ _ _=>rfl⟩,hs.same fun k o hk=>?_,⟨_,⟨_,E8 hb,by omega,hmax,?_,rfl⟩,?_,hno0⟩⟩
  ·unfold sortWorld;rw [size_grow,size_putRow];exact Nat.le_add_right _ _
  ·have hkb:k≠b:=fun e=>by subst e;rw [hno]at hk;cases hk
   exact xX (hs.lt hk) hkb
  ·simp [putCells,h1,hcs]
  ·have e1:(sortI xs).length*(rI .i64).sz=(sortI xs).toArray.size:=by rw [h1];simp
   rw [e1,CY (by simp;omega)]
   exact Jk (sortI xs)
section
theorem NL{ρ:Ren}(L:Lays.n189 E.P ρ){f:FuncId}(hf:ρ.f 189=f)(hc:ah E.P f=true){xs ys:List Int}{ats:Array TypeId}(hy:Br xs=some ys)(hx:aE E.N G x (tV (aw l cap n)))(hn:n=xs.length)(hd:Nat.blt d E.N.n=true)(k:ys.length=n→RG E ops Q rest (cG (rI .i64) T l cap ys::O) ((d,Bq)::G)):RG E ops Q (⟨some d,.call ⟨.value (.func f),#[x],ats⟩,ty,pos,after,none⟩::rest) (cG (rI .i64) T l cap xs::O) G:= .of rfl fun a w S st=>by
 obtain⟨hl0,rfl⟩:=F6 hy
 subst hf
 subst hn
 have h1:a.eval x=aw l cap xs.length:=hx S a st.facts
 have hr:(execOp a.eval ⟨some d,.call ⟨.value (.func (ρ.f 189)),#[x],ats⟩,ty,pos,after,none⟩).run E.P w= .ok (.enter (ρ.f 189) #[aw l cap xs.length]) w:=by
  have e0:a.eval (.func (ρ.f 189))= .func (.func (ρ.f 189)) #[] #[]:=rfl
  simp [execOp,resolve,e0,h1,Deferred.ofValue,invoke,fx hc]
 refine⟨fun c h=>(by cases h),?_⟩
 rw [hr]
 refine(KE L hl0 st.sat st.own.1.1).mono fun e w' ⟨he,hext,hsat,hp⟩=>⟨_,he,?_⟩
 have hfp: ∀g∈O,∀b,g.fp b→ ¬(l=some b):=fun g hg b hb hl=>st.own.2.1 g hg b hl hb
 refine k (yW xs) _ _ S ⟨st.ext.step hext (fun c hc=>st.own.1.2 c hc),hsat,⟨⟨hp,st.own.1.2⟩,st.own.2.1,st.own.2.2.ext hext hfp⟩,?_⟩;exact(st.facts.mono hext.keep).put hd trivial
end
open Go.Lib

theorem n8(hle: ∀(b:Nat) (o:Obj),W.heap[b]? =some o→ ∃o',w.heap[b]? =some o' ∧CC o o')(h:W.cell? ⟨b,i,none⟩=some v):w.cell? ⟨b,i,none⟩=some v:=by
 unfold World.cell? at h ⊢
 cases hb:W.heap[b]? with
 |none=>simp [hb]at h
 |some o=>
  obtain⟨o',h1,h2⟩:=hle b o hb
  simp only [hb]at h
  simp only [h1]
  cases o with
  |cells c T fr=>
   obtain⟨l,rfl⟩:=h2
   simp only [Option.isSome_none,wL,qw]at h ⊢
   rw [←IU]at h ⊢
   rw [yO (ox.1 h).1]
   exact h
  |_=>simp at h
theorem Ho{g:Nat}{T:Array CaseRow}(hle: ∀(b:Nat) (o:Obj),W.heap[b]? =some o→ ∃o',w.heap[b]? =some o' ∧CC o o')(h:CaseVar g T W):CaseVar g T w:=by
 obtain⟨R,oR,cap,h1,h2⟩:=h
 exact⟨R,oR,cap,n8 hle h1,fun i hi=>⟨n8 hle (h2 i hi).1,n8 hle (h2 i hi).2.1,n8 hle (h2 i hi).2.2.1,n8 hle (h2 i hi).2.2.2.1,n8 hle (h2 i hi).2.2.2.2⟩⟩
theorem Fx{g3 g4:Nat}(hle: ∀(b:Nat) (o:Obj),W.heap[b]? =some o→ ∃o',w.heap[b]? =some o' ∧CC o o')(h:Utf8Tabs g3 g4 W):Utf8Tabs g3 g4 w:=
 ⟨fun c hc=>n8 hle (h.1 c hc),fun i hi=>⟨n8 hle (h.2 i hi).1,n8 hle (h.2 i hi).2⟩⟩
end Go.Proofs.YtmogpgcfognefaaGreatDoor

