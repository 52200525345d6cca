/- co of this claim: Y13. -/
import Derived.Test.YtmogpgcfognefaaGreatDoorNeY12
set_option linter.all false
namespace Go.Proofs.YtmogpgcfognefaaGreatDoor
open Go

def E7(n:aK):Bool:=((((decide ((0:Int)≤n.Table))&&(decide (n.Table<(30:Int))))&&(decide ((1:Int)≤(n.Kinds.length:Int))))&&(decide ((n.Kinds.length:Int)≤(16:Int))))&&n.Kinds.all fun k=>decide (0≤k)&&decide (k≤4)
theorem Im(l:al):fU l=some (E7 l.n,{l with result:=l.n.Kinds}):=by
 unfold fU
 rw [iO (f:=lR) (g:=fun k=>(decide (k<(0:Int)))||(decide ((4:Int)<k))) (fun _=>rfl),cq]
 have e3:(!(l.n.Kinds.any fun k=>(decide (k<(0:Int)))||(decide ((4:Int)<k))))=l.n.Kinds.all fun k=>decide (0≤k)&&decide (k≤4):=by
  rw [List.not_any_eq_all_not]
  congr 1
  funext k
  rw [yL]
  simp
 show some ((((((!(l.n.Kinds.any fun k=>(decide (k<(0:Int)))||(decide ((4:Int)<k))))&&(decide ((0:Int)≤l.n.Table)))&&(decide (l.n.Table<(30:Int))))&&(decide ((0:Int)<(l.n.Kinds.length:Int))))&&(decide ((l.n.Kinds.length:Int)≤(16:Int)))),({l with result:=l.n.Kinds}:al))=_
 rw [e3]
 unfold E7
 have e2:decide ((0:Int)<(l.n.Kinds.length:Int))=decide ((1:Int)≤(l.n.Kinds.length:Int)):=by rw [Bg];omega
 rw [e2]
 congr 2
 cases (l.n.Kinds.all fun k=>decide (0≤k)&&decide (k≤4))<;>simp
theorem S4{n:aK}(h:E7 n=true):Kd n.Kinds:=by
 unfold E7 at h
 simp only [iP,kZ,ui]at h
 exact⟨by omega,by omega,fun x hx=>h.2 x hx⟩
def Gs(n:aK):Bool:=(Dy n).getD false
theorem II{n:aK}(hs:pO n)(h:0≤wy n.Op):oG n=some (Gs n):=by
 have hk:=hs.keys
 have hg:=hs.aggs
 have e:(IntKind.i64.wrap ((n.Keys.length:Int)+(n.Aggs.length:Int))==0)=(n.Keys.isEmpty&&n.Aggs.isEmpty):=by
  rw [lW (by omega) (by omega),←SW,←SW,yL]
  simp only [iP,xn]
  omega
 unfold oG
 rw [e]
 clear e hk hg hs
 obtain⟨op,A,B,lO,kinds,left,cond,keys,aggs,items,order,limit⟩:=n
 have hop:op=1∨op=2∨op=3∨op=4∨op=5∨op=6∨op=7∨op=8∨op=9∨op=10∨op=11:=by
  unfold wy at h
  simp only at h
  split at h
  ·omega
  ·split at h
   ·omega
   ·split at h<;>omega
 congr 1
 rcases hop with rfl|rfl|rfl|rfl|rfl|rfl|rfl|rfl|rfl|rfl|rfl<;>simp only [Gs,Dy,tk,sD,SW,SV]<;>simp<;>(try (by_cases t:lO=0<;>simp [t]))<;>(try (by_cases lm:limit=0<;>simp [lm]))<;>(try (cases left<;>simp))<;>(try (by_cases e1:kinds=[]<;>simp [e1]))<;>(try (by_cases e2:cond.Nodes=[]<;>simp [e2]))<;>(try (by_cases e3:keys=[]<;>simp [e3]))<;>(try (by_cases e4:aggs=[]<;>simp [e4]))<;>(try (by_cases e5:items=[]<;>simp [e5]))<;>(try (by_cases e6:order=[]<;>simp [e6]))
end Go.Proofs.YtmogpgcfognefaaGreatDoor

