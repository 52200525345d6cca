/- A small logic over the walk's rules: loops and meetings of ways, at so many variables. It states nothing of any program. -/
import Derived.Test.YtchjhcgkfglgiaaW8
namespace Go.Proofs.Ytchjhcgkfglgiaa
open Go
section
variable {E : En} {O : List OE} {G : Ctx} {Q : Exit → Act → World → Prop}
theorem LG.ind0 {c : Code} {Z : Nat → Prop} {Of : List OE} {Gf : Ctx} (h0 : Z 0 → False)
    (h : ∀ n, (Z n → LG E Q c (Of) (Gf)) → Z (n + 1) → LG E Q c (Of) (Gf)) : ∀ n, Z n → LG E Q c (Of) (Gf)
  | 0 => fun hz => (h0 hz).elim
  | n + 1 => h n (LG.ind0 h0 h n)
theorem LG.list0 {c : Code} {β : Type} {Z : List β → Prop} {Of : List β → List OE} {Gf : List β → Ctx} (h0 : Z [] → LG E Q c (Of []) (Gf []))
    (h : ∀ b l, (Z l → LG E Q c (Of l) (Gf l)) → Z (b :: l) → LG E Q c (Of (b :: l)) (Gf (b :: l))) : ∀ l, Z l → LG E Q c (Of l) (Gf l)
  | [] => h0
  | b :: l => h b l (LG.list0 h0 h l)
theorem CG.bjoin0 {id : Nat} {c : Code} {Z : Prop} {Of : List OE} {Gf : Ctx} (hK : Z → AT E Q .normal (Of) (Gf))
    (h : (Z → AT E Q .normal (Of) (Gf)) → CG E (Exit.inBlock id Q) c O G) : CG E Q (.block id c) O G := CG.block (h hK)
theorem CG.sjoin0 {x y : Code} {Z : Prop} {Of : List OE} {Gf : Ctx} (hK : Z → CG E Q y (Of) (Gf))
    (h : (Z → AT E (Exit.then (y.wpIn (fw E.r) 0 E.P Q) Q) .normal (Of) (Gf)) → CG E (Exit.then (y.wpIn (fw E.r) 0 E.P Q) Q) x O G) : CG E Q (.seq x y) O G := CG.seq (h (fun hz => hK hz))
theorem LG.ind1 {c : Code} {α0 : Type} {Z : Nat → α0 → Prop} {Of : α0 → List OE} {Gf : α0 → Ctx} (h0 : ∀ x0, Z 0 x0 → False)
    (h : ∀ n, (∀ x0, Z n x0 → LG E Q c (Of x0) (Gf x0)) → ∀ x0, Z (n + 1) x0 → LG E Q c (Of x0) (Gf x0)) : ∀ n, ∀ x0, Z n x0 → LG E Q c (Of x0) (Gf x0)
  | 0 => fun x0 hz => (h0 x0 hz).elim
  | n + 1 => h n (LG.ind1 h0 h n)
theorem LG.list1 {c : Code} {β : Type} {α0 : Type} {Z : List β → α0 → Prop} {Of : List β → α0 → List OE} {Gf : List β → α0 → Ctx} (h0 : ∀ x0, Z [] x0 → LG E Q c (Of [] x0) (Gf [] x0))
    (h : ∀ b l, (∀ x0, Z l x0 → LG E Q c (Of l x0) (Gf l x0)) → ∀ x0, Z (b :: l) x0 → LG E Q c (Of (b :: l) x0) (Gf (b :: l) x0)) : ∀ l, ∀ x0, Z l x0 → LG E Q c (Of l x0) (Gf l x0)
  | [] => h0
  | b :: l => h b l (LG.list1 h0 h l)
theorem CG.bjoin1 {id : Nat} {c : Code} {α0 : Type} {Z : α0 → Prop} {Of : α0 → List OE} {Gf : α0 → Ctx} (hK : ∀ x0, Z x0 → AT E Q .normal (Of x0) (Gf x0))
    (h : (∀ x0, Z x0 → AT E Q .normal (Of x0) (Gf x0)) → CG E (Exit.inBlock id Q) c O G) : CG E Q (.block id c) O G := CG.block (h hK)
theorem CG.sjoin1 {x y : Code} {α0 : Type} {Z : α0 → Prop} {Of : α0 → List OE} {Gf : α0 → Ctx} (hK : ∀ x0, Z x0 → CG E Q y (Of x0) (Gf x0))
    (h : (∀ x0, Z x0 → AT E (Exit.then (y.wpIn (fw E.r) 0 E.P Q) Q) .normal (Of x0) (Gf x0)) → CG E (Exit.then (y.wpIn (fw E.r) 0 E.P Q) Q) x O G) : CG E Q (.seq x y) O G := CG.seq (h (fun x0 => fun hz => hK x0 hz))
theorem LG.ind2 {c : Code} {α0 α1 : Type} {Z : Nat → α0 → α1 → Prop} {Of : α0 → α1 → List OE} {Gf : α0 → α1 → Ctx} (h0 : ∀ x0 x1, Z 0 x0 x1 → False)
    (h : ∀ n, (∀ x0 x1, Z n x0 x1 → LG E Q c (Of x0 x1) (Gf x0 x1)) → ∀ x0 x1, Z (n + 1) x0 x1 → LG E Q c (Of x0 x1) (Gf x0 x1)) : ∀ n, ∀ x0 x1, Z n x0 x1 → LG E Q c (Of x0 x1) (Gf x0 x1)
  | 0 => fun x0 x1 hz => (h0 x0 x1 hz).elim
  | n + 1 => h n (LG.ind2 h0 h n)
theorem LG.list2 {c : Code} {β : Type} {α0 α1 : Type} {Z : List β → α0 → α1 → Prop} {Of : List β → α0 → α1 → List OE} {Gf : List β → α0 → α1 → Ctx} (h0 : ∀ x0 x1, Z [] x0 x1 → LG E Q c (Of [] x0 x1) (Gf [] x0 x1))
    (h : ∀ b l, (∀ x0 x1, Z l x0 x1 → LG E Q c (Of l x0 x1) (Gf l x0 x1)) → ∀ x0 x1, Z (b :: l) x0 x1 → LG E Q c (Of (b :: l) x0 x1) (Gf (b :: l) x0 x1)) : ∀ l, ∀ x0 x1, Z l x0 x1 → LG E Q c (Of l x0 x1) (Gf l x0 x1)
  | [] => h0
  | b :: l => h b l (LG.list2 h0 h l)
theorem CG.bjoin2 {id : Nat} {c : Code} {α0 α1 : Type} {Z : α0 → α1 → Prop} {Of : α0 → α1 → List OE} {Gf : α0 → α1 → Ctx} (hK : ∀ x0 x1, Z x0 x1 → AT E Q .normal (Of x0 x1) (Gf x0 x1))
    (h : (∀ x0 x1, Z x0 x1 → AT E Q .normal (Of x0 x1) (Gf x0 x1)) → CG E (Exit.inBlock id Q) c O G) : CG E Q (.block id c) O G := CG.block (h hK)
theorem CG.sjoin2 {x y : Code} {α0 α1 : Type} {Z : α0 → α1 → Prop} {Of : α0 → α1 → List OE} {Gf : α0 → α1 → Ctx} (hK : ∀ x0 x1, Z x0 x1 → CG E Q y (Of x0 x1) (Gf x0 x1))
    (h : (∀ x0 x1, Z x0 x1 → AT E (Exit.then (y.wpIn (fw E.r) 0 E.P Q) Q) .normal (Of x0 x1) (Gf x0 x1)) → CG E (Exit.then (y.wpIn (fw E.r) 0 E.P Q) Q) x O G) : CG E Q (.seq x y) O G := CG.seq (h (fun x0 x1 => fun hz => hK x0 x1 hz))
theorem LG.ind3 {c : Code} {α0 α1 α2 : Type} {Z : Nat → α0 → α1 → α2 → Prop} {Of : α0 → α1 → α2 → List OE} {Gf : α0 → α1 → α2 → Ctx} (h0 : ∀ x0 x1 x2, Z 0 x0 x1 x2 → False)
    (h : ∀ n, (∀ x0 x1 x2, Z n x0 x1 x2 → LG E Q c (Of x0 x1 x2) (Gf x0 x1 x2)) → ∀ x0 x1 x2, Z (n + 1) x0 x1 x2 → LG E Q c (Of x0 x1 x2) (Gf x0 x1 x2)) : ∀ n, ∀ x0 x1 x2, Z n x0 x1 x2 → LG E Q c (Of x0 x1 x2) (Gf x0 x1 x2)
  | 0 => fun x0 x1 x2 hz => (h0 x0 x1 x2 hz).elim
  | n + 1 => h n (LG.ind3 h0 h n)
theorem LG.list3 {c : Code} {β : Type} {α0 α1 α2 : Type} {Z : List β → α0 → α1 → α2 → Prop} {Of : List β → α0 → α1 → α2 → List OE} {Gf : List β → α0 → α1 → α2 → Ctx} (h0 : ∀ x0 x1 x2, Z [] x0 x1 x2 → LG E Q c (Of [] x0 x1 x2) (Gf [] x0 x1 x2))
    (h : ∀ b l, (∀ x0 x1 x2, Z l x0 x1 x2 → LG E Q c (Of l x0 x1 x2) (Gf l x0 x1 x2)) → ∀ x0 x1 x2, Z (b :: l) x0 x1 x2 → LG E Q c (Of (b :: l) x0 x1 x2) (Gf (b :: l) x0 x1 x2)) : ∀ l, ∀ x0 x1 x2, Z l x0 x1 x2 → LG E Q c (Of l x0 x1 x2) (Gf l x0 x1 x2)
  | [] => h0
  | b :: l => h b l (LG.list3 h0 h l)
theorem CG.bjoin3 {id : Nat} {c : Code} {α0 α1 α2 : Type} {Z : α0 → α1 → α2 → Prop} {Of : α0 → α1 → α2 → List OE} {Gf : α0 → α1 → α2 → Ctx} (hK : ∀ x0 x1 x2, Z x0 x1 x2 → AT E Q .normal (Of x0 x1 x2) (Gf x0 x1 x2))
    (h : (∀ x0 x1 x2, Z x0 x1 x2 → AT E Q .normal (Of x0 x1 x2) (Gf x0 x1 x2)) → CG E (Exit.inBlock id Q) c O G) : CG E Q (.block id c) O G := CG.block (h hK)
theorem CG.sjoin3 {x y : Code} {α0 α1 α2 : Type} {Z : α0 → α1 → α2 → Prop} {Of : α0 → α1 → α2 → List OE} {Gf : α0 → α1 → α2 → Ctx} (hK : ∀ x0 x1 x2, Z x0 x1 x2 → CG E Q y (Of x0 x1 x2) (Gf x0 x1 x2))
    (h : (∀ x0 x1 x2, Z x0 x1 x2 → AT E (Exit.then (y.wpIn (fw E.r) 0 E.P Q) Q) .normal (Of x0 x1 x2) (Gf x0 x1 x2)) → CG E (Exit.then (y.wpIn (fw E.r) 0 E.P Q) Q) x O G) : CG E Q (.seq x y) O G := CG.seq (h (fun x0 x1 x2 => fun hz => hK x0 x1 x2 hz))
theorem LG.ind4 {c : Code} {α0 α1 α2 α3 : Type} {Z : Nat → α0 → α1 → α2 → α3 → Prop} {Of : α0 → α1 → α2 → α3 → List OE} {Gf : α0 → α1 → α2 → α3 → Ctx} (h0 : ∀ x0 x1 x2 x3, Z 0 x0 x1 x2 x3 → False)
    (h : ∀ n, (∀ x0 x1 x2 x3, Z n x0 x1 x2 x3 → LG E Q c (Of x0 x1 x2 x3) (Gf x0 x1 x2 x3)) → ∀ x0 x1 x2 x3, Z (n + 1) x0 x1 x2 x3 → LG E Q c (Of x0 x1 x2 x3) (Gf x0 x1 x2 x3)) : ∀ n, ∀ x0 x1 x2 x3, Z n x0 x1 x2 x3 → LG E Q c (Of x0 x1 x2 x3) (Gf x0 x1 x2 x3)
  | 0 => fun x0 x1 x2 x3 hz => (h0 x0 x1 x2 x3 hz).elim
  | n + 1 => h n (LG.ind4 h0 h n)
theorem LG.list4 {c : Code} {β : Type} {α0 α1 α2 α3 : Type} {Z : List β → α0 → α1 → α2 → α3 → Prop} {Of : List β → α0 → α1 → α2 → α3 → List OE} {Gf : List β → α0 → α1 → α2 → α3 → Ctx} (h0 : ∀ x0 x1 x2 x3, Z [] x0 x1 x2 x3 → LG E Q c (Of [] x0 x1 x2 x3) (Gf [] x0 x1 x2 x3))
    (h : ∀ b l, (∀ x0 x1 x2 x3, Z l x0 x1 x2 x3 → LG E Q c (Of l x0 x1 x2 x3) (Gf l x0 x1 x2 x3)) → ∀ x0 x1 x2 x3, Z (b :: l) x0 x1 x2 x3 → LG E Q c (Of (b :: l) x0 x1 x2 x3) (Gf (b :: l) x0 x1 x2 x3)) : ∀ l, ∀ x0 x1 x2 x3, Z l x0 x1 x2 x3 → LG E Q c (Of l x0 x1 x2 x3) (Gf l x0 x1 x2 x3)
  | [] => h0
  | b :: l => h b l (LG.list4 h0 h l)
theorem CG.bjoin4 {id : Nat} {c : Code} {α0 α1 α2 α3 : Type} {Z : α0 → α1 → α2 → α3 → Prop} {Of : α0 → α1 → α2 → α3 → List OE} {Gf : α0 → α1 → α2 → α3 → Ctx} (hK : ∀ x0 x1 x2 x3, Z x0 x1 x2 x3 → AT E Q .normal (Of x0 x1 x2 x3) (Gf x0 x1 x2 x3))
    (h : (∀ x0 x1 x2 x3, Z x0 x1 x2 x3 → AT E Q .normal (Of x0 x1 x2 x3) (Gf x0 x1 x2 x3)) → CG E (Exit.inBlock id Q) c O G) : CG E Q (.block id c) O G := CG.block (h hK)
theorem CG.sjoin4 {x y : Code} {α0 α1 α2 α3 : Type} {Z : α0 → α1 → α2 → α3 → Prop} {Of : α0 → α1 → α2 → α3 → List OE} {Gf : α0 → α1 → α2 → α3 → Ctx} (hK : ∀ x0 x1 x2 x3, Z x0 x1 x2 x3 → CG E Q y (Of x0 x1 x2 x3) (Gf x0 x1 x2 x3))
    (h : (∀ x0 x1 x2 x3, Z x0 x1 x2 x3 → AT E (Exit.then (y.wpIn (fw E.r) 0 E.P Q) Q) .normal (Of x0 x1 x2 x3) (Gf x0 x1 x2 x3)) → CG E (Exit.then (y.wpIn (fw E.r) 0 E.P Q) Q) x O G) : CG E Q (.seq x y) O G := CG.seq (h (fun x0 x1 x2 x3 => fun hz => hK x0 x1 x2 x3 hz))
theorem LG.ind5 {c : Code} {α0 α1 α2 α3 α4 : Type} {Z : Nat → α0 → α1 → α2 → α3 → α4 → Prop} {Of : α0 → α1 → α2 → α3 → α4 → List OE} {Gf : α0 → α1 → α2 → α3 → α4 → Ctx} (h0 : ∀ x0 x1 x2 x3 x4, Z 0 x0 x1 x2 x3 x4 → False)
    (h : ∀ n, (∀ x0 x1 x2 x3 x4, Z n x0 x1 x2 x3 x4 → LG E Q c (Of x0 x1 x2 x3 x4) (Gf x0 x1 x2 x3 x4)) → ∀ x0 x1 x2 x3 x4, Z (n + 1) x0 x1 x2 x3 x4 → LG E Q c (Of x0 x1 x2 x3 x4) (Gf x0 x1 x2 x3 x4)) : ∀ n, ∀ x0 x1 x2 x3 x4, Z n x0 x1 x2 x3 x4 → LG E Q c (Of x0 x1 x2 x3 x4) (Gf x0 x1 x2 x3 x4)
  | 0 => fun x0 x1 x2 x3 x4 hz => (h0 x0 x1 x2 x3 x4 hz).elim
  | n + 1 => h n (LG.ind5 h0 h n)
theorem LG.list5 {c : Code} {β : Type} {α0 α1 α2 α3 α4 : Type} {Z : List β → α0 → α1 → α2 → α3 → α4 → Prop} {Of : List β → α0 → α1 → α2 → α3 → α4 → List OE} {Gf : List β → α0 → α1 → α2 → α3 → α4 → Ctx} (h0 : ∀ x0 x1 x2 x3 x4, Z [] x0 x1 x2 x3 x4 → LG E Q c (Of [] x0 x1 x2 x3 x4) (Gf [] x0 x1 x2 x3 x4))
    (h : ∀ b l, (∀ x0 x1 x2 x3 x4, Z l x0 x1 x2 x3 x4 → LG E Q c (Of l x0 x1 x2 x3 x4) (Gf l x0 x1 x2 x3 x4)) → ∀ x0 x1 x2 x3 x4, Z (b :: l) x0 x1 x2 x3 x4 → LG E Q c (Of (b :: l) x0 x1 x2 x3 x4) (Gf (b :: l) x0 x1 x2 x3 x4)) : ∀ l, ∀ x0 x1 x2 x3 x4, Z l x0 x1 x2 x3 x4 → LG E Q c (Of l x0 x1 x2 x3 x4) (Gf l x0 x1 x2 x3 x4)
  | [] => h0
  | b :: l => h b l (LG.list5 h0 h l)
theorem CG.bjoin5 {id : Nat} {c : Code} {α0 α1 α2 α3 α4 : Type} {Z : α0 → α1 → α2 → α3 → α4 → Prop} {Of : α0 → α1 → α2 → α3 → α4 → List OE} {Gf : α0 → α1 → α2 → α3 → α4 → Ctx} (hK : ∀ x0 x1 x2 x3 x4, Z x0 x1 x2 x3 x4 → AT E Q .normal (Of x0 x1 x2 x3 x4) (Gf x0 x1 x2 x3 x4))
    (h : (∀ x0 x1 x2 x3 x4, Z x0 x1 x2 x3 x4 → AT E Q .normal (Of x0 x1 x2 x3 x4) (Gf x0 x1 x2 x3 x4)) → CG E (Exit.inBlock id Q) c O G) : CG E Q (.block id c) O G := CG.block (h hK)
theorem CG.sjoin5 {x y : Code} {α0 α1 α2 α3 α4 : Type} {Z : α0 → α1 → α2 → α3 → α4 → Prop} {Of : α0 → α1 → α2 → α3 → α4 → List OE} {Gf : α0 → α1 → α2 → α3 → α4 → Ctx} (hK : ∀ x0 x1 x2 x3 x4, Z x0 x1 x2 x3 x4 → CG E Q y (Of x0 x1 x2 x3 x4) (Gf x0 x1 x2 x3 x4))
    (h : (∀ x0 x1 x2 x3 x4, Z x0 x1 x2 x3 x4 → AT E (Exit.then (y.wpIn (fw E.r) 0 E.P Q) Q) .normal (Of x0 x1 x2 x3 x4) (Gf x0 x1 x2 x3 x4)) → CG E (Exit.then (y.wpIn (fw E.r) 0 E.P Q) Q) x O G) : CG E Q (.seq x y) O G := CG.seq (h (fun x0 x1 x2 x3 x4 => fun hz => hK x0 x1 x2 x3 x4 hz))
theorem LG.ind6 {c : Code} {α0 α1 α2 α3 α4 α5 : Type} {Z : Nat → α0 → α1 → α2 → α3 → α4 → α5 → Prop} {Of : α0 → α1 → α2 → α3 → α4 → α5 → List OE} {Gf : α0 → α1 → α2 → α3 → α4 → α5 → Ctx} (h0 : ∀ x0 x1 x2 x3 x4 x5, Z 0 x0 x1 x2 x3 x4 x5 → False)
    (h : ∀ n, (∀ x0 x1 x2 x3 x4 x5, Z n x0 x1 x2 x3 x4 x5 → LG E Q c (Of x0 x1 x2 x3 x4 x5) (Gf x0 x1 x2 x3 x4 x5)) → ∀ x0 x1 x2 x3 x4 x5, Z (n + 1) x0 x1 x2 x3 x4 x5 → LG E Q c (Of x0 x1 x2 x3 x4 x5) (Gf x0 x1 x2 x3 x4 x5)) : ∀ n, ∀ x0 x1 x2 x3 x4 x5, Z n x0 x1 x2 x3 x4 x5 → LG E Q c (Of x0 x1 x2 x3 x4 x5) (Gf x0 x1 x2 x3 x4 x5)
  | 0 => fun x0 x1 x2 x3 x4 x5 hz => (h0 x0 x1 x2 x3 x4 x5 hz).elim
  | n + 1 => h n (LG.ind6 h0 h n)
theorem LG.list6 {c : Code} {β : Type} {α0 α1 α2 α3 α4 α5 : Type} {Z : List β → α0 → α1 → α2 → α3 → α4 → α5 → Prop} {Of : List β → α0 → α1 → α2 → α3 → α4 → α5 → List OE} {Gf : List β → α0 → α1 → α2 → α3 → α4 → α5 → Ctx} (h0 : ∀ x0 x1 x2 x3 x4 x5, Z [] x0 x1 x2 x3 x4 x5 → LG E Q c (Of [] x0 x1 x2 x3 x4 x5) (Gf [] x0 x1 x2 x3 x4 x5))
    (h : ∀ b l, (∀ x0 x1 x2 x3 x4 x5, Z l x0 x1 x2 x3 x4 x5 → LG E Q c (Of l x0 x1 x2 x3 x4 x5) (Gf l x0 x1 x2 x3 x4 x5)) → ∀ x0 x1 x2 x3 x4 x5, Z (b :: l) x0 x1 x2 x3 x4 x5 → LG E Q c (Of (b :: l) x0 x1 x2 x3 x4 x5) (Gf (b :: l) x0 x1 x2 x3 x4 x5)) : ∀ l, ∀ x0 x1 x2 x3 x4 x5, Z l x0 x1 x2 x3 x4 x5 → LG E Q c (Of l x0 x1 x2 x3 x4 x5) (Gf l x0 x1 x2 x3 x4 x5)
  | [] => h0
  | b :: l => h b l (LG.list6 h0 h l)
theorem CG.bjoin6 {id : Nat} {c : Code} {α0 α1 α2 α3 α4 α5 : Type} {Z : α0 → α1 → α2 → α3 → α4 → α5 → Prop} {Of : α0 → α1 → α2 → α3 → α4 → α5 → List OE} {Gf : α0 → α1 → α2 → α3 → α4 → α5 → Ctx} (hK : ∀ x0 x1 x2 x3 x4 x5, Z x0 x1 x2 x3 x4 x5 → AT E Q .normal (Of x0 x1 x2 x3 x4 x5) (Gf x0 x1 x2 x3 x4 x5))
    (h : (∀ x0 x1 x2 x3 x4 x5, Z x0 x1 x2 x3 x4 x5 → AT E Q .normal (Of x0 x1 x2 x3 x4 x5) (Gf x0 x1 x2 x3 x4 x5)) → CG E (Exit.inBlock id Q) c O G) : CG E Q (.block id c) O G := CG.block (h hK)
theorem CG.sjoin6 {x y : Code} {α0 α1 α2 α3 α4 α5 : Type} {Z : α0 → α1 → α2 → α3 → α4 → α5 → Prop} {Of : α0 → α1 → α2 → α3 → α4 → α5 → List OE} {Gf : α0 → α1 → α2 → α3 → α4 → α5 → Ctx} (hK : ∀ x0 x1 x2 x3 x4 x5, Z x0 x1 x2 x3 x4 x5 → CG E Q y (Of x0 x1 x2 x3 x4 x5) (Gf x0 x1 x2 x3 x4 x5))
    (h : (∀ x0 x1 x2 x3 x4 x5, Z x0 x1 x2 x3 x4 x5 → AT E (Exit.then (y.wpIn (fw E.r) 0 E.P Q) Q) .normal (Of x0 x1 x2 x3 x4 x5) (Gf x0 x1 x2 x3 x4 x5)) → CG E (Exit.then (y.wpIn (fw E.r) 0 E.P Q) Q) x O G) : CG E Q (.seq x y) O G := CG.seq (h (fun x0 x1 x2 x3 x4 x5 => fun hz => hK x0 x1 x2 x3 x4 x5 hz))
theorem LG.ind7 {c : Code} {α0 α1 α2 α3 α4 α5 α6 : Type} {Z : Nat → α0 → α1 → α2 → α3 → α4 → α5 → α6 → Prop} {Of : α0 → α1 → α2 → α3 → α4 → α5 → α6 → List OE} {Gf : α0 → α1 → α2 → α3 → α4 → α5 → α6 → Ctx} (h0 : ∀ x0 x1 x2 x3 x4 x5 x6, Z 0 x0 x1 x2 x3 x4 x5 x6 → False)
    (h : ∀ n, (∀ x0 x1 x2 x3 x4 x5 x6, Z n x0 x1 x2 x3 x4 x5 x6 → LG E Q c (Of x0 x1 x2 x3 x4 x5 x6) (Gf x0 x1 x2 x3 x4 x5 x6)) → ∀ x0 x1 x2 x3 x4 x5 x6, Z (n + 1) x0 x1 x2 x3 x4 x5 x6 → LG E Q c (Of x0 x1 x2 x3 x4 x5 x6) (Gf x0 x1 x2 x3 x4 x5 x6)) : ∀ n, ∀ x0 x1 x2 x3 x4 x5 x6, Z n x0 x1 x2 x3 x4 x5 x6 → LG E Q c (Of x0 x1 x2 x3 x4 x5 x6) (Gf x0 x1 x2 x3 x4 x5 x6)
  | 0 => fun x0 x1 x2 x3 x4 x5 x6 hz => (h0 x0 x1 x2 x3 x4 x5 x6 hz).elim
  | n + 1 => h n (LG.ind7 h0 h n)
theorem LG.list7 {c : Code} {β : Type} {α0 α1 α2 α3 α4 α5 α6 : Type} {Z : List β → α0 → α1 → α2 → α3 → α4 → α5 → α6 → Prop} {Of : List β → α0 → α1 → α2 → α3 → α4 → α5 → α6 → List OE} {Gf : List β → α0 → α1 → α2 → α3 → α4 → α5 → α6 → Ctx} (h0 : ∀ x0 x1 x2 x3 x4 x5 x6, Z [] x0 x1 x2 x3 x4 x5 x6 → LG E Q c (Of [] x0 x1 x2 x3 x4 x5 x6) (Gf [] x0 x1 x2 x3 x4 x5 x6))
    (h : ∀ b l, (∀ x0 x1 x2 x3 x4 x5 x6, Z l x0 x1 x2 x3 x4 x5 x6 → LG E Q c (Of l x0 x1 x2 x3 x4 x5 x6) (Gf l x0 x1 x2 x3 x4 x5 x6)) → ∀ x0 x1 x2 x3 x4 x5 x6, Z (b :: l) x0 x1 x2 x3 x4 x5 x6 → LG E Q c (Of (b :: l) x0 x1 x2 x3 x4 x5 x6) (Gf (b :: l) x0 x1 x2 x3 x4 x5 x6)) : ∀ l, ∀ x0 x1 x2 x3 x4 x5 x6, Z l x0 x1 x2 x3 x4 x5 x6 → LG E Q c (Of l x0 x1 x2 x3 x4 x5 x6) (Gf l x0 x1 x2 x3 x4 x5 x6)
  | [] => h0
  | b :: l => h b l (LG.list7 h0 h l)
theorem CG.bjoin7 {id : Nat} {c : Code} {α0 α1 α2 α3 α4 α5 α6 : Type} {Z : α0 → α1 → α2 → α3 → α4 → α5 → α6 → Prop} {Of : α0 → α1 → α2 → α3 → α4 → α5 → α6 → List OE} {Gf : α0 → α1 → α2 → α3 → α4 → α5 → α6 → Ctx} (hK : ∀ x0 x1 x2 x3 x4 x5 x6, Z x0 x1 x2 x3 x4 x5 x6 → AT E Q .normal (Of x0 x1 x2 x3 x4 x5 x6) (Gf x0 x1 x2 x3 x4 x5 x6))
    (h : (∀ x0 x1 x2 x3 x4 x5 x6, Z x0 x1 x2 x3 x4 x5 x6 → AT E Q .normal (Of x0 x1 x2 x3 x4 x5 x6) (Gf x0 x1 x2 x3 x4 x5 x6)) → CG E (Exit.inBlock id Q) c O G) : CG E Q (.block id c) O G := CG.block (h hK)
theorem CG.sjoin7 {x y : Code} {α0 α1 α2 α3 α4 α5 α6 : Type} {Z : α0 → α1 → α2 → α3 → α4 → α5 → α6 → Prop} {Of : α0 → α1 → α2 → α3 → α4 → α5 → α6 → List OE} {Gf : α0 → α1 → α2 → α3 → α4 → α5 → α6 → Ctx} (hK : ∀ x0 x1 x2 x3 x4 x5 x6, Z x0 x1 x2 x3 x4 x5 x6 → CG E Q y (Of x0 x1 x2 x3 x4 x5 x6) (Gf x0 x1 x2 x3 x4 x5 x6))
    (h : (∀ x0 x1 x2 x3 x4 x5 x6, Z x0 x1 x2 x3 x4 x5 x6 → AT E (Exit.then (y.wpIn (fw E.r) 0 E.P Q) Q) .normal (Of x0 x1 x2 x3 x4 x5 x6) (Gf x0 x1 x2 x3 x4 x5 x6)) → CG E (Exit.then (y.wpIn (fw E.r) 0 E.P Q) Q) x O G) : CG E Q (.seq x y) O G := CG.seq (h (fun x0 x1 x2 x3 x4 x5 x6 => fun hz => hK x0 x1 x2 x3 x4 x5 x6 hz))
theorem LG.ind8 {c : Code} {α0 α1 α2 α3 α4 α5 α6 α7 : Type} {Z : Nat → α0 → α1 → α2 → α3 → α4 → α5 → α6 → α7 → Prop} {Of : α0 → α1 → α2 → α3 → α4 → α5 → α6 → α7 → List OE} {Gf : α0 → α1 → α2 → α3 → α4 → α5 → α6 → α7 → Ctx} (h0 : ∀ x0 x1 x2 x3 x4 x5 x6 x7, Z 0 x0 x1 x2 x3 x4 x5 x6 x7 → False)
    (h : ∀ n, (∀ x0 x1 x2 x3 x4 x5 x6 x7, Z n x0 x1 x2 x3 x4 x5 x6 x7 → LG E Q c (Of x0 x1 x2 x3 x4 x5 x6 x7) (Gf x0 x1 x2 x3 x4 x5 x6 x7)) → ∀ x0 x1 x2 x3 x4 x5 x6 x7, Z (n + 1) x0 x1 x2 x3 x4 x5 x6 x7 → LG E Q c (Of x0 x1 x2 x3 x4 x5 x6 x7) (Gf x0 x1 x2 x3 x4 x5 x6 x7)) : ∀ n, ∀ x0 x1 x2 x3 x4 x5 x6 x7, Z n x0 x1 x2 x3 x4 x5 x6 x7 → LG E Q c (Of x0 x1 x2 x3 x4 x5 x6 x7) (Gf x0 x1 x2 x3 x4 x5 x6 x7)
  | 0 => fun x0 x1 x2 x3 x4 x5 x6 x7 hz => (h0 x0 x1 x2 x3 x4 x5 x6 x7 hz).elim
  | n + 1 => h n (LG.ind8 h0 h n)
theorem LG.list8 {c : Code} {β : Type} {α0 α1 α2 α3 α4 α5 α6 α7 : Type} {Z : List β → α0 → α1 → α2 → α3 → α4 → α5 → α6 → α7 → Prop} {Of : List β → α0 → α1 → α2 → α3 → α4 → α5 → α6 → α7 → List OE} {Gf : List β → α0 → α1 → α2 → α3 → α4 → α5 → α6 → α7 → Ctx} (h0 : ∀ x0 x1 x2 x3 x4 x5 x6 x7, Z [] x0 x1 x2 x3 x4 x5 x6 x7 → LG E Q c (Of [] x0 x1 x2 x3 x4 x5 x6 x7) (Gf [] x0 x1 x2 x3 x4 x5 x6 x7))
    (h : ∀ b l, (∀ x0 x1 x2 x3 x4 x5 x6 x7, Z l x0 x1 x2 x3 x4 x5 x6 x7 → LG E Q c (Of l x0 x1 x2 x3 x4 x5 x6 x7) (Gf l x0 x1 x2 x3 x4 x5 x6 x7)) → ∀ x0 x1 x2 x3 x4 x5 x6 x7, Z (b :: l) x0 x1 x2 x3 x4 x5 x6 x7 → LG E Q c (Of (b :: l) x0 x1 x2 x3 x4 x5 x6 x7) (Gf (b :: l) x0 x1 x2 x3 x4 x5 x6 x7)) : ∀ l, ∀ x0 x1 x2 x3 x4 x5 x6 x7, Z l x0 x1 x2 x3 x4 x5 x6 x7 → LG E Q c (Of l x0 x1 x2 x3 x4 x5 x6 x7) (Gf l x0 x1 x2 x3 x4 x5 x6 x7)
  | [] => h0
  | b :: l => h b l (LG.list8 h0 h l)
theorem CG.bjoin8 {id : Nat} {c : Code} {α0 α1 α2 α3 α4 α5 α6 α7 : Type} {Z : α0 → α1 → α2 → α3 → α4 → α5 → α6 → α7 → Prop} {Of : α0 → α1 → α2 → α3 → α4 → α5 → α6 → α7 → List OE} {Gf : α0 → α1 → α2 → α3 → α4 → α5 → α6 → α7 → Ctx} (hK : ∀ x0 x1 x2 x3 x4 x5 x6 x7, Z x0 x1 x2 x3 x4 x5 x6 x7 → AT E Q .normal (Of x0 x1 x2 x3 x4 x5 x6 x7) (Gf x0 x1 x2 x3 x4 x5 x6 x7))
    (h : (∀ x0 x1 x2 x3 x4 x5 x6 x7, Z x0 x1 x2 x3 x4 x5 x6 x7 → AT E Q .normal (Of x0 x1 x2 x3 x4 x5 x6 x7) (Gf x0 x1 x2 x3 x4 x5 x6 x7)) → CG E (Exit.inBlock id Q) c O G) : CG E Q (.block id c) O G := CG.block (h hK)
theorem CG.sjoin8 {x y : Code} {α0 α1 α2 α3 α4 α5 α6 α7 : Type} {Z : α0 → α1 → α2 → α3 → α4 → α5 → α6 → α7 → Prop} {Of : α0 → α1 → α2 → α3 → α4 → α5 → α6 → α7 → List OE} {Gf : α0 → α1 → α2 → α3 → α4 → α5 → α6 → α7 → Ctx} (hK : ∀ x0 x1 x2 x3 x4 x5 x6 x7, Z x0 x1 x2 x3 x4 x5 x6 x7 → CG E Q y (Of x0 x1 x2 x3 x4 x5 x6 x7) (Gf x0 x1 x2 x3 x4 x5 x6 x7))
    (h : (∀ x0 x1 x2 x3 x4 x5 x6 x7, Z x0 x1 x2 x3 x4 x5 x6 x7 → AT E (Exit.then (y.wpIn (fw E.r) 0 E.P Q) Q) .normal (Of x0 x1 x2 x3 x4 x5 x6 x7) (Gf x0 x1 x2 x3 x4 x5 x6 x7)) → CG E (Exit.then (y.wpIn (fw E.r) 0 E.P Q) Q) x O G) : CG E Q (.seq x y) O G := CG.seq (h (fun x0 x1 x2 x3 x4 x5 x6 x7 => fun hz => hK x0 x1 x2 x3 x4 x5 x6 x7 hz))
theorem LG.ind9 {c : Code} {α0 α1 α2 α3 α4 α5 α6 α7 α8 : Type} {Z : Nat → α0 → α1 → α2 → α3 → α4 → α5 → α6 → α7 → α8 → Prop} {Of : α0 → α1 → α2 → α3 → α4 → α5 → α6 → α7 → α8 → List OE} {Gf : α0 → α1 → α2 → α3 → α4 → α5 → α6 → α7 → α8 → Ctx} (h0 : ∀ x0 x1 x2 x3 x4 x5 x6 x7 x8, Z 0 x0 x1 x2 x3 x4 x5 x6 x7 x8 → False)
    (h : ∀ n, (∀ x0 x1 x2 x3 x4 x5 x6 x7 x8, Z n x0 x1 x2 x3 x4 x5 x6 x7 x8 → LG E Q c (Of x0 x1 x2 x3 x4 x5 x6 x7 x8) (Gf x0 x1 x2 x3 x4 x5 x6 x7 x8)) → ∀ x0 x1 x2 x3 x4 x5 x6 x7 x8, Z (n + 1) x0 x1 x2 x3 x4 x5 x6 x7 x8 → LG E Q c (Of x0 x1 x2 x3 x4 x5 x6 x7 x8) (Gf x0 x1 x2 x3 x4 x5 x6 x7 x8)) : ∀ n, ∀ x0 x1 x2 x3 x4 x5 x6 x7 x8, Z n x0 x1 x2 x3 x4 x5 x6 x7 x8 → LG E Q c (Of x0 x1 x2 x3 x4 x5 x6 x7 x8) (Gf x0 x1 x2 x3 x4 x5 x6 x7 x8)
  | 0 => fun x0 x1 x2 x3 x4 x5 x6 x7 x8 hz => (h0 x0 x1 x2 x3 x4 x5 x6 x7 x8 hz).elim
  | n + 1 => h n (LG.ind9 h0 h n)
theorem LG.list9 {c : Code} {β : Type} {α0 α1 α2 α3 α4 α5 α6 α7 α8 : Type} {Z : List β → α0 → α1 → α2 → α3 → α4 → α5 → α6 → α7 → α8 → Prop} {Of : List β → α0 → α1 → α2 → α3 → α4 → α5 → α6 → α7 → α8 → List OE} {Gf : List β → α0 → α1 → α2 → α3 → α4 → α5 → α6 → α7 → α8 → Ctx} (h0 : ∀ x0 x1 x2 x3 x4 x5 x6 x7 x8, Z [] x0 x1 x2 x3 x4 x5 x6 x7 x8 → LG E Q c (Of [] x0 x1 x2 x3 x4 x5 x6 x7 x8) (Gf [] x0 x1 x2 x3 x4 x5 x6 x7 x8))
    (h : ∀ b l, (∀ x0 x1 x2 x3 x4 x5 x6 x7 x8, Z l x0 x1 x2 x3 x4 x5 x6 x7 x8 → LG E Q c (Of l x0 x1 x2 x3 x4 x5 x6 x7 x8) (Gf l x0 x1 x2 x3 x4 x5 x6 x7 x8)) → ∀ x0 x1 x2 x3 x4 x5 x6 x7 x8, Z (b :: l) x0 x1 x2 x3 x4 x5 x6 x7 x8 → LG E Q c (Of (b :: l) x0 x1 x2 x3 x4 x5 x6 x7 x8) (Gf (b :: l) x0 x1 x2 x3 x4 x5 x6 x7 x8)) : ∀ l, ∀ x0 x1 x2 x3 x4 x5 x6 x7 x8, Z l x0 x1 x2 x3 x4 x5 x6 x7 x8 → LG E Q c (Of l x0 x1 x2 x3 x4 x5 x6 x7 x8) (Gf l x0 x1 x2 x3 x4 x5 x6 x7 x8)
  | [] => h0
  | b :: l => h b l (LG.list9 h0 h l)
theorem CG.bjoin9 {id : Nat} {c : Code} {α0 α1 α2 α3 α4 α5 α6 α7 α8 : Type} {Z : α0 → α1 → α2 → α3 → α4 → α5 → α6 → α7 → α8 → Prop} {Of : α0 → α1 → α2 → α3 → α4 → α5 → α6 → α7 → α8 → List OE} {Gf : α0 → α1 → α2 → α3 → α4 → α5 → α6 → α7 → α8 → Ctx} (hK : ∀ x0 x1 x2 x3 x4 x5 x6 x7 x8, Z x0 x1 x2 x3 x4 x5 x6 x7 x8 → AT E Q .normal (Of x0 x1 x2 x3 x4 x5 x6 x7 x8) (Gf x0 x1 x2 x3 x4 x5 x6 x7 x8))
    (h : (∀ x0 x1 x2 x3 x4 x5 x6 x7 x8, Z x0 x1 x2 x3 x4 x5 x6 x7 x8 → AT E Q .normal (Of x0 x1 x2 x3 x4 x5 x6 x7 x8) (Gf x0 x1 x2 x3 x4 x5 x6 x7 x8)) → CG E (Exit.inBlock id Q) c O G) : CG E Q (.block id c) O G := CG.block (h hK)
theorem CG.sjoin9 {x y : Code} {α0 α1 α2 α3 α4 α5 α6 α7 α8 : Type} {Z : α0 → α1 → α2 → α3 → α4 → α5 → α6 → α7 → α8 → Prop} {Of : α0 → α1 → α2 → α3 → α4 → α5 → α6 → α7 → α8 → List OE} {Gf : α0 → α1 → α2 → α3 → α4 → α5 → α6 → α7 → α8 → Ctx} (hK : ∀ x0 x1 x2 x3 x4 x5 x6 x7 x8, Z x0 x1 x2 x3 x4 x5 x6 x7 x8 → CG E Q y (Of x0 x1 x2 x3 x4 x5 x6 x7 x8) (Gf x0 x1 x2 x3 x4 x5 x6 x7 x8))
    (h : (∀ x0 x1 x2 x3 x4 x5 x6 x7 x8, Z x0 x1 x2 x3 x4 x5 x6 x7 x8 → AT E (Exit.then (y.wpIn (fw E.r) 0 E.P Q) Q) .normal (Of x0 x1 x2 x3 x4 x5 x6 x7 x8) (Gf x0 x1 x2 x3 x4 x5 x6 x7 x8)) → CG E (Exit.then (y.wpIn (fw E.r) 0 E.P Q) Q) x O G) : CG E Q (.seq x y) O G := CG.seq (h (fun x0 x1 x2 x3 x4 x5 x6 x7 x8 => fun hz => hK x0 x1 x2 x3 x4 x5 x6 x7 x8 hz))
theorem LG.ind10 {c : Code} {α0 α1 α2 α3 α4 α5 α6 α7 α8 α9 : Type} {Z : Nat → α0 → α1 → α2 → α3 → α4 → α5 → α6 → α7 → α8 → α9 → Prop} {Of : α0 → α1 → α2 → α3 → α4 → α5 → α6 → α7 → α8 → α9 → List OE} {Gf : α0 → α1 → α2 → α3 → α4 → α5 → α6 → α7 → α8 → α9 → Ctx} (h0 : ∀ x0 x1 x2 x3 x4 x5 x6 x7 x8 x9, Z 0 x0 x1 x2 x3 x4 x5 x6 x7 x8 x9 → False)
    (h : ∀ n, (∀ x0 x1 x2 x3 x4 x5 x6 x7 x8 x9, Z n x0 x1 x2 x3 x4 x5 x6 x7 x8 x9 → LG E Q c (Of x0 x1 x2 x3 x4 x5 x6 x7 x8 x9) (Gf x0 x1 x2 x3 x4 x5 x6 x7 x8 x9)) → ∀ x0 x1 x2 x3 x4 x5 x6 x7 x8 x9, Z (n + 1) x0 x1 x2 x3 x4 x5 x6 x7 x8 x9 → LG E Q c (Of x0 x1 x2 x3 x4 x5 x6 x7 x8 x9) (Gf x0 x1 x2 x3 x4 x5 x6 x7 x8 x9)) : ∀ n, ∀ x0 x1 x2 x3 x4 x5 x6 x7 x8 x9, Z n x0 x1 x2 x3 x4 x5 x6 x7 x8 x9 → LG E Q c (Of x0 x1 x2 x3 x4 x5 x6 x7 x8 x9) (Gf x0 x1 x2 x3 x4 x5 x6 x7 x8 x9)
  | 0 => fun x0 x1 x2 x3 x4 x5 x6 x7 x8 x9 hz => (h0 x0 x1 x2 x3 x4 x5 x6 x7 x8 x9 hz).elim
  | n + 1 => h n (LG.ind10 h0 h n)
theorem LG.list10 {c : Code} {β : Type} {α0 α1 α2 α3 α4 α5 α6 α7 α8 α9 : Type} {Z : List β → α0 → α1 → α2 → α3 → α4 → α5 → α6 → α7 → α8 → α9 → Prop} {Of : List β → α0 → α1 → α2 → α3 → α4 → α5 → α6 → α7 → α8 → α9 → List OE} {Gf : List β → α0 → α1 → α2 → α3 → α4 → α5 → α6 → α7 → α8 → α9 → Ctx} (h0 : ∀ x0 x1 x2 x3 x4 x5 x6 x7 x8 x9, Z [] x0 x1 x2 x3 x4 x5 x6 x7 x8 x9 → LG E Q c (Of [] x0 x1 x2 x3 x4 x5 x6 x7 x8 x9) (Gf [] x0 x1 x2 x3 x4 x5 x6 x7 x8 x9))
    (h : ∀ b l, (∀ x0 x1 x2 x3 x4 x5 x6 x7 x8 x9, Z l x0 x1 x2 x3 x4 x5 x6 x7 x8 x9 → LG E Q c (Of l x0 x1 x2 x3 x4 x5 x6 x7 x8 x9) (Gf l x0 x1 x2 x3 x4 x5 x6 x7 x8 x9)) → ∀ x0 x1 x2 x3 x4 x5 x6 x7 x8 x9, Z (b :: l) x0 x1 x2 x3 x4 x5 x6 x7 x8 x9 → LG E Q c (Of (b :: l) x0 x1 x2 x3 x4 x5 x6 x7 x8 x9) (Gf (b :: l) x0 x1 x2 x3 x4 x5 x6 x7 x8 x9)) : ∀ l, ∀ x0 x1 x2 x3 x4 x5 x6 x7 x8 x9, Z l x0 x1 x2 x3 x4 x5 x6 x7 x8 x9 → LG E Q c (Of l x0 x1 x2 x3 x4 x5 x6 x7 x8 x9) (Gf l x0 x1 x2 x3 x4 x5 x6 x7 x8 x9)
  | [] => h0
  | b :: l => h b l (LG.list10 h0 h l)
theorem CG.bjoin10 {id : Nat} {c : Code} {α0 α1 α2 α3 α4 α5 α6 α7 α8 α9 : Type} {Z : α0 → α1 → α2 → α3 → α4 → α5 → α6 → α7 → α8 → α9 → Prop} {Of : α0 → α1 → α2 → α3 → α4 → α5 → α6 → α7 → α8 → α9 → List OE} {Gf : α0 → α1 → α2 → α3 → α4 → α5 → α6 → α7 → α8 → α9 → Ctx} (hK : ∀ x0 x1 x2 x3 x4 x5 x6 x7 x8 x9, Z x0 x1 x2 x3 x4 x5 x6 x7 x8 x9 → AT E Q .normal (Of x0 x1 x2 x3 x4 x5 x6 x7 x8 x9) (Gf x0 x1 x2 x3 x4 x5 x6 x7 x8 x9))
    (h : (∀ x0 x1 x2 x3 x4 x5 x6 x7 x8 x9, Z x0 x1 x2 x3 x4 x5 x6 x7 x8 x9 → AT E Q .normal (Of x0 x1 x2 x3 x4 x5 x6 x7 x8 x9) (Gf x0 x1 x2 x3 x4 x5 x6 x7 x8 x9)) → CG E (Exit.inBlock id Q) c O G) : CG E Q (.block id c) O G := CG.block (h hK)
theorem CG.sjoin10 {x y : Code} {α0 α1 α2 α3 α4 α5 α6 α7 α8 α9 : Type} {Z : α0 → α1 → α2 → α3 → α4 → α5 → α6 → α7 → α8 → α9 → Prop} {Of : α0 → α1 → α2 → α3 → α4 → α5 → α6 → α7 → α8 → α9 → List OE} {Gf : α0 → α1 → α2 → α3 → α4 → α5 → α6 → α7 → α8 → α9 → Ctx} (hK : ∀ x0 x1 x2 x3 x4 x5 x6 x7 x8 x9, Z x0 x1 x2 x3 x4 x5 x6 x7 x8 x9 → CG E Q y (Of x0 x1 x2 x3 x4 x5 x6 x7 x8 x9) (Gf x0 x1 x2 x3 x4 x5 x6 x7 x8 x9))
    (h : (∀ x0 x1 x2 x3 x4 x5 x6 x7 x8 x9, Z x0 x1 x2 x3 x4 x5 x6 x7 x8 x9 → AT E (Exit.then (y.wpIn (fw E.r) 0 E.P Q) Q) .normal (Of x0 x1 x2 x3 x4 x5 x6 x7 x8 x9) (Gf x0 x1 x2 x3 x4 x5 x6 x7 x8 x9)) → CG E (Exit.then (y.wpIn (fw E.r) 0 E.P Q) Q) x O G) : CG E Q (.seq x y) O G := CG.seq (h (fun x0 x1 x2 x3 x4 x5 x6 x7 x8 x9 => fun hz => hK x0 x1 x2 x3 x4 x5 x6 x7 x8 x9 hz))
theorem LG.ind11 {c : Code} {α0 α1 α2 α3 α4 α5 α6 α7 α8 α9 α10 : Type} {Z : Nat → α0 → α1 → α2 → α3 → α4 → α5 → α6 → α7 → α8 → α9 → α10 → Prop} {Of : α0 → α1 → α2 → α3 → α4 → α5 → α6 → α7 → α8 → α9 → α10 → List OE} {Gf : α0 → α1 → α2 → α3 → α4 → α5 → α6 → α7 → α8 → α9 → α10 → Ctx} (h0 : ∀ x0 x1 x2 x3 x4 x5 x6 x7 x8 x9 x10, Z 0 x0 x1 x2 x3 x4 x5 x6 x7 x8 x9 x10 → False)
    (h : ∀ n, (∀ x0 x1 x2 x3 x4 x5 x6 x7 x8 x9 x10, Z n x0 x1 x2 x3 x4 x5 x6 x7 x8 x9 x10 → LG E Q c (Of x0 x1 x2 x3 x4 x5 x6 x7 x8 x9 x10) (Gf x0 x1 x2 x3 x4 x5 x6 x7 x8 x9 x10)) → ∀ x0 x1 x2 x3 x4 x5 x6 x7 x8 x9 x10, Z (n + 1) x0 x1 x2 x3 x4 x5 x6 x7 x8 x9 x10 → LG E Q c (Of x0 x1 x2 x3 x4 x5 x6 x7 x8 x9 x10) (Gf x0 x1 x2 x3 x4 x5 x6 x7 x8 x9 x10)) : ∀ n, ∀ x0 x1 x2 x3 x4 x5 x6 x7 x8 x9 x10, Z n x0 x1 x2 x3 x4 x5 x6 x7 x8 x9 x10 → LG E Q c (Of x0 x1 x2 x3 x4 x5 x6 x7 x8 x9 x10) (Gf x0 x1 x2 x3 x4 x5 x6 x7 x8 x9 x10)
  | 0 => fun x0 x1 x2 x3 x4 x5 x6 x7 x8 x9 x10 hz => (h0 x0 x1 x2 x3 x4 x5 x6 x7 x8 x9 x10 hz).elim
  | n + 1 => h n (LG.ind11 h0 h n)
theorem LG.list11 {c : Code} {β : Type} {α0 α1 α2 α3 α4 α5 α6 α7 α8 α9 α10 : Type} {Z : List β → α0 → α1 → α2 → α3 → α4 → α5 → α6 → α7 → α8 → α9 → α10 → Prop} {Of : List β → α0 → α1 → α2 → α3 → α4 → α5 → α6 → α7 → α8 → α9 → α10 → List OE} {Gf : List β → α0 → α1 → α2 → α3 → α4 → α5 → α6 → α7 → α8 → α9 → α10 → Ctx} (h0 : ∀ x0 x1 x2 x3 x4 x5 x6 x7 x8 x9 x10, Z [] x0 x1 x2 x3 x4 x5 x6 x7 x8 x9 x10 → LG E Q c (Of [] x0 x1 x2 x3 x4 x5 x6 x7 x8 x9 x10) (Gf [] x0 x1 x2 x3 x4 x5 x6 x7 x8 x9 x10))
    (h : ∀ b l, (∀ x0 x1 x2 x3 x4 x5 x6 x7 x8 x9 x10, Z l x0 x1 x2 x3 x4 x5 x6 x7 x8 x9 x10 → LG E Q c (Of l x0 x1 x2 x3 x4 x5 x6 x7 x8 x9 x10) (Gf l x0 x1 x2 x3 x4 x5 x6 x7 x8 x9 x10)) → ∀ x0 x1 x2 x3 x4 x5 x6 x7 x8 x9 x10, Z (b :: l) x0 x1 x2 x3 x4 x5 x6 x7 x8 x9 x10 → LG E Q c (Of (b :: l) x0 x1 x2 x3 x4 x5 x6 x7 x8 x9 x10) (Gf (b :: l) x0 x1 x2 x3 x4 x5 x6 x7 x8 x9 x10)) : ∀ l, ∀ x0 x1 x2 x3 x4 x5 x6 x7 x8 x9 x10, Z l x0 x1 x2 x3 x4 x5 x6 x7 x8 x9 x10 → LG E Q c (Of l x0 x1 x2 x3 x4 x5 x6 x7 x8 x9 x10) (Gf l x0 x1 x2 x3 x4 x5 x6 x7 x8 x9 x10)
  | [] => h0
  | b :: l => h b l (LG.list11 h0 h l)
theorem CG.bjoin11 {id : Nat} {c : Code} {α0 α1 α2 α3 α4 α5 α6 α7 α8 α9 α10 : Type} {Z : α0 → α1 → α2 → α3 → α4 → α5 → α6 → α7 → α8 → α9 → α10 → Prop} {Of : α0 → α1 → α2 → α3 → α4 → α5 → α6 → α7 → α8 → α9 → α10 → List OE} {Gf : α0 → α1 → α2 → α3 → α4 → α5 → α6 → α7 → α8 → α9 → α10 → Ctx} (hK : ∀ x0 x1 x2 x3 x4 x5 x6 x7 x8 x9 x10, Z x0 x1 x2 x3 x4 x5 x6 x7 x8 x9 x10 → AT E Q .normal (Of x0 x1 x2 x3 x4 x5 x6 x7 x8 x9 x10) (Gf x0 x1 x2 x3 x4 x5 x6 x7 x8 x9 x10))
    (h : (∀ x0 x1 x2 x3 x4 x5 x6 x7 x8 x9 x10, Z x0 x1 x2 x3 x4 x5 x6 x7 x8 x9 x10 → AT E Q .normal (Of x0 x1 x2 x3 x4 x5 x6 x7 x8 x9 x10) (Gf x0 x1 x2 x3 x4 x5 x6 x7 x8 x9 x10)) → CG E (Exit.inBlock id Q) c O G) : CG E Q (.block id c) O G := CG.block (h hK)
theorem CG.sjoin11 {x y : Code} {α0 α1 α2 α3 α4 α5 α6 α7 α8 α9 α10 : Type} {Z : α0 → α1 → α2 → α3 → α4 → α5 → α6 → α7 → α8 → α9 → α10 → Prop} {Of : α0 → α1 → α2 → α3 → α4 → α5 → α6 → α7 → α8 → α9 → α10 → List OE} {Gf : α0 → α1 → α2 → α3 → α4 → α5 → α6 → α7 → α8 → α9 → α10 → Ctx} (hK : ∀ x0 x1 x2 x3 x4 x5 x6 x7 x8 x9 x10, Z x0 x1 x2 x3 x4 x5 x6 x7 x8 x9 x10 → CG E Q y (Of x0 x1 x2 x3 x4 x5 x6 x7 x8 x9 x10) (Gf x0 x1 x2 x3 x4 x5 x6 x7 x8 x9 x10))
    (h : (∀ x0 x1 x2 x3 x4 x5 x6 x7 x8 x9 x10, Z x0 x1 x2 x3 x4 x5 x6 x7 x8 x9 x10 → AT E (Exit.then (y.wpIn (fw E.r) 0 E.P Q) Q) .normal (Of x0 x1 x2 x3 x4 x5 x6 x7 x8 x9 x10) (Gf x0 x1 x2 x3 x4 x5 x6 x7 x8 x9 x10)) → CG E (Exit.then (y.wpIn (fw E.r) 0 E.P Q) Q) x O G) : CG E Q (.seq x y) O G := CG.seq (h (fun x0 x1 x2 x3 x4 x5 x6 x7 x8 x9 x10 => fun hz => hK x0 x1 x2 x3 x4 x5 x6 x7 x8 x9 x10 hz))
theorem LG.ind12 {c : Code} {α0 α1 α2 α3 α4 α5 α6 α7 α8 α9 α10 α11 : Type} {Z : Nat → α0 → α1 → α2 → α3 → α4 → α5 → α6 → α7 → α8 → α9 → α10 → α11 → Prop} {Of : α0 → α1 → α2 → α3 → α4 → α5 → α6 → α7 → α8 → α9 → α10 → α11 → List OE} {Gf : α0 → α1 → α2 → α3 → α4 → α5 → α6 → α7 → α8 → α9 → α10 → α11 → Ctx} (h0 : ∀ x0 x1 x2 x3 x4 x5 x6 x7 x8 x9 x10 x11, Z 0 x0 x1 x2 x3 x4 x5 x6 x7 x8 x9 x10 x11 → False)
    (h : ∀ n, (∀ x0 x1 x2 x3 x4 x5 x6 x7 x8 x9 x10 x11, Z n x0 x1 x2 x3 x4 x5 x6 x7 x8 x9 x10 x11 → LG E Q c (Of x0 x1 x2 x3 x4 x5 x6 x7 x8 x9 x10 x11) (Gf x0 x1 x2 x3 x4 x5 x6 x7 x8 x9 x10 x11)) → ∀ x0 x1 x2 x3 x4 x5 x6 x7 x8 x9 x10 x11, Z (n + 1) x0 x1 x2 x3 x4 x5 x6 x7 x8 x9 x10 x11 → LG E Q c (Of x0 x1 x2 x3 x4 x5 x6 x7 x8 x9 x10 x11) (Gf x0 x1 x2 x3 x4 x5 x6 x7 x8 x9 x10 x11)) : ∀ n, ∀ x0 x1 x2 x3 x4 x5 x6 x7 x8 x9 x10 x11, Z n x0 x1 x2 x3 x4 x5 x6 x7 x8 x9 x10 x11 → LG E Q c (Of x0 x1 x2 x3 x4 x5 x6 x7 x8 x9 x10 x11) (Gf x0 x1 x2 x3 x4 x5 x6 x7 x8 x9 x10 x11)
  | 0 => fun x0 x1 x2 x3 x4 x5 x6 x7 x8 x9 x10 x11 hz => (h0 x0 x1 x2 x3 x4 x5 x6 x7 x8 x9 x10 x11 hz).elim
  | n + 1 => h n (LG.ind12 h0 h n)
theorem LG.list12 {c : Code} {β : Type} {α0 α1 α2 α3 α4 α5 α6 α7 α8 α9 α10 α11 : Type} {Z : List β → α0 → α1 → α2 → α3 → α4 → α5 → α6 → α7 → α8 → α9 → α10 → α11 → Prop} {Of : List β → α0 → α1 → α2 → α3 → α4 → α5 → α6 → α7 → α8 → α9 → α10 → α11 → List OE} {Gf : List β → α0 → α1 → α2 → α3 → α4 → α5 → α6 → α7 → α8 → α9 → α10 → α11 → Ctx} (h0 : ∀ x0 x1 x2 x3 x4 x5 x6 x7 x8 x9 x10 x11, Z [] x0 x1 x2 x3 x4 x5 x6 x7 x8 x9 x10 x11 → LG E Q c (Of [] x0 x1 x2 x3 x4 x5 x6 x7 x8 x9 x10 x11) (Gf [] x0 x1 x2 x3 x4 x5 x6 x7 x8 x9 x10 x11))
    (h : ∀ b l, (∀ x0 x1 x2 x3 x4 x5 x6 x7 x8 x9 x10 x11, Z l x0 x1 x2 x3 x4 x5 x6 x7 x8 x9 x10 x11 → LG E Q c (Of l x0 x1 x2 x3 x4 x5 x6 x7 x8 x9 x10 x11) (Gf l x0 x1 x2 x3 x4 x5 x6 x7 x8 x9 x10 x11)) → ∀ x0 x1 x2 x3 x4 x5 x6 x7 x8 x9 x10 x11, Z (b :: l) x0 x1 x2 x3 x4 x5 x6 x7 x8 x9 x10 x11 → LG E Q c (Of (b :: l) x0 x1 x2 x3 x4 x5 x6 x7 x8 x9 x10 x11) (Gf (b :: l) x0 x1 x2 x3 x4 x5 x6 x7 x8 x9 x10 x11)) : ∀ l, ∀ x0 x1 x2 x3 x4 x5 x6 x7 x8 x9 x10 x11, Z l x0 x1 x2 x3 x4 x5 x6 x7 x8 x9 x10 x11 → LG E Q c (Of l x0 x1 x2 x3 x4 x5 x6 x7 x8 x9 x10 x11) (Gf l x0 x1 x2 x3 x4 x5 x6 x7 x8 x9 x10 x11)
  | [] => h0
  | b :: l => h b l (LG.list12 h0 h l)
theorem CG.bjoin12 {id : Nat} {c : Code} {α0 α1 α2 α3 α4 α5 α6 α7 α8 α9 α10 α11 : Type} {Z : α0 → α1 → α2 → α3 → α4 → α5 → α6 → α7 → α8 → α9 → α10 → α11 → Prop} {Of : α0 → α1 → α2 → α3 → α4 → α5 → α6 → α7 → α8 → α9 → α10 → α11 → List OE} {Gf : α0 → α1 → α2 → α3 → α4 → α5 → α6 → α7 → α8 → α9 → α10 → α11 → Ctx} (hK : ∀ x0 x1 x2 x3 x4 x5 x6 x7 x8 x9 x10 x11, Z x0 x1 x2 x3 x4 x5 x6 x7 x8 x9 x10 x11 → AT E Q .normal (Of x0 x1 x2 x3 x4 x5 x6 x7 x8 x9 x10 x11) (Gf x0 x1 x2 x3 x4 x5 x6 x7 x8 x9 x10 x11))
    (h : (∀ x0 x1 x2 x3 x4 x5 x6 x7 x8 x9 x10 x11, Z x0 x1 x2 x3 x4 x5 x6 x7 x8 x9 x10 x11 → AT E Q .normal (Of x0 x1 x2 x3 x4 x5 x6 x7 x8 x9 x10 x11) (Gf x0 x1 x2 x3 x4 x5 x6 x7 x8 x9 x10 x11)) → CG E (Exit.inBlock id Q) c O G) : CG E Q (.block id c) O G := CG.block (h hK)
theorem CG.sjoin12 {x y : Code} {α0 α1 α2 α3 α4 α5 α6 α7 α8 α9 α10 α11 : Type} {Z : α0 → α1 → α2 → α3 → α4 → α5 → α6 → α7 → α8 → α9 → α10 → α11 → Prop} {Of : α0 → α1 → α2 → α3 → α4 → α5 → α6 → α7 → α8 → α9 → α10 → α11 → List OE} {Gf : α0 → α1 → α2 → α3 → α4 → α5 → α6 → α7 → α8 → α9 → α10 → α11 → Ctx} (hK : ∀ x0 x1 x2 x3 x4 x5 x6 x7 x8 x9 x10 x11, Z x0 x1 x2 x3 x4 x5 x6 x7 x8 x9 x10 x11 → CG E Q y (Of x0 x1 x2 x3 x4 x5 x6 x7 x8 x9 x10 x11) (Gf x0 x1 x2 x3 x4 x5 x6 x7 x8 x9 x10 x11))
    (h : (∀ x0 x1 x2 x3 x4 x5 x6 x7 x8 x9 x10 x11, Z x0 x1 x2 x3 x4 x5 x6 x7 x8 x9 x10 x11 → AT E (Exit.then (y.wpIn (fw E.r) 0 E.P Q) Q) .normal (Of x0 x1 x2 x3 x4 x5 x6 x7 x8 x9 x10 x11) (Gf x0 x1 x2 x3 x4 x5 x6 x7 x8 x9 x10 x11)) → CG E (Exit.then (y.wpIn (fw E.r) 0 E.P Q) Q) x O G) : CG E Q (.seq x y) O G := CG.seq (h (fun x0 x1 x2 x3 x4 x5 x6 x7 x8 x9 x10 x11 => fun hz => hK x0 x1 x2 x3 x4 x5 x6 x7 x8 x9 x10 x11 hz))
end
theorem bs {α : Type _} {β : Type _} {x : Option α} {k : α → Option β} {r : β} (h : x.bind k = some r) : ∃ y, x = some y ∧ k y = some r := by
  cases x with
  | none => cases h
  | some y => exact ⟨y, rfl, h⟩
theorem ct {β : Type _} {b : Bool} {x y : Option β} {r : β} (h : (if b = true then x else y) = some r) (hb : b = true) : x = some r := by rwa [if_pos hb] at h
theorem cf {β : Type _} {b : Bool} {x y : Option β} {r : β} (h : (if b = true then x else y) = some r) (hb : b = false) : y = some r := by rwa [if_neg (by rw [hb]; decide)] at h
theorem so {β : Type _} {x r : β} (h : some x = some r) : x = r := by simpa using h
/-- A step that is taken only if a guard holds. -/
theorem og {α β : Type} [Inhabited α] {b : Bool} {x : Option α} {k : α → Option β} {d : Option β} {r : β} (h : (if b = true then x.bind k else d) = some r) : ∃ y, (b = true → x = some y ∧ k y = some r) ∧ (b = false → d = some r) := by
  cases b with
  | true => obtain ⟨y, h1, h2⟩ := bs (ct h rfl); exact ⟨y, fun _ => ⟨h1, h2⟩, fun e => (by cases e)⟩
  | false => exact ⟨default, fun e => (by cases e), fun _ => cf h rfl⟩

/-! ### Rows of fields -/
def rPair {α β : Type} (p : Rp α) (q : Rp β) : Rp (α × β) where
  sz := p.sz + q.sz
  agg := true
  rc := fun S cs x => ∃ a b, cs = a ++ b ∧ p.rc S a x.1 ∧ q.rc S b x.2
  mono := fun h ⟨a, b, e, h1, h2⟩ => ⟨a, b, e, p.mono h h1, q.mono h h2⟩
  len := fun ⟨a, b, e, h1, h2⟩ => by rw [e, List.length_append, p.len h1, q.len h2]
  one := fun ⟨a, b, e, h1, h2⟩ c hc => by
    rw [e] at hc
    rcases List.mem_append.1 hc with h | h
    · exact p.one h1 c h
    · exact q.one h2 c h
  sc := fun h => by cases h
def rMap {α β : Type} (p : Rp α) (f : β → α) : Rp β where
  sz := p.sz
  agg := true
  rc := fun S cs x => p.rc S cs (f x)
  mono := fun h k => p.mono h k
  len := fun h => p.len h
  one := fun h => p.one h
  sc := fun h => by cases h
theorem fld_one {α β : Type} {p : Rp α} {f : β → α} : Fld (rMap p f) 0 p f := fun S cs x h => by
  have h' : p.rc S cs (f x) := h
  have hl := p.len h'
  rw [List.drop_zero, ← hl, List.take_length]; exact h'
theorem fld_fst {α β γ : Type} {p : Rp α} {q : Rp β} {r : Rp γ} {off : Nat} {get : γ → α × β} (h : Fld r off (rPair p q) get) : Fld r off p (fun x => (get x).1) := fun S cs x k => by
  obtain ⟨a, b, e, h1, h2⟩ := h S cs x k
  have hl := p.len h1
  have hl2 := q.len h2
  have : (cs.drop off).take p.sz = a := by
    have e2 := congrArg (List.take p.sz) e
    rw [List.take_take, Nat.min_eq_left (by show p.sz ≤ p.sz + q.sz; omega), ← hl, List.take_left] at e2
    rw [← hl]; exact e2
  rw [this]; exact h1
theorem fld_snd {α β γ : Type} {p : Rp α} {q : Rp β} {r : Rp γ} {off off' : Nat} {get : γ → α × β} (h : Fld r off (rPair p q) get) (ho : off' = off + p.sz) : Fld r off' q (fun x => (get x).2) := fun S cs x k => by
  obtain ⟨a, b, e, h1, h2⟩ := h S cs x k
  have hl := p.len h1
  have hl2 := q.len h2
  have : (cs.drop off').take q.sz = b := by
    have e2 := congrArg (List.drop p.sz) e
    rw [List.drop_take, List.drop_drop, ← hl, List.drop_left] at e2
    rw [ho, ← hl, ← e2]
    congr 1
    show q.sz = p.sz + q.sz - a.length
    omega
  rw [this]; exact h2
end Go.Proofs.Ytchjhcgkfglgiaa
