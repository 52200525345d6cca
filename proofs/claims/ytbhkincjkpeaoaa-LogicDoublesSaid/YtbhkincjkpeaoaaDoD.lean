/- Facts of this claim: D. -/
import Derived.Test.YtbhkincjkpeaoaaDoV3
namespace Go.Proofs.Ytbhkincjkpeaoaa
open Go

structure DValue where
  Kind : Int
  N : Int
  U : Int
  S : Str
  deriving DecidableEq, Inhabited
def rpDValue : Rp DValue := rMap (rPair (rI .i64) (rPair (rI .i64) (rPair (rI .u64) rS))) (fun x => (x.Kind, x.N, x.U, x.S))
theorem flDValue_0 : Fld rpDValue 0 (rI .i64) (fun x => x.Kind) := (fld_fst fld_one)
theorem sfDValue_0 : SFld rpDValue 0 (rI .i64) (fun x y => { x with Kind := y }) := sfld_map sfld_fst (fun _ _ => rfl)
theorem flDValue_1 : Fld rpDValue 1 (rI .i64) (fun x => x.N) := (fld_fst (fld_snd fld_one rfl))
theorem sfDValue_1 : SFld rpDValue 1 (rI .i64) (fun x y => { x with N := y }) := sfld_map (sfld_snd sfld_fst rfl) (fun _ _ => rfl)
theorem flDValue_2 : Fld rpDValue 2 (rI .u64) (fun x => x.U) := (fld_fst (fld_snd (fld_snd fld_one rfl) rfl))
theorem sfDValue_2 : SFld rpDValue 2 (rI .u64) (fun x y => { x with U := y }) := sfld_map (sfld_snd (sfld_snd sfld_fst rfl) rfl) (fun _ _ => rfl)
theorem flDValue_3 : Fld rpDValue 3 rS (fun x => x.S) := (fld_snd (fld_snd (fld_snd fld_one rfl) rfl) rfl)
theorem sfDValue_3 : SFld rpDValue 3 rS (fun x y => { x with S := y }) := sfld_map (sfld_snd (sfld_snd (sfld_snd sfld_whole rfl) rfl) rfl) (fun _ _ => rfl)
theorem zrDValue : ∀ S, rpDValue.rc S [.int .i64 0, .int .i64 0, .int .u64 0, .string ⟨#[]⟩] ((⟨(0 : Int), (0 : Int), (0 : Int), []⟩ : DValue)) := fun _ => ⟨[.int .i64 0], [.int .i64 0, .int .u64 0, .string ⟨#[]⟩], rfl, rfl, ⟨[.int .i64 0], [.int .u64 0, .string ⟨#[]⟩], rfl, rfl, ⟨[.int .u64 0], [.string ⟨#[]⟩], rfl, rfl, rfl⟩⟩⟩
structure DENode where
  Tag : Int
  L : Int
  R : Int
  Col : Int
  Value : DValue
  deriving DecidableEq, Inhabited
def rpDENode : Rp DENode := rMap (rPair (rI .i64) (rPair (rI .i64) (rPair (rI .i64) (rPair (rI .i64) rpDValue)))) (fun x => (x.Tag, x.L, x.R, x.Col, x.Value))
theorem flDENode_0 : Fld rpDENode 0 (rI .i64) (fun x => x.Tag) := (fld_fst fld_one)
theorem sfDENode_0 : SFld rpDENode 0 (rI .i64) (fun x y => { x with Tag := y }) := sfld_map sfld_fst (fun _ _ => rfl)
theorem flDENode_1 : Fld rpDENode 1 (rI .i64) (fun x => x.L) := (fld_fst (fld_snd fld_one rfl))
theorem sfDENode_1 : SFld rpDENode 1 (rI .i64) (fun x y => { x with L := y }) := sfld_map (sfld_snd sfld_fst rfl) (fun _ _ => rfl)
theorem flDENode_2 : Fld rpDENode 2 (rI .i64) (fun x => x.R) := (fld_fst (fld_snd (fld_snd fld_one rfl) rfl))
theorem sfDENode_2 : SFld rpDENode 2 (rI .i64) (fun x y => { x with R := y }) := sfld_map (sfld_snd (sfld_snd sfld_fst rfl) rfl) (fun _ _ => rfl)
theorem flDENode_3 : Fld rpDENode 3 (rI .i64) (fun x => x.Col) := (fld_fst (fld_snd (fld_snd (fld_snd fld_one rfl) rfl) rfl))
theorem flDENode_4 : Fld rpDENode 4 rpDValue (fun x => x.Value) := (fld_snd (fld_snd (fld_snd (fld_snd fld_one rfl) rfl) rfl) rfl)
theorem sfDENode_4 : SFld rpDENode 4 rpDValue (fun x y => { x with Value := y }) := sfld_map (sfld_snd (sfld_snd (sfld_snd (sfld_snd sfld_whole rfl) rfl) rfl) rfl) (fun _ _ => rfl)
theorem zrDENode : ∀ S, rpDENode.rc S [.int .i64 0, .int .i64 0, .int .i64 0, .int .i64 0, .int .i64 0, .int .i64 0, .int .u64 0, .string ⟨#[]⟩] ((⟨(0 : Int), (0 : Int), (0 : Int), (0 : Int), (⟨(0 : Int), (0 : Int), (0 : Int), []⟩ : DValue)⟩ : DENode)) := fun _ => ⟨[.int .i64 0], [.int .i64 0, .int .i64 0, .int .i64 0, .int .i64 0, .int .i64 0, .int .u64 0, .string ⟨#[]⟩], rfl, rfl, ⟨[.int .i64 0], [.int .i64 0, .int .i64 0, .int .i64 0, .int .i64 0, .int .u64 0, .string ⟨#[]⟩], rfl, rfl, ⟨[.int .i64 0], [.int .i64 0, .int .i64 0, .int .i64 0, .int .u64 0, .string ⟨#[]⟩], rfl, rfl, ⟨[.int .i64 0], [.int .i64 0, .int .i64 0, .int .u64 0, .string ⟨#[]⟩], rfl, rfl, zrDValue _⟩⟩⟩⟩
structure DExpr where
  Nodes : (List DENode)
  deriving DecidableEq, Inhabited
def rpDExpr : Rp DExpr := rMap (rSl rpDENode) (fun x => (x.Nodes))
theorem flDExpr_0 : Fld rpDExpr 0 (rSl rpDENode) (fun x => x.Nodes) := fld_one
theorem sfDExpr_0 : SFld rpDExpr 0 (rSl rpDENode) (fun x y => { x with Nodes := y }) := sfld_map sfld_whole (fun _ _ => rfl)
theorem zrDExpr : ∀ S, rpDExpr.rc S [.slice none 0 0] ((⟨[]⟩ : DExpr)) := fun _ => ⟨none, 0, rfl, Nat.le_refl _, Nat.zero_le _, .inl rfl⟩
structure DAgg where
  Tag : Int
  Arg : DExpr
  deriving DecidableEq, Inhabited
def rpDAgg : Rp DAgg := rMap (rPair (rI .i64) rpDExpr) (fun x => (x.Tag, x.Arg))
theorem flDAgg_0 : Fld rpDAgg 0 (rI .i64) (fun x => x.Tag) := (fld_fst fld_one)
theorem flDAgg_1 : Fld rpDAgg 1 rpDExpr (fun x => x.Arg) := (fld_snd fld_one rfl)
theorem sfDAgg_1 : SFld rpDAgg 1 rpDExpr (fun x y => { x with Arg := y }) := sfld_map (sfld_snd sfld_whole rfl) (fun _ _ => rfl)
theorem zrDAgg : ∀ S, rpDAgg.rc S [.int .i64 0, .slice none 0 0] ((⟨(0 : Int), (⟨[]⟩ : DExpr)⟩ : DAgg)) := fun _ => ⟨[.int .i64 0], [.slice none 0 0], rfl, rfl, zrDExpr _⟩
structure DOrd where
  Col : Int
  Desc : Bool
  deriving DecidableEq, Inhabited
def rpDOrd : Rp DOrd := rMap (rPair (rI .i64) rB) (fun x => (x.Col, x.Desc))
theorem flDOrd_0 : Fld rpDOrd 0 (rI .i64) (fun x => x.Col) := (fld_fst fld_one)
structure DLNode where
  Op : Int
  A : Int
  B : Int
  Table : Int
  Kinds : (List Int)
  Left : Bool
  Cond : DExpr
  Keys : (List Int)
  Aggs : (List DAgg)
  Items : (List DExpr)
  Order : (List DOrd)
  Limit : Int
  deriving DecidableEq, Inhabited
def rpDLNode : Rp DLNode := rMap (rPair (rI .i64) (rPair (rI .i64) (rPair (rI .i64) (rPair (rI .i64) (rPair (rSl (rI .i64)) (rPair rB (rPair rpDExpr (rPair (rSl (rI .i64)) (rPair (rSl rpDAgg) (rPair (rSl rpDExpr) (rPair (rSl rpDOrd) (rI .i64)))))))))))) (fun x => (x.Op, x.A, x.B, x.Table, x.Kinds, x.Left, x.Cond, x.Keys, x.Aggs, x.Items, x.Order, x.Limit))
theorem flDLNode_0 : Fld rpDLNode 0 (rI .i64) (fun x => x.Op) := (fld_fst fld_one)
theorem sfDLNode_0 : SFld rpDLNode 0 (rI .i64) (fun x y => { x with Op := y }) := sfld_map sfld_fst (fun _ _ => rfl)
theorem flDLNode_1 : Fld rpDLNode 1 (rI .i64) (fun x => x.A) := (fld_fst (fld_snd fld_one rfl))
theorem sfDLNode_1 : SFld rpDLNode 1 (rI .i64) (fun x y => { x with A := y }) := sfld_map (sfld_snd sfld_fst rfl) (fun _ _ => rfl)
theorem flDLNode_2 : Fld rpDLNode 2 (rI .i64) (fun x => x.B) := (fld_fst (fld_snd (fld_snd fld_one rfl) rfl))
theorem sfDLNode_2 : SFld rpDLNode 2 (rI .i64) (fun x y => { x with B := y }) := sfld_map (sfld_snd (sfld_snd sfld_fst rfl) rfl) (fun _ _ => rfl)
theorem flDLNode_3 : Fld rpDLNode 3 (rI .i64) (fun x => x.Table) := (fld_fst (fld_snd (fld_snd (fld_snd fld_one rfl) rfl) rfl))
theorem sfDLNode_3 : SFld rpDLNode 3 (rI .i64) (fun x y => { x with Table := y }) := sfld_map (sfld_snd (sfld_snd (sfld_snd sfld_fst rfl) rfl) rfl) (fun _ _ => rfl)
theorem flDLNode_4 : Fld rpDLNode 4 (rSl (rI .i64)) (fun x => x.Kinds) := (fld_fst (fld_snd (fld_snd (fld_snd (fld_snd fld_one rfl) rfl) rfl) rfl))
theorem sfDLNode_4 : SFld rpDLNode 4 (rSl (rI .i64)) (fun x y => { x with Kinds := y }) := sfld_map (sfld_snd (sfld_snd (sfld_snd (sfld_snd sfld_fst rfl) rfl) rfl) rfl) (fun _ _ => rfl)
theorem flDLNode_5 : Fld rpDLNode 5 rB (fun x => x.Left) := (fld_fst (fld_snd (fld_snd (fld_snd (fld_snd (fld_snd fld_one rfl) rfl) rfl) rfl) rfl))
theorem sfDLNode_5 : SFld rpDLNode 5 rB (fun x y => { x with Left := y }) := sfld_map (sfld_snd (sfld_snd (sfld_snd (sfld_snd (sfld_snd sfld_fst rfl) rfl) rfl) rfl) rfl) (fun _ _ => rfl)
theorem flDLNode_6 : Fld rpDLNode 6 rpDExpr (fun x => x.Cond) := (fld_fst (fld_snd (fld_snd (fld_snd (fld_snd (fld_snd (fld_snd fld_one rfl) rfl) rfl) rfl) rfl) rfl))
theorem sfDLNode_6 : SFld rpDLNode 6 rpDExpr (fun x y => { x with Cond := y }) := sfld_map (sfld_snd (sfld_snd (sfld_snd (sfld_snd (sfld_snd (sfld_snd sfld_fst rfl) rfl) rfl) rfl) rfl) rfl) (fun _ _ => rfl)
theorem flDLNode_7 : Fld rpDLNode 7 (rSl (rI .i64)) (fun x => x.Keys) := (fld_fst (fld_snd (fld_snd (fld_snd (fld_snd (fld_snd (fld_snd (fld_snd fld_one rfl) rfl) rfl) rfl) rfl) rfl) rfl))
theorem sfDLNode_7 : SFld rpDLNode 7 (rSl (rI .i64)) (fun x y => { x with Keys := y }) := sfld_map (sfld_snd (sfld_snd (sfld_snd (sfld_snd (sfld_snd (sfld_snd (sfld_snd sfld_fst rfl) rfl) rfl) rfl) rfl) rfl) rfl) (fun _ _ => rfl)
theorem flDLNode_8 : Fld rpDLNode 8 (rSl rpDAgg) (fun x => x.Aggs) := (fld_fst (fld_snd (fld_snd (fld_snd (fld_snd (fld_snd (fld_snd (fld_snd (fld_snd fld_one rfl) rfl) rfl) rfl) rfl) rfl) rfl) rfl))
theorem sfDLNode_8 : SFld rpDLNode 8 (rSl rpDAgg) (fun x y => { x with Aggs := y }) := sfld_map (sfld_snd (sfld_snd (sfld_snd (sfld_snd (sfld_snd (sfld_snd (sfld_snd (sfld_snd sfld_fst rfl) rfl) rfl) rfl) rfl) rfl) rfl) rfl) (fun _ _ => rfl)
theorem flDLNode_9 : Fld rpDLNode 9 (rSl rpDExpr) (fun x => x.Items) := (fld_fst (fld_snd (fld_snd (fld_snd (fld_snd (fld_snd (fld_snd (fld_snd (fld_snd (fld_snd fld_one rfl) rfl) rfl) rfl) rfl) rfl) rfl) rfl) rfl))
theorem sfDLNode_9 : SFld rpDLNode 9 (rSl rpDExpr) (fun x y => { x with Items := y }) := sfld_map (sfld_snd (sfld_snd (sfld_snd (sfld_snd (sfld_snd (sfld_snd (sfld_snd (sfld_snd (sfld_snd sfld_fst rfl) rfl) rfl) rfl) rfl) rfl) rfl) rfl) rfl) (fun _ _ => rfl)
theorem flDLNode_10 : Fld rpDLNode 10 (rSl rpDOrd) (fun x => x.Order) := (fld_fst (fld_snd (fld_snd (fld_snd (fld_snd (fld_snd (fld_snd (fld_snd (fld_snd (fld_snd (fld_snd fld_one rfl) rfl) rfl) rfl) rfl) rfl) rfl) rfl) rfl) rfl))
theorem sfDLNode_10 : SFld rpDLNode 10 (rSl rpDOrd) (fun x y => { x with Order := y }) := sfld_map (sfld_snd (sfld_snd (sfld_snd (sfld_snd (sfld_snd (sfld_snd (sfld_snd (sfld_snd (sfld_snd (sfld_snd sfld_fst rfl) rfl) rfl) rfl) rfl) rfl) rfl) rfl) rfl) rfl) (fun _ _ => rfl)
theorem flDLNode_11 : Fld rpDLNode 11 (rI .i64) (fun x => x.Limit) := (fld_snd (fld_snd (fld_snd (fld_snd (fld_snd (fld_snd (fld_snd (fld_snd (fld_snd (fld_snd (fld_snd fld_one rfl) rfl) rfl) rfl) rfl) rfl) rfl) rfl) rfl) rfl) rfl)
theorem sfDLNode_11 : SFld rpDLNode 11 (rI .i64) (fun x y => { x with Limit := y }) := sfld_map (sfld_snd (sfld_snd (sfld_snd (sfld_snd (sfld_snd (sfld_snd (sfld_snd (sfld_snd (sfld_snd (sfld_snd (sfld_snd sfld_whole rfl) rfl) rfl) rfl) rfl) rfl) rfl) rfl) rfl) rfl) rfl) (fun _ _ => rfl)
theorem zrDLNode : ∀ S, rpDLNode.rc S [.int .i64 0, .int .i64 0, .int .i64 0, .int .i64 0, .slice none 0 0, .bool false, .slice none 0 0, .slice none 0 0, .slice none 0 0, .slice none 0 0, .slice none 0 0, .int .i64 0] ((⟨(0 : Int), (0 : Int), (0 : Int), (0 : Int), [], false, (⟨[]⟩ : DExpr), [], [], [], [], (0 : Int)⟩ : DLNode)) := fun _ => ⟨[.int .i64 0], [.int .i64 0, .int .i64 0, .int .i64 0, .slice none 0 0, .bool false, .slice none 0 0, .slice none 0 0, .slice none 0 0, .slice none 0 0, .slice none 0 0, .int .i64 0], rfl, rfl, ⟨[.int .i64 0], [.int .i64 0, .int .i64 0, .slice none 0 0, .bool false, .slice none 0 0, .slice none 0 0, .slice none 0 0, .slice none 0 0, .slice none 0 0, .int .i64 0], rfl, rfl, ⟨[.int .i64 0], [.int .i64 0, .slice none 0 0, .bool false, .slice none 0 0, .slice none 0 0, .slice none 0 0, .slice none 0 0, .slice none 0 0, .int .i64 0], rfl, rfl, ⟨[.int .i64 0], [.slice none 0 0, .bool false, .slice none 0 0, .slice none 0 0, .slice none 0 0, .slice none 0 0, .slice none 0 0, .int .i64 0], rfl, rfl, ⟨[.slice none 0 0], [.bool false, .slice none 0 0, .slice none 0 0, .slice none 0 0, .slice none 0 0, .slice none 0 0, .int .i64 0], rfl, ⟨none, 0, rfl, Nat.le_refl _, Nat.zero_le _, .inl rfl⟩, ⟨[.bool false], [.slice none 0 0, .slice none 0 0, .slice none 0 0, .slice none 0 0, .slice none 0 0, .int .i64 0], rfl, rfl, ⟨[.slice none 0 0], [.slice none 0 0, .slice none 0 0, .slice none 0 0, .slice none 0 0, .int .i64 0], rfl, zrDExpr _, ⟨[.slice none 0 0], [.slice none 0 0, .slice none 0 0, .slice none 0 0, .int .i64 0], rfl, ⟨none, 0, rfl, Nat.le_refl _, Nat.zero_le _, .inl rfl⟩, ⟨[.slice none 0 0], [.slice none 0 0, .slice none 0 0, .int .i64 0], rfl, ⟨none, 0, rfl, Nat.le_refl _, Nat.zero_le _, .inl rfl⟩, ⟨[.slice none 0 0], [.slice none 0 0, .int .i64 0], rfl, ⟨none, 0, rfl, Nat.le_refl _, Nat.zero_le _, .inl rfl⟩, ⟨[.slice none 0 0], [.int .i64 0], rfl, ⟨none, 0, rfl, Nat.le_refl _, Nat.zero_le _, .inl rfl⟩, rfl⟩⟩⟩⟩⟩⟩⟩⟩⟩⟩⟩
structure DLogic where
  Nodes : (List DLNode)
  deriving DecidableEq, Inhabited
def rpDLogic : Rp DLogic := rMap (rSl rpDLNode) (fun x => (x.Nodes))
theorem flDLogic_0 : Fld rpDLogic 0 (rSl rpDLNode) (fun x => x.Nodes) := fld_one
theorem zrDLogic : ∀ S, rpDLogic.rc S [.slice none 0 0] ((⟨[]⟩ : DLogic)) := fun _ => ⟨none, 0, rfl, Nat.le_refl _, Nat.zero_le _, .inl rfl⟩
structure Dchecker where
  Logic : DLogic
  kinds : (List (List Int))
  first : (List Int)
  deriving DecidableEq, Inhabited
def rpDchecker : Rp Dchecker := rMap (rPair rpDLogic (rPair (rSl (rSl (rI .i64))) (rSl (rI .i64)))) (fun x => (x.Logic, x.kinds, x.first))
theorem flDchecker_0 : Fld rpDchecker 0 rpDLogic (fun x => x.Logic) := (fld_fst fld_one)
theorem sfDchecker_0 : SFld rpDchecker 0 rpDLogic (fun x y => { x with Logic := y }) := sfld_map sfld_fst (fun _ _ => rfl)
theorem flDchecker_1 : Fld rpDchecker 1 (rSl (rSl (rI .i64))) (fun x => x.kinds) := (fld_fst (fld_snd fld_one rfl))
theorem sfDchecker_1 : SFld rpDchecker 1 (rSl (rSl (rI .i64))) (fun x y => { x with kinds := y }) := sfld_map (sfld_snd sfld_fst rfl) (fun _ _ => rfl)
theorem sfDchecker_2 : SFld rpDchecker 2 (rSl (rI .i64)) (fun x y => { x with first := y }) := sfld_map (sfld_snd (sfld_snd sfld_whole rfl) rfl) (fun _ _ => rfl)
theorem zrDchecker : ∀ S, rpDchecker.rc S [.slice none 0 0, .slice none 0 0, .slice none 0 0] ((⟨(⟨[]⟩ : DLogic), [], []⟩ : Dchecker)) := fun _ => ⟨[.slice none 0 0], [.slice none 0 0, .slice none 0 0], rfl, zrDLogic _, ⟨[.slice none 0 0], [.slice none 0 0], rfl, ⟨none, 0, rfl, Nat.le_refl _, Nat.zero_le _, .inl rfl⟩, ⟨none, 0, rfl, Nat.le_refl _, Nat.zero_le _, .inl rfl⟩⟩⟩
structure OLogic_0 where
  Nodes : Value
def rpOLogic_0 : Rp OLogic_0 := rMap rV (fun x => (x.Nodes))
theorem flOLogic_0_0 : Fld rpOLogic_0 0 rV (fun x => x.Nodes) := fld_one
def mkOLogic_0 (y : DLogic) (v0 : Value) : OLogic_0 := ⟨v0⟩
theorem zrOLogic_0 : ∀ S, rpOLogic_0.rc S [.slice none 0 0] (mkOLogic_0 ((⟨[]⟩ : DLogic)) (oslV none 0 0)) := fun _ => ⟨rfl, rfl⟩
structure OLNode_8 where
  Op : Int
  A : Int
  B : Int
  Table : Int
  Kinds : (List Int)
  Left : Bool
  Cond : DExpr
  Keys : (List Int)
  Aggs : Value
  Items : (List DExpr)
  Order : (List DOrd)
  Limit : Int
def rpOLNode_8 : Rp OLNode_8 := rMap (rPair (rI .i64) (rPair (rI .i64) (rPair (rI .i64) (rPair (rI .i64) (rPair (rSl (rI .i64)) (rPair rB (rPair rpDExpr (rPair (rSl (rI .i64)) (rPair rV (rPair (rSl rpDExpr) (rPair (rSl rpDOrd) (rI .i64)))))))))))) (fun x => (x.Op, x.A, x.B, x.Table, x.Kinds, x.Left, x.Cond, x.Keys, x.Aggs, x.Items, x.Order, x.Limit))
def mkOLNode_8 (y : DLNode) (v8 : Value) : OLNode_8 := ⟨y.Op, y.A, y.B, y.Table, y.Kinds, y.Left, y.Cond, y.Keys, v8, y.Items, y.Order, y.Limit⟩
structure OLNode_8_9 where
  Op : Int
  A : Int
  B : Int
  Table : Int
  Kinds : (List Int)
  Left : Bool
  Cond : DExpr
  Keys : (List Int)
  Aggs : Value
  Items : Value
  Order : (List DOrd)
  Limit : Int
def rpOLNode_8_9 : Rp OLNode_8_9 := rMap (rPair (rI .i64) (rPair (rI .i64) (rPair (rI .i64) (rPair (rI .i64) (rPair (rSl (rI .i64)) (rPair rB (rPair rpDExpr (rPair (rSl (rI .i64)) (rPair rV (rPair rV (rPair (rSl rpDOrd) (rI .i64)))))))))))) (fun x => (x.Op, x.A, x.B, x.Table, x.Kinds, x.Left, x.Cond, x.Keys, x.Aggs, x.Items, x.Order, x.Limit))
theorem flOLNode_8_9_8 : Fld rpOLNode_8_9 8 rV (fun x => x.Aggs) := (fld_fst (fld_snd (fld_snd (fld_snd (fld_snd (fld_snd (fld_snd (fld_snd (fld_snd fld_one rfl) rfl) rfl) rfl) rfl) rfl) rfl) rfl))
theorem flOLNode_8_9_9 : Fld rpOLNode_8_9 9 rV (fun x => x.Items) := (fld_fst (fld_snd (fld_snd (fld_snd (fld_snd (fld_snd (fld_snd (fld_snd (fld_snd (fld_snd fld_one rfl) rfl) rfl) rfl) rfl) rfl) rfl) rfl) rfl))
def mkOLNode_8_9 (y : DLNode) (v8 : Value) (v9 : Value) : OLNode_8_9 := ⟨y.Op, y.A, y.B, y.Table, y.Kinds, y.Left, y.Cond, y.Keys, v8, v9, y.Order, y.Limit⟩
theorem cvOLogic_0_to_D {S : SH} {cs : List Value} {y : DLogic} {v0 : Value} {xs0 : (List DLNode)} (k0 : (rSl rpDLNode).rc S [v0] xs0) (h : rpOLogic_0.rc S cs (mkOLogic_0 y v0)) : rpDLogic.rc S cs ((⟨xs0⟩ : DLogic)) := by
  have h0 := h
  exact (by rw [h0.1]; exact k0)
theorem cvOLNode_8_9_to_D {S : SH} {cs : List Value} {y : DLNode} {v8 : Value} {v9 : Value} {xs8 : (List DAgg)} (k8 : (rSl rpDAgg).rc S [v8] xs8) {xs9 : (List DExpr)} (k9 : (rSl rpDExpr).rc S [v9] xs9) (h : rpOLNode_8_9.rc S cs (mkOLNode_8_9 y v8 v9)) : rpDLNode.rc S cs ((⟨y.Op, y.A, y.B, y.Table, y.Kinds, y.Left, y.Cond, y.Keys, xs8, xs9, y.Order, y.Limit⟩ : DLNode)) := by
  obtain ⟨a0, b0, e0, h0, a1, b1, e1, h1, a2, b2, e2, h2, a3, b3, e3, h3, a4, b4, e4, h4, a5, b5, e5, h5, a6, b6, e6, h6, a7, b7, e7, h7, a8, b8, e8, h8, a9, b9, e9, h9, a10, b10, e10, h10, h11⟩ := h
  exact ⟨a0, b0, e0, h0, a1, b1, e1, h1, a2, b2, e2, h2, a3, b3, e3, h3, a4, b4, e4, h4, a5, b5, e5, h5, a6, b6, e6, h6, a7, b7, e7, h7, a8, b8, e8, (by rw [h8.1]; exact k8), a9, b9, e9, (by rw [h9.1]; exact k9), a10, b10, e10, h10, h11⟩
theorem sxOLogic_0_to_0_at_0 (y : DLogic)  (u : Value) (v : Value) : SFldX rpOLogic_0 rpOLogic_0 0 rV (mkOLogic_0 y u) v (mkOLogic_0 y v) := sfx_map (sfx_whole rfl) rfl
theorem sxDLNode_to_8_at_8 (y : DLNode)   (v : Value) : SFldX rpDLNode rpOLNode_8 8 rV (y) v (mkOLNode_8 y v) := sfx_map (sfx_snd (sfx_snd (sfx_snd (sfx_snd (sfx_snd (sfx_snd (sfx_snd (sfx_snd (sfx_fst (sfx_whole rfl) rfl) rfl) rfl) rfl) rfl) rfl) rfl) rfl) rfl) rfl
theorem sxOLNode_8_to_8_9_at_9 (y : DLNode) (v8 : Value)  (v : Value) : SFldX rpOLNode_8 rpOLNode_8_9 9 rV (mkOLNode_8 y v8) v (mkOLNode_8_9 y v8 v) := sfx_map (sfx_snd (sfx_snd (sfx_snd (sfx_snd (sfx_snd (sfx_snd (sfx_snd (sfx_snd (sfx_snd (sfx_fst (sfx_whole rfl) rfl) rfl) rfl) rfl) rfl) rfl) rfl) rfl) rfl) rfl) rfl
def ob58 (b : Nat) (x : Dchecker) (i : OI) : List OE := [bx (rH rpDchecker [(1, oslV (i.h 0).1 (i.h 0).2 x.kinds.length), (2, oslV (i.h 1).1 (i.h 1).2 x.first.length)]) 58 b x, tip (rSl (rI .i64)) 25 (i.h 0).1 (i.h 0).2 x.kinds, tip (rI .i64) 3 (i.h 1).1 (i.h 1).2 x.first]

end Go.Proofs.Ytbhkincjkpeaoaa

