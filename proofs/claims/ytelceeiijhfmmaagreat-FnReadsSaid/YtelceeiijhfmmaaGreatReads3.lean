import Derived.Test.YtelceeiijhfmmaaGreatReads2
import Derived.Test.YtelceeiijhfmmaaGreatProg
/- For every input the law FnReads of the given program returns true and leaves its argument as it was. -/
set_option linter.unusedVariables false
set_option maxRecDepth 100000
namespace Go.Proofs.Fw.R1
open Go Go.Proofs Go.Proofs.Fw
def laws_big (K : Nat) (a0 : List (Int)) : Option (Bool × Unit) :=
 some ((decide ((List.length a0 : Int) > (1048576:Int))), ())
def spec_l1New_v (K : Nat) (a0 : List (Int)) : Option (List (Int) × Int × Int × Unit) :=
 loopFix K (fun r1 (s0 : Int × List (Int) × Int × Unit) =>
  br (decide (s0.2.2.1 < (List.length s0.2.1 : Int))) (
   br (decide (s0.2.2.1 < (4000:Int))) (
    inK s0.2.1 s0.2.2.1 <|
    idxK s0.2.1 s0.2.2.1 fun x2 =>
    r1 ((bitsI .and .i64 (wr ((wr ((wr (s0.1 * (137:Int))) + (wr (x2)))) + (11:Int))) (1073741823:Int)), s0.2.1, (wr (s0.2.2.1 + (1:Int))), ())) (
    some (s0.2.1, (0:Int), s0.1, ()))) (
   some (s0.2.1, (0:Int), s0.1, ()))) ((wr ((941941:Int) + (List.length a0 : Int))), a0, (0:Int), ())
def spec_l1Size (K : Nat) (a0 : List (Int)) (a1 : Int) : Option (Int × Unit) :=
 br (decide ((wr ((3:Int) + (wr (Int.tdiv (List.length a0 : Int) (12:Int))))) > a1)) (
  some (a1, ())) (
  some ((wr ((3:Int) + (wr (Int.tdiv (List.length a0 : Int) (12:Int))))), ()))
def spec_TreeNew (K : Nat)  : Option (List (Int) × List (Node) × Unit) :=
 some (([(0:Int)] : List (Int)), ([(⟨([] : List (List (Key)))⟩ : Node)] : List (Node)), ())
def spec_CellsNew (K : Nat)  : Option (List (Cell) × Unit) :=
 makeK (zeroT (.st .cell)) (24:Int) fun z0 =>
 some (z0, ())
def spec_PoolNew (K : Nat)  : Option (List (Int) × List (Node) × List (Age) × List (Cell) × List (Vol) × Int × Unit) :=
 bnd (spec_TreeNew K) fun y0 =>
 bnd (spec_CellsNew K) fun y1 =>
 some (y0.1, y0.2.1, ([] : List (Age)), y1.1, ([] : List (Vol)), (1:Int), ())
def spec_l1Byte (K : Nat) (a0 : List (Int)) (a1 : Int) (a2 : Int) : Option (Int × Int × Int × Unit) :=
 joinK (fun s0 : Int × List (Int) × Int × Int × Unit =>
  some (s0.1, s0.2.2.1, s0.2.2.2.1, ())) fun j1 =>
 br (decide (a1 < (List.length a0 : Int))) (
  inK a0 a1 <|
  idxK a0 a1 fun x2 =>
  j1 ((bitsI .and .i64 (wr ((bitsI .and .i64 (bitsI .xor .i64 (Int.fdiv (wr ((wr (a2 * (6364136223846793005:Int))) + (1442695040888963407:Int))) (8589934592:Int)) (Int.fdiv (wr ((wr (a2 * (6364136223846793005:Int))) + (1442695040888963407:Int))) (140737488355328:Int))) (255:Int)) + (wr (x2)))) (255:Int)), a0, (wr (a1 + (1:Int))), (wr ((wr (a2 * (6364136223846793005:Int))) + (1442695040888963407:Int))), ())) (
  j1 ((bitsI .and .i64 (bitsI .xor .i64 (Int.fdiv (wr ((wr (a2 * (6364136223846793005:Int))) + (1442695040888963407:Int))) (8589934592:Int)) (Int.fdiv (wr ((wr (a2 * (6364136223846793005:Int))) + (1442695040888963407:Int))) (140737488355328:Int))) (255:Int)), a0, a1, (wr ((wr (a2 * (6364136223846793005:Int))) + (1442695040888963407:Int))), ()))
def spec_l1Below (K : Nat) (a0 : List (Int)) (a1 : Int) (a2 : Int) (a3 : Int) : Option (Int × Int × Int × Unit) :=
 br (decide (a3 ≤ (0:Int))) (
  some ((0:Int), a1, a2, ())) (
  br (decide (a3 ≤ (256:Int))) (
   bnd (spec_l1Byte K a0 a1 a2) fun y0 =>
   chk (decide (a3 ≠ 0)) <|
   some ((Int.tmod y0.1 a3), y0.2.1, y0.2.2.1, ())) (
   bnd (spec_l1Byte K a0 a1 a2) fun y1 =>
   bnd (spec_l1Byte K a0 y1.2.1 y1.2.2.1) fun y2 =>
   bnd (spec_l1Byte K a0 y2.2.1 y2.2.2.1) fun y3 =>
   chk (decide (a3 ≠ 0)) <|
   some ((Int.tmod (wr ((wr ((wr (y1.1 * (65536:Int))) + (wr (y2.1 * (256:Int))))) + y3.1)) a3), y3.2.1, y3.2.2.1, ())))
def spec_l1Int (K : Nat) (a0 : List (Int)) (a1 : Int) (a2 : Int) (a3 : List (Int)) : Option (Int × Int × Int × Unit) :=
 bnd (spec_l1Below K a0 a1 a2 (List.length a3 : Int)) fun y0 =>
 inK a3 y0.1 <|
 idxK a3 y0.1 fun x1 =>
 some (x1, y0.2.1, y0.2.2.1, ())
def spec_l1Str (K : Nat) (a0 : List (Int)) (a1 : Int) (a2 : Int) (a3 : List (List Int)) : Option (List Int × Int × Int × Unit) :=
 bnd (spec_l1Below K a0 a1 a2 (List.length a3 : Int)) fun y0 =>
 inK a3 y0.1 <|
 idxK a3 y0.1 fun x1 =>
 some (x1, y0.2.1, y0.2.2.1, ())
def spec_l1Name (K : Nat) (a0 : List (Int)) (a1 : Int) (a2 : Int) : Option (List Int × Int × Int × Unit) :=
 bnd (spec_l1Str K a0 a1 a2 ([([97] : List Int), ([98] : List Int), ([99] : List Int), ([100] : List Int), ([101, 53] : List Int)] : List (List Int))) fun y0 =>
 some (y0.1, y0.2.1, y0.2.2.1, ())
def spec_l1Draw (K : Nat) (a0 : List (Int)) (a1 : Int) (a2 : Int) : Option (Int × Int × Int × Unit) :=
 bnd (spec_l1Below K a0 a1 a2 (200:Int)) fun y0 =>
 bnd (spec_l1Int K a0 y0.2.1 y0.2.2.1 ([(0:Int), (1:Int), (2:Int), (7:Int), (65535:Int), (wr ((1:Int) + y0.1))] : List (Int))) fun y1 =>
 some (y1.1, y1.2.1, y1.2.2.1, ())
def spec_l15Draw (K : Nat) (a0 : List (Int)) (a1 : Int) (a2 : Int) : Option (Int × List Int × List Int × Int × Int × Int × Int × Unit) :=
 bnd (spec_l1Int K a0 a1 a2 ([(1:Int), (1:Int), (1:Int), (2:Int), (2:Int), (3:Int), (4:Int), (4:Int), (4:Int), (4:Int), (4:Int), (4:Int), (5:Int), (6:Int), (7:Int), (7:Int), (8:Int), (9:Int)] : List (Int))) fun y0 =>
 joinK (fun s1 : Int × Int × List Int × List Int × Int × Int × Int × List Int × List Int × Int × List (Int) × Int × Int × Unit =>
  joinK (fun s3 : Int × Int × List Int × List Int × Int × Int × Int × List Int × List Int × Int × List (Int) × Int × Int × Unit =>
   some (s3.2.2.2.2.1, s3.2.2.2.1, s3.2.2.1, s3.2.1, s3.1, s3.2.2.2.2.2.2.2.2.2.2.2.1, s3.2.2.2.2.2.2.2.2.2.2.2.2.1, ())) fun j4 =>
  joinK (fun s5 : Int × Int × List Int × List Int × Int × Int × Int × List Int × List Int × Int × Bool × Int × List (Int) × Int × Int × Unit =>
   br s5.2.2.2.2.2.2.2.2.2.2.1 (
    bnd (spec_l1Int K s5.2.2.2.2.2.2.2.2.2.2.2.2.1 s5.2.2.2.2.2.2.2.2.2.2.2.2.2.1 s5.2.2.2.2.2.2.2.2.2.2.2.2.2.2.1 ([(1:Int), (3:Int), (4:Int), (12:Int), (5:Int)] : List (Int))) fun y7 =>
    j4 (s5.1, y7.1, s5.2.2.1, s5.2.2.2.1, s5.2.2.2.2.1, s5.2.2.2.2.2.1, s5.2.2.2.2.2.2.1, s5.2.2.2.2.2.2.2.1, s5.2.2.2.2.2.2.2.2.1, s5.2.2.2.2.2.2.2.2.2.1, s5.2.2.2.2.2.2.2.2.2.2.2.2.1, y7.2.1, y7.2.2.1, ())) (
    br (decide (s5.2.2.2.2.2.2.2.2.2.2.2.1 = (2:Int))) (
     bnd (spec_l1Name K s5.2.2.2.2.2.2.2.2.2.2.2.2.1 s5.2.2.2.2.2.2.2.2.2.2.2.2.2.1 s5.2.2.2.2.2.2.2.2.2.2.2.2.2.2.1) fun y8 =>
     bnd (spec_l1Int K s5.2.2.2.2.2.2.2.2.2.2.2.2.1 y8.2.1 y8.2.2.1 ([(0:Int), (0:Int), (0:Int), (1:Int)] : List (Int))) fun y9 =>
     j4 (y9.1, s5.2.1, y8.1, s5.2.2.2.1, s5.2.2.2.2.1, s5.2.2.2.2.2.1, s5.2.2.2.2.2.2.1, s5.2.2.2.2.2.2.2.1, s5.2.2.2.2.2.2.2.2.1, s5.2.2.2.2.2.2.2.2.2.1, s5.2.2.2.2.2.2.2.2.2.2.2.2.1, y9.2.1, y9.2.2.1, ())) (
     br (decide (s5.2.2.2.2.2.2.2.2.2.2.2.1 = (4:Int))) (
      bnd (spec_l1Below K s5.2.2.2.2.2.2.2.2.2.2.2.2.1 s5.2.2.2.2.2.2.2.2.2.2.2.2.2.1 s5.2.2.2.2.2.2.2.2.2.2.2.2.2.2.1 (5:Int)) fun y10 =>
      bnd (spec_l1Draw K s5.2.2.2.2.2.2.2.2.2.2.2.2.1 y10.2.1 y10.2.2.1) fun y11 =>
      j4 (y11.1, y10.1, s5.2.2.1, s5.2.2.2.1, s5.2.2.2.2.1, s5.2.2.2.2.2.1, s5.2.2.2.2.2.2.1, s5.2.2.2.2.2.2.2.1, s5.2.2.2.2.2.2.2.2.1, s5.2.2.2.2.2.2.2.2.2.1, s5.2.2.2.2.2.2.2.2.2.2.2.2.1, y11.2.1, y11.2.2.1, ())) (
      br (decide (s5.2.2.2.2.2.2.2.2.2.2.2.1 = (5:Int))) (
       bnd (spec_l1Below K s5.2.2.2.2.2.2.2.2.2.2.2.2.1 s5.2.2.2.2.2.2.2.2.2.2.2.2.2.1 s5.2.2.2.2.2.2.2.2.2.2.2.2.2.2.1 (5:Int)) fun y12 =>
       j4 (s5.1, y12.1, s5.2.2.1, s5.2.2.2.1, s5.2.2.2.2.1, s5.2.2.2.2.2.1, s5.2.2.2.2.2.2.1, s5.2.2.2.2.2.2.2.1, s5.2.2.2.2.2.2.2.2.1, s5.2.2.2.2.2.2.2.2.2.1, s5.2.2.2.2.2.2.2.2.2.2.2.2.1, y12.2.1, y12.2.2.1, ())) (
       joinK (fun s13 : Int × Int × List Int × List Int × Int × Int × Int × List Int × List Int × Int × Bool × List (Int) × Int × Int × Unit =>
        br s13.2.2.2.2.2.2.2.2.2.2.1 (
         bnd (spec_l1Below K s13.2.2.2.2.2.2.2.2.2.2.2.1 s13.2.2.2.2.2.2.2.2.2.2.2.2.1 s13.2.2.2.2.2.2.2.2.2.2.2.2.2.1 (6:Int)) fun y15 =>
         j4 (s13.1, y15.1, s13.2.2.1, s13.2.2.2.1, s13.2.2.2.2.1, s13.2.2.2.2.2.1, s13.2.2.2.2.2.2.1, s13.2.2.2.2.2.2.2.1, s13.2.2.2.2.2.2.2.2.1, s13.2.2.2.2.2.2.2.2.2.1, s13.2.2.2.2.2.2.2.2.2.2.2.1, y15.2.1, y15.2.2.1, ())) (
         j4 (s13.1, s13.2.1, s13.2.2.1, s13.2.2.2.1, s13.2.2.2.2.1, s13.2.2.2.2.2.1, s13.2.2.2.2.2.2.1, s13.2.2.2.2.2.2.2.1, s13.2.2.2.2.2.2.2.2.1, s13.2.2.2.2.2.2.2.2.2.1, s13.2.2.2.2.2.2.2.2.2.2.2.1, s13.2.2.2.2.2.2.2.2.2.2.2.2.1, s13.2.2.2.2.2.2.2.2.2.2.2.2.2.1, ()))) fun j14 =>
       br (decide (s5.2.2.2.2.2.2.2.2.2.2.2.1 = (8:Int))) (
        j14 (s5.1, s5.2.1, s5.2.2.1, s5.2.2.2.1, s5.2.2.2.2.1, s5.2.2.2.2.2.1, s5.2.2.2.2.2.2.1, s5.2.2.2.2.2.2.2.1, s5.2.2.2.2.2.2.2.2.1, s5.2.2.2.2.2.2.2.2.2.1, true, s5.2.2.2.2.2.2.2.2.2.2.2.2.1, s5.2.2.2.2.2.2.2.2.2.2.2.2.2.1, s5.2.2.2.2.2.2.2.2.2.2.2.2.2.2.1, ())) (
        j14 (s5.1, s5.2.1, s5.2.2.1, s5.2.2.2.1, s5.2.2.2.2.1, s5.2.2.2.2.2.1, s5.2.2.2.2.2.2.1, s5.2.2.2.2.2.2.2.1, s5.2.2.2.2.2.2.2.2.1, s5.2.2.2.2.2.2.2.2.2.1, (decide (s5.2.2.2.2.2.2.2.2.2.2.2.1 = (9:Int))), s5.2.2.2.2.2.2.2.2.2.2.2.2.1, s5.2.2.2.2.2.2.2.2.2.2.2.2.2.1, s5.2.2.2.2.2.2.2.2.2.2.2.2.2.2.1, ()))))))) fun j6 =>
  br (decide (s1.2.2.2.2.1 = (1:Int))) (
   j6 (s1.1, s1.2.1, s1.2.2.1, s1.2.2.2.1, s1.2.2.2.2.1, s1.2.2.2.2.2.1, s1.2.2.2.2.2.2.1, s1.2.2.2.2.2.2.2.1, s1.2.2.2.2.2.2.2.2.1, s1.2.2.2.2.2.2.2.2.2.1, true, s1.2.2.2.2.1, s1.2.2.2.2.2.2.2.2.2.2.1, s1.2.2.2.2.2.2.2.2.2.2.2.1, s1.2.2.2.2.2.2.2.2.2.2.2.2.1, ())) (
   j6 (s1.1, s1.2.1, s1.2.2.1, s1.2.2.2.1, s1.2.2.2.2.1, s1.2.2.2.2.2.1, s1.2.2.2.2.2.2.1, s1.2.2.2.2.2.2.2.1, s1.2.2.2.2.2.2.2.2.1, s1.2.2.2.2.2.2.2.2.2.1, (decide (s1.2.2.2.2.1 = (6:Int))), s1.2.2.2.2.1, s1.2.2.2.2.2.2.2.2.2.2.1, s1.2.2.2.2.2.2.2.2.2.2.2.1, s1.2.2.2.2.2.2.2.2.2.2.2.2.1, ()))) fun j2 =>
 br (decide (y0.1 < (7:Int))) (
  bnd (spec_l1Str K a0 y0.2.1 y0.2.2.1 ([([97] : List Int), ([97] : List Int), ([98] : List Int), ([99] : List Int), ([100] : List Int)] : List (List Int))) fun y16 =>
  j2 ((0:Int), (0:Int), ([] : List Int), y16.1, y0.1, (0:Int), (0:Int), ([] : List Int), ([] : List Int), (0:Int), a0, y16.2.1, y16.2.2.1, ())) (
  j2 ((0:Int), (0:Int), ([] : List Int), ([] : List Int), y0.1, (0:Int), (0:Int), ([] : List Int), ([] : List Int), (0:Int), a0, y0.2.1, y0.2.2.1, ()))
def spec_l1In (K : Nat) (a0 : Int) (a1 : Int) (a2 : Int) : Option (Bool × Unit) :=
 br (decide (a0 ≥ a1)) (
  some ((decide (a0 ≤ a2)), ())) (
  some (false, ()))
def spec_NameOk (K : Nat) (a0 : List Int) : Option (Bool × Unit) :=
 loopFix K (fun r1 (s0 : List Int × Int × Unit) =>
  br (decide (s0.2.1 < (List.length s0.1 : Int))) (
   idxK s0.1 s0.2.1 fun x2 =>
   bnd (spec_l1In K (wr (x2)) (97:Int) (122:Int)) fun y3 =>
   br (!y3.1) (
    idxK s0.1 s0.2.1 fun x4 =>
    bnd (spec_l1In K (wr (x4)) (48:Int) (57:Int)) fun y5 =>
    br (!y5.1) (
     some (false, ())) (
     r1 (s0.1, (wr (s0.2.1 + (1:Int))), ()))) (
    r1 (s0.1, (wr (s0.2.1 + (1:Int))), ()))) (
   bnd (spec_l1In K (List.length s0.1 : Int) (1:Int) (6:Int)) fun y6 =>
   some (y6.1, ()))) (a0, (0:Int), ())
def spec_l1Word (K : Nat) (a0 : Int) : Option (Bool × Unit) :=
 bnd (spec_l1In K a0 (0:Int) (65535:Int)) fun y0 =>
 some (y0.1, ())
def spec_l15Zero (K : Nat) (a0 : Int) (a1 : List Int) (a2 : List Int) (a3 : Int) (a4 : Int) : Option (Bool × Unit) :=
 br (decide (a0 = (2:Int))) (
  br (decide (a3 = (0:Int))) (
   bnd (spec_l1In K a4 (0:Int) (1:Int)) fun y0 =>
   some (y0.1, ())) (
   some (false, ()))) (
  joinK (fun s1 : Int × Int × List Int × List Int × Int × Bool × Int × Unit =>
   br s1.2.2.2.2.2.1 (
    br (decide (s1.2.1 = (0:Int))) (
     some ((decide (s1.1 = (0:Int))), ())) (
     some (false, ()))) (
    br (decide (s1.2.2.2.2.2.2.1 = (4:Int))) (
     some (true, ())) (
     some ((decide (s1.1 = (0:Int))), ())))) fun j2 =>
  br (decide (a0 = (3:Int))) (
   j2 (a4, a3, a2, a1, a0, true, a0, ())) (
   j2 (a4, a3, a2, a1, a0, (decide (a0 = (7:Int))), a0, ())))
def spec_OpOk (K : Nat) (a0 : Int) (a1 : List Int) (a2 : List Int) (a3 : Int) (a4 : Int) : Option (Bool × Unit) :=
 bnd (spec_NameOk K a1) fun y0 =>
 joinK (fun s1 : Int × Int × List Int × List Int × Int × Bool × Unit =>
  joinK (fun s3 : Int × Int × List Int × List Int × Int × Bool × Bool × Unit =>
   bnd (spec_l1In K s3.2.2.2.2.1 (1:Int) (9:Int)) fun y5 =>
   br y5.1 (
    br s3.2.2.2.2.2.1 (
     br s3.2.2.2.2.2.2.1 (
      bnd (spec_l1Word K s3.2.1) fun y6 =>
      br y6.1 (
       bnd (spec_l1Word K s3.1) fun y7 =>
       br y7.1 (
        bnd (spec_l15Zero K s3.2.2.2.2.1 s3.2.2.2.1 s3.2.2.1 s3.2.1 s3.1) fun y8 =>
        some (y8.1, ())) (
        some (false, ()))) (
       some (false, ()))) (
      some (false, ()))) (
     some (false, ()))) (
    some (false, ()))) fun j4 =>
  br (decide (s1.2.2.2.2.1 = (2:Int))) (
   bnd (spec_NameOk K s1.2.2.1) fun y9 =>
   j4 (s1.1, s1.2.1, s1.2.2.1, s1.2.2.2.1, s1.2.2.2.2.1, s1.2.2.2.2.2.1, y9.1, ())) (
   j4 (s1.1, s1.2.1, s1.2.2.1, s1.2.2.2.1, s1.2.2.2.2.1, s1.2.2.2.2.2.1, (decide (s1.2.2.1 = ([] : List Int))), ()))) fun j2 =>
 br (decide (a0 ≥ (7:Int))) (
  j2 (a4, a3, a2, a1, a0, (decide (a1 = ([] : List Int))), ())) (
  j2 (a4, a3, a2, a1, a0, y0.1, ()))
def spec_KeyOk (K : Nat) (a0 : Int) (a1 : Int) (a2 : Int) (a3 : Int) (a4 : Int) : Option (Bool × Unit) :=
 bnd (spec_l1In K a0 (0:Int) (15:Int)) fun y0 =>
 br (!y0.1) (
  some (false, ())) (
  bnd (spec_l1In K a1 (1:Int) (60:Int)) fun y1 =>
  br (!y1.1) (
   some (false, ())) (
   bnd (spec_l1In K a2 (0:Int) (2:Int)) fun y2 =>
   br (!y2.1) (
    some (false, ())) (
    br (decide (a2 = (1:Int))) (
     bnd (spec_l1In K a3 (0:Int) (23:Int)) fun y3 =>
     br y3.1 (
      bnd (spec_l1In K a4 (0:Int) (999:Int)) fun y4 =>
      some (y4.1, ())) (
      some (false, ()))) (
     br (decide (a3 = (0:Int))) (
      some ((decide (a4 = (0:Int))), ())) (
      some (false, ()))))))
def spec_LessKey (K : Nat) (a0 : Int) (a1 : Int) (a2 : Int) (a3 : Int) (a4 : Int) (a5 : Int) (a6 : Int) (a7 : Int) (a8 : Int) (a9 : Int) : Option (Bool × Unit) :=
 br (decide (a0 ≠ a5)) (
  some ((decide (a0 < a5)), ())) (
  some ((decide (a1 < a6)), ()))
def spec_l4Rises (K : Nat) (a0 : List (Key)) : Option (Bool × Unit) :=
 loopFix K (fun r1 (s0 : List (Key) × Int × Unit) =>
  br (decide (s0.2.1 < (List.length s0.1 : Int))) (
   inK s0.1 (wr (s0.2.1 - (1:Int))) <|
   idxK s0.1 (wr (s0.2.1 - (1:Int))) fun x2 =>
   inK s0.1 s0.2.1 <|
   idxK s0.1 s0.2.1 fun x3 =>
   bnd (spec_LessKey K x2.blk x2.age x2.kind x2.cell x2.gen x3.blk x3.age x3.kind x3.cell x3.gen) fun y4 =>
   br (!y4.1) (
    some (false, ())) (
    r1 (s0.1, (wr (s0.2.1 + (1:Int))), ()))) (
   some (true, ()))) (a0, (1:Int), ())
def spec_SetOk (K : Nat) (a0 : List (Key)) : Option (Bool × Unit) :=
 loopFix K (fun r1 (s0 : List (Key) × Int × Unit) =>
  br (decide (s0.2.1 < (List.length s0.1 : Int))) (
   inK s0.1 s0.2.1 <|
   idxK s0.1 s0.2.1 fun x2 =>
   bnd (spec_KeyOk K x2.blk x2.age x2.kind x2.cell x2.gen) fun y3 =>
   br (!y3.1) (
    some (false, ())) (
    r1 (s0.1, (wr (s0.2.1 + (1:Int))), ()))) (
   bnd (spec_l4Rises K s0.1) fun y4 =>
   br y4.1 (
    some ((decide ((List.length s0.1 : Int) ≤ (60:Int))), ())) (
    some (false, ())))) (a0, (0:Int), ())
def spec_l5Count (K : Nat) (a0 : List (List (Key))) : Option (Int × Unit) :=
 loopFix K (fun r1 (s0 : List (List (Key)) × Int × Int × Unit) =>
  br (decide (s0.2.2.1 < (List.length s0.1 : Int))) (
   inK s0.1 s0.2.2.1 <|
   idxK s0.1 s0.2.2.1 fun x2 =>
   r1 (s0.1, (wr (s0.2.1 + (List.length x2 : Int))), (wr (s0.2.2.1 + (1:Int))), ())) (
   some (s0.2.1, ()))) (a0, (0:Int), (0:Int), ())
def spec_NodeOk (K : Nat) (a0 : List (List (Key))) : Option (Bool × Unit) :=
 loopFix K (fun r1 (s0 : List (List (Key)) × Int × Unit) =>
  br (decide (s0.2.1 < (List.length s0.1 : Int))) (
   inK s0.1 s0.2.1 <|
   idxK s0.1 s0.2.1 fun x2 =>
   bnd (spec_SetOk K x2) fun y3 =>
   br (!y3.1) (
    some (false, ())) (
    inK s0.1 s0.2.1 <|
    idxK s0.1 s0.2.1 fun x4 =>
    br (decide ((List.length x4 : Int) = (0:Int))) (
     some (false, ())) (
     r1 (s0.1, (wr (s0.2.1 + (1:Int))), ())))) (
   br (decide ((List.length s0.1 : Int) ≤ (3:Int))) (
    bnd (spec_l5Count K s0.1) fun y5 =>
    some ((decide (y5.1 ≤ (8:Int))), ())) (
    some (false, ())))) (a0, (0:Int), ())
def spec_SameSpot (K : Nat) (a0 : Int) (a1 : Int) (a2 : Int) (a3 : Int) (a4 : Int) (a5 : Int) (a6 : Int) (a7 : Int) (a8 : Int) (a9 : Int) : Option (Bool × Unit) :=
 br (decide (a0 = a5)) (
  some ((decide (a1 = a6)), ())) (
  some (false, ()))
def spec_SetPut (K : Nat) (a0 : List (Key)) (a1 : Int) (a2 : Int) (a3 : Int) (a4 : Int) (a5 : Int) : Option (List (Key) × Unit) :=
 loopFix K (fun r1 (s0 : Int × Int × Int × Int × Int × List (Key) × Bool × List (Key) × Int × Unit) =>
  br (decide (s0.2.2.2.2.2.2.2.2.1 < (List.length s0.2.2.2.2.2.2.2.1 : Int))) (
   joinK (fun s2 : Int × Int × Int × Int × Int × Int × List (Key) × Bool × List (Key) × Unit =>
    r1 (s2.1, s2.2.1, s2.2.2.1, s2.2.2.2.1, s2.2.2.2.2.1, s2.2.2.2.2.2.2.1, s2.2.2.2.2.2.2.2.1, s2.2.2.2.2.2.2.2.2.1, (wr (s2.2.2.2.2.2.1 + (1:Int))), ())) fun j3 =>
   joinK (fun s4 : Int × Int × Int × Int × Int × Int × List (Key) × Bool × List (Key) × Unit =>
    inK s4.2.2.2.2.2.2.2.2.1 s4.2.2.2.2.2.1 <|
    idxK s4.2.2.2.2.2.2.2.2.1 s4.2.2.2.2.2.1 fun x6 =>
    bnd (spec_SameSpot K x6.blk x6.age x6.kind x6.cell x6.gen s4.2.2.2.2.1 s4.2.2.2.1 s4.2.2.1 s4.2.1 s4.1) fun y7 =>
    br (!y7.1) (
     inK s4.2.2.2.2.2.2.2.2.1 s4.2.2.2.2.2.1 <|
     idxK s4.2.2.2.2.2.2.2.2.1 s4.2.2.2.2.2.1 fun x8 =>
     appK s4.2.2.2.2.2.2.1 ([(⟨x8.blk, x8.age, x8.kind, x8.cell, x8.gen⟩ : Key)] : List (Key)) fun z9 =>
     j3 (s4.1, s4.2.1, s4.2.2.1, s4.2.2.2.1, s4.2.2.2.2.1, s4.2.2.2.2.2.1, z9, s4.2.2.2.2.2.2.2.1, s4.2.2.2.2.2.2.2.2.1, ())) (
     j3 (s4.1, s4.2.1, s4.2.2.1, s4.2.2.2.1, s4.2.2.2.2.1, s4.2.2.2.2.2.1, s4.2.2.2.2.2.2.1, s4.2.2.2.2.2.2.2.1, s4.2.2.2.2.2.2.2.2.1, ()))) fun j5 =>
   br (!s0.2.2.2.2.2.2.1) (
    inK s0.2.2.2.2.2.2.2.1 s0.2.2.2.2.2.2.2.2.1 <|
    idxK s0.2.2.2.2.2.2.2.1 s0.2.2.2.2.2.2.2.2.1 fun x10 =>
    bnd (spec_LessKey K x10.blk x10.age x10.kind x10.cell x10.gen s0.2.2.2.2.1 s0.2.2.2.1 s0.2.2.1 s0.2.1 s0.1) fun y11 =>
    br (!y11.1) (
     appK s0.2.2.2.2.2.1 ([(⟨s0.2.2.2.2.1, s0.2.2.2.1, s0.2.2.1, s0.2.1, s0.1⟩ : Key)] : List (Key)) fun z12 =>
     j5 (s0.1, s0.2.1, s0.2.2.1, s0.2.2.2.1, s0.2.2.2.2.1, s0.2.2.2.2.2.2.2.2.1, z12, true, s0.2.2.2.2.2.2.2.1, ())) (
     j5 (s0.1, s0.2.1, s0.2.2.1, s0.2.2.2.1, s0.2.2.2.2.1, s0.2.2.2.2.2.2.2.2.1, s0.2.2.2.2.2.1, s0.2.2.2.2.2.2.1, s0.2.2.2.2.2.2.2.1, ()))) (
    j5 (s0.1, s0.2.1, s0.2.2.1, s0.2.2.2.1, s0.2.2.2.2.1, s0.2.2.2.2.2.2.2.2.1, s0.2.2.2.2.2.1, s0.2.2.2.2.2.2.1, s0.2.2.2.2.2.2.2.1, ()))) (
   joinK (fun s13 : List (Key) × Unit =>
    some (s13.1, ())) fun j14 =>
   br (!s0.2.2.2.2.2.2.1) (
    appK s0.2.2.2.2.2.1 ([(⟨s0.2.2.2.2.1, s0.2.2.2.1, s0.2.2.1, s0.2.1, s0.1⟩ : Key)] : List (Key)) fun z15 =>
    j14 (z15, ())) (
    j14 (s0.2.2.2.2.2.1, ())))) (a5, a4, a3, a2, a1, ([] : List (Key)), false, a0, (0:Int), ())
def spec_MergeSets (K : Nat) (a0 : List (Key)) (a1 : List (Key)) : Option (List (Key) × Unit) :=
 appK ([] : List (Key)) a0 fun z0 =>
 loopFix K (fun r2 (s1 : List (Key) × List (Key) × Int × Unit) =>
  br (decide (s1.2.2.1 < (List.length s1.2.1 : Int))) (
   inK s1.2.1 s1.2.2.1 <|
   idxK s1.2.1 s1.2.2.1 fun x3 =>
   bnd (spec_SetPut K s1.1 x3.blk x3.age x3.kind x3.cell x3.gen) fun y4 =>
   r2 (y4.1, s1.2.1, (wr (s1.2.2.1 + (1:Int))), ())) (
   some (s1.1, ()))) (z0, a1, (0:Int), ())
def spec_Drop (K : Nat) (a0 : List (Key)) : Option (List (Key) × Unit) :=
 loopFix K (fun r1 (s0 : List (Key) × List (Key) × Int × Unit) =>
  br (decide (s0.2.2.1 < (List.length s0.2.1 : Int))) (
   joinK (fun s2 : Int × List (Key) × List (Key) × Unit =>
    r1 (s2.2.1, s2.2.2.1, (wr (s2.1 + (1:Int))), ())) fun j3 =>
   inK s0.2.1 s0.2.2.1 <|
   idxK s0.2.1 s0.2.2.1 fun x4 =>
   br (decide (x4.kind ≠ (0:Int))) (
    inK s0.2.1 s0.2.2.1 <|
    idxK s0.2.1 s0.2.2.1 fun x5 =>
    appK s0.1 ([(⟨x5.blk, x5.age, x5.kind, x5.cell, x5.gen⟩ : Key)] : List (Key)) fun z6 =>
    j3 (s0.2.2.1, z6, s0.2.1, ())) (
    j3 (s0.2.2.1, s0.1, s0.2.1, ()))) (
   some (s0.1, ()))) (([] : List (Key)), a0, (0:Int), ())
def spec_NodeKeys (K : Nat) (a0 : List (List (Key))) : Option (List (Key) × Unit) :=
 loopFix K (fun r1 (s0 : List (List (Key)) × List (Key) × Int × Unit) =>
  br (decide (s0.2.2.1 < (List.length s0.1 : Int))) (
   inK s0.1 s0.2.2.1 <|
   idxK s0.1 s0.2.2.1 fun x2 =>
   bnd (spec_MergeSets K s0.2.1 x2) fun y3 =>
   r1 (s0.1, y3.1, (wr (s0.2.2.1 + (1:Int))), ())) (
   bnd (spec_Drop K s0.2.1) fun y4 =>
   some (y4.1, ()))) (a0, ([] : List (Key)), (0:Int), ())
def spec_SpotOf (K : Nat) (a0 : Int) (a1 : Int) : Option (Int × Unit) :=
 some ((wr ((wr ((64:Int) * a0)) + a1)), ())
def spec_l6Spot (K : Nat) (a0 : Int) (a1 : Int) (a2 : Int) (a3 : Int) (a4 : Int) : Option (Int × Unit) :=
 bnd (spec_SpotOf K a0 a1) fun y0 =>
 some (y0.1, ())
def spec_l6Node (K : Nat) (a0 : List (Int)) (a1 : List (Node)) (a2 : Int) : Option (Bool × Unit) :=
 inK a1 a2 <|
 idxK a1 a2 fun x0 =>
 bnd (spec_NodeOk K x0.sets) fun y1 =>
 br (!y1.1) (
  some (false, ())) (
  br (decide (a2 > (0:Int))) (
   bnd (spec_NodeKeys K x0.sets) fun y2 =>
   br (decide ((List.length y2.1 : Int) = (0:Int))) (
    some (false, ())) (
    loopFix K (fun r4 (s3 : List (List (Key)) × List (Node) × List (Int) × Int × Int × Unit) =>
     br (decide (s3.2.2.2.1 < (List.length s3.1 : Int))) (
      loopFix K (fun r6 (s5 : List (Node) × List (Int) × List (List (Key)) × Int × Int × Int × Unit) =>
       inK s5.2.2.1 s5.2.2.2.2.1 <|
       idxK s5.2.2.1 s5.2.2.2.2.1 fun x7 =>
       br (decide (s5.2.2.2.2.2.1 < (List.length x7 : Int))) (
        inK s5.2.2.1 s5.2.2.2.2.1 <|
        idxK s5.2.2.1 s5.2.2.2.2.1 fun x8 =>
        inK x8 s5.2.2.2.2.2.1 <|
        idxK x8 s5.2.2.2.2.2.1 fun x9 =>
        bnd (spec_l6Spot K x9.blk x9.age x9.kind x9.cell x9.gen) fun y10 =>
        inK s5.2.1 s5.2.2.2.1 <|
        idxK s5.2.1 s5.2.2.2.1 fun x11 =>
        br (decide (y10.1 < x11)) (
         some (false, ())) (
         br (decide ((wr (s5.2.2.2.1 + (1:Int))) < (List.length s5.2.1 : Int))) (
          inK s5.2.1 (wr (s5.2.2.2.1 + (1:Int))) <|
          idxK s5.2.1 (wr (s5.2.2.2.1 + (1:Int))) fun x12 =>
          br (decide (y10.1 ≥ x12)) (
           some (false, ())) (
           r6 (s5.1, s5.2.1, s5.2.2.1, s5.2.2.2.1, s5.2.2.2.2.1, (wr (s5.2.2.2.2.2.1 + (1:Int))), ()))) (
          r6 (s5.1, s5.2.1, s5.2.2.1, s5.2.2.2.1, s5.2.2.2.2.1, (wr (s5.2.2.2.2.2.1 + (1:Int))), ())))) (
        r4 (s5.2.2.1, s5.1, s5.2.1, (wr (s5.2.2.2.2.1 + (1:Int))), s5.2.2.2.1, ()))) (s3.2.1, s3.2.2.1, s3.1, s3.2.2.2.2.1, s3.2.2.2.1, (0:Int), ())) (
      some (true, ()))) (x0.sets, a1, a0, (0:Int), a2, ()))) (
   loopFix K (fun r14 (s13 : List (List (Key)) × List (Node) × List (Int) × Int × Int × Unit) =>
    br (decide (s13.2.2.2.1 < (List.length s13.1 : Int))) (
     loopFix K (fun r16 (s15 : List (Node) × List (Int) × List (List (Key)) × Int × Int × Int × Unit) =>
      inK s15.2.2.1 s15.2.2.2.2.1 <|
      idxK s15.2.2.1 s15.2.2.2.2.1 fun x17 =>
      br (decide (s15.2.2.2.2.2.1 < (List.length x17 : Int))) (
       inK s15.2.2.1 s15.2.2.2.2.1 <|
       idxK s15.2.2.1 s15.2.2.2.2.1 fun x18 =>
       inK x18 s15.2.2.2.2.2.1 <|
       idxK x18 s15.2.2.2.2.2.1 fun x19 =>
       bnd (spec_l6Spot K x19.blk x19.age x19.kind x19.cell x19.gen) fun y20 =>
       inK s15.2.1 s15.2.2.2.1 <|
       idxK s15.2.1 s15.2.2.2.1 fun x21 =>
       br (decide (y20.1 < x21)) (
        some (false, ())) (
        br (decide ((wr (s15.2.2.2.1 + (1:Int))) < (List.length s15.2.1 : Int))) (
         inK s15.2.1 (wr (s15.2.2.2.1 + (1:Int))) <|
         idxK s15.2.1 (wr (s15.2.2.2.1 + (1:Int))) fun x22 =>
         br (decide (y20.1 ≥ x22)) (
          some (false, ())) (
          r16 (s15.1, s15.2.1, s15.2.2.1, s15.2.2.2.1, s15.2.2.2.2.1, (wr (s15.2.2.2.2.2.1 + (1:Int))), ()))) (
         r16 (s15.1, s15.2.1, s15.2.2.1, s15.2.2.2.1, s15.2.2.2.2.1, (wr (s15.2.2.2.2.2.1 + (1:Int))), ())))) (
       r14 (s15.2.2.1, s15.1, s15.2.1, (wr (s15.2.2.2.2.1 + (1:Int))), s15.2.2.2.1, ()))) (s13.2.1, s13.2.2.1, s13.1, s13.2.2.2.2.1, s13.2.2.2.1, (0:Int), ())) (
     some (true, ()))) (x0.sets, a1, a0, (0:Int), a2, ())))
def spec_TreeKeys (K : Nat) (a0 : List (Int)) (a1 : List (Node)) : Option (List (Key) × Unit) :=
 loopFix K (fun r1 (s0 : List (Node) × List (Int) × List (Key) × Int × Unit) =>
  br (decide (s0.2.2.2.1 < (List.length s0.1 : Int))) (
   inK s0.1 s0.2.2.2.1 <|
   idxK s0.1 s0.2.2.2.1 fun x2 =>
   bnd (spec_NodeKeys K x2.sets) fun y3 =>
   appK s0.2.2.1 y3.1 fun z4 =>
   r1 (s0.1, s0.2.1, z4, (wr (s0.2.2.2.1 + (1:Int))), ())) (
   some (s0.2.2.1, ()))) (a1, a0, ([] : List (Key)), (0:Int), ())
def spec_TreeOk (K : Nat) (a0 : List (Int)) (a1 : List (Node)) : Option (Bool × Unit) :=
 bnd (spec_l1In K (List.length a1 : Int) (1:Int) (20:Int)) fun y0 =>
 br (!y0.1) (
  some (false, ())) (
  br (decide ((List.length a0 : Int) ≠ (List.length a1 : Int))) (
   some (false, ())) (
   inK a0 (0:Int) <|
   idxK a0 (0:Int) fun x1 =>
   br (decide (x1 ≠ (0:Int))) (
    some (false, ())) (
    loopFix K (fun r3 (s2 : List (Node) × List (Int) × Int × Unit) =>
     br (decide (s2.2.2.1 < (List.length s2.1 : Int))) (
      br (decide (s2.2.2.1 > (0:Int))) (
       inK s2.2.1 (wr (s2.2.2.1 - (1:Int))) <|
       idxK s2.2.1 (wr (s2.2.2.1 - (1:Int))) fun x4 =>
       inK s2.2.1 s2.2.2.1 <|
       idxK s2.2.1 s2.2.2.1 fun x5 =>
       br (decide (x4 ≥ x5)) (
        some (false, ())) (
        bnd (spec_l6Node K s2.2.1 s2.1 s2.2.2.1) fun y6 =>
        br (!y6.1) (
         some (false, ())) (
         r3 (s2.1, s2.2.1, (wr (s2.2.2.1 + (1:Int))), ())))) (
       bnd (spec_l6Node K s2.2.1 s2.1 s2.2.2.1) fun y7 =>
       br (!y7.1) (
        some (false, ())) (
        r3 (s2.1, s2.2.1, (wr (s2.2.2.1 + (1:Int))), ())))) (
      bnd (spec_TreeKeys K s2.2.1 s2.1) fun y8 =>
      some ((decide ((List.length y8.1 : Int) ≤ (60:Int))), ()))) (a1, a0, (0:Int), ()))))
def spec_AgeAt (K : Nat) (a0 : List (Age)) (a1 : Int) : Option (Int × Unit) :=
 loopFix K (fun r1 (s0 : List (Age) × Int × Int × Unit) =>
  br (decide (s0.2.2.1 < (List.length s0.1 : Int))) (
   inK s0.1 s0.2.2.1 <|
   idxK s0.1 s0.2.2.1 fun x2 =>
   br (decide (x2.id = s0.2.1)) (
    some (s0.2.2.1, ())) (
    r1 (s0.1, s0.2.1, (wr (s0.2.2.1 + (1:Int))), ()))) (
   some ((-1:Int), ()))) (a0, a1, (0:Int), ())
def spec_AgesOk (K : Nat) (a0 : List (Age)) : Option (Bool × Unit) :=
 loopFix K (fun r1 (s0 : List (Age) × Int × Unit) =>
  br (decide (s0.2.1 < (List.length s0.1 : Int))) (
   inK s0.1 s0.2.1 <|
   idxK s0.1 s0.2.1 fun x2 =>
   bnd (spec_l1In K x2.id (1:Int) (60:Int)) fun y3 =>
   br (!y3.1) (
    some (false, ())) (
    br (decide (s0.2.1 > (0:Int))) (
     inK s0.1 (wr (s0.2.1 - (1:Int))) <|
     idxK s0.1 (wr (s0.2.1 - (1:Int))) fun x4 =>
     inK s0.1 s0.2.1 <|
     idxK s0.1 s0.2.1 fun x5 =>
     br (decide (x4.id ≥ x5.id)) (
      some (false, ())) (
      inK s0.1 s0.2.1 <|
      idxK s0.1 s0.2.1 fun x6 =>
      br (decide (x6.from_ ≠ (0:Int))) (
       subK s0.1 (0:Int) s0.2.1 fun z7 =>
       inK s0.1 s0.2.1 <|
       idxK s0.1 s0.2.1 fun x8 =>
       bnd (spec_AgeAt K z7 x8.from_) fun y9 =>
       br (decide (y9.1 < (0:Int))) (
        some (false, ())) (
        r1 (s0.1, (wr (s0.2.1 + (1:Int))), ()))) (
       r1 (s0.1, (wr (s0.2.1 + (1:Int))), ())))) (
     inK s0.1 s0.2.1 <|
     idxK s0.1 s0.2.1 fun x10 =>
     br (decide (x10.from_ ≠ (0:Int))) (
      subK s0.1 (0:Int) s0.2.1 fun z11 =>
      inK s0.1 s0.2.1 <|
      idxK s0.1 s0.2.1 fun x12 =>
      bnd (spec_AgeAt K z11 x12.from_) fun y13 =>
      br (decide (y13.1 < (0:Int))) (
       some (false, ())) (
       r1 (s0.1, (wr (s0.2.1 + (1:Int))), ()))) (
      r1 (s0.1, (wr (s0.2.1 + (1:Int))), ()))))) (
   some ((decide ((List.length s0.1 : Int) ≤ (16:Int))), ()))) (a0, (0:Int), ())
def spec_CellsOk (K : Nat) (a0 : List (Cell)) : Option (Bool × Unit) :=
 loopFix K (fun r1 (s0 : List (Cell) × Int × Unit) =>
  br (decide (s0.2.1 < (List.length s0.1 : Int))) (
   inK s0.1 s0.2.1 <|
   idxK s0.1 s0.2.1 fun x2 =>
   bnd (spec_l1In K x2.gen (0:Int) (999:Int)) fun y3 =>
   br (!y3.1) (
    some (false, ())) (
    inK s0.1 s0.2.1 <|
    idxK s0.1 s0.2.1 fun x4 =>
    bnd (spec_l1Word K x4.n) fun y5 =>
    br (!y5.1) (
     some (false, ())) (
     inK s0.1 s0.2.1 <|
     idxK s0.1 s0.2.1 fun x6 =>
     br (!x6.used) (
      inK s0.1 s0.2.1 <|
      idxK s0.1 s0.2.1 fun x7 =>
      br (decide (x7.n ≠ (0:Int))) (
       some (false, ())) (
       r1 (s0.1, (wr (s0.2.1 + (1:Int))), ()))) (
      r1 (s0.1, (wr (s0.2.1 + (1:Int))), ()))))) (
   some ((decide ((List.length s0.1 : Int) = (24:Int))), ()))) (a0, (0:Int), ())
def spec_KidsOf (K : Nat) (a0 : List (Age)) (a1 : Int) : Option (List (Int) × Unit) :=
 loopFix K (fun r1 (s0 : List (Int) × Int × List (Age) × Int × Unit) =>
  br (decide (s0.2.2.2.1 < (List.length s0.2.2.1 : Int))) (
   joinK (fun s2 : Int × List (Int) × Int × List (Age) × Unit =>
    r1 (s2.2.1, s2.2.2.1, s2.2.2.2.1, (wr (s2.1 + (1:Int))), ())) fun j3 =>
   inK s0.2.2.1 s0.2.2.2.1 <|
   idxK s0.2.2.1 s0.2.2.2.1 fun x4 =>
   br (decide (x4.from_ = s0.2.1)) (
    br (decide (s0.2.1 ≠ (0:Int))) (
     inK s0.2.2.1 s0.2.2.2.1 <|
     idxK s0.2.2.1 s0.2.2.2.1 fun x5 =>
     appK s0.1 ([x5.id] : List (Int)) fun z6 =>
     j3 (s0.2.2.2.1, z6, s0.2.1, s0.2.2.1, ())) (
     j3 (s0.2.2.2.1, s0.1, s0.2.1, s0.2.2.1, ()))) (
    j3 (s0.2.2.2.1, s0.1, s0.2.1, s0.2.2.1, ()))) (
   some (s0.1, ()))) (([] : List (Int)), a1, a0, (0:Int), ())
def spec_l10Vols (K : Nat) (a0 : List (Int)) (a1 : List (Node)) (a2 : List (Age)) (a3 : List (Cell)) (a4 : List (Vol)) (a5 : Int) : Option (Bool × Unit) :=
 loopFix K (fun r1 (s0 : Int × List (Vol) × List (Cell) × List (Age) × List (Node) × List (Int) × Int × Unit) =>
  br (decide (s0.2.2.2.2.2.2.1 < (List.length s0.2.1 : Int))) (
   inK s0.2.1 s0.2.2.2.2.2.2.1 <|
   idxK s0.2.1 s0.2.2.2.2.2.2.1 fun x2 =>
   bnd (spec_NameOk K x2.name) fun y3 =>
   br (!y3.1) (
    some (false, ())) (
    bnd (spec_l1In K x2.size (1:Int) (12:Int)) fun y4 =>
    br (!y4.1) (
     some (false, ())) (
     bnd (spec_AgeAt K s0.2.2.2.1 x2.age) fun y5 =>
     br (decide (y5.1 < (0:Int))) (
      some (false, ())) (
      bnd (spec_KidsOf K s0.2.2.2.1 x2.age) fun y6 =>
      br (decide ((List.length y6.1 : Int) > (0:Int))) (
       some (false, ())) (
       br (decide (s0.2.2.2.2.2.2.1 > (0:Int))) (
        inK s0.2.1 (wr (s0.2.2.2.2.2.2.1 - (1:Int))) <|
        idxK s0.2.1 (wr (s0.2.2.2.2.2.2.1 - (1:Int))) fun x7 =>
        br (!lessI x7.name x2.name) (
         some (false, ())) (
         loopFix K (fun r9 (s8 : Int × List (Vol) × List (Cell) × List (Age) × List (Node) × List (Int) × Bool × Int × Int × List Int × Int × Int × Unit) =>
          br (decide (s8.2.2.2.2.2.2.2.2.2.2.2.1 < s8.2.2.2.2.2.2.2.2.2.2.1)) (
           inK s8.2.1 s8.2.2.2.2.2.2.2.2.2.2.2.1 <|
           idxK s8.2.1 s8.2.2.2.2.2.2.2.2.2.2.2.1 fun x10 =>
           br (decide (x10.age = s8.2.2.2.2.2.2.2.2.1)) (
            some (false, ())) (
            r9 (s8.1, s8.2.1, s8.2.2.1, s8.2.2.2.1, s8.2.2.2.2.1, s8.2.2.2.2.2.1, s8.2.2.2.2.2.2.1, s8.2.2.2.2.2.2.2.1, s8.2.2.2.2.2.2.2.2.1, s8.2.2.2.2.2.2.2.2.2.1, s8.2.2.2.2.2.2.2.2.2.2.1, (wr (s8.2.2.2.2.2.2.2.2.2.2.2.1 + (1:Int))), ()))) (
           r1 (s8.1, s8.2.1, s8.2.2.1, s8.2.2.2.1, s8.2.2.2.2.1, s8.2.2.2.2.2.1, (wr (s8.2.2.2.2.2.2.2.2.2.2.1 + (1:Int))), ()))) (s0.1, s0.2.1, s0.2.2.1, s0.2.2.2.1, s0.2.2.2.2.1, s0.2.2.2.2.2.1, x2.fixed, x2.size, x2.age, x2.name, s0.2.2.2.2.2.2.1, (0:Int), ()))) (
        loopFix K (fun r12 (s11 : Int × List (Vol) × List (Cell) × List (Age) × List (Node) × List (Int) × Bool × Int × Int × List Int × Int × Int × Unit) =>
         br (decide (s11.2.2.2.2.2.2.2.2.2.2.2.1 < s11.2.2.2.2.2.2.2.2.2.2.1)) (
          inK s11.2.1 s11.2.2.2.2.2.2.2.2.2.2.2.1 <|
          idxK s11.2.1 s11.2.2.2.2.2.2.2.2.2.2.2.1 fun x13 =>
          br (decide (x13.age = s11.2.2.2.2.2.2.2.2.1)) (
           some (false, ())) (
           r12 (s11.1, s11.2.1, s11.2.2.1, s11.2.2.2.1, s11.2.2.2.2.1, s11.2.2.2.2.2.1, s11.2.2.2.2.2.2.1, s11.2.2.2.2.2.2.2.1, s11.2.2.2.2.2.2.2.2.1, s11.2.2.2.2.2.2.2.2.2.1, s11.2.2.2.2.2.2.2.2.2.2.1, (wr (s11.2.2.2.2.2.2.2.2.2.2.2.1 + (1:Int))), ()))) (
          r1 (s11.1, s11.2.1, s11.2.2.1, s11.2.2.2.1, s11.2.2.2.2.1, s11.2.2.2.2.2.1, (wr (s11.2.2.2.2.2.2.2.2.2.2.1 + (1:Int))), ()))) (s0.1, s0.2.1, s0.2.2.1, s0.2.2.2.1, s0.2.2.2.2.1, s0.2.2.2.2.2.1, x2.fixed, x2.size, x2.age, x2.name, s0.2.2.2.2.2.2.1, (0:Int), ()))))))) (
   some ((decide ((List.length s0.2.1 : Int) ≤ (6:Int))), ()))) (a5, a4, a3, a2, a1, a0, (0:Int), ())
def spec_CellAt (K : Nat) (a0 : List (Cell)) (a1 : Int) (a2 : Int) : Option (Int × Bool × Unit) :=
 bnd (spec_l1In K a1 (0:Int) (wr ((List.length a0 : Int) - (1:Int)))) fun y0 =>
 br (!y0.1) (
  some ((0:Int), false, ())) (
  inK a0 a1 <|
  idxK a0 a1 fun x1 =>
  br (!x1.used) (
   some ((0:Int), false, ())) (
   inK a0 a1 <|
   idxK a0 a1 fun x2 =>
   br (decide (x2.gen ≠ a2)) (
    some ((0:Int), false, ())) (
    inK a0 a1 <|
    idxK a0 a1 fun x3 =>
    some (x3.n, true, ()))))
def spec_UsedCells (K : Nat) (a0 : List (Cell)) : Option (Int × Unit) :=
 loopFix K (fun r1 (s0 : Int × List (Cell) × Int × Unit) =>
  br (decide (s0.2.2.1 < (List.length s0.2.1 : Int))) (
   joinK (fun s2 : Int × Int × List (Cell) × Unit =>
    r1 (s2.2.1, s2.2.2.1, (wr (s2.1 + (1:Int))), ())) fun j3 =>
   inK s0.2.1 s0.2.2.1 <|
   idxK s0.2.1 s0.2.2.1 fun x4 =>
   br x4.used (
    j3 (s0.2.2.1, (wr (s0.1 + (1:Int))), s0.2.1, ())) (
    j3 (s0.2.2.1, s0.1, s0.2.1, ()))) (
   some (s0.1, ()))) ((0:Int), a0, (0:Int), ())
def spec_l10Keys (K : Nat) (a0 : List (Int)) (a1 : List (Node)) (a2 : List (Age)) (a3 : List (Cell)) (a4 : List (Vol)) (a5 : Int) : Option (Bool × Unit) :=
 bnd (spec_TreeKeys K a0 a1) fun y0 =>
 loopFix K (fun r2 (s1 : Int × List (Vol) × List (Cell) × List (Age) × List (Node) × List (Int) × Int × Int × List (Key) × Unit) =>
  br (decide (s1.2.2.2.2.2.2.2.1 < (List.length s1.2.2.2.2.2.2.2.2.1 : Int))) (
   joinK (fun s3 : Int × List (Vol) × List (Cell) × List (Age) × List (Node) × List (Int) × Int × Int × List (Key) × Unit =>
    r2 (s3.1, s3.2.1, s3.2.2.1, s3.2.2.2.1, s3.2.2.2.2.1, s3.2.2.2.2.2.1, s3.2.2.2.2.2.2.2.1, (wr (s3.2.2.2.2.2.2.1 + (1:Int))), s3.2.2.2.2.2.2.2.2.1, ())) fun j4 =>
   inK s1.2.2.2.2.2.2.2.2.1 s1.2.2.2.2.2.2.2.1 <|
   idxK s1.2.2.2.2.2.2.2.2.1 s1.2.2.2.2.2.2.2.1 fun x5 =>
   bnd (spec_AgeAt K s1.2.2.2.1 x5.age) fun y6 =>
   br (decide (y6.1 < (0:Int))) (
    some (false, ())) (
    inK s1.2.2.2.2.2.2.2.2.1 s1.2.2.2.2.2.2.2.1 <|
    idxK s1.2.2.2.2.2.2.2.2.1 s1.2.2.2.2.2.2.2.1 fun x7 =>
    br (decide (x7.kind ≠ (1:Int))) (
     j4 (s1.1, s1.2.1, s1.2.2.1, s1.2.2.2.1, s1.2.2.2.2.1, s1.2.2.2.2.2.1, s1.2.2.2.2.2.2.2.1, s1.2.2.2.2.2.2.1, s1.2.2.2.2.2.2.2.2.1, ())) (
     inK s1.2.2.2.2.2.2.2.2.1 s1.2.2.2.2.2.2.2.1 <|
     idxK s1.2.2.2.2.2.2.2.2.1 s1.2.2.2.2.2.2.2.1 fun x8 =>
     inK s1.2.2.2.2.2.2.2.2.1 s1.2.2.2.2.2.2.2.1 <|
     idxK s1.2.2.2.2.2.2.2.2.1 s1.2.2.2.2.2.2.2.1 fun x9 =>
     bnd (spec_CellAt K s1.2.2.1 x8.cell x9.gen) fun y10 =>
     br (!y10.2.1) (
      some (false, ())) (
      loopFix K (fun r12 (s11 : Int × List (Vol) × List (Cell) × List (Age) × List (Node) × List (Int) × List (Key) × Int × Int × Int × Unit) =>
       br (decide (s11.2.2.2.2.2.2.2.2.2.1 < s11.2.2.2.2.2.2.2.2.1)) (
        inK s11.2.2.2.2.2.2.1 s11.2.2.2.2.2.2.2.2.2.1 <|
        idxK s11.2.2.2.2.2.2.1 s11.2.2.2.2.2.2.2.2.2.1 fun x13 =>
        br (decide (x13.kind = (1:Int))) (
         inK s11.2.2.2.2.2.2.1 s11.2.2.2.2.2.2.2.2.2.1 <|
         idxK s11.2.2.2.2.2.2.1 s11.2.2.2.2.2.2.2.2.2.1 fun x14 =>
         inK s11.2.2.2.2.2.2.1 s11.2.2.2.2.2.2.2.2.1 <|
         idxK s11.2.2.2.2.2.2.1 s11.2.2.2.2.2.2.2.2.1 fun x15 =>
         br (decide (x14.cell = x15.cell)) (
          some (false, ())) (
          r12 (s11.1, s11.2.1, s11.2.2.1, s11.2.2.2.1, s11.2.2.2.2.1, s11.2.2.2.2.2.1, s11.2.2.2.2.2.2.1, s11.2.2.2.2.2.2.2.1, s11.2.2.2.2.2.2.2.2.1, (wr (s11.2.2.2.2.2.2.2.2.2.1 + (1:Int))), ()))) (
         r12 (s11.1, s11.2.1, s11.2.2.1, s11.2.2.2.1, s11.2.2.2.2.1, s11.2.2.2.2.2.1, s11.2.2.2.2.2.2.1, s11.2.2.2.2.2.2.2.1, s11.2.2.2.2.2.2.2.2.1, (wr (s11.2.2.2.2.2.2.2.2.2.1 + (1:Int))), ()))) (
        j4 (s11.1, s11.2.1, s11.2.2.1, s11.2.2.2.1, s11.2.2.2.2.1, s11.2.2.2.2.2.1, s11.2.2.2.2.2.2.2.2.1, s11.2.2.2.2.2.2.2.1, s11.2.2.2.2.2.2.1, ()))) (s1.1, s1.2.1, s1.2.2.1, s1.2.2.2.1, s1.2.2.2.2.1, s1.2.2.2.2.2.1, s1.2.2.2.2.2.2.2.2.1, (wr (s1.2.2.2.2.2.2.1 + (1:Int))), s1.2.2.2.2.2.2.2.1, (0:Int), ()))))) (
   bnd (spec_UsedCells K s1.2.2.1) fun y16 =>
   some ((decide (s1.2.2.2.2.2.2.1 = y16.1)), ()))) (a5, a4, a3, a2, a1, a0, (0:Int), (0:Int), y0.1, ())
def spec_PoolOk (K : Nat) (a0 : List (Int)) (a1 : List (Node)) (a2 : List (Age)) (a3 : List (Cell)) (a4 : List (Vol)) (a5 : Int) : Option (Bool × Unit) :=
 loopFix K (fun r1 (s0 : Int × List (Vol) × List (Cell) × List (Age) × List (Node) × List (Int) × Int × Unit) =>
  br (decide (s0.2.2.2.2.2.2.1 < (List.length s0.2.2.2.1 : Int))) (
   inK s0.2.2.2.1 s0.2.2.2.2.2.2.1 <|
   idxK s0.2.2.2.1 s0.2.2.2.2.2.2.1 fun x2 =>
   br (decide (x2.id ≥ s0.1)) (
    some (false, ())) (
    r1 (s0.1, s0.2.1, s0.2.2.1, s0.2.2.2.1, s0.2.2.2.2.1, s0.2.2.2.2.2.1, (wr (s0.2.2.2.2.2.2.1 + (1:Int))), ()))) (
   bnd (spec_TreeOk K s0.2.2.2.2.2.1 s0.2.2.2.2.1) fun y3 =>
   br y3.1 (
    bnd (spec_AgesOk K s0.2.2.2.1) fun y4 =>
    br y4.1 (
     bnd (spec_CellsOk K s0.2.2.1) fun y5 =>
     br y5.1 (
      bnd (spec_l1In K s0.1 (1:Int) (61:Int)) fun y6 =>
      br y6.1 (
       bnd (spec_l10Vols K s0.2.2.2.2.2.1 s0.2.2.2.2.1 s0.2.2.2.1 s0.2.2.1 s0.2.1 s0.1) fun y7 =>
       br y7.1 (
        bnd (spec_l10Keys K s0.2.2.2.2.2.1 s0.2.2.2.2.1 s0.2.2.2.1 s0.2.2.1 s0.2.1 s0.1) fun y8 =>
        some (y8.1, ())) (
        some (false, ()))) (
       some (false, ()))) (
      some (false, ()))) (
     some (false, ()))) (
    some (false, ())))) (a5, a4, a3, a2, a1, a0, (0:Int), ())
def spec_l5Copy (K : Nat) (a0 : List (List (Key))) : Option (List (List (Key)) × Unit) :=
 loopFix K (fun r1 (s0 : List (List (Key)) × List (List (Key)) × List (List (Key)) × Int × Unit) =>
  br (decide (s0.2.2.2.1 < (List.length s0.2.2.1 : Int))) (
   inK s0.2.2.1 s0.2.2.2.1 <|
   idxK s0.2.2.1 s0.2.2.2.1 fun x2 =>
   appK ([] : List (Key)) x2 fun z3 =>
   appK s0.2.1 ([z3] : List (List (Key))) fun z4 =>
   r1 (s0.1, z4, s0.2.2.1, (wr (s0.2.2.2.1 + (1:Int))), ())) (
   some (s0.2.1, ()))) (([] : List (List (Key))), ([] : List (List (Key))), a0, (0:Int), ())
def spec_l6Copy (K : Nat) (a0 : List (Int)) (a1 : List (Node)) : Option (List (Int) × List (Node) × Unit) :=
 appK ([] : List (Int)) a0 fun z0 =>
 loopFix K (fun r2 (s1 : List (Node) × List (Int) × List (Node) × List (Int) × List (Node) × List (Int) × Int × Unit) =>
  br (decide (s1.2.2.2.2.2.2.1 < (List.length s1.2.2.2.2.1 : Int))) (
   inK s1.2.2.2.2.1 s1.2.2.2.2.2.2.1 <|
   idxK s1.2.2.2.2.1 s1.2.2.2.2.2.2.1 fun x3 =>
   bnd (spec_l5Copy K x3.sets) fun y4 =>
   appK s1.2.2.1 ([(⟨y4.1⟩ : Node)] : List (Node)) fun z5 =>
   r2 (s1.1, s1.2.1, z5, s1.2.2.2.1, s1.2.2.2.2.1, s1.2.2.2.2.2.1, (wr (s1.2.2.2.2.2.2.1 + (1:Int))), ())) (
   some (s1.2.2.2.1, s1.2.2.1, ()))) (([] : List (Node)), ([] : List (Int)), ([] : List (Node)), z0, a1, a0, (0:Int), ())
def spec_l9Copy (K : Nat) (a0 : List (Cell)) : Option (List (Cell) × Unit) :=
 appK ([] : List (Cell)) a0 fun z0 =>
 some (z0, ())
def spec_l10Copy (K : Nat) (a0 : List (Int)) (a1 : List (Node)) (a2 : List (Age)) (a3 : List (Cell)) (a4 : List (Vol)) (a5 : Int) : Option (List (Int) × List (Node) × List (Age) × List (Cell) × List (Vol) × Int × Unit) :=
 bnd (spec_l6Copy K a0 a1) fun y0 =>
 appK ([] : List (Age)) a2 fun z1 =>
 bnd (spec_l9Copy K a3) fun y2 =>
 appK ([] : List (Vol)) a4 fun z3 =>
 some (y0.1, y0.2.1, z1, y2.1, z3, a5, ())
def spec_l11Form (K : Nat) (a0 : List (Int)) (a1 : List (Node)) (a2 : List (Age)) (a3 : List (Cell)) (a4 : List (Vol)) (a5 : Int) (a6 : List Int) : Option (Int × Unit) :=
 bnd (spec_PoolOk K a0 a1 a2 a3 a4 a5) fun y0 =>
 br (!y0.1) (
  some ((1:Int), ())) (
  bnd (spec_NameOk K a6) fun y1 =>
  br (!y1.1) (
   some ((1:Int), ())) (
   some ((0:Int), ())))
def spec_VolAt (K : Nat) (a0 : List (Int)) (a1 : List (Node)) (a2 : List (Age)) (a3 : List (Cell)) (a4 : List (Vol)) (a5 : Int) (a6 : List Int) : Option (Int × Unit) :=
 loopFix K (fun r1 (s0 : Int × List (Vol) × List (Cell) × List (Age) × List (Node) × List (Int) × List Int × Int × Unit) =>
  br (decide (s0.2.2.2.2.2.2.2.1 < (List.length s0.2.1 : Int))) (
   inK s0.2.1 s0.2.2.2.2.2.2.2.1 <|
   idxK s0.2.1 s0.2.2.2.2.2.2.2.1 fun x2 =>
   br (decide (x2.name = s0.2.2.2.2.2.2.1)) (
    some (s0.2.2.2.2.2.2.2.1, ())) (
    r1 (s0.1, s0.2.1, s0.2.2.1, s0.2.2.2.1, s0.2.2.2.2.1, s0.2.2.2.2.2.1, s0.2.2.2.2.2.2.1, (wr (s0.2.2.2.2.2.2.2.1 + (1:Int))), ()))) (
   some ((-1:Int), ()))) (a5, a4, a3, a2, a1, a0, a6, (0:Int), ())
def spec_NewAge (K : Nat) (a0 : List (Age)) (a1 : Int) (a2 : Int) : Option (List (Age) × Bool × Unit) :=
 bnd (spec_AgeAt K a0 a1) fun y0 =>
 loopFix K (fun r2 (s1 : List (Age) × List (Age) × Int × Int × Bool × Int × Unit) =>
  br (decide (s1.2.2.2.2.2.1 < (List.length s1.2.1 : Int))) (
   joinK (fun s3 : List (Age) × Int × List (Age) × Int × Int × Bool × Unit =>
    inK s3.2.2.1 s3.2.1 <|
    idxK s3.2.2.1 s3.2.1 fun x5 =>
    appK s3.1 ([(⟨x5.id, x5.from_⟩ : Age)] : List (Age)) fun z6 =>
    r2 (z6, s3.2.2.1, s3.2.2.2.1, s3.2.2.2.2.1, s3.2.2.2.2.2.1, (wr (s3.2.1 + (1:Int))), ())) fun j4 =>
   br (!s1.2.2.2.2.1) (
    inK s1.2.1 s1.2.2.2.2.2.1 <|
    idxK s1.2.1 s1.2.2.2.2.2.1 fun x7 =>
    br (decide (x7.id > s1.2.2.1)) (
     appK s1.1 ([(⟨s1.2.2.1, s1.2.2.2.1⟩ : Age)] : List (Age)) fun z8 =>
     j4 (z8, s1.2.2.2.2.2.1, s1.2.1, s1.2.2.1, s1.2.2.2.1, true, ())) (
     j4 (s1.1, s1.2.2.2.2.2.1, s1.2.1, s1.2.2.1, s1.2.2.2.1, s1.2.2.2.2.1, ()))) (
    j4 (s1.1, s1.2.2.2.2.2.1, s1.2.1, s1.2.2.1, s1.2.2.2.1, s1.2.2.2.2.1, ()))) (
   joinK (fun s9 : Int × List (Age) × List (Age) × Unit =>
    bnd (spec_AgeAt K s9.2.1 s9.1) fun y11 =>
    br (decide (y11.1 ≥ (0:Int))) (
     appK ([] : List (Age)) s9.2.1 fun z12 =>
     some (z12, false, ())) (
     bnd (spec_AgesOk K s9.2.2.1) fun y13 =>
     br (!y13.1) (
      appK ([] : List (Age)) s9.2.1 fun z14 =>
      some (z14, false, ())) (
      some (s9.2.2.1, true, ())))) fun j10 =>
   br (!s1.2.2.2.2.1) (
    appK s1.1 ([(⟨s1.2.2.1, s1.2.2.2.1⟩ : Age)] : List (Age)) fun z15 =>
    j10 (s1.2.2.1, s1.2.1, z15, ())) (
    j10 (s1.2.2.1, s1.2.1, s1.1, ())))) (([] : List (Age)), a0, a1, a2, (decide (y0.1 ≥ (0:Int))), (0:Int), ())
def spec_l11PutVol (K : Nat) (a0 : List (Vol)) (a1 : List Int) (a2 : Int) (a3 : Int) (a4 : Bool) : Option (List (Vol) × Unit) :=
 appK ([] : List (Vol)) a0 fun z0 =>
 appK z0 ([(⟨a1, a2, a3, a4⟩ : Vol)] : List (Vol)) fun z1 =>
 loopFix K (fun r3 (s2 : Bool × Int × Int × List Int × List (Vol) × Int × Unit) =>
  br (decide (s2.2.2.2.2.2.1 > (0:Int))) (
   inK s2.2.2.2.2.1 (wr (s2.2.2.2.2.2.1 - (1:Int))) <|
   idxK s2.2.2.2.2.1 (wr (s2.2.2.2.2.2.1 - (1:Int))) fun x4 =>
   br (!(lessI x4.name s2.2.2.2.1 || decide (x4.name = s2.2.2.2.1))) (
    inK s2.2.2.2.2.1 (wr (s2.2.2.2.2.2.1 - (1:Int))) <|
    idxK s2.2.2.2.2.1 (wr (s2.2.2.2.2.2.1 - (1:Int))) fun x5 =>
    inK s2.2.2.2.2.1 s2.2.2.2.2.2.1 <|
    idxK s2.2.2.2.2.1 s2.2.2.2.2.2.1 fun x6 =>
    r3 (s2.1, s2.2.1, s2.2.2.1, s2.2.2.2.1, (List.set s2.2.2.2.2.1 (Int.toNat s2.2.2.2.2.2.1) (⟨x5.name, x5.age, x5.size, x5.fixed⟩ : Vol)), (wr (s2.2.2.2.2.2.1 - (1:Int))), ())) (
    inK s2.2.2.2.2.1 s2.2.2.2.2.2.1 <|
    idxK s2.2.2.2.2.1 s2.2.2.2.2.2.1 fun x7 =>
    some ((List.set s2.2.2.2.2.1 (Int.toNat s2.2.2.2.2.2.1) (⟨s2.2.2.2.1, s2.2.2.1, s2.2.1, s2.1⟩ : Vol)), ()))) (
   inK s2.2.2.2.2.1 s2.2.2.2.2.2.1 <|
   idxK s2.2.2.2.2.1 s2.2.2.2.2.2.1 fun x8 =>
   some ((List.set s2.2.2.2.2.1 (Int.toNat s2.2.2.2.2.2.1) (⟨s2.2.2.2.1, s2.2.2.1, s2.2.1, s2.1⟩ : Vol)), ()))) (a4, a3, a2, a1, z1, (wr ((List.length z1 : Int) - (1:Int))), ())
def spec_l11End_ro (K : Nat) (a0 : List (Int)) (a1 : List (Node)) (a2 : List (Age)) (a3 : List (Cell)) (a4 : List (Vol)) (a5 : Int) (a6 : List (Int)) (a7 : List (Node)) (a8 : List (Age)) (a9 : List (Cell)) (a10 : List (Vol)) (a11 : Int) (a12 : Bool) : Option (List (Int) × List (Node) × List (Age) × List (Cell) × List (Vol) × Int × Int × Unit) :=
 br (!a12) (
  bnd (spec_l10Copy K a0 a1 a2 a3 a4 a5) fun y0 =>
  some (y0.1, y0.2.1, y0.2.2.1, y0.2.2.2.1, y0.2.2.2.2.1, y0.2.2.2.2.2.1, (6:Int), ())) (
  bnd (spec_PoolOk K a6 a7 a8 a9 a10 a11) fun y1 =>
  br (!y1.1) (
   bnd (spec_l10Copy K a0 a1 a2 a3 a4 a5) fun y2 =>
   some (y2.1, y2.2.1, y2.2.2.1, y2.2.2.2.1, y2.2.2.2.2.1, y2.2.2.2.2.2.1, (6:Int), ())) (
   some (a6, a7, a8, a9, a10, a11, (0:Int), ())))
def spec_Create (K : Nat) (a0 : List (Int)) (a1 : List (Node)) (a2 : List (Age)) (a3 : List (Cell)) (a4 : List (Vol)) (a5 : Int) (a6 : List Int) (a7 : Int) : Option (List (Int) × List (Node) × List (Age) × List (Cell) × List (Vol) × Int × Int × Unit) :=
 bnd (spec_l11Form K a0 a1 a2 a3 a4 a5 a6) fun y0 =>
 br (decide (y0.1 ≠ (0:Int))) (
  bnd (spec_l10Copy K a0 a1 a2 a3 a4 a5) fun y1 =>
  some (y1.1, y1.2.1, y1.2.2.1, y1.2.2.2.1, y1.2.2.2.2.1, y1.2.2.2.2.2.1, y0.1, ())) (
  bnd (spec_VolAt K a0 a1 a2 a3 a4 a5 a6) fun y2 =>
  br (decide (y2.1 ≥ (0:Int))) (
   bnd (spec_l10Copy K a0 a1 a2 a3 a4 a5) fun y3 =>
   some (y3.1, y3.2.1, y3.2.2.1, y3.2.2.2.1, y3.2.2.2.2.1, y3.2.2.2.2.2.1, (3:Int), ())) (
   bnd (spec_l1In K a7 (1:Int) (12:Int)) fun y4 =>
   br (!y4.1) (
    bnd (spec_l10Copy K a0 a1 a2 a3 a4 a5) fun y5 =>
    some (y5.1, y5.2.1, y5.2.2.1, y5.2.2.2.1, y5.2.2.2.2.1, y5.2.2.2.2.2.1, (4:Int), ())) (
    bnd (spec_l10Copy K a0 a1 a2 a3 a4 a5) fun y6 =>
    bnd (spec_NewAge K a2 a5 (0:Int)) fun y7 =>
    bnd (spec_l11PutVol K a4 a6 a5 a7 false) fun y8 =>
    bnd (spec_l11End_ro K a0 a1 a2 a3 a4 a5 y6.1 y6.2.1 y7.1 y6.2.2.2.1 y8.1 (wr (a5 + (1:Int))) y7.2.1) fun y9 =>
    some (y9.1, y9.2.1, y9.2.2.1, y9.2.2.2.1, y9.2.2.2.2.1, y9.2.2.2.2.2.1, y9.2.2.2.2.2.2.1, ()))))
def spec_Snap (K : Nat) (a0 : List (Int)) (a1 : List (Node)) (a2 : List (Age)) (a3 : List (Cell)) (a4 : List (Vol)) (a5 : Int) (a6 : List Int) (a7 : List Int) (a8 : Bool) : Option (List (Int) × List (Node) × List (Age) × List (Cell) × List (Vol) × Int × Int × Unit) :=
 bnd (spec_l11Form K a0 a1 a2 a3 a4 a5 a6) fun y0 =>
 br (decide (y0.1 ≠ (0:Int))) (
  bnd (spec_l10Copy K a0 a1 a2 a3 a4 a5) fun y1 =>
  some (y1.1, y1.2.1, y1.2.2.1, y1.2.2.2.1, y1.2.2.2.2.1, y1.2.2.2.2.2.1, (1:Int), ())) (
  bnd (spec_NameOk K a7) fun y2 =>
  br (!y2.1) (
   bnd (spec_l10Copy K a0 a1 a2 a3 a4 a5) fun y3 =>
   some (y3.1, y3.2.1, y3.2.2.1, y3.2.2.2.1, y3.2.2.2.2.1, y3.2.2.2.2.2.1, (1:Int), ())) (
   bnd (spec_VolAt K a0 a1 a2 a3 a4 a5 a6) fun y4 =>
   br (decide (y4.1 < (0:Int))) (
    bnd (spec_l10Copy K a0 a1 a2 a3 a4 a5) fun y5 =>
    some (y5.1, y5.2.1, y5.2.2.1, y5.2.2.2.1, y5.2.2.2.2.1, y5.2.2.2.2.2.1, (2:Int), ())) (
    bnd (spec_VolAt K a0 a1 a2 a3 a4 a5 a7) fun y6 =>
    br (decide (y6.1 ≥ (0:Int))) (
     bnd (spec_l10Copy K a0 a1 a2 a3 a4 a5) fun y7 =>
     some (y7.1, y7.2.1, y7.2.2.1, y7.2.2.2.1, y7.2.2.2.2.1, y7.2.2.2.2.2.1, (3:Int), ())) (
     bnd (spec_l10Copy K a0 a1 a2 a3 a4 a5) fun y8 =>
     bnd (spec_VolAt K a0 a1 a2 a3 a4 a5 a6) fun y9 =>
     inK a4 y9.1 <|
     idxK a4 y9.1 fun x10 =>
     bnd (spec_NewAge K a2 a5 x10.age) fun y11 =>
     inK a4 y9.1 <|
     idxK a4 y9.1 fun x12 =>
     bnd (spec_NewAge K y11.1 (wr (a5 + (1:Int))) x12.age) fun y13 =>
     inK y8.2.2.2.2.1 y9.1 <|
     idxK y8.2.2.2.2.1 y9.1 fun x14 =>
     inK a4 y9.1 <|
     idxK a4 y9.1 fun x15 =>
     bnd (spec_l11PutVol K (List.set y8.2.2.2.2.1 (Int.toNat y9.1) (⟨x14.name, a5, x14.size, x14.fixed⟩ : Vol)) a7 (wr (a5 + (1:Int))) x15.size a8) fun y16 =>
     br y11.2.1 (
      bnd (spec_l11End_ro K a0 a1 a2 a3 a4 a5 y8.1 y8.2.1 y13.1 y8.2.2.2.1 y16.1 (wr (a5 + (2:Int))) y13.2.1) fun y17 =>
      some (y17.1, y17.2.1, y17.2.2.1, y17.2.2.2.1, y17.2.2.2.2.1, y17.2.2.2.2.2.1, y17.2.2.2.2.2.2.1, ())) (
      bnd (spec_l11End_ro K a0 a1 a2 a3 a4 a5 y8.1 y8.2.1 y13.1 y8.2.2.2.1 y16.1 (wr (a5 + (2:Int))) false) fun y18 =>
      some (y18.1, y18.2.1, y18.2.2.1, y18.2.2.2.1, y18.2.2.2.2.1, y18.2.2.2.2.2.1, y18.2.2.2.2.2.2.1, ()))))))
def spec_l11Vol (K : Nat) (a0 : List (Int)) (a1 : List (Node)) (a2 : List (Age)) (a3 : List (Cell)) (a4 : List (Vol)) (a5 : Int) (a6 : List Int) : Option (Int × Unit) :=
 bnd (spec_l11Form K a0 a1 a2 a3 a4 a5 a6) fun y0 =>
 br (decide (y0.1 = (0:Int))) (
  bnd (spec_VolAt K a0 a1 a2 a3 a4 a5 a6) fun y1 =>
  br (decide (y1.1 < (0:Int))) (
   some ((2:Int), ())) (
   some (y0.1, ()))) (
  some (y0.1, ()))
def spec_Kill (K : Nat) (a0 : List (Int)) (a1 : List (Node)) (a2 : List (Age)) (a3 : List (Cell)) (a4 : List (Vol)) (a5 : Int) (a6 : List Int) : Option (List (Int) × List (Node) × List (Age) × List (Cell) × List (Vol) × Int × Int × Unit) :=
 bnd (spec_l10Copy K a0 a1 a2 a3 a4 a5) fun y0 =>
 bnd (spec_l11Vol K a0 a1 a2 a3 a4 a5 a6) fun y1 =>
 br (decide (y1.1 ≠ (0:Int))) (
  some (y0.1, y0.2.1, y0.2.2.1, y0.2.2.2.1, y0.2.2.2.2.1, y0.2.2.2.2.2.1, y1.1, ())) (
  bnd (spec_VolAt K a0 a1 a2 a3 a4 a5 a6) fun y2 =>
  subK a4 (0:Int) y2.1 fun z3 =>
  appK ([] : List (Vol)) z3 fun z4 =>
  subK a4 (wr (y2.1 + (1:Int))) (List.length a4 : Int) fun z5 =>
  appK z4 z5 fun z6 =>
  bnd (spec_l11End_ro K a0 a1 a2 a3 a4 a5 y0.1 y0.2.1 y0.2.2.1 y0.2.2.2.1 z6 y0.2.2.2.2.2.1 true) fun y7 =>
  some (y7.1, y7.2.1, y7.2.2.1, y7.2.2.2.1, y7.2.2.2.2.1, y7.2.2.2.2.2.1, y7.2.2.2.2.2.2.1, ()))
def spec_l11Block (K : Nat) (a0 : List (Int)) (a1 : List (Node)) (a2 : List (Age)) (a3 : List (Cell)) (a4 : List (Vol)) (a5 : Int) (a6 : List Int) (a7 : Int) : Option (Int × Unit) :=
 bnd (spec_l11Vol K a0 a1 a2 a3 a4 a5 a6) fun y0 =>
 br (decide (y0.1 ≠ (0:Int))) (
  some (y0.1, ())) (
  bnd (spec_VolAt K a0 a1 a2 a3 a4 a5 a6) fun y1 =>
  inK a4 y1.1 <|
  idxK a4 y1.1 fun x2 =>
  br x2.fixed (
   some ((5:Int), ())) (
   bnd (spec_VolAt K a0 a1 a2 a3 a4 a5 a6) fun y3 =>
   inK a4 y3.1 <|
   idxK a4 y3.1 fun x4 =>
   bnd (spec_l1In K a7 (0:Int) (wr (x4.size - (1:Int)))) fun y5 =>
   br (!y5.1) (
    some ((4:Int), ())) (
    some ((0:Int), ()))))
def spec_TakeCell (K : Nat) (a0 : List (Cell)) (a1 : Int) : Option (List (Cell) × Int × Bool × Unit) :=
 bnd (spec_l9Copy K a0) fun y0 =>
 loopFix K (fun r2 (s1 : List (Cell) × List (Cell) × Int × Int × Unit) =>
  br (decide (s1.2.2.2.1 < (List.length s1.2.1 : Int))) (
   bnd (spec_CellsOk K s1.2.1) fun y3 =>
   br y3.1 (
    bnd (spec_l1Word K s1.2.2.1) fun y4 =>
    br y4.1 (
     inK s1.2.1 s1.2.2.2.1 <|
     idxK s1.2.1 s1.2.2.2.1 fun x5 =>
     br (!x5.used) (
      inK s1.1 s1.2.2.2.1 <|
      idxK s1.1 s1.2.2.2.1 fun x6 =>
      inK (List.set s1.1 (Int.toNat s1.2.2.2.1) (⟨x6.gen, true, x6.n⟩ : Cell)) s1.2.2.2.1 <|
      idxK (List.set s1.1 (Int.toNat s1.2.2.2.1) (⟨x6.gen, true, x6.n⟩ : Cell)) s1.2.2.2.1 fun x7 =>
      some ((List.set (List.set s1.1 (Int.toNat s1.2.2.2.1) (⟨x6.gen, true, x6.n⟩ : Cell)) (Int.toNat s1.2.2.2.1) (⟨x7.gen, x7.used, s1.2.2.1⟩ : Cell)), s1.2.2.2.1, true, ())) (
      r2 (s1.1, s1.2.1, s1.2.2.1, (wr (s1.2.2.2.1 + (1:Int))), ()))) (
     some (s1.1, (0:Int), false, ()))) (
    some (s1.1, (0:Int), false, ()))) (
   some (s1.1, (0:Int), false, ()))) (y0.1, a0, a1, (0:Int), ())
def spec_WhereIn (K : Nat) (a0 : List (Int)) (a1 : List (Node)) (a2 : Int) (a3 : Int) : Option (Int × Unit) :=
 loopFix K (fun r1 (s0 : List (Node) × List (Int) × Int × Int × Int × Int × Unit) =>
  br (decide (s0.2.2.2.2.2.1 < (List.length s0.2.1 : Int))) (
   joinK (fun s2 : List (Node) × List (Int) × Int × Int × Int × Int × Unit =>
    r1 (s2.1, s2.2.1, s2.2.2.2.1, s2.2.2.2.2.1, s2.2.2.2.2.2.1, (wr (s2.2.2.1 + (1:Int))), ())) fun j3 =>
   inK s0.2.1 s0.2.2.2.2.2.1 <|
   idxK s0.2.1 s0.2.2.2.2.2.1 fun x4 =>
   bnd (spec_SpotOf K s0.2.2.2.1 s0.2.2.2.2.1) fun y5 =>
   br (decide (x4 ≤ y5.1)) (
    j3 (s0.1, s0.2.1, s0.2.2.2.2.2.1, s0.2.2.2.2.2.1, s0.2.2.2.1, s0.2.2.2.2.1, ())) (
    j3 (s0.1, s0.2.1, s0.2.2.2.2.2.1, s0.2.2.1, s0.2.2.2.1, s0.2.2.2.2.1, ()))) (
   some (s0.2.2.1, ()))) (a1, a0, (-1:Int), a2, a3, (0:Int), ())
def spec_SetAt (K : Nat) (a0 : List (Key)) (a1 : Int) (a2 : Int) : Option (Int × Int × Int × Int × Int × Bool × Unit) :=
 loopFix K (fun r1 (s0 : Int × Int × Int × Int × Int × Int × Int × List (Key) × Int × Unit) =>
  br (decide (s0.2.2.2.2.2.2.2.2.1 < (List.length s0.2.2.2.2.2.2.2.1 : Int))) (
   inK s0.2.2.2.2.2.2.2.1 s0.2.2.2.2.2.2.2.2.1 <|
   idxK s0.2.2.2.2.2.2.2.1 s0.2.2.2.2.2.2.2.2.1 fun x2 =>
   br (decide (x2.blk = s0.2.2.2.2.2.1)) (
    inK s0.2.2.2.2.2.2.2.1 s0.2.2.2.2.2.2.2.2.1 <|
    idxK s0.2.2.2.2.2.2.2.1 s0.2.2.2.2.2.2.2.2.1 fun x3 =>
    br (decide (x3.age = s0.2.2.2.2.2.2.1)) (
     inK s0.2.2.2.2.2.2.2.1 s0.2.2.2.2.2.2.2.2.1 <|
     idxK s0.2.2.2.2.2.2.2.1 s0.2.2.2.2.2.2.2.2.1 fun x4 =>
     some (x4.blk, x4.age, x4.kind, x4.cell, x4.gen, true, ())) (
     r1 (s0.1, s0.2.1, s0.2.2.1, s0.2.2.2.1, s0.2.2.2.2.1, s0.2.2.2.2.2.1, s0.2.2.2.2.2.2.1, s0.2.2.2.2.2.2.2.1, (wr (s0.2.2.2.2.2.2.2.2.1 + (1:Int))), ()))) (
    r1 (s0.1, s0.2.1, s0.2.2.1, s0.2.2.2.1, s0.2.2.2.2.1, s0.2.2.2.2.2.1, s0.2.2.2.2.2.2.1, s0.2.2.2.2.2.2.2.1, (wr (s0.2.2.2.2.2.2.2.2.1 + (1:Int))), ()))) (
   some ((0:Int), (0:Int), (0:Int), (0:Int), (0:Int), false, ()))) ((0:Int), (0:Int), (0:Int), (0:Int), (0:Int), a1, a2, a0, (0:Int), ())
def spec_NodeAt (K : Nat) (a0 : List (List (Key))) (a1 : Int) (a2 : Int) : Option (Int × Int × Int × Int × Int × Bool × Unit) :=
 loopFix K (fun r1 (s0 : Int × Int × Int × Int × Int × List (List (Key)) × Int × Int × Int × Unit) =>
  br (decide (s0.2.2.2.2.2.2.2.2.1 ≥ (0:Int))) (
   inK s0.2.2.2.2.2.1 s0.2.2.2.2.2.2.2.2.1 <|
   idxK s0.2.2.2.2.2.1 s0.2.2.2.2.2.2.2.2.1 fun x2 =>
   bnd (spec_SetAt K x2 s0.2.2.2.2.2.2.1 s0.2.2.2.2.2.2.2.1) fun y3 =>
   br y3.2.2.2.2.2.1 (
    br (decide (y3.2.2.1 = (0:Int))) (
     some ((0:Int), (0:Int), (0:Int), (0:Int), (0:Int), false, ())) (
     br y3.2.2.2.2.2.1 (
      some (y3.1, y3.2.1, y3.2.2.1, y3.2.2.2.1, y3.2.2.2.2.1, true, ())) (
      r1 (s0.1, s0.2.1, s0.2.2.1, s0.2.2.2.1, s0.2.2.2.2.1, s0.2.2.2.2.2.1, s0.2.2.2.2.2.2.1, s0.2.2.2.2.2.2.2.1, (wr (s0.2.2.2.2.2.2.2.2.1 - (1:Int))), ())))) (
    br y3.2.2.2.2.2.1 (
     some (y3.1, y3.2.1, y3.2.2.1, y3.2.2.2.1, y3.2.2.2.2.1, true, ())) (
     r1 (s0.1, s0.2.1, s0.2.2.1, s0.2.2.2.1, s0.2.2.2.2.1, s0.2.2.2.2.2.1, s0.2.2.2.2.2.2.1, s0.2.2.2.2.2.2.2.1, (wr (s0.2.2.2.2.2.2.2.2.1 - (1:Int))), ())))) (
   some ((0:Int), (0:Int), (0:Int), (0:Int), (0:Int), false, ()))) ((0:Int), (0:Int), (0:Int), (0:Int), (0:Int), a0, a1, a2, (wr ((List.length a0 : Int) - (1:Int))), ())
def spec_TreeAt (K : Nat) (a0 : List (Int)) (a1 : List (Node)) (a2 : Int) (a3 : Int) : Option (Int × Int × Int × Int × Int × Bool × Unit) :=
 bnd (spec_WhereIn K a0 a1 a2 a3) fun y0 =>
 bnd (spec_l1In K y0.1 (0:Int) (wr ((List.length a1 : Int) - (1:Int)))) fun y1 =>
 br (!y1.1) (
  some ((0:Int), (0:Int), (0:Int), (0:Int), (0:Int), false, ())) (
  inK a1 y0.1 <|
  idxK a1 y0.1 fun x2 =>
  bnd (spec_NodeAt K x2.sets a2 a3) fun y3 =>
  some (y3.1, y3.2.1, y3.2.2.1, y3.2.2.2.1, y3.2.2.2.2.1, y3.2.2.2.2.2.1, ()))
def spec_NodeNew (K : Nat) (a0 : List (Key)) : Option (List (List (Key)) × Unit) :=
 br (decide ((List.length a0 : Int) = (0:Int))) (
  some (([] : List (List (Key))), ())) (
  appK ([] : List (Key)) a0 fun z0 =>
  some (([z0] : List (List (Key))), ()))
def spec_NodePut (K : Nat) (a0 : List (List (Key))) (a1 : Int) (a2 : Int) (a3 : Int) (a4 : Int) (a5 : Int) : Option (List (List (Key)) × Bool × Unit) :=
 bnd (spec_l5Copy K a0) fun y0 =>
 joinK (fun s1 : List (List (Key)) × Int × Int × Int × Int × Int × List (List (Key)) × List (List (Key)) × Bool × Int × Unit =>
  joinK (fun s3 : List (List (Key)) × Int × Int × Int × Int × Int × List (List (Key)) × List (List (Key)) × Unit =>
   bnd (spec_NodeOk K s3.1) fun y5 =>
   br y5.1 (
    some (s3.1, true, ())) (
    bnd (spec_NodeKeys K s3.2.2.2.2.2.2.1) fun y6 =>
    bnd (spec_SetPut K y6.1 s3.2.2.2.2.2.1 s3.2.2.2.2.1 s3.2.2.2.1 s3.2.2.1 s3.2.1) fun y7 =>
    bnd (spec_Drop K y7.1) fun y8 =>
    br (decide ((List.length y8.1 : Int) > (8:Int))) (
     bnd (spec_l5Copy K s3.2.2.2.2.2.2.1) fun y9 =>
     some (y9.1, false, ())) (
     bnd (spec_NodeNew K y8.1) fun y10 =>
     bnd (spec_NodeOk K y10.1) fun y11 =>
     br (!y11.1) (
      bnd (spec_l5Copy K s3.2.2.2.2.2.2.1) fun y12 =>
      some (y12.1, false, ())) (
      bnd (spec_NodeNew K y8.1) fun y13 =>
      some (y13.1, true, ()))))) fun j4 =>
  br (decide (s1.2.2.2.2.2.2.2.2.2.1 ≥ (0:Int))) (
   inK s1.1 s1.2.2.2.2.2.2.2.2.2.1 <|
   idxK s1.1 s1.2.2.2.2.2.2.2.2.2.1 fun x14 =>
   br (decide ((List.length x14 : Int) < (4:Int))) (
    inK s1.1 s1.2.2.2.2.2.2.2.2.2.1 <|
    idxK s1.1 s1.2.2.2.2.2.2.2.2.2.1 fun x15 =>
    bnd (spec_SetPut K x15 s1.2.2.2.2.2.1 s1.2.2.2.2.1 s1.2.2.2.1 s1.2.2.1 s1.2.1) fun y16 =>
    inK s1.1 s1.2.2.2.2.2.2.2.2.2.1 <|
    idxK s1.1 s1.2.2.2.2.2.2.2.2.2.1 fun x17 =>
    j4 ((List.set s1.1 (Int.toNat s1.2.2.2.2.2.2.2.2.2.1) y16.1), s1.2.1, s1.2.2.1, s1.2.2.2.1, s1.2.2.2.2.1, s1.2.2.2.2.2.1, s1.2.2.2.2.2.2.1, s1.2.2.2.2.2.2.2.1, ())) (
    br s1.2.2.2.2.2.2.2.2.1 (
     inK s1.1 s1.2.2.2.2.2.2.2.2.2.1 <|
     idxK s1.1 s1.2.2.2.2.2.2.2.2.2.1 fun x18 =>
     bnd (spec_SetPut K x18 s1.2.2.2.2.2.1 s1.2.2.2.2.1 s1.2.2.2.1 s1.2.2.1 s1.2.1) fun y19 =>
     inK s1.1 s1.2.2.2.2.2.2.2.2.2.1 <|
     idxK s1.1 s1.2.2.2.2.2.2.2.2.2.1 fun x20 =>
     j4 ((List.set s1.1 (Int.toNat s1.2.2.2.2.2.2.2.2.2.1) y19.1), s1.2.1, s1.2.2.1, s1.2.2.2.1, s1.2.2.2.2.1, s1.2.2.2.2.2.1, s1.2.2.2.2.2.2.1, s1.2.2.2.2.2.2.2.1, ())) (
     appK s1.1 ([([(⟨s1.2.2.2.2.2.1, s1.2.2.2.2.1, s1.2.2.2.1, s1.2.2.1, s1.2.1⟩ : Key)] : List (Key))] : List (List (Key))) fun z21 =>
     j4 (z21, s1.2.1, s1.2.2.1, s1.2.2.2.1, s1.2.2.2.2.1, s1.2.2.2.2.2.1, s1.2.2.2.2.2.2.1, s1.2.2.2.2.2.2.2.1, ())))) (
   appK s1.1 ([([(⟨s1.2.2.2.2.2.1, s1.2.2.2.2.1, s1.2.2.2.1, s1.2.2.1, s1.2.1⟩ : Key)] : List (Key))] : List (List (Key))) fun z22 =>
   j4 (z22, s1.2.1, s1.2.2.1, s1.2.2.2.1, s1.2.2.2.2.1, s1.2.2.2.2.2.1, s1.2.2.2.2.2.2.1, s1.2.2.2.2.2.2.2.1, ()))) fun j2 =>
 br (decide ((wr ((List.length y0.1 : Int) - (1:Int))) ≥ (0:Int))) (
  inK y0.1 (wr ((List.length y0.1 : Int) - (1:Int))) <|
  idxK y0.1 (wr ((List.length y0.1 : Int) - (1:Int))) fun x23 =>
  bnd (spec_SetAt K x23 a1 a2) fun y24 =>
  j2 (y0.1, a5, a4, a3, a2, a1, a0, ([] : List (List (Key))), y24.2.2.2.2.2.1, (wr ((List.length y0.1 : Int) - (1:Int))), ())) (
  j2 (y0.1, a5, a4, a3, a2, a1, a0, ([] : List (List (Key))), false, (wr ((List.length y0.1 : Int) - (1:Int))), ()))
def spec_l6Set (K : Nat) (a0 : List (Int)) (a1 : List (Node)) (a2 : Int) (a3 : List (Int)) (a4 : List (Node)) : Option (List (Int) × List (Node) × Unit) :=
 subK a0 (0:Int) a2 fun z0 =>
 appK ([] : List (Int)) z0 fun z1 =>
 appK z1 a3 fun z2 =>
 subK a0 (wr (a2 + (1:Int))) (List.length a0 : Int) fun z3 =>
 appK z2 z3 fun z4 =>
 subK a1 (0:Int) a2 fun z5 =>
 appK ([] : List (Node)) z5 fun z6 =>
 appK z6 a4 fun z7 =>
 subK a1 (wr (a2 + (1:Int))) (List.length a1 : Int) fun z8 =>
 appK z7 z8 fun z9 =>
 some (z4, z9, ())
def spec_l6Pair (K : Nat) (a0 : List (Int)) (a1 : List (Node)) : Option (Int × Unit) :=
 loopFix K (fun r1 (s0 : List (Node) × List (Int) × Int × Unit) =>
  br (decide ((wr (s0.2.2.1 + (1:Int))) < (List.length s0.1 : Int))) (
   inK s0.1 s0.2.2.1 <|
   idxK s0.1 s0.2.2.1 fun x2 =>
   bnd (spec_NodeKeys K x2.sets) fun y3 =>
   inK s0.1 (wr (s0.2.2.1 + (1:Int))) <|
   idxK s0.1 (wr (s0.2.2.1 + (1:Int))) fun x4 =>
   bnd (spec_NodeKeys K x4.sets) fun y5 =>
   br (decide ((wr ((List.length y3.1 : Int) + (List.length y5.1 : Int))) ≤ (6:Int))) (
    some (s0.2.2.1, ())) (
    r1 (s0.1, s0.2.1, (wr (s0.2.2.1 + (1:Int))), ()))) (
   some ((-1:Int), ()))) (a1, a0, (0:Int), ())
def spec_l6Join_o (K : Nat) (a0 : List (Int)) (a1 : List (Node)) : Option (List (Int) × List (Node) × Unit) :=
 bnd (spec_l6Pair K a0 a1) fun y0 =>
 loopFix K (fun r2 (s1 : List (Node) × List (Int) × List (Node) × List (Int) × Int × Unit) =>
  br (decide (s1.2.2.2.2.1 ≥ (0:Int))) (
   inK s1.2.2.1 s1.2.2.2.2.1 <|
   idxK s1.2.2.1 s1.2.2.2.2.1 fun x3 =>
   bnd (spec_NodeKeys K x3.sets) fun y4 =>
   inK s1.2.2.1 (wr (s1.2.2.2.2.1 + (1:Int))) <|
   idxK s1.2.2.1 (wr (s1.2.2.2.2.1 + (1:Int))) fun x5 =>
   bnd (spec_NodeKeys K x5.sets) fun y6 =>
   appK y4.1 y6.1 fun z7 =>
   subK s1.2.2.2.1 (0:Int) (wr (s1.2.2.2.2.1 + (1:Int))) fun z8 =>
   appK ([] : List (Int)) z8 fun z9 =>
   subK s1.2.2.2.1 (wr (s1.2.2.2.2.1 + (2:Int))) (List.length s1.2.2.2.1 : Int) fun z10 =>
   appK z9 z10 fun z11 =>
   subK s1.2.2.1 (0:Int) s1.2.2.2.2.1 fun z12 =>
   appK ([] : List (Node)) z12 fun z13 =>
   bnd (spec_NodeNew K z7) fun y14 =>
   appK z13 ([(⟨y14.1⟩ : Node)] : List (Node)) fun z15 =>
   subK s1.2.2.1 (wr (s1.2.2.2.2.1 + (2:Int))) (List.length s1.2.2.1 : Int) fun z16 =>
   appK z15 z16 fun z17 =>
   bnd (spec_l6Pair K z11 z17) fun y18 =>
   r2 (s1.1, s1.2.1, z17, z11, y18.1, ())) (
   some (s1.2.2.2.1, s1.2.2.1, ()))) (([] : List (Node)), ([] : List (Int)), a1, a0, y0.1, ())
def spec_TreePut (K : Nat) (a0 : List (Int)) (a1 : List (Node)) (a2 : Int) (a3 : Int) (a4 : Int) (a5 : Int) (a6 : Int) : Option (List (Int) × List (Node) × Bool × Unit) :=
 bnd (spec_l6Copy K a0 a1) fun y0 =>
 bnd (spec_TreeOk K a0 a1) fun y1 =>
 br (!y1.1) (
  some (y0.1, y0.2.1, false, ())) (
  bnd (spec_KeyOk K a2 a3 a4 a5 a6) fun y2 =>
  br (!y2.1) (
   some (y0.1, y0.2.1, false, ())) (
   bnd (spec_WhereIn K a0 a1 a2 a3) fun y3 =>
   inK a1 y3.1 <|
   idxK a1 y3.1 fun x4 =>
   bnd (spec_NodePut K x4.sets a2 a3 a4 a5 a6) fun y5 =>
   inK a0 y3.1 <|
   idxK a0 y3.1 fun x6 =>
   bnd (spec_l6Set K y0.1 y0.2.1 y3.1 ([x6] : List (Int)) ([(⟨y5.1⟩ : Node)] : List (Node))) fun y7 =>
   joinK (fun s8 : List (Node) × List (Int) × List (Node) × List (Int) × List (Node) × List (Int) × Unit =>
    bnd (spec_l6Join_o K s8.2.2.2.1 s8.2.2.1) fun y10 =>
    bnd (spec_TreeOk K y10.1 y10.2.1) fun y11 =>
    br (!y11.1) (
     some (s8.2.1, s8.1, false, ())) (
     some (y10.1, y10.2.1, true, ()))) fun j9 =>
   br (!y5.2.1) (
    inK a1 y3.1 <|
    idxK a1 y3.1 fun x12 =>
    bnd (spec_NodeKeys K x12.sets) fun y13 =>
    bnd (spec_SetPut K y13.1 a2 a3 a4 a5 a6) fun y14 =>
    bnd (spec_Drop K y14.1) fun y15 =>
    inK a0 y3.1 <|
    idxK a0 y3.1 fun x16 =>
    inK y15.1 (wr (Int.tdiv (wr ((List.length y15.1 : Int) + (1:Int))) (2:Int))) <|
    idxK y15.1 (wr (Int.tdiv (wr ((List.length y15.1 : Int) + (1:Int))) (2:Int))) fun x17 =>
    bnd (spec_l6Spot K x17.blk x17.age x17.kind x17.cell x17.gen) fun y18 =>
    subK y15.1 (0:Int) (wr (Int.tdiv (wr ((List.length y15.1 : Int) + (1:Int))) (2:Int))) fun z19 =>
    bnd (spec_NodeNew K z19) fun y20 =>
    subK y15.1 (wr (Int.tdiv (wr ((List.length y15.1 : Int) + (1:Int))) (2:Int))) (List.length y15.1 : Int) fun z21 =>
    bnd (spec_NodeNew K z21) fun y22 =>
    bnd (spec_l6Set K y0.1 y0.2.1 y3.1 ([x16, y18.1] : List (Int)) ([(⟨y20.1⟩ : Node), (⟨y22.1⟩ : Node)] : List (Node))) fun y23 =>
    j9 (y0.2.1, y0.1, y23.2.1, y23.1, ([] : List (Node)), ([] : List (Int)), ())) (
    br (decide (y3.1 > (0:Int))) (
     bnd (spec_NodeKeys K y5.1) fun y24 =>
     br (decide ((List.length y24.1 : Int) = (0:Int))) (
      bnd (spec_l6Set K y0.1 y0.2.1 y3.1 ([] : List (Int)) ([] : List (Node))) fun y25 =>
      j9 (y0.2.1, y0.1, y25.2.1, y25.1, ([] : List (Node)), ([] : List (Int)), ())) (
      j9 (y0.2.1, y0.1, y7.2.1, y7.1, ([] : List (Node)), ([] : List (Int)), ()))) (
     j9 (y0.2.1, y0.1, y7.2.1, y7.1, ([] : List (Node)), ([] : List (Int)), ())))))
def spec_FreeCell (K : Nat) (a0 : List (Cell)) (a1 : Int) : Option (List (Cell) × Unit) :=
 bnd (spec_l9Copy K a0) fun y0 =>
 joinK (fun s1 : List (Cell) × Unit =>
  some (s1.1, ())) fun j2 =>
 bnd (spec_CellsOk K a0) fun y3 =>
 br y3.1 (
  bnd (spec_l1In K a1 (0:Int) (wr ((List.length a0 : Int) - (1:Int)))) fun y4 =>
  br y4.1 (
   inK a0 a1 <|
   idxK a0 a1 fun x5 =>
   br x5.used (
    inK a0 a1 <|
    idxK a0 a1 fun x6 =>
    inK y0.1 a1 <|
    idxK y0.1 a1 fun x7 =>
    j2 ((List.set y0.1 (Int.toNat a1) (⟨(Int.tmod (wr (x6.gen + (1:Int))) (1000:Int)), false, (0:Int)⟩ : Cell)), ())) (
    j2 (y0.1, ()))) (
   j2 (y0.1, ()))) (
  j2 (y0.1, ()))
def spec_l11Drop (K : Nat) (a0 : List (Int)) (a1 : List (Node)) (a2 : List (Age)) (a3 : List (Cell)) (a4 : List (Vol)) (a5 : Int) (a6 : Int) (a7 : Int) (a8 : Int) (a9 : Int) (a10 : Int) (a11 : Bool) : Option (List (Cell) × Unit) :=
 br a11 (
  br (decide (a8 = (1:Int))) (
   bnd (spec_FreeCell K a3 a9) fun y0 =>
   some (y0.1, ())) (
   some (a3, ()))) (
  some (a3, ()))
def spec_l11Put (K : Nat) (a0 : List (Int)) (a1 : List (Node)) (a2 : List (Age)) (a3 : List (Cell)) (a4 : List (Vol)) (a5 : Int) (a6 : Int) (a7 : Int) (a8 : Int) (a9 : Int) (a10 : Int) : Option (Bool × List (Int) × List (Node) × List (Cell) × Unit) :=
 bnd (spec_TreeAt K a0 a1 a6 a7) fun y0 =>
 bnd (spec_TreePut K a0 a1 a6 a7 a8 a9 a10) fun y1 =>
 br (!y1.2.2.1) (
  some (false, a0, a1, a3, ())) (
  bnd (spec_l11Drop K y1.1 y1.2.1 a2 a3 a4 a5 y0.1 y0.2.1 y0.2.2.1 y0.2.2.2.1 y0.2.2.2.2.1 y0.2.2.2.2.2.1) fun y2 =>
  some (true, y1.1, y1.2.1, y2.1, ()))
def spec_Write (K : Nat) (a0 : List (Int)) (a1 : List (Node)) (a2 : List (Age)) (a3 : List (Cell)) (a4 : List (Vol)) (a5 : Int) (a6 : List Int) (a7 : Int) (a8 : Int) : Option (List (Int) × List (Node) × List (Age) × List (Cell) × List (Vol) × Int × Int × Unit) :=
 bnd (spec_l10Copy K a0 a1 a2 a3 a4 a5) fun y0 =>
 bnd (spec_l11Block K a0 a1 a2 a3 a4 a5 a6 a7) fun y1 =>
 joinK (fun s2 : Int × List (Vol) × List (Cell) × List (Age) × List (Node) × List (Int) × Int × List (Vol) × List (Cell) × List (Age) × List (Node) × List (Int) × Int × List (Vol) × List (Cell) × List (Age) × List (Node) × List (Int) × Int × Int × Int × List Int × Unit =>
  br (decide (s2.2.2.2.2.2.2.2.2.2.2.2.2.2.2.2.2.2.2.1 ≠ (0:Int))) (
   some (s2.2.2.2.2.2.2.2.2.2.2.2.1, s2.2.2.2.2.2.2.2.2.2.2.1, s2.2.2.2.2.2.2.2.2.2.1, s2.2.2.2.2.2.2.2.2.1, s2.2.2.2.2.2.2.2.1, s2.2.2.2.2.2.2.1, s2.2.2.2.2.2.2.2.2.2.2.2.2.2.2.2.2.2.2.1, ())) (
   bnd (spec_TakeCell K s2.2.2.1 s2.2.2.2.2.2.2.2.2.2.2.2.2.2.2.2.2.2.2.2.1) fun y4 =>
   br y4.2.2.1 (
    bnd (spec_VolAt K s2.2.2.2.2.2.1 s2.2.2.2.2.1 s2.2.2.2.1 s2.2.2.1 s2.2.1 s2.1 s2.2.2.2.2.2.2.2.2.2.2.2.2.2.2.2.2.2.2.2.2.2.1) fun y5 =>
    inK s2.2.1 y5.1 <|
    idxK s2.2.1 y5.1 fun x6 =>
    inK y4.1 y4.2.1 <|
    idxK y4.1 y4.2.1 fun x7 =>
    bnd (spec_l11Put K s2.2.2.2.2.2.2.2.2.2.2.2.1 s2.2.2.2.2.2.2.2.2.2.2.1 s2.2.2.2.2.2.2.2.2.2.1 y4.1 s2.2.2.2.2.2.2.2.1 s2.2.2.2.2.2.2.1 s2.2.2.2.2.2.2.2.2.2.2.2.2.2.2.2.2.2.2.2.2.1 x6.age (1:Int) y4.2.1 x7.gen) fun y8 =>
    bnd (spec_l11End_ro K s2.2.2.2.2.2.1 s2.2.2.2.2.1 s2.2.2.2.1 s2.2.2.1 s2.2.1 s2.1 y8.2.1 y8.2.2.1 s2.2.2.2.2.2.2.2.2.2.1 y8.2.2.2.1 s2.2.2.2.2.2.2.2.1 s2.2.2.2.2.2.2.1 y8.1) fun y9 =>
    some (y9.1, y9.2.1, y9.2.2.1, y9.2.2.2.1, y9.2.2.2.2.1, y9.2.2.2.2.2.1, y9.2.2.2.2.2.2.1, ())) (
    bnd (spec_l11End_ro K s2.2.2.2.2.2.1 s2.2.2.2.2.1 s2.2.2.2.1 s2.2.2.1 s2.2.1 s2.1 s2.2.2.2.2.2.2.2.2.2.2.2.1 s2.2.2.2.2.2.2.2.2.2.2.1 s2.2.2.2.2.2.2.2.2.2.1 y4.1 s2.2.2.2.2.2.2.2.1 s2.2.2.2.2.2.2.1 false) fun y10 =>
    some (y10.1, y10.2.1, y10.2.2.1, y10.2.2.2.1, y10.2.2.2.2.1, y10.2.2.2.2.2.1, y10.2.2.2.2.2.2.1, ())))) fun j3 =>
 br (decide (y1.1 = (0:Int))) (
  bnd (spec_l1Word K a8) fun y11 =>
  br (!y11.1) (
   j3 (a5, a4, a3, a2, a1, a0, y0.2.2.2.2.2.1, y0.2.2.2.2.1, y0.2.2.2.1, y0.2.2.1, y0.2.1, y0.1, (0:Int), ([] : List (Vol)), ([] : List (Cell)), ([] : List (Age)), ([] : List (Node)), ([] : List (Int)), (4:Int), a8, a7, a6, ())) (
   j3 (a5, a4, a3, a2, a1, a0, y0.2.2.2.2.2.1, y0.2.2.2.2.1, y0.2.2.2.1, y0.2.2.1, y0.2.1, y0.1, (0:Int), ([] : List (Vol)), ([] : List (Cell)), ([] : List (Age)), ([] : List (Node)), ([] : List (Int)), y1.1, a8, a7, a6, ()))) (
  j3 (a5, a4, a3, a2, a1, a0, y0.2.2.2.2.2.1, y0.2.2.2.2.1, y0.2.2.2.1, y0.2.2.1, y0.2.1, y0.1, (0:Int), ([] : List (Vol)), ([] : List (Cell)), ([] : List (Age)), ([] : List (Node)), ([] : List (Int)), y1.1, a8, a7, a6, ()))
def spec_PathOf (K : Nat) (a0 : List (Age)) (a1 : Int) : Option (List (Int) × Unit) :=
 bnd (spec_AgeAt K a0 a1) fun y0 =>
 loopFix K (fun r2 (s1 : List (Int) × List (Age) × Int × Unit) =>
  br (decide (s1.2.2.1 ≥ (0:Int))) (
   br (decide ((List.length s1.1 : Int) ≤ (List.length s1.2.1 : Int))) (
    inK s1.2.1 s1.2.2.1 <|
    idxK s1.2.1 s1.2.2.1 fun x3 =>
    appK s1.1 ([x3.id] : List (Int)) fun z4 =>
    inK s1.2.1 s1.2.2.1 <|
    idxK s1.2.1 s1.2.2.1 fun x5 =>
    bnd (spec_AgeAt K s1.2.1 x5.from_) fun y6 =>
    r2 (z4, s1.2.1, y6.1, ())) (
    some (s1.1, ()))) (
   some (s1.1, ()))) (([] : List (Int)), a0, y0.1, ())
def spec_KeysOf (K : Nat) (a0 : List (Int)) (a1 : List (Node)) (a2 : Int) : Option (List (Key) × Unit) :=
 bnd (spec_TreeKeys K a0 a1) fun y0 =>
 loopFix K (fun r2 (s1 : List (Key) × Int × List (Key) × Int × Unit) =>
  br (decide (s1.2.2.2.1 < (List.length s1.2.2.1 : Int))) (
   joinK (fun s3 : Int × List (Key) × Int × List (Key) × Unit =>
    r2 (s3.2.1, s3.2.2.1, s3.2.2.2.1, (wr (s3.1 + (1:Int))), ())) fun j4 =>
   inK s1.2.2.1 s1.2.2.2.1 <|
   idxK s1.2.2.1 s1.2.2.2.1 fun x5 =>
   br (decide (x5.blk = s1.2.1)) (
    inK s1.2.2.1 s1.2.2.2.1 <|
    idxK s1.2.2.1 s1.2.2.2.1 fun x6 =>
    appK s1.1 ([(⟨x6.blk, x6.age, x6.kind, x6.cell, x6.gen⟩ : Key)] : List (Key)) fun z7 =>
    j4 (s1.2.2.2.1, z7, s1.2.1, s1.2.2.1, ())) (
    j4 (s1.2.2.2.1, s1.1, s1.2.1, s1.2.2.1, ()))) (
   some (s1.1, ()))) (([] : List (Key)), a2, y0.1, (0:Int), ())
def spec_l7Has (K : Nat) (a0 : List (Int)) (a1 : Int) : Option (Bool × Unit) :=
 loopFix K (fun r1 (s0 : List (Int) × Int × Int × Unit) =>
  br (decide (s0.2.2.1 < (List.length s0.1 : Int))) (
   inK s0.1 s0.2.2.1 <|
   idxK s0.1 s0.2.2.1 fun x2 =>
   br (decide (x2 = s0.2.1)) (
    some (true, ())) (
    r1 (s0.1, s0.2.1, (wr (s0.2.2.1 + (1:Int))), ()))) (
   some (false, ()))) (a0, a1, (0:Int), ())
def spec_l8Near (K : Nat) (a0 : List (Int)) (a1 : List (Node)) (a2 : Int) (a3 : List (Int)) : Option (Int × Int × Int × Int × Int × Bool × Unit) :=
 bnd (spec_KeysOf K a0 a1 a2) fun y0 =>
 loopFix K (fun r2 (s1 : Int × Int × Int × Int × Int × Int × Int × Int × Int × Int × Bool × List (Int) × List (Key) × Int × Unit) =>
  br (decide (s1.2.2.2.2.2.2.2.2.2.2.2.2.2.1 < (List.length s1.2.2.2.2.2.2.2.2.2.2.2.2.1 : Int))) (
   joinK (fun s3 : Int × Int × Int × Int × Int × Int × Int × Int × Int × Int × Int × Bool × List (Int) × List (Key) × Unit =>
    r2 (s3.1, s3.2.1, s3.2.2.1, s3.2.2.2.1, s3.2.2.2.2.1, s3.2.2.2.2.2.1, s3.2.2.2.2.2.2.1, s3.2.2.2.2.2.2.2.1, s3.2.2.2.2.2.2.2.2.1, s3.2.2.2.2.2.2.2.2.2.1, s3.2.2.2.2.2.2.2.2.2.2.2.1, s3.2.2.2.2.2.2.2.2.2.2.2.2.1, s3.2.2.2.2.2.2.2.2.2.2.2.2.2.1, (wr (s3.2.2.2.2.2.2.2.2.2.2.1 + (1:Int))), ())) fun j4 =>
   inK s1.2.2.2.2.2.2.2.2.2.2.2.2.1 s1.2.2.2.2.2.2.2.2.2.2.2.2.2.1 <|
   idxK s1.2.2.2.2.2.2.2.2.2.2.2.2.1 s1.2.2.2.2.2.2.2.2.2.2.2.2.2.1 fun x5 =>
   bnd (spec_l7Has K s1.2.2.2.2.2.2.2.2.2.2.2.1 x5.age) fun y6 =>
   br y6.1 (
    br (!s1.2.2.2.2.2.2.2.2.2.2.1) (
     inK s1.2.2.2.2.2.2.2.2.2.2.2.2.1 s1.2.2.2.2.2.2.2.2.2.2.2.2.2.1 <|
     idxK s1.2.2.2.2.2.2.2.2.2.2.2.2.1 s1.2.2.2.2.2.2.2.2.2.2.2.2.2.1 fun x7 =>
     j4 (s1.1, s1.2.1, s1.2.2.1, s1.2.2.2.1, s1.2.2.2.2.1, x7.gen, x7.cell, x7.kind, x7.age, x7.blk, s1.2.2.2.2.2.2.2.2.2.2.2.2.2.1, true, s1.2.2.2.2.2.2.2.2.2.2.2.1, s1.2.2.2.2.2.2.2.2.2.2.2.2.1, ())) (
     inK s1.2.2.2.2.2.2.2.2.2.2.2.2.1 s1.2.2.2.2.2.2.2.2.2.2.2.2.2.1 <|
     idxK s1.2.2.2.2.2.2.2.2.2.2.2.2.1 s1.2.2.2.2.2.2.2.2.2.2.2.2.2.1 fun x8 =>
     br (decide (x8.age > s1.2.2.2.2.2.2.2.2.1)) (
      inK s1.2.2.2.2.2.2.2.2.2.2.2.2.1 s1.2.2.2.2.2.2.2.2.2.2.2.2.2.1 <|
      idxK s1.2.2.2.2.2.2.2.2.2.2.2.2.1 s1.2.2.2.2.2.2.2.2.2.2.2.2.2.1 fun x9 =>
      j4 (s1.1, s1.2.1, s1.2.2.1, s1.2.2.2.1, s1.2.2.2.2.1, x9.gen, x9.cell, x9.kind, x9.age, x9.blk, s1.2.2.2.2.2.2.2.2.2.2.2.2.2.1, true, s1.2.2.2.2.2.2.2.2.2.2.2.1, s1.2.2.2.2.2.2.2.2.2.2.2.2.1, ())) (
      j4 (s1.1, s1.2.1, s1.2.2.1, s1.2.2.2.1, s1.2.2.2.2.1, s1.2.2.2.2.2.1, s1.2.2.2.2.2.2.1, s1.2.2.2.2.2.2.2.1, s1.2.2.2.2.2.2.2.2.1, s1.2.2.2.2.2.2.2.2.2.1, s1.2.2.2.2.2.2.2.2.2.2.2.2.2.1, s1.2.2.2.2.2.2.2.2.2.2.1, s1.2.2.2.2.2.2.2.2.2.2.2.1, s1.2.2.2.2.2.2.2.2.2.2.2.2.1, ())))) (
    j4 (s1.1, s1.2.1, s1.2.2.1, s1.2.2.2.1, s1.2.2.2.2.1, s1.2.2.2.2.2.1, s1.2.2.2.2.2.2.1, s1.2.2.2.2.2.2.2.1, s1.2.2.2.2.2.2.2.2.1, s1.2.2.2.2.2.2.2.2.2.1, s1.2.2.2.2.2.2.2.2.2.2.2.2.2.1, s1.2.2.2.2.2.2.2.2.2.2.1, s1.2.2.2.2.2.2.2.2.2.2.2.1, s1.2.2.2.2.2.2.2.2.2.2.2.2.1, ()))) (
   some (s1.2.2.2.2.2.2.2.2.2.1, s1.2.2.2.2.2.2.2.2.1, s1.2.2.2.2.2.2.2.1, s1.2.2.2.2.2.2.1, s1.2.2.2.2.2.1, s1.2.2.2.2.2.2.2.2.2.2.1, ()))) ((0:Int), (0:Int), (0:Int), (0:Int), (0:Int), (0:Int), (0:Int), (0:Int), (0:Int), (0:Int), false, a3, y0.1, (0:Int), ())
def spec_SeenAbove (K : Nat) (a0 : List (Int)) (a1 : List (Node)) (a2 : List (Age)) (a3 : Int) (a4 : Int) : Option (Int × Int × Int × Int × Int × Bool × Unit) :=
 bnd (spec_PathOf K a2 a4) fun y0 =>
 br (decide ((List.length y0.1 : Int) = (0:Int))) (
  some ((0:Int), (0:Int), (0:Int), (0:Int), (0:Int), false, ())) (
  subK y0.1 (1:Int) (List.length y0.1 : Int) fun z1 =>
  bnd (spec_l8Near K a0 a1 a3 z1) fun y2 =>
  some (y2.1, y2.2.1, y2.2.2.1, y2.2.2.2.1, y2.2.2.2.2.1, y2.2.2.2.2.2.1, ()))
def spec_l11Discard (K : Nat) (a0 : List (Int)) (a1 : List (Node)) (a2 : List (Age)) (a3 : List (Cell)) (a4 : List (Vol)) (a5 : Int) (a6 : Int) (a7 : Int) : Option (Bool × List (Int) × List (Node) × List (Cell) × Unit) :=
 inK a4 a6 <|
 idxK a4 a6 fun x0 =>
 bnd (spec_SeenAbove K a0 a1 a2 a7 x0.age) fun y1 =>
 br y1.2.2.2.2.2.1 (
  br (decide (y1.2.2.1 = (1:Int))) (
   bnd (spec_l11Put K a0 a1 a2 a3 a4 a5 a7 x0.age (2:Int) (0:Int) (0:Int)) fun y2 =>
   some (y2.1, y2.2.1, y2.2.2.1, y2.2.2.2.1, ())) (
   bnd (spec_TreeAt K a0 a1 a7 x0.age) fun y3 =>
   br (!y3.2.2.2.2.2.1) (
    some (true, a0, a1, a3, ())) (
    bnd (spec_l11Put K a0 a1 a2 a3 a4 a5 a7 x0.age (0:Int) (0:Int) (0:Int)) fun y4 =>
    some (y4.1, y4.2.1, y4.2.2.1, y4.2.2.2.1, ())))) (
  bnd (spec_TreeAt K a0 a1 a7 x0.age) fun y5 =>
  br (!y5.2.2.2.2.2.1) (
   some (true, a0, a1, a3, ())) (
   bnd (spec_l11Put K a0 a1 a2 a3 a4 a5 a7 x0.age (0:Int) (0:Int) (0:Int)) fun y6 =>
   some (y6.1, y6.2.1, y6.2.2.1, y6.2.2.2.1, ())))
def spec_Discard (K : Nat) (a0 : List (Int)) (a1 : List (Node)) (a2 : List (Age)) (a3 : List (Cell)) (a4 : List (Vol)) (a5 : Int) (a6 : List Int) (a7 : Int) : Option (List (Int) × List (Node) × List (Age) × List (Cell) × List (Vol) × Int × Int × Unit) :=
 bnd (spec_l10Copy K a0 a1 a2 a3 a4 a5) fun y0 =>
 bnd (spec_l11Block K a0 a1 a2 a3 a4 a5 a6 a7) fun y1 =>
 br (decide (y1.1 ≠ (0:Int))) (
  some (y0.1, y0.2.1, y0.2.2.1, y0.2.2.2.1, y0.2.2.2.2.1, y0.2.2.2.2.2.1, y1.1, ())) (
  bnd (spec_VolAt K a0 a1 a2 a3 a4 a5 a6) fun y2 =>
  bnd (spec_l11Discard K y0.1 y0.2.1 y0.2.2.1 y0.2.2.2.1 y0.2.2.2.2.1 y0.2.2.2.2.2.1 y2.1 a7) fun y3 =>
  bnd (spec_l11End_ro K a0 a1 a2 a3 a4 a5 y3.2.1 y3.2.2.1 y0.2.2.1 y3.2.2.2.1 y0.2.2.2.2.1 y0.2.2.2.2.2.1 y3.1) fun y4 =>
  some (y4.1, y4.2.1, y4.2.2.1, y4.2.2.2.1, y4.2.2.2.2.1, y4.2.2.2.2.2.1, y4.2.2.2.2.2.2.1, ()))
def spec_Resize (K : Nat) (a0 : List (Int)) (a1 : List (Node)) (a2 : List (Age)) (a3 : List (Cell)) (a4 : List (Vol)) (a5 : Int) (a6 : List Int) (a7 : Int) : Option (List (Int) × List (Node) × List (Age) × List (Cell) × List (Vol) × Int × Int × Unit) :=
 bnd (spec_l10Copy K a0 a1 a2 a3 a4 a5) fun y0 =>
 bnd (spec_l11Block K a0 a1 a2 a3 a4 a5 a6 (0:Int)) fun y1 =>
 joinK (fun s2 : Int × List (Vol) × List (Cell) × List (Age) × List (Node) × List (Int) × Int × List (Vol) × List (Cell) × List (Age) × List (Node) × List (Int) × Int × List (Vol) × List (Cell) × List (Age) × List (Node) × List (Int) × Int × List Int × Int × Unit =>
  br (decide (s2.2.2.2.2.2.2.2.2.2.2.2.2.2.2.2.2.2.2.1 ≠ (0:Int))) (
   some (s2.2.2.2.2.2.2.2.2.2.2.2.1, s2.2.2.2.2.2.2.2.2.2.2.1, s2.2.2.2.2.2.2.2.2.2.1, s2.2.2.2.2.2.2.2.2.1, s2.2.2.2.2.2.2.2.1, s2.2.2.2.2.2.2.1, s2.2.2.2.2.2.2.2.2.2.2.2.2.2.2.2.2.2.2.1, ())) (
   bnd (spec_VolAt K s2.2.2.2.2.2.2.2.2.2.2.2.2.2.2.2.2.2.1 s2.2.2.2.2.2.2.2.2.2.2.2.2.2.2.2.2.1 s2.2.2.2.2.2.2.2.2.2.2.2.2.2.2.2.1 s2.2.2.2.2.2.2.2.2.2.2.2.2.2.2.1 s2.2.2.2.2.2.2.2.2.2.2.2.2.2.1 s2.2.2.2.2.2.2.2.2.2.2.2.2.1 s2.2.2.2.2.2.2.2.2.2.2.2.2.2.2.2.2.2.2.2.1) fun y4 =>
   inK s2.2.2.2.2.2.2.2.2.2.2.2.2.2.1 y4.1 <|
   idxK s2.2.2.2.2.2.2.2.2.2.2.2.2.2.1 y4.1 fun x5 =>
   loopFix K (fun r7 (s6 : Int × List (Vol) × List (Cell) × List (Age) × List (Node) × List (Int) × Int × List (Vol) × List (Cell) × List (Age) × List (Node) × List (Int) × Int × List (Vol) × List (Cell) × List (Age) × List (Node) × List (Int) × Bool × Int × Int × Int × Unit) =>
    br (decide (s6.2.2.2.2.2.2.2.2.2.2.2.2.2.2.2.2.2.2.2.2.2.1 ≥ s6.2.2.2.2.2.2.2.2.2.2.2.2.2.2.2.2.2.2.2.1)) (
     br s6.2.2.2.2.2.2.2.2.2.2.2.2.2.2.2.2.2.2.1 (
      bnd (spec_l11Discard K s6.2.2.2.2.2.2.2.2.2.2.2.1 s6.2.2.2.2.2.2.2.2.2.2.1 s6.2.2.2.2.2.2.2.2.2.1 s6.2.2.2.2.2.2.2.2.1 s6.2.2.2.2.2.2.2.1 s6.2.2.2.2.2.2.1 s6.2.2.2.2.2.2.2.2.2.2.2.2.2.2.2.2.2.2.2.2.1 s6.2.2.2.2.2.2.2.2.2.2.2.2.2.2.2.2.2.2.2.2.2.1) fun y8 =>
      r7 (s6.1, s6.2.1, s6.2.2.1, s6.2.2.2.1, s6.2.2.2.2.1, s6.2.2.2.2.2.1, s6.2.2.2.2.2.2.1, s6.2.2.2.2.2.2.2.1, y8.2.2.2.1, s6.2.2.2.2.2.2.2.2.2.1, y8.2.2.1, y8.2.1, s6.2.2.2.2.2.2.2.2.2.2.2.2.1, s6.2.2.2.2.2.2.2.2.2.2.2.2.2.1, s6.2.2.2.2.2.2.2.2.2.2.2.2.2.2.1, s6.2.2.2.2.2.2.2.2.2.2.2.2.2.2.2.1, s6.2.2.2.2.2.2.2.2.2.2.2.2.2.2.2.2.1, s6.2.2.2.2.2.2.2.2.2.2.2.2.2.2.2.2.2.1, y8.1, s6.2.2.2.2.2.2.2.2.2.2.2.2.2.2.2.2.2.2.2.1, s6.2.2.2.2.2.2.2.2.2.2.2.2.2.2.2.2.2.2.2.2.1, (wr (s6.2.2.2.2.2.2.2.2.2.2.2.2.2.2.2.2.2.2.2.2.2.1 - (1:Int))), ())) (
      inK s6.2.2.2.2.2.2.2.1 s6.2.2.2.2.2.2.2.2.2.2.2.2.2.2.2.2.2.2.2.2.1 <|
      idxK s6.2.2.2.2.2.2.2.1 s6.2.2.2.2.2.2.2.2.2.2.2.2.2.2.2.2.2.2.2.2.1 fun x9 =>
      bnd (spec_l11End_ro K s6.2.2.2.2.2.2.2.2.2.2.2.2.2.2.2.2.2.1 s6.2.2.2.2.2.2.2.2.2.2.2.2.2.2.2.2.1 s6.2.2.2.2.2.2.2.2.2.2.2.2.2.2.2.1 s6.2.2.2.2.2.2.2.2.2.2.2.2.2.2.1 s6.2.2.2.2.2.2.2.2.2.2.2.2.2.1 s6.2.2.2.2.2.2.2.2.2.2.2.2.1 s6.2.2.2.2.2.2.2.2.2.2.2.1 s6.2.2.2.2.2.2.2.2.2.2.1 s6.2.2.2.2.2.2.2.2.2.1 s6.2.2.2.2.2.2.2.2.1 (List.set s6.2.2.2.2.2.2.2.1 (Int.toNat s6.2.2.2.2.2.2.2.2.2.2.2.2.2.2.2.2.2.2.2.2.1) (⟨x9.name, x9.age, s6.2.2.2.2.2.2.2.2.2.2.2.2.2.2.2.2.2.2.2.1, x9.fixed⟩ : Vol)) s6.2.2.2.2.2.2.1 s6.2.2.2.2.2.2.2.2.2.2.2.2.2.2.2.2.2.2.1) fun y10 =>
      some (y10.1, y10.2.1, y10.2.2.1, y10.2.2.2.1, y10.2.2.2.2.1, y10.2.2.2.2.2.1, y10.2.2.2.2.2.2.1, ()))) (
     inK s6.2.2.2.2.2.2.2.1 s6.2.2.2.2.2.2.2.2.2.2.2.2.2.2.2.2.2.2.2.2.1 <|
     idxK s6.2.2.2.2.2.2.2.1 s6.2.2.2.2.2.2.2.2.2.2.2.2.2.2.2.2.2.2.2.2.1 fun x11 =>
     bnd (spec_l11End_ro K s6.2.2.2.2.2.2.2.2.2.2.2.2.2.2.2.2.2.1 s6.2.2.2.2.2.2.2.2.2.2.2.2.2.2.2.2.1 s6.2.2.2.2.2.2.2.2.2.2.2.2.2.2.2.1 s6.2.2.2.2.2.2.2.2.2.2.2.2.2.2.1 s6.2.2.2.2.2.2.2.2.2.2.2.2.2.1 s6.2.2.2.2.2.2.2.2.2.2.2.2.1 s6.2.2.2.2.2.2.2.2.2.2.2.1 s6.2.2.2.2.2.2.2.2.2.2.1 s6.2.2.2.2.2.2.2.2.2.1 s6.2.2.2.2.2.2.2.2.1 (List.set s6.2.2.2.2.2.2.2.1 (Int.toNat s6.2.2.2.2.2.2.2.2.2.2.2.2.2.2.2.2.2.2.2.2.1) (⟨x11.name, x11.age, s6.2.2.2.2.2.2.2.2.2.2.2.2.2.2.2.2.2.2.2.1, x11.fixed⟩ : Vol)) s6.2.2.2.2.2.2.1 s6.2.2.2.2.2.2.2.2.2.2.2.2.2.2.2.2.2.2.1) fun y12 =>
     some (y12.1, y12.2.1, y12.2.2.1, y12.2.2.2.1, y12.2.2.2.2.1, y12.2.2.2.2.2.1, y12.2.2.2.2.2.2.1, ()))) (s2.1, s2.2.1, s2.2.2.1, s2.2.2.2.1, s2.2.2.2.2.1, s2.2.2.2.2.2.1, s2.2.2.2.2.2.2.1, s2.2.2.2.2.2.2.2.1, s2.2.2.2.2.2.2.2.2.1, s2.2.2.2.2.2.2.2.2.2.1, s2.2.2.2.2.2.2.2.2.2.2.1, s2.2.2.2.2.2.2.2.2.2.2.2.1, s2.2.2.2.2.2.2.2.2.2.2.2.2.1, s2.2.2.2.2.2.2.2.2.2.2.2.2.2.1, s2.2.2.2.2.2.2.2.2.2.2.2.2.2.2.1, s2.2.2.2.2.2.2.2.2.2.2.2.2.2.2.2.1, s2.2.2.2.2.2.2.2.2.2.2.2.2.2.2.2.2.1, s2.2.2.2.2.2.2.2.2.2.2.2.2.2.2.2.2.2.1, true, s2.2.2.2.2.2.2.2.2.2.2.2.2.2.2.2.2.2.2.2.2.1, y4.1, (wr (x5.size - (1:Int))), ()))) fun j3 =>
 br (decide (y1.1 = (0:Int))) (
  bnd (spec_l1In K a7 (1:Int) (12:Int)) fun y13 =>
  br (!y13.1) (
   j3 ((0:Int), ([] : List (Vol)), ([] : List (Cell)), ([] : List (Age)), ([] : List (Node)), ([] : List (Int)), y0.2.2.2.2.2.1, y0.2.2.2.2.1, y0.2.2.2.1, y0.2.2.1, y0.2.1, y0.1, a5, a4, a3, a2, a1, a0, (4:Int), a6, a7, ())) (
   j3 ((0:Int), ([] : List (Vol)), ([] : List (Cell)), ([] : List (Age)), ([] : List (Node)), ([] : List (Int)), y0.2.2.2.2.2.1, y0.2.2.2.2.1, y0.2.2.2.1, y0.2.2.1, y0.2.1, y0.1, a5, a4, a3, a2, a1, a0, y1.1, a6, a7, ()))) (
  j3 ((0:Int), ([] : List (Vol)), ([] : List (Cell)), ([] : List (Age)), ([] : List (Node)), ([] : List (Int)), y0.2.2.2.2.2.1, y0.2.2.2.2.1, y0.2.2.2.1, y0.2.2.1, y0.2.1, y0.1, a5, a4, a3, a2, a1, a0, y1.1, a6, a7, ()))
def spec_Seen (K : Nat) (a0 : List (Int)) (a1 : List (Node)) (a2 : List (Age)) (a3 : Int) (a4 : Int) : Option (Int × Int × Int × Int × Int × Bool × Unit) :=
 bnd (spec_PathOf K a2 a4) fun y0 =>
 bnd (spec_l8Near K a0 a1 a3 y0.1) fun y1 =>
 some (y1.1, y1.2.1, y1.2.2.1, y1.2.2.2.1, y1.2.2.2.2.1, y1.2.2.2.2.2.1, ())
def spec_Sees (K : Nat) (a0 : List (Int)) (a1 : List (Node)) (a2 : List (Age)) (a3 : Int) (a4 : Int) (a5 : Int) (a6 : Int) (a7 : Int) (a8 : Int) : Option (Bool × Unit) :=
 bnd (spec_Seen K a0 a1 a2 a3 a8) fun y0 =>
 br y0.2.2.2.2.2.1 (
  some ((decide (y0.2.1 = a4)), ())) (
  some (false, ()))
def spec_SeenByAny (K : Nat) (a0 : List (Int)) (a1 : List (Node)) (a2 : List (Age)) (a3 : List (Cell)) (a4 : List (Vol)) (a5 : Int) (a6 : Int) (a7 : Int) (a8 : Int) (a9 : Int) (a10 : Int) : Option (Bool × Unit) :=
 loopFix K (fun r1 (s0 : Int × Int × Int × Int × Int × Int × List (Vol) × List (Cell) × List (Age) × List (Node) × List (Int) × Int × Unit) =>
  br (decide (s0.2.2.2.2.2.2.2.2.2.2.2.1 < (List.length s0.2.2.2.2.2.2.1 : Int))) (
   inK s0.2.2.2.2.2.2.1 s0.2.2.2.2.2.2.2.2.2.2.2.1 <|
   idxK s0.2.2.2.2.2.2.1 s0.2.2.2.2.2.2.2.2.2.2.2.1 fun x2 =>
   br (decide (x2.size > s0.2.2.2.2.1)) (
    inK s0.2.2.2.2.2.2.1 s0.2.2.2.2.2.2.2.2.2.2.2.1 <|
    idxK s0.2.2.2.2.2.2.1 s0.2.2.2.2.2.2.2.2.2.2.2.1 fun x3 =>
    bnd (spec_Sees K s0.2.2.2.2.2.2.2.2.2.2.1 s0.2.2.2.2.2.2.2.2.2.1 s0.2.2.2.2.2.2.2.2.1 s0.2.2.2.2.1 s0.2.2.2.1 s0.2.2.1 s0.2.1 s0.1 x3.age) fun y4 =>
    br y4.1 (
     some (true, ())) (
     r1 (s0.1, s0.2.1, s0.2.2.1, s0.2.2.2.1, s0.2.2.2.2.1, s0.2.2.2.2.2.1, s0.2.2.2.2.2.2.1, s0.2.2.2.2.2.2.2.1, s0.2.2.2.2.2.2.2.2.1, s0.2.2.2.2.2.2.2.2.2.1, s0.2.2.2.2.2.2.2.2.2.2.1, (wr (s0.2.2.2.2.2.2.2.2.2.2.2.1 + (1:Int))), ()))) (
    r1 (s0.1, s0.2.1, s0.2.2.1, s0.2.2.2.1, s0.2.2.2.2.1, s0.2.2.2.2.2.1, s0.2.2.2.2.2.2.1, s0.2.2.2.2.2.2.2.1, s0.2.2.2.2.2.2.2.2.1, s0.2.2.2.2.2.2.2.2.2.1, s0.2.2.2.2.2.2.2.2.2.2.1, (wr (s0.2.2.2.2.2.2.2.2.2.2.2.1 + (1:Int))), ()))) (
   some (false, ()))) (a10, a9, a8, a7, a6, a5, a4, a3, a2, a1, a0, (0:Int), ())
def spec_Idle (K : Nat) (a0 : List (Int)) (a1 : List (Node)) (a2 : List (Age)) (a3 : List (Cell)) (a4 : List (Vol)) (a5 : Int) (a6 : Int) : Option (Bool × Unit) :=
 loopFix K (fun r1 (s0 : Int × List (Vol) × List (Cell) × List (Age) × List (Node) × List (Int) × Int × Int × Unit) =>
  br (decide (s0.2.2.2.2.2.2.2.1 < (List.length s0.2.1 : Int))) (
   inK s0.2.1 s0.2.2.2.2.2.2.2.1 <|
   idxK s0.2.1 s0.2.2.2.2.2.2.2.1 fun x2 =>
   br (decide (x2.age = s0.2.2.2.2.2.2.1)) (
    some (false, ())) (
    r1 (s0.1, s0.2.1, s0.2.2.1, s0.2.2.2.1, s0.2.2.2.2.1, s0.2.2.2.2.2.1, s0.2.2.2.2.2.2.1, (wr (s0.2.2.2.2.2.2.2.1 + (1:Int))), ()))) (
   some (true, ()))) (a5, a4, a3, a2, a1, a0, a6, (0:Int), ())
def spec_l13Kid (K : Nat) (a0 : List (Int)) (a1 : List (Node)) (a2 : List (Age)) (a3 : List (Cell)) (a4 : List (Vol)) (a5 : Int) (a6 : Int) : Option (Int × Unit) :=
 bnd (spec_KidsOf K a2 a6) fun y0 =>
 bnd (spec_Idle K a0 a1 a2 a3 a4 a5 a6) fun y1 =>
 br (!y1.1) (
  some ((0:Int), ())) (
  br (decide ((List.length y0.1 : Int) ≠ (1:Int))) (
   some ((0:Int), ())) (
   inK y0.1 (0:Int) <|
   idxK y0.1 (0:Int) fun x2 =>
   some (x2, ())))
def spec_l13Move (K : Nat) (a0 : List (Int)) (a1 : List (Node)) (a2 : List (Age)) (a3 : List (Cell)) (a4 : List (Vol)) (a5 : Int) (a6 : Int) (a7 : Int) (a8 : Int) (a9 : Int) (a10 : Int) : Option (Bool × Unit) :=
 bnd (spec_l13Kid K a0 a1 a2 a3 a4 a5 a7) fun y0 =>
 br (decide (y0.1 = (0:Int))) (
  some (false, ())) (
  bnd (spec_TreeAt K a0 a1 a6 y0.1) fun y1 =>
  some ((!y1.2.2.2.2.2.1), ()))
def spec_l13Key (K : Nat) (a0 : List (Int)) (a1 : List (Node)) (a2 : List (Age)) (a3 : List (Cell)) (a4 : List (Vol)) (a5 : Int) (a6 : Int) (a7 : Int) (a8 : Int) (a9 : Int) (a10 : Int) (a11 : Int) : Option (Bool × Unit) :=
 br (decide (a6 = (1:Int))) (
  bnd (spec_SeenByAny K a0 a1 a2 a3 a4 a5 a7 a8 a9 a10 a11) fun y0 =>
  some ((!y0.1), ())) (
  br (decide (a6 = (2:Int))) (
   bnd (spec_SeenAbove K a0 a1 a2 a7 a8) fun y1 =>
   br (decide (a9 = (2:Int))) (
    some ((!y1.2.2.2.2.2.1), ())) (
    some (false, ()))) (
   bnd (spec_l13Move K a0 a1 a2 a3 a4 a5 a7 a8 a9 a10 a11) fun y2 =>
   some (y2.1, ())))
def spec_l13Age (K : Nat) (a0 : List (Int)) (a1 : List (Node)) (a2 : List (Age)) (a3 : List (Cell)) (a4 : List (Vol)) (a5 : Int) (a6 : Int) : Option (Bool × Unit) :=
 bnd (spec_TreeKeys K a0 a1) fun y0 =>
 loopFix K (fun r2 (s1 : Int × List (Vol) × List (Cell) × List (Age) × List (Node) × List (Int) × Int × List (Key) × Int × Unit) =>
  br (decide (s1.2.2.2.2.2.2.2.2.1 < (List.length s1.2.2.2.2.2.2.2.1 : Int))) (
   inK s1.2.2.2.2.2.2.2.1 s1.2.2.2.2.2.2.2.2.1 <|
   idxK s1.2.2.2.2.2.2.2.1 s1.2.2.2.2.2.2.2.2.1 fun x3 =>
   br (decide (x3.age = s1.2.2.2.2.2.2.1)) (
    some (false, ())) (
    r2 (s1.1, s1.2.1, s1.2.2.1, s1.2.2.2.1, s1.2.2.2.2.1, s1.2.2.2.2.2.1, s1.2.2.2.2.2.2.1, s1.2.2.2.2.2.2.2.1, (wr (s1.2.2.2.2.2.2.2.2.1 + (1:Int))), ()))) (
   bnd (spec_Idle K s1.2.2.2.2.2.1 s1.2.2.2.2.1 s1.2.2.2.1 s1.2.2.1 s1.2.1 s1.1 s1.2.2.2.2.2.2.1) fun y4 =>
   br y4.1 (
    bnd (spec_KidsOf K s1.2.2.2.1 s1.2.2.2.2.2.2.1) fun y5 =>
    some ((decide ((List.length y5.1 : Int) ≤ (1:Int))), ())) (
    some (false, ())))) (a5, a4, a3, a2, a1, a0, a6, y0.1, (0:Int), ())
def spec_NextStep (K : Nat) (a0 : List (Int)) (a1 : List (Node)) (a2 : List (Age)) (a3 : List (Cell)) (a4 : List (Vol)) (a5 : Int) : Option (Int × Int × Unit) :=
 bnd (spec_PoolOk K a0 a1 a2 a3 a4 a5) fun y0 =>
 br (!y0.1) (
  some ((0:Int), (0:Int), ())) (
  bnd (spec_TreeKeys K a0 a1) fun y1 =>
  loopFix K (fun r3 (s2 : Int × List (Vol) × List (Cell) × List (Age) × List (Node) × List (Int) × Int × List (Key) × Unit) =>
   br (decide (s2.2.2.2.2.2.2.1 ≤ (3:Int))) (
    loopFix K (fun r5 (s4 : Int × List (Vol) × List (Cell) × List (Age) × List (Node) × List (Int) × List (Key) × Int × Int × Unit) =>
     br (decide (s4.2.2.2.2.2.2.2.2.1 < (List.length s4.2.2.2.2.2.2.1 : Int))) (
      inK s4.2.2.2.2.2.2.1 s4.2.2.2.2.2.2.2.2.1 <|
      idxK s4.2.2.2.2.2.2.1 s4.2.2.2.2.2.2.2.2.1 fun x6 =>
      bnd (spec_l13Key K s4.2.2.2.2.2.1 s4.2.2.2.2.1 s4.2.2.2.1 s4.2.2.1 s4.2.1 s4.1 s4.2.2.2.2.2.2.2.1 x6.blk x6.age x6.kind x6.cell x6.gen) fun y7 =>
      br y7.1 (
       some (s4.2.2.2.2.2.2.2.1, s4.2.2.2.2.2.2.2.2.1, ())) (
       r5 (s4.1, s4.2.1, s4.2.2.1, s4.2.2.2.1, s4.2.2.2.2.1, s4.2.2.2.2.2.1, s4.2.2.2.2.2.2.1, s4.2.2.2.2.2.2.2.1, (wr (s4.2.2.2.2.2.2.2.2.1 + (1:Int))), ()))) (
      r3 (s4.1, s4.2.1, s4.2.2.1, s4.2.2.2.1, s4.2.2.2.2.1, s4.2.2.2.2.2.1, (wr (s4.2.2.2.2.2.2.2.1 + (1:Int))), s4.2.2.2.2.2.2.1, ()))) (s2.1, s2.2.1, s2.2.2.1, s2.2.2.2.1, s2.2.2.2.2.1, s2.2.2.2.2.2.1, s2.2.2.2.2.2.2.2.1, s2.2.2.2.2.2.2.1, (0:Int), ())) (
    loopFix K (fun r9 (s8 : Int × List (Vol) × List (Cell) × List (Age) × List (Node) × List (Int) × Int × Unit) =>
     br (decide (s8.2.2.2.2.2.2.1 < (List.length s8.2.2.2.1 : Int))) (
      inK s8.2.2.2.1 s8.2.2.2.2.2.2.1 <|
      idxK s8.2.2.2.1 s8.2.2.2.2.2.2.1 fun x10 =>
      bnd (spec_l13Age K s8.2.2.2.2.2.1 s8.2.2.2.2.1 s8.2.2.2.1 s8.2.2.1 s8.2.1 s8.1 x10.id) fun y11 =>
      br y11.1 (
       some ((4:Int), s8.2.2.2.2.2.2.1, ())) (
       r9 (s8.1, s8.2.1, s8.2.2.1, s8.2.2.2.1, s8.2.2.2.2.1, s8.2.2.2.2.2.1, (wr (s8.2.2.2.2.2.2.1 + (1:Int))), ()))) (
      some ((0:Int), (0:Int), ()))) (s2.1, s2.2.1, s2.2.2.1, s2.2.2.2.1, s2.2.2.2.2.1, s2.2.2.2.2.2.1, (0:Int), ()))) (a5, a4, a3, a2, a1, a0, (1:Int), y1.1, ()))
def spec_l13None (K : Nat) (a0 : List (Int)) (a1 : List (Node)) (a2 : List (Age)) (a3 : List (Cell)) (a4 : List (Vol)) (a5 : Int) (a6 : Int) (a7 : Int) (a8 : Int) (a9 : Int) (a10 : Int) : Option (Bool × List (Int) × List (Node) × List (Cell) × Unit) :=
 bnd (spec_l11Put K a0 a1 a2 a3 a4 a5 a6 a7 (0:Int) (0:Int) (0:Int)) fun y0 =>
 some (y0.1, y0.2.1, y0.2.2.1, y0.2.2.2.1, ())
def spec_CutAge (K : Nat) (a0 : List (Age)) (a1 : Int) : Option (List (Age) × Bool × Unit) :=
 bnd (spec_AgeAt K a0 a1) fun y0 =>
 br (decide (y0.1 < (0:Int))) (
  appK ([] : List (Age)) a0 fun z1 =>
  some (z1, false, ())) (
  bnd (spec_AgesOk K a0) fun y2 =>
  br (!y2.1) (
   appK ([] : List (Age)) a0 fun z3 =>
   some (z3, false, ())) (
   loopFix K (fun r5 (s4 : List (Age) × Int × List (Age) × Int × Int × Unit) =>
    br (decide (s4.2.2.2.2.1 < (List.length s4.2.2.1 : Int))) (
     joinK (fun s6 : Int × List (Age) × Int × List (Age) × Int × Unit =>
      r5 (s6.2.1, s6.2.2.1, s6.2.2.2.1, s6.2.2.2.2.1, (wr (s6.1 + (1:Int))), ())) fun j7 =>
     inK s4.2.2.1 s4.2.2.2.2.1 <|
     idxK s4.2.2.1 s4.2.2.2.2.1 fun x8 =>
     joinK (fun s9 : Int × Int × Int × List (Age) × Int × List (Age) × Int × Unit =>
      br (decide (s9.2.2.1 ≠ s9.2.2.2.2.2.2.1)) (
       appK s9.2.2.2.1 ([(⟨s9.2.1, s9.1⟩ : Age)] : List (Age)) fun z11 =>
       j7 (s9.2.2.1, z11, s9.2.2.2.2.1, s9.2.2.2.2.2.1, s9.2.2.2.2.2.2.1, ())) (
       j7 (s9.2.2.1, s9.2.2.2.1, s9.2.2.2.2.1, s9.2.2.2.2.2.1, s9.2.2.2.2.2.2.1, ()))) fun j10 =>
     br (decide (x8.from_ = s4.2.1)) (
      inK s4.2.2.1 s4.2.2.2.1 <|
      idxK s4.2.2.1 s4.2.2.2.1 fun x12 =>
      j10 (x12.from_, x8.id, s4.2.2.2.2.1, s4.1, s4.2.1, s4.2.2.1, s4.2.2.2.1, ())) (
      j10 (x8.from_, x8.id, s4.2.2.2.2.1, s4.1, s4.2.1, s4.2.2.1, s4.2.2.2.1, ()))) (
     some (s4.1, true, ()))) (([] : List (Age)), a1, a0, y0.1, (0:Int), ())))
def spec_PruneStep (K : Nat) (a0 : List (Int)) (a1 : List (Node)) (a2 : List (Age)) (a3 : List (Cell)) (a4 : List (Vol)) (a5 : Int) : Option (List (Int) × List (Node) × List (Age) × List (Cell) × List (Vol) × Int × Bool × Unit) :=
 bnd (spec_l10Copy K a0 a1 a2 a3 a4 a5) fun y0 =>
 bnd (spec_NextStep K a0 a1 a2 a3 a4 a5) fun y1 =>
 bnd (spec_TreeKeys K a0 a1) fun y2 =>
 joinK (fun s3 : Int × List (Vol) × List (Cell) × List (Age) × List (Node) × List (Int) × Int × List (Vol) × List (Cell) × List (Age) × List (Node) × List (Int) × Int × List (Vol) × List (Cell) × List (Age) × List (Node) × List (Int) × Bool × Unit =>
  br (!s3.2.2.2.2.2.2.2.2.2.2.2.2.2.2.2.2.2.2.1) (
   bnd (spec_l10Copy K s3.2.2.2.2.2.1 s3.2.2.2.2.1 s3.2.2.2.1 s3.2.2.1 s3.2.1 s3.1) fun y5 =>
   some (y5.1, y5.2.1, y5.2.2.1, y5.2.2.2.1, y5.2.2.2.2.1, y5.2.2.2.2.2.1, false, ())) (
   bnd (spec_PoolOk K s3.2.2.2.2.2.2.2.2.2.2.2.1 s3.2.2.2.2.2.2.2.2.2.2.1 s3.2.2.2.2.2.2.2.2.2.1 s3.2.2.2.2.2.2.2.2.1 s3.2.2.2.2.2.2.2.1 s3.2.2.2.2.2.2.1) fun y6 =>
   br (!y6.1) (
    bnd (spec_l10Copy K s3.2.2.2.2.2.1 s3.2.2.2.2.1 s3.2.2.2.1 s3.2.2.1 s3.2.1 s3.1) fun y7 =>
    some (y7.1, y7.2.1, y7.2.2.1, y7.2.2.2.1, y7.2.2.2.2.1, y7.2.2.2.2.2.1, false, ())) (
    some (s3.2.2.2.2.2.2.2.2.2.2.2.1, s3.2.2.2.2.2.2.2.2.2.2.1, s3.2.2.2.2.2.2.2.2.2.1, s3.2.2.2.2.2.2.2.2.1, s3.2.2.2.2.2.2.2.1, s3.2.2.2.2.2.2.1, true, ())))) fun j4 =>
 joinK (fun s8 : Int × List (Vol) × List (Cell) × List (Age) × List (Node) × List (Int) × Int × List (Vol) × List (Cell) × List (Age) × List (Node) × List (Int) × Int × List (Vol) × List (Cell) × List (Age) × List (Node) × List (Int) × Bool × List (Key) × Int × Int × Bool × Unit =>
  br s8.2.2.2.2.2.2.2.2.2.2.2.2.2.2.2.2.2.2.1 (
   inK s8.2.2.2.2.2.2.2.2.2.2.2.2.2.2.2.2.2.2.2.1 s8.2.2.2.2.2.2.2.2.2.2.2.2.2.2.2.2.2.2.2.2.2.1 <|
   idxK s8.2.2.2.2.2.2.2.2.2.2.2.2.2.2.2.2.2.2.2.1 s8.2.2.2.2.2.2.2.2.2.2.2.2.2.2.2.2.2.2.2.2.2.1 fun x10 =>
   bnd (spec_l13None K s8.2.2.2.2.2.2.2.2.2.2.2.1 s8.2.2.2.2.2.2.2.2.2.2.1 s8.2.2.2.2.2.2.2.2.2.1 s8.2.2.2.2.2.2.2.2.1 s8.2.2.2.2.2.2.2.1 s8.2.2.2.2.2.2.1 x10.blk x10.age x10.kind x10.cell x10.gen) fun y11 =>
   j4 (s8.1, s8.2.1, s8.2.2.1, s8.2.2.2.1, s8.2.2.2.2.1, s8.2.2.2.2.2.1, s8.2.2.2.2.2.2.1, s8.2.2.2.2.2.2.2.1, y11.2.2.2.1, s8.2.2.2.2.2.2.2.2.2.1, y11.2.2.1, y11.2.1, s8.2.2.2.2.2.2.2.2.2.2.2.2.1, s8.2.2.2.2.2.2.2.2.2.2.2.2.2.1, s8.2.2.2.2.2.2.2.2.2.2.2.2.2.2.1, s8.2.2.2.2.2.2.2.2.2.2.2.2.2.2.2.1, s8.2.2.2.2.2.2.2.2.2.2.2.2.2.2.2.2.1, s8.2.2.2.2.2.2.2.2.2.2.2.2.2.2.2.2.2.1, y11.1, ())) (
   br (decide (s8.2.2.2.2.2.2.2.2.2.2.2.2.2.2.2.2.2.2.2.2.1 = (3:Int))) (
    inK s8.2.2.2.2.2.2.2.2.2.2.2.2.2.2.2.2.2.2.2.1 s8.2.2.2.2.2.2.2.2.2.2.2.2.2.2.2.2.2.2.2.2.2.1 <|
    idxK s8.2.2.2.2.2.2.2.2.2.2.2.2.2.2.2.2.2.2.2.1 s8.2.2.2.2.2.2.2.2.2.2.2.2.2.2.2.2.2.2.2.2.2.1 fun x12 =>
    bnd (spec_TreePut K s8.2.2.2.2.2.2.2.2.2.2.2.1 s8.2.2.2.2.2.2.2.2.2.2.1 x12.blk x12.age (0:Int) (0:Int) (0:Int)) fun y13 =>
    bnd (spec_l13Kid K s8.2.2.2.2.2.1 s8.2.2.2.2.1 s8.2.2.2.1 s8.2.2.1 s8.2.1 s8.1 x12.age) fun y14 =>
    bnd (spec_TreePut K y13.1 y13.2.1 x12.blk y14.1 x12.kind x12.cell x12.gen) fun y15 =>
    br y13.2.2.1 (
     j4 (s8.1, s8.2.1, s8.2.2.1, s8.2.2.2.1, s8.2.2.2.2.1, s8.2.2.2.2.2.1, s8.2.2.2.2.2.2.1, s8.2.2.2.2.2.2.2.1, s8.2.2.2.2.2.2.2.2.1, s8.2.2.2.2.2.2.2.2.2.1, y15.2.1, y15.1, s8.2.2.2.2.2.2.2.2.2.2.2.2.1, s8.2.2.2.2.2.2.2.2.2.2.2.2.2.1, s8.2.2.2.2.2.2.2.2.2.2.2.2.2.2.1, s8.2.2.2.2.2.2.2.2.2.2.2.2.2.2.2.1, s8.2.2.2.2.2.2.2.2.2.2.2.2.2.2.2.2.1, s8.2.2.2.2.2.2.2.2.2.2.2.2.2.2.2.2.2.1, y15.2.2.1, ())) (
     j4 (s8.1, s8.2.1, s8.2.2.1, s8.2.2.2.1, s8.2.2.2.2.1, s8.2.2.2.2.2.1, s8.2.2.2.2.2.2.1, s8.2.2.2.2.2.2.2.1, s8.2.2.2.2.2.2.2.2.1, s8.2.2.2.2.2.2.2.2.2.1, y15.2.1, y15.1, s8.2.2.2.2.2.2.2.2.2.2.2.2.1, s8.2.2.2.2.2.2.2.2.2.2.2.2.2.1, s8.2.2.2.2.2.2.2.2.2.2.2.2.2.2.1, s8.2.2.2.2.2.2.2.2.2.2.2.2.2.2.2.1, s8.2.2.2.2.2.2.2.2.2.2.2.2.2.2.2.2.1, s8.2.2.2.2.2.2.2.2.2.2.2.2.2.2.2.2.2.1, false, ()))) (
    br (decide (s8.2.2.2.2.2.2.2.2.2.2.2.2.2.2.2.2.2.2.2.2.1 = (4:Int))) (
     inK s8.2.2.2.1 s8.2.2.2.2.2.2.2.2.2.2.2.2.2.2.2.2.2.2.2.2.2.1 <|
     idxK s8.2.2.2.1 s8.2.2.2.2.2.2.2.2.2.2.2.2.2.2.2.2.2.2.2.2.2.1 fun x16 =>
     bnd (spec_CutAge K s8.2.2.2.1 x16.id) fun y17 =>
     j4 (s8.1, s8.2.1, s8.2.2.1, s8.2.2.2.1, s8.2.2.2.2.1, s8.2.2.2.2.2.1, s8.2.2.2.2.2.2.1, s8.2.2.2.2.2.2.2.1, s8.2.2.2.2.2.2.2.2.1, y17.1, s8.2.2.2.2.2.2.2.2.2.2.1, s8.2.2.2.2.2.2.2.2.2.2.2.1, s8.2.2.2.2.2.2.2.2.2.2.2.2.1, s8.2.2.2.2.2.2.2.2.2.2.2.2.2.1, s8.2.2.2.2.2.2.2.2.2.2.2.2.2.2.1, s8.2.2.2.2.2.2.2.2.2.2.2.2.2.2.2.1, s8.2.2.2.2.2.2.2.2.2.2.2.2.2.2.2.2.1, s8.2.2.2.2.2.2.2.2.2.2.2.2.2.2.2.2.2.1, y17.2.1, ())) (
     j4 (s8.1, s8.2.1, s8.2.2.1, s8.2.2.2.1, s8.2.2.2.2.1, s8.2.2.2.2.2.1, s8.2.2.2.2.2.2.1, s8.2.2.2.2.2.2.2.1, s8.2.2.2.2.2.2.2.2.1, s8.2.2.2.2.2.2.2.2.2.1, s8.2.2.2.2.2.2.2.2.2.2.1, s8.2.2.2.2.2.2.2.2.2.2.2.1, s8.2.2.2.2.2.2.2.2.2.2.2.2.1, s8.2.2.2.2.2.2.2.2.2.2.2.2.2.1, s8.2.2.2.2.2.2.2.2.2.2.2.2.2.2.1, s8.2.2.2.2.2.2.2.2.2.2.2.2.2.2.2.1, s8.2.2.2.2.2.2.2.2.2.2.2.2.2.2.2.2.1, s8.2.2.2.2.2.2.2.2.2.2.2.2.2.2.2.2.2.1, s8.2.2.2.2.2.2.2.2.2.2.2.2.2.2.2.2.2.2.2.2.2.2.1, ()))))) fun j9 =>
 br (decide (y1.1 = (1:Int))) (
  j9 (a5, a4, a3, a2, a1, a0, y0.2.2.2.2.2.1, y0.2.2.2.2.1, y0.2.2.2.1, y0.2.2.1, y0.2.1, y0.1, (0:Int), ([] : List (Vol)), ([] : List (Cell)), ([] : List (Age)), ([] : List (Node)), ([] : List (Int)), true, y2.1, y1.1, y1.2.1, (decide (y1.1 ≠ (0:Int))), ())) (
  j9 (a5, a4, a3, a2, a1, a0, y0.2.2.2.2.2.1, y0.2.2.2.2.1, y0.2.2.2.1, y0.2.2.1, y0.2.1, y0.1, (0:Int), ([] : List (Vol)), ([] : List (Cell)), ([] : List (Age)), ([] : List (Node)), ([] : List (Int)), (decide (y1.1 = (2:Int))), y2.1, y1.1, y1.2.1, (decide (y1.1 ≠ (0:Int))), ()))
def spec_NodePack (K : Nat) (a0 : List (List (Key))) : Option (List (List (Key)) × Unit) :=
 bnd (spec_NodeKeys K a0) fun y0 =>
 bnd (spec_NodeNew K y0.1) fun y1 =>
 some (y1.1, ())
def spec_TreePack (K : Nat) (a0 : List (Int)) (a1 : List (Node)) (a2 : Int) : Option (List (Int) × List (Node) × Unit) :=
 bnd (spec_l6Copy K a0 a1) fun y0 =>
 joinK (fun s1 : List (Node) × List (Int) × List (Node) × List (Int) × Unit =>
  some (s1.2.1, s1.1, ())) fun j2 =>
 bnd (spec_l1In K a2 (0:Int) (wr ((List.length a1 : Int) - (1:Int)))) fun y3 =>
 br y3.1 (
  inK a1 a2 <|
  idxK a1 a2 fun x4 =>
  bnd (spec_NodePack K x4.sets) fun y5 =>
  inK y0.2.1 a2 <|
  idxK y0.2.1 a2 fun x6 =>
  j2 ((List.set y0.2.1 (Int.toNat a2) (⟨y5.1⟩ : Node)), y0.1, ([] : List (Node)), ([] : List (Int)), ())) (
  j2 (y0.2.1, y0.1, ([] : List (Node)), ([] : List (Int)), ()))
def spec_PackStep (K : Nat) (a0 : List (Int)) (a1 : List (Node)) (a2 : List (Age)) (a3 : List (Cell)) (a4 : List (Vol)) (a5 : Int) (a6 : Int) : Option (List (Int) × List (Node) × List (Age) × List (Cell) × List (Vol) × Int × Bool × Unit) :=
 bnd (spec_l10Copy K a0 a1 a2 a3 a4 a5) fun y0 =>
 bnd (spec_PoolOk K a0 a1 a2 a3 a4 a5) fun y1 =>
 br (!y1.1) (
  some (y0.1, y0.2.1, y0.2.2.1, y0.2.2.2.1, y0.2.2.2.2.1, y0.2.2.2.2.2.1, false, ())) (
  bnd (spec_l1In K a6 (0:Int) (wr ((List.length a1 : Int) - (1:Int)))) fun y2 =>
  br (!y2.1) (
   some (y0.1, y0.2.1, y0.2.2.1, y0.2.2.2.1, y0.2.2.2.2.1, y0.2.2.2.2.2.1, false, ())) (
   bnd (spec_TreePack K a0 a1 a6) fun y3 =>
   some (y3.1, y3.2.1, y0.2.2.1, y0.2.2.2.1, y0.2.2.2.2.1, y0.2.2.2.2.2.1, true, ())))
def spec_l14Key (K : Nat) (a0 : List (Int)) (a1 : List (Node)) (a2 : List (Age)) (a3 : List (Cell)) (a4 : List (Vol)) (a5 : Int) (a6 : Int) : Option (Int × Int × Int × Int × Int × Unit) :=
 bnd (spec_TreeKeys K a0 a1) fun y0 =>
 loopFix K (fun r2 (s1 : Int × Int × Int × Int × Int × Int × List (Key) × Int × Unit) =>
  br (decide (s1.2.2.2.2.2.2.2.1 < (List.length s1.2.2.2.2.2.2.1 : Int))) (
   inK s1.2.2.2.2.2.2.1 s1.2.2.2.2.2.2.2.1 <|
   idxK s1.2.2.2.2.2.2.1 s1.2.2.2.2.2.2.2.1 fun x3 =>
   br (decide (x3.kind = (1:Int))) (
    inK s1.2.2.2.2.2.2.1 s1.2.2.2.2.2.2.2.1 <|
    idxK s1.2.2.2.2.2.2.1 s1.2.2.2.2.2.2.2.1 fun x4 =>
    br (decide (x4.cell = s1.2.2.2.2.2.1)) (
     inK s1.2.2.2.2.2.2.1 s1.2.2.2.2.2.2.2.1 <|
     idxK s1.2.2.2.2.2.2.1 s1.2.2.2.2.2.2.2.1 fun x5 =>
     some (x5.blk, x5.age, x5.kind, x5.cell, x5.gen, ())) (
     r2 (s1.1, s1.2.1, s1.2.2.1, s1.2.2.2.1, s1.2.2.2.2.1, s1.2.2.2.2.2.1, s1.2.2.2.2.2.2.1, (wr (s1.2.2.2.2.2.2.2.1 + (1:Int))), ()))) (
    r2 (s1.1, s1.2.1, s1.2.2.1, s1.2.2.2.1, s1.2.2.2.2.1, s1.2.2.2.2.2.1, s1.2.2.2.2.2.2.1, (wr (s1.2.2.2.2.2.2.2.1 + (1:Int))), ()))) (
   some ((0:Int), (0:Int), (0:Int), (0:Int), (0:Int), ()))) ((0:Int), (0:Int), (0:Int), (0:Int), (0:Int), a6, y0.1, (0:Int), ())
def spec_MoveStep (K : Nat) (a0 : List (Int)) (a1 : List (Node)) (a2 : List (Age)) (a3 : List (Cell)) (a4 : List (Vol)) (a5 : Int) (a6 : Int) : Option (List (Int) × List (Node) × List (Age) × List (Cell) × List (Vol) × Int × Bool × Unit) :=
 bnd (spec_l10Copy K a0 a1 a2 a3 a4 a5) fun y0 =>
 bnd (spec_PoolOk K a0 a1 a2 a3 a4 a5) fun y1 =>
 br (!y1.1) (
  some (y0.1, y0.2.1, y0.2.2.1, y0.2.2.2.1, y0.2.2.2.2.1, y0.2.2.2.2.2.1, false, ())) (
  bnd (spec_l1In K a6 (0:Int) (wr ((List.length a3 : Int) - (1:Int)))) fun y2 =>
  br (!y2.1) (
   some (y0.1, y0.2.1, y0.2.2.1, y0.2.2.2.1, y0.2.2.2.2.1, y0.2.2.2.2.2.1, false, ())) (
   inK a3 a6 <|
   idxK a3 a6 fun x3 =>
   br (!x3.used) (
    some (y0.1, y0.2.1, y0.2.2.1, y0.2.2.2.1, y0.2.2.2.2.1, y0.2.2.2.2.2.1, false, ())) (
    bnd (spec_l14Key K a0 a1 a2 a3 a4 a5 a6) fun y4 =>
    inK a3 a6 <|
    idxK a3 a6 fun x5 =>
    bnd (spec_TakeCell K a3 x5.n) fun y6 =>
    br (!y6.2.2.1) (
     some (y0.1, y0.2.1, y0.2.2.1, y0.2.2.2.1, y0.2.2.2.2.1, y0.2.2.2.2.2.1, false, ())) (
     br (decide (y6.2.1 > a6)) (
      some (y0.1, y0.2.1, y0.2.2.1, y0.2.2.2.1, y0.2.2.2.2.1, y0.2.2.2.2.2.1, false, ())) (
      inK y6.1 y6.2.1 <|
      idxK y6.1 y6.2.1 fun x7 =>
      bnd (spec_TreePut K a0 a1 y4.1 y4.2.1 y4.2.2.1 y6.2.1 x7.gen) fun y8 =>
      bnd (spec_FreeCell K y6.1 a6) fun y9 =>
      br (!y8.2.2.1) (
       bnd (spec_l10Copy K a0 a1 a2 a3 a4 a5) fun y10 =>
       some (y10.1, y10.2.1, y10.2.2.1, y10.2.2.2.1, y10.2.2.2.2.1, y10.2.2.2.2.2.1, false, ())) (
       bnd (spec_PoolOk K y8.1 y8.2.1 y0.2.2.1 y9.1 y0.2.2.2.2.1 y0.2.2.2.2.2.1) fun y11 =>
       br (!y11.1) (
        bnd (spec_l10Copy K a0 a1 a2 a3 a4 a5) fun y12 =>
        some (y12.1, y12.2.1, y12.2.2.1, y12.2.2.2.1, y12.2.2.2.2.1, y12.2.2.2.2.2.1, false, ())) (
        some (y8.1, y8.2.1, y0.2.2.1, y9.1, y0.2.2.2.2.1, y0.2.2.2.2.2.1, true, ()))))))))
def spec_l15Step (K : Nat) (a0 : List (Int)) (a1 : List (Node)) (a2 : List (Age)) (a3 : List (Cell)) (a4 : List (Vol)) (a5 : Int) (a6 : Int) (a7 : List Int) (a8 : List Int) (a9 : Int) (a10 : Int) : Option (List (Int) × List (Node) × List (Age) × List (Cell) × List (Vol) × Int × Bool × Unit) :=
 br (decide (a6 = (7:Int))) (
  bnd (spec_PruneStep K a0 a1 a2 a3 a4 a5) fun y0 =>
  some (y0.1, y0.2.1, y0.2.2.1, y0.2.2.2.1, y0.2.2.2.2.1, y0.2.2.2.2.2.1, y0.2.2.2.2.2.2.1, ())) (
  br (decide (a6 = (8:Int))) (
   bnd (spec_PackStep K a0 a1 a2 a3 a4 a5 a9) fun y1 =>
   some (y1.1, y1.2.1, y1.2.2.1, y1.2.2.2.1, y1.2.2.2.2.1, y1.2.2.2.2.2.1, y1.2.2.2.2.2.2.1, ())) (
   bnd (spec_MoveStep K a0 a1 a2 a3 a4 a5 a9) fun y2 =>
   some (y2.1, y2.2.1, y2.2.2.1, y2.2.2.2.1, y2.2.2.2.2.1, y2.2.2.2.2.2.1, y2.2.2.2.2.2.2.1, ())))
def spec_Apply (K : Nat) (a0 : List (Int)) (a1 : List (Node)) (a2 : List (Age)) (a3 : List (Cell)) (a4 : List (Vol)) (a5 : Int) (a6 : Int) (a7 : List Int) (a8 : List Int) (a9 : Int) (a10 : Int) : Option (List (Int) × List (Node) × List (Age) × List (Cell) × List (Vol) × Int × Int × Unit) :=
 bnd (spec_OpOk K a6 a7 a8 a9 a10) fun y0 =>
 br (!y0.1) (
  bnd (spec_l10Copy K a0 a1 a2 a3 a4 a5) fun y1 =>
  some (y1.1, y1.2.1, y1.2.2.1, y1.2.2.2.1, y1.2.2.2.2.1, y1.2.2.2.2.2.1, (1:Int), ())) (
  bnd (spec_PoolOk K a0 a1 a2 a3 a4 a5) fun y2 =>
  br (!y2.1) (
   bnd (spec_l10Copy K a0 a1 a2 a3 a4 a5) fun y3 =>
   some (y3.1, y3.2.1, y3.2.2.1, y3.2.2.2.1, y3.2.2.2.2.1, y3.2.2.2.2.2.1, (1:Int), ())) (
   br (decide (a6 = (1:Int))) (
    bnd (spec_Create K a0 a1 a2 a3 a4 a5 a7 a9) fun y4 =>
    some (y4.1, y4.2.1, y4.2.2.1, y4.2.2.2.1, y4.2.2.2.2.1, y4.2.2.2.2.2.1, y4.2.2.2.2.2.2.1, ())) (
    br (decide (a6 = (2:Int))) (
     bnd (spec_Snap K a0 a1 a2 a3 a4 a5 a7 a8 (decide (a10 = (1:Int)))) fun y5 =>
     some (y5.1, y5.2.1, y5.2.2.1, y5.2.2.2.1, y5.2.2.2.2.1, y5.2.2.2.2.2.1, y5.2.2.2.2.2.2.1, ())) (
     br (decide (a6 = (3:Int))) (
      bnd (spec_Kill K a0 a1 a2 a3 a4 a5 a7) fun y6 =>
      some (y6.1, y6.2.1, y6.2.2.1, y6.2.2.2.1, y6.2.2.2.2.1, y6.2.2.2.2.2.1, y6.2.2.2.2.2.2.1, ())) (
      br (decide (a6 = (4:Int))) (
       bnd (spec_Write K a0 a1 a2 a3 a4 a5 a7 a9 a10) fun y7 =>
       some (y7.1, y7.2.1, y7.2.2.1, y7.2.2.2.1, y7.2.2.2.2.1, y7.2.2.2.2.2.1, y7.2.2.2.2.2.2.1, ())) (
       br (decide (a6 = (5:Int))) (
        bnd (spec_Discard K a0 a1 a2 a3 a4 a5 a7 a9) fun y8 =>
        some (y8.1, y8.2.1, y8.2.2.1, y8.2.2.2.1, y8.2.2.2.2.1, y8.2.2.2.2.2.1, y8.2.2.2.2.2.2.1, ())) (
        br (decide (a6 = (6:Int))) (
         bnd (spec_Resize K a0 a1 a2 a3 a4 a5 a7 a9) fun y9 =>
         some (y9.1, y9.2.1, y9.2.2.1, y9.2.2.2.1, y9.2.2.2.2.1, y9.2.2.2.2.2.1, y9.2.2.2.2.2.2.1, ())) (
         bnd (spec_l15Step K a0 a1 a2 a3 a4 a5 a6 a7 a8 a9 a10) fun y10 =>
         br (!y10.2.2.2.2.2.2.1) (
          some (y10.1, y10.2.1, y10.2.2.1, y10.2.2.2.1, y10.2.2.2.2.1, y10.2.2.2.2.2.1, (2:Int), ())) (
          some (y10.1, y10.2.1, y10.2.2.1, y10.2.2.2.1, y10.2.2.2.2.1, y10.2.2.2.2.2.1, (0:Int), ()))))))))))
def spec_l10Draw (K : Nat) (a0 : List (Int)) (a1 : Int) (a2 : Int) (a3 : Int) : Option (List (Int) × List (Node) × List (Age) × List (Cell) × List (Vol) × Int × Int × Int × Unit) :=
 bnd (spec_PoolNew K) fun y0 =>
 bnd (spec_l1Below K a0 a1 a2 (wr (a3 + (1:Int)))) fun y1 =>
 loopFix K (fun r3 (s2 : Int × List (Vol) × List (Cell) × List (Age) × List (Node) × List (Int) × Int × List (Vol) × List (Cell) × List (Age) × List (Node) × List (Int) × Int × List (Int) × Int × Int × Unit) =>
  br (decide (s2.2.2.2.2.2.2.2.2.2.2.2.2.1 > (0:Int))) (
   bnd (spec_l15Draw K s2.2.2.2.2.2.2.2.2.2.2.2.2.2.1 s2.2.2.2.2.2.2.2.2.2.2.2.2.2.2.1 s2.2.2.2.2.2.2.2.2.2.2.2.2.2.2.2.1) fun y4 =>
   bnd (spec_Apply K s2.2.2.2.2.2.2.2.2.2.2.2.1 s2.2.2.2.2.2.2.2.2.2.2.1 s2.2.2.2.2.2.2.2.2.2.1 s2.2.2.2.2.2.2.2.2.1 s2.2.2.2.2.2.2.2.1 s2.2.2.2.2.2.2.1 y4.1 y4.2.1 y4.2.2.1 y4.2.2.2.1 y4.2.2.2.2.1) fun y5 =>
   r3 (s2.1, s2.2.1, s2.2.2.1, s2.2.2.2.1, s2.2.2.2.2.1, s2.2.2.2.2.2.1, y5.2.2.2.2.2.1, y5.2.2.2.2.1, y5.2.2.2.1, y5.2.2.1, y5.2.1, y5.1, (wr (s2.2.2.2.2.2.2.2.2.2.2.2.2.1 - (1:Int))), s2.2.2.2.2.2.2.2.2.2.2.2.2.2.1, y4.2.2.2.2.2.1, y4.2.2.2.2.2.2.1, ())) (
   some (s2.2.2.2.2.2.2.2.2.2.2.2.1, s2.2.2.2.2.2.2.2.2.2.2.1, s2.2.2.2.2.2.2.2.2.2.1, s2.2.2.2.2.2.2.2.2.1, s2.2.2.2.2.2.2.2.1, s2.2.2.2.2.2.2.1, s2.2.2.2.2.2.2.2.2.2.2.2.2.2.2.1, s2.2.2.2.2.2.2.2.2.2.2.2.2.2.2.2.1, ()))) ((0:Int), ([] : List (Vol)), ([] : List (Cell)), ([] : List (Age)), ([] : List (Node)), ([] : List (Int)), y0.2.2.2.2.2.1, y0.2.2.2.2.1, y0.2.2.2.1, y0.2.2.1, y0.2.1, y0.1, y1.1, a0, y1.2.1, y1.2.2.1, ())
def spec_DrawPool_v (K : Nat) (a0 : List (Int)) : Option (List (Int) × List (Node) × List (Age) × List (Cell) × List (Vol) × Int × Int × List Int × List Int × Int × Int × Unit) :=
 bnd (spec_l1New_v K a0) fun y0 =>
 bnd (spec_l1Size K a0 (30:Int)) fun y1 =>
 bnd (spec_l10Draw K y0.1 y0.2.1 y0.2.2.1 (wr ((8:Int) + y1.1))) fun y2 =>
 bnd (spec_l15Draw K y0.1 y2.2.2.2.2.2.2.1 y2.2.2.2.2.2.2.2.1) fun y3 =>
 some (y2.1, y2.2.1, y2.2.2.1, y2.2.2.2.1, y2.2.2.2.2.1, y2.2.2.2.2.2.1, y3.1, y3.2.1, y3.2.2.1, y3.2.2.2.1, y3.2.2.2.2.1, ())
def impl_VolAt_1 (K : Nat) (a0 : List Int) (a1 : Int) (a2 : Int) (a3 : Bool) (a4 : List Int) : Option (Bool × Unit) :=
 some ((decide (a0 = a4)), ())
def slices_IndexFunc__impl_Vol_impl_Vol_impl_VolAt_1 (K : Nat) (a0 : List (Vol)) (a1 : List Int) : Option (Int × Unit) :=
 loopFix K (fun r1 (s0 : List (Vol) × Int × Int × List Int × Unit) =>
  br (decide (s0.2.1 < s0.2.2.1)) (
   inK s0.1 s0.2.1 <|
   idxK s0.1 s0.2.1 fun x2 =>
   bnd (impl_VolAt_1 K x2.name x2.age x2.size x2.fixed s0.2.2.2.1) fun y3 =>
   br y3.1 (
    some (s0.2.1, ())) (
    r1 (s0.1, (wr (s0.2.1 + (1:Int))), s0.2.2.1, s0.2.2.2.1, ()))) (
   some ((-1:Int), ()))) (a0, (0:Int), (List.length a0 : Int), a1, ())
def impl_VolAt (K : Nat) (a0 : List (Int)) (a1 : List (Node)) (a2 : List (Age)) (a3 : List (Cell)) (a4 : List (Vol)) (a5 : Int) (a6 : List Int) : Option (Int × Unit) :=
 bnd (slices_IndexFunc__impl_Vol_impl_Vol_impl_VolAt_1 K a4 a6) fun y0 =>
 some (y0.1, ())
def impl_within (K : Nat) (a0 : Int) (a1 : Int) (a2 : Int) : Option (Bool × Unit) :=
 br (decide (a0 ≥ a1)) (
  some ((decide (a0 ≤ a2)), ())) (
  some (false, ()))
def impl_KeyOk (K : Nat) (a0 : Int) (a1 : Int) (a2 : Int) (a3 : Int) (a4 : Int) : Option (Bool × Unit) :=
 bnd (impl_within K a0 (0:Int) (15:Int)) fun y0 =>
 br (!y0.1) (
  some (false, ())) (
  bnd (impl_within K a1 (1:Int) (60:Int)) fun y1 =>
  br (!y1.1) (
   some (false, ())) (
   bnd (impl_within K a2 (0:Int) (2:Int)) fun y2 =>
   br (!y2.1) (
    some (false, ())) (
    br (decide (a2 ≠ (1:Int))) (
     br (decide (a3 = (0:Int))) (
      some ((decide (a4 = (0:Int))), ())) (
      some (false, ()))) (
     bnd (impl_within K a3 (0:Int) (23:Int)) fun y3 =>
     br y3.1 (
      bnd (impl_within K a4 (0:Int) (999:Int)) fun y4 =>
      some (y4.1, ())) (
      some (false, ()))))))
def impl_LessKey (K : Nat) (a0 : Int) (a1 : Int) (a2 : Int) (a3 : Int) (a4 : Int) (a5 : Int) (a6 : Int) (a7 : Int) (a8 : Int) (a9 : Int) : Option (Bool × Unit) :=
 br (decide (a0 < a5)) (
  some (true, ())) (
  br (decide (a0 = a5)) (
   some ((decide (a1 < a6)), ())) (
   some (false, ())))
def impl_SetOk (K : Nat) (a0 : List (Key)) : Option (Bool × Unit) :=
 loopFix K (fun r1 (s0 : List (Key) × List (Key) × Int × Int × Unit) =>
  br (decide (s0.2.2.1 < s0.2.2.2.1)) (
   inK s0.2.1 s0.2.2.1 <|
   idxK s0.2.1 s0.2.2.1 fun x2 =>
   bnd (impl_KeyOk K x2.blk x2.age x2.kind x2.cell x2.gen) fun y3 =>
   br (!y3.1) (
    some (false, ())) (
    br (decide (s0.2.2.1 > (0:Int))) (
     inK s0.1 (wr (s0.2.2.1 - (1:Int))) <|
     idxK s0.1 (wr (s0.2.2.1 - (1:Int))) fun x4 =>
     bnd (impl_LessKey K x4.blk x4.age x4.kind x4.cell x4.gen x2.blk x2.age x2.kind x2.cell x2.gen) fun y5 =>
     br (!y5.1) (
      some (false, ())) (
      r1 (s0.1, s0.2.1, (wr (s0.2.2.1 + (1:Int))), s0.2.2.2.1, ()))) (
     r1 (s0.1, s0.2.1, (wr (s0.2.2.1 + (1:Int))), s0.2.2.2.1, ())))) (
   some ((decide ((List.length s0.1 : Int) ≤ (60:Int))), ()))) (a0, a0, (0:Int), (List.length a0 : Int), ())
def impl_NodeOk (K : Nat) (a0 : List (List (Key))) : Option (Bool × Unit) :=
 loopFix K (fun r1 (s0 : List (List (Key)) × Int × List (List (Key)) × Int × Int × Unit) =>
  br (decide (s0.2.2.2.1 < s0.2.2.2.2.1)) (
   inK s0.2.2.1 s0.2.2.2.1 <|
   idxK s0.2.2.1 s0.2.2.2.1 fun x2 =>
   bnd (impl_SetOk K x2) fun y3 =>
   br (!y3.1) (
    some (false, ())) (
    br (decide ((List.length x2 : Int) = (0:Int))) (
     some (false, ())) (
     r1 (s0.1, (wr (s0.2.1 + (List.length x2 : Int))), s0.2.2.1, (wr (s0.2.2.2.1 + (1:Int))), s0.2.2.2.2.1, ())))) (
   br (decide ((List.length s0.1 : Int) ≤ (3:Int))) (
    some ((decide (s0.2.1 ≤ (8:Int))), ())) (
    some (false, ())))) (a0, (0:Int), a0, (0:Int), (List.length a0 : Int), ())
def impl_SpotOf (K : Nat) (a0 : Int) (a1 : Int) : Option (Int × Unit) :=
 some ((wr ((wr ((64:Int) * a0)) + a1)), ())
def impl_inBounds (K : Nat) (a0 : List (Int)) (a1 : List (Node)) (a2 : Int) : Option (Bool × Unit) :=
 inK a1 a2 <|
 idxK a1 a2 fun x0 =>
 loopFix K (fun r2 (s1 : List (Node) × List (Int) × List (List (Key)) × Int × Int × Int × Unit) =>
  br (decide (s1.2.2.2.1 < s1.2.2.2.2.2.1)) (
   inK s1.2.2.1 s1.2.2.2.1 <|
   idxK s1.2.2.1 s1.2.2.2.1 fun x3 =>
   loopFix K (fun r5 (s4 : List (Node) × List (Int) × Int × Int × List (List (Key)) × Int × List (Key) × Int × Int × Unit) =>
    br (decide (s4.2.2.2.2.2.2.2.1 < s4.2.2.2.2.2.2.2.2.1)) (
     inK s4.2.2.2.2.2.2.1 s4.2.2.2.2.2.2.2.1 <|
     idxK s4.2.2.2.2.2.2.1 s4.2.2.2.2.2.2.2.1 fun x6 =>
     bnd (impl_SpotOf K x6.blk x6.age) fun y7 =>
     inK s4.2.1 s4.2.2.2.1 <|
     idxK s4.2.1 s4.2.2.2.1 fun x8 =>
     br (decide (y7.1 < x8)) (
      some (false, ())) (
      br (decide ((wr (s4.2.2.2.1 + (1:Int))) < (List.length s4.2.1 : Int))) (
       inK s4.2.1 (wr (s4.2.2.2.1 + (1:Int))) <|
       idxK s4.2.1 (wr (s4.2.2.2.1 + (1:Int))) fun x9 =>
       br (decide (y7.1 ≥ x9)) (
        some (false, ())) (
        r5 (s4.1, s4.2.1, s4.2.2.1, s4.2.2.2.1, s4.2.2.2.2.1, s4.2.2.2.2.2.1, s4.2.2.2.2.2.2.1, (wr (s4.2.2.2.2.2.2.2.1 + (1:Int))), s4.2.2.2.2.2.2.2.2.1, ()))) (
       r5 (s4.1, s4.2.1, s4.2.2.1, s4.2.2.2.1, s4.2.2.2.2.1, s4.2.2.2.2.2.1, s4.2.2.2.2.2.2.1, (wr (s4.2.2.2.2.2.2.2.1 + (1:Int))), s4.2.2.2.2.2.2.2.2.1, ())))) (
     r2 (s4.1, s4.2.1, s4.2.2.2.2.1, (wr (s4.2.2.2.2.2.1 + (1:Int))), s4.2.2.2.1, s4.2.2.1, ()))) (s1.1, s1.2.1, s1.2.2.2.2.2.1, s1.2.2.2.2.1, s1.2.2.1, s1.2.2.2.1, x3, (0:Int), (List.length x3 : Int), ())) (
   some (true, ()))) (a1, a0, x0.sets, (0:Int), a2, (List.length x0.sets : Int), ())
def impl_copyKeys (K : Nat) (a0 : List (Key)) : Option (List (Key) × Unit) :=
 appK ([] : List (Key)) a0 fun z0 =>
 some (z0, ())
def impl_SameSpot (K : Nat) (a0 : Int) (a1 : Int) (a2 : Int) (a3 : Int) (a4 : Int) (a5 : Int) (a6 : Int) (a7 : Int) (a8 : Int) (a9 : Int) : Option (Bool × Unit) :=
 br (decide (a0 = a5)) (
  some ((decide (a1 = a6)), ())) (
  some (false, ()))
def impl_SetPut (K : Nat) (a0 : List (Key)) (a1 : Int) (a2 : Int) (a3 : Int) (a4 : Int) (a5 : Int) : Option (List (Key) × Unit) :=
 loopFix K (fun r1 (s0 : Int × Int × Int × Int × Int × List (Key) × Bool × List (Key) × Int × Int × Unit) =>
  br (decide (s0.2.2.2.2.2.2.2.2.1 < s0.2.2.2.2.2.2.2.2.2.1)) (
   joinK (fun s2 : Int × Int × Int × Int × Int × Int × List (Key) × Bool × List (Key) × Int × Unit =>
    r1 (s2.1, s2.2.1, s2.2.2.1, s2.2.2.2.1, s2.2.2.2.2.1, s2.2.2.2.2.2.2.1, s2.2.2.2.2.2.2.2.1, s2.2.2.2.2.2.2.2.2.1, (wr (s2.2.2.2.2.2.1 + (1:Int))), s2.2.2.2.2.2.2.2.2.2.1, ())) fun j3 =>
   inK s0.2.2.2.2.2.2.2.1 s0.2.2.2.2.2.2.2.2.1 <|
   idxK s0.2.2.2.2.2.2.2.1 s0.2.2.2.2.2.2.2.2.1 fun x4 =>
   joinK (fun s5 : Int × Int × Int × Int × Int × Int × Int × Int × Int × Int × Int × List (Key) × Bool × List (Key) × Int × Unit =>
    bnd (impl_SameSpot K s5.2.2.2.2.1 s5.2.2.2.1 s5.2.2.1 s5.2.1 s5.1 s5.2.2.2.2.2.2.2.2.2.1 s5.2.2.2.2.2.2.2.2.1 s5.2.2.2.2.2.2.2.1 s5.2.2.2.2.2.2.1 s5.2.2.2.2.2.1) fun y7 =>
    br (!y7.1) (
     appK s5.2.2.2.2.2.2.2.2.2.2.2.1 ([(⟨s5.2.2.2.2.1, s5.2.2.2.1, s5.2.2.1, s5.2.1, s5.1⟩ : Key)] : List (Key)) fun z8 =>
     j3 (s5.2.2.2.2.2.1, s5.2.2.2.2.2.2.1, s5.2.2.2.2.2.2.2.1, s5.2.2.2.2.2.2.2.2.1, s5.2.2.2.2.2.2.2.2.2.1, s5.2.2.2.2.2.2.2.2.2.2.1, z8, s5.2.2.2.2.2.2.2.2.2.2.2.2.1, s5.2.2.2.2.2.2.2.2.2.2.2.2.2.1, s5.2.2.2.2.2.2.2.2.2.2.2.2.2.2.1, ())) (
     j3 (s5.2.2.2.2.2.1, s5.2.2.2.2.2.2.1, s5.2.2.2.2.2.2.2.1, s5.2.2.2.2.2.2.2.2.1, s5.2.2.2.2.2.2.2.2.2.1, s5.2.2.2.2.2.2.2.2.2.2.1, s5.2.2.2.2.2.2.2.2.2.2.2.1, s5.2.2.2.2.2.2.2.2.2.2.2.2.1, s5.2.2.2.2.2.2.2.2.2.2.2.2.2.1, s5.2.2.2.2.2.2.2.2.2.2.2.2.2.2.1, ()))) fun j6 =>
   br (!s0.2.2.2.2.2.2.1) (
    bnd (impl_LessKey K x4.blk x4.age x4.kind x4.cell x4.gen s0.2.2.2.2.1 s0.2.2.2.1 s0.2.2.1 s0.2.1 s0.1) fun y9 =>
    br (!y9.1) (
     appK s0.2.2.2.2.2.1 ([(⟨s0.2.2.2.2.1, s0.2.2.2.1, s0.2.2.1, s0.2.1, s0.1⟩ : Key)] : List (Key)) fun z10 =>
     j6 (x4.gen, x4.cell, x4.kind, x4.age, x4.blk, s0.1, s0.2.1, s0.2.2.1, s0.2.2.2.1, s0.2.2.2.2.1, s0.2.2.2.2.2.2.2.2.1, z10, true, s0.2.2.2.2.2.2.2.1, s0.2.2.2.2.2.2.2.2.2.1, ())) (
     j6 (x4.gen, x4.cell, x4.kind, x4.age, x4.blk, s0.1, s0.2.1, s0.2.2.1, s0.2.2.2.1, s0.2.2.2.2.1, s0.2.2.2.2.2.2.2.2.1, s0.2.2.2.2.2.1, s0.2.2.2.2.2.2.1, s0.2.2.2.2.2.2.2.1, s0.2.2.2.2.2.2.2.2.2.1, ()))) (
    j6 (x4.gen, x4.cell, x4.kind, x4.age, x4.blk, s0.1, s0.2.1, s0.2.2.1, s0.2.2.2.1, s0.2.2.2.2.1, s0.2.2.2.2.2.2.2.2.1, s0.2.2.2.2.2.1, s0.2.2.2.2.2.2.1, s0.2.2.2.2.2.2.2.1, s0.2.2.2.2.2.2.2.2.2.1, ()))) (
   joinK (fun s11 : List (Key) × Unit =>
    some (s11.1, ())) fun j12 =>
   br (!s0.2.2.2.2.2.2.1) (
    appK s0.2.2.2.2.2.1 ([(⟨s0.2.2.2.2.1, s0.2.2.2.1, s0.2.2.1, s0.2.1, s0.1⟩ : Key)] : List (Key)) fun z13 =>
    j12 (z13, ())) (
    j12 (s0.2.2.2.2.2.1, ())))) (a5, a4, a3, a2, a1, ([] : List (Key)), false, a0, (0:Int), (List.length a0 : Int), ())
def impl_MergeSets (K : Nat) (a0 : List (Key)) (a1 : List (Key)) : Option (List (Key) × Unit) :=
 bnd (impl_copyKeys K a0) fun y0 =>
 loopFix K (fun r2 (s1 : List (Key) × List (Key) × Int × Int × Unit) =>
  br (decide (s1.2.2.1 < s1.2.2.2.1)) (
   inK s1.2.1 s1.2.2.1 <|
   idxK s1.2.1 s1.2.2.1 fun x3 =>
   bnd (impl_SetPut K s1.1 x3.blk x3.age x3.kind x3.cell x3.gen) fun y4 =>
   r2 (y4.1, s1.2.1, (wr (s1.2.2.1 + (1:Int))), s1.2.2.2.1, ())) (
   some (s1.1, ()))) (y0.1, a1, (0:Int), (List.length a1 : Int), ())
def impl_Drop (K : Nat) (a0 : List (Key)) : Option (List (Key) × Unit) :=
 loopFix K (fun r1 (s0 : List (Key) × List (Key) × Int × Int × Unit) =>
  br (decide (s0.2.2.1 < s0.2.2.2.1)) (
   joinK (fun s2 : Int × List (Key) × List (Key) × Int × Unit =>
    r1 (s2.2.1, s2.2.2.1, (wr (s2.1 + (1:Int))), s2.2.2.2.1, ())) fun j3 =>
   inK s0.2.1 s0.2.2.1 <|
   idxK s0.2.1 s0.2.2.1 fun x4 =>
   br (decide (x4.kind ≠ (0:Int))) (
    appK s0.1 ([(⟨x4.blk, x4.age, x4.kind, x4.cell, x4.gen⟩ : Key)] : List (Key)) fun z5 =>
    j3 (s0.2.2.1, z5, s0.2.1, s0.2.2.2.1, ())) (
    j3 (s0.2.2.1, s0.1, s0.2.1, s0.2.2.2.1, ()))) (
   some (s0.1, ()))) (([] : List (Key)), a0, (0:Int), (List.length a0 : Int), ())
def impl_NodeKeys (K : Nat) (a0 : List (List (Key))) : Option (List (Key) × Unit) :=
 loopFix K (fun r1 (s0 : List (Key) × List (List (Key)) × Int × Int × Unit) =>
  br (decide (s0.2.2.1 < s0.2.2.2.1)) (
   inK s0.2.1 s0.2.2.1 <|
   idxK s0.2.1 s0.2.2.1 fun x2 =>
   bnd (impl_MergeSets K s0.1 x2) fun y3 =>
   r1 (y3.1, s0.2.1, (wr (s0.2.2.1 + (1:Int))), s0.2.2.2.1, ())) (
   bnd (impl_Drop K s0.1) fun y4 =>
   some (y4.1, ()))) (([] : List (Key)), a0, (0:Int), (List.length a0 : Int), ())
def impl_TreeOk (K : Nat) (a0 : List (Int)) (a1 : List (Node)) : Option (Bool × Unit) :=
 bnd (impl_within K (List.length a1 : Int) (1:Int) (20:Int)) fun y0 =>
 br (!y0.1) (
  some (false, ())) (
  br (decide ((List.length a0 : Int) ≠ (List.length a1 : Int))) (
   some (false, ())) (
   inK a0 (0:Int) <|
   idxK a0 (0:Int) fun x1 =>
   br (decide (x1 ≠ (0:Int))) (
    some (false, ())) (
    loopFix K (fun r3 (s2 : List (Node) × List (Int) × Int × List (Node) × Int × Int × Unit) =>
     br (decide (s2.2.2.2.2.1 < s2.2.2.2.2.2.1)) (
      inK s2.2.2.2.1 s2.2.2.2.2.1 <|
      idxK s2.2.2.2.1 s2.2.2.2.2.1 fun x4 =>
      br (decide (s2.2.2.2.2.1 > (0:Int))) (
       inK s2.2.1 (wr (s2.2.2.2.2.1 - (1:Int))) <|
       idxK s2.2.1 (wr (s2.2.2.2.2.1 - (1:Int))) fun x5 =>
       inK s2.2.1 s2.2.2.2.2.1 <|
       idxK s2.2.1 s2.2.2.2.2.1 fun x6 =>
       br (decide (x5 ≥ x6)) (
        some (false, ())) (
        bnd (impl_NodeOk K x4.sets) fun y7 =>
        br (!y7.1) (
         some (false, ())) (
         bnd (impl_inBounds K s2.2.1 s2.1 s2.2.2.2.2.1) fun y8 =>
         br (!y8.1) (
          some (false, ())) (
          bnd (impl_NodeKeys K x4.sets) fun y9 =>
          br (decide (s2.2.2.2.2.1 > (0:Int))) (
           br (decide ((List.length y9.1 : Int) = (0:Int))) (
            some (false, ())) (
            r3 (s2.1, s2.2.1, (wr (s2.2.2.1 + (List.length y9.1 : Int))), s2.2.2.2.1, (wr (s2.2.2.2.2.1 + (1:Int))), s2.2.2.2.2.2.1, ()))) (
           r3 (s2.1, s2.2.1, (wr (s2.2.2.1 + (List.length y9.1 : Int))), s2.2.2.2.1, (wr (s2.2.2.2.2.1 + (1:Int))), s2.2.2.2.2.2.1, ())))))) (
       bnd (impl_NodeOk K x4.sets) fun y10 =>
       br (!y10.1) (
        some (false, ())) (
        bnd (impl_inBounds K s2.2.1 s2.1 s2.2.2.2.2.1) fun y11 =>
        br (!y11.1) (
         some (false, ())) (
         bnd (impl_NodeKeys K x4.sets) fun y12 =>
         br (decide (s2.2.2.2.2.1 > (0:Int))) (
          br (decide ((List.length y12.1 : Int) = (0:Int))) (
           some (false, ())) (
           r3 (s2.1, s2.2.1, (wr (s2.2.2.1 + (List.length y12.1 : Int))), s2.2.2.2.1, (wr (s2.2.2.2.2.1 + (1:Int))), s2.2.2.2.2.2.1, ()))) (
          r3 (s2.1, s2.2.1, (wr (s2.2.2.1 + (List.length y12.1 : Int))), s2.2.2.2.1, (wr (s2.2.2.2.2.1 + (1:Int))), s2.2.2.2.2.2.1, ())))))) (
      some ((decide (s2.2.2.1 ≤ (60:Int))), ()))) (a1, a0, (0:Int), a1, (0:Int), (List.length a1 : Int), ()))))
def impl_AgeAt_1 (K : Nat) (a0 : Int) (a1 : Int) (a2 : Int) : Option (Bool × Unit) :=
 some ((decide (a0 = a2)), ())
def slices_IndexFunc__impl_Age_impl_Age_impl_AgeAt_1 (K : Nat) (a0 : List (Age)) (a1 : Int) : Option (Int × Unit) :=
 loopFix K (fun r1 (s0 : List (Age) × Int × Int × Int × Unit) =>
  br (decide (s0.2.1 < s0.2.2.1)) (
   inK s0.1 s0.2.1 <|
   idxK s0.1 s0.2.1 fun x2 =>
   bnd (impl_AgeAt_1 K x2.id x2.from_ s0.2.2.2.1) fun y3 =>
   br y3.1 (
    some (s0.2.1, ())) (
    r1 (s0.1, (wr (s0.2.1 + (1:Int))), s0.2.2.1, s0.2.2.2.1, ()))) (
   some ((-1:Int), ()))) (a0, (0:Int), (List.length a0 : Int), a1, ())
def impl_AgeAt (K : Nat) (a0 : List (Age)) (a1 : Int) : Option (Int × Unit) :=
 bnd (slices_IndexFunc__impl_Age_impl_Age_impl_AgeAt_1 K a0 a1) fun y0 =>
 some (y0.1, ())
def impl_AgesOk (K : Nat) (a0 : List (Age)) : Option (Bool × Unit) :=
 loopFix K (fun r1 (s0 : List (Age) × List (Age) × Int × Int × Unit) =>
  br (decide (s0.2.2.1 < s0.2.2.2.1)) (
   inK s0.2.1 s0.2.2.1 <|
   idxK s0.2.1 s0.2.2.1 fun x2 =>
   bnd (impl_within K x2.id (1:Int) (60:Int)) fun y3 =>
   br (!y3.1) (
    some (false, ())) (
    br (decide (s0.2.2.1 > (0:Int))) (
     inK s0.1 (wr (s0.2.2.1 - (1:Int))) <|
     idxK s0.1 (wr (s0.2.2.1 - (1:Int))) fun x4 =>
     br (decide (x4.id ≥ x2.id)) (
      some (false, ())) (
      br (decide (x2.from_ ≠ (0:Int))) (
       subK s0.1 (0:Int) s0.2.2.1 fun z5 =>
       bnd (impl_AgeAt K z5 x2.from_) fun y6 =>
       br (decide (y6.1 < (0:Int))) (
        some (false, ())) (
        r1 (s0.1, s0.2.1, (wr (s0.2.2.1 + (1:Int))), s0.2.2.2.1, ()))) (
       r1 (s0.1, s0.2.1, (wr (s0.2.2.1 + (1:Int))), s0.2.2.2.1, ())))) (
     br (decide (x2.from_ ≠ (0:Int))) (
      subK s0.1 (0:Int) s0.2.2.1 fun z7 =>
      bnd (impl_AgeAt K z7 x2.from_) fun y8 =>
      br (decide (y8.1 < (0:Int))) (
       some (false, ())) (
       r1 (s0.1, s0.2.1, (wr (s0.2.2.1 + (1:Int))), s0.2.2.2.1, ()))) (
      r1 (s0.1, s0.2.1, (wr (s0.2.2.1 + (1:Int))), s0.2.2.2.1, ()))))) (
   some ((decide ((List.length s0.1 : Int) ≤ (16:Int))), ()))) (a0, a0, (0:Int), (List.length a0 : Int), ())
def impl_isWord (K : Nat) (a0 : Int) : Option (Bool × Unit) :=
 bnd (impl_within K a0 (0:Int) (65535:Int)) fun y0 =>
 some (y0.1, ())
def impl_CellsOk (K : Nat) (a0 : List (Cell)) : Option (Bool × Unit) :=
 loopFix K (fun r1 (s0 : List (Cell) × List (Cell) × Int × Int × Unit) =>
  br (decide (s0.2.2.1 < s0.2.2.2.1)) (
   inK s0.2.1 s0.2.2.1 <|
   idxK s0.2.1 s0.2.2.1 fun x2 =>
   bnd (impl_within K x2.gen (0:Int) (999:Int)) fun y3 =>
   br (!y3.1) (
    some (false, ())) (
    bnd (impl_isWord K x2.n) fun y4 =>
    br (!y4.1) (
     some (false, ())) (
     br (decide (x2.n ≠ (0:Int))) (
      br (!x2.used) (
       some (false, ())) (
       r1 (s0.1, s0.2.1, (wr (s0.2.2.1 + (1:Int))), s0.2.2.2.1, ()))) (
      r1 (s0.1, s0.2.1, (wr (s0.2.2.1 + (1:Int))), s0.2.2.2.1, ()))))) (
   some ((decide ((List.length s0.1 : Int) = (24:Int))), ()))) (a0, a0, (0:Int), (List.length a0 : Int), ())
def impl_NameOk (K : Nat) (a0 : List Int) : Option (Bool × Unit) :=
 loopFix K (fun r1 (s0 : List Int × Int × Unit) =>
  br (decide (s0.2.1 < (List.length s0.1 : Int))) (
   idxK s0.1 s0.2.1 fun x2 =>
   bnd (impl_within K (wr (x2)) (97:Int) (122:Int)) fun y3 =>
   br (!y3.1) (
    idxK s0.1 s0.2.1 fun x4 =>
    bnd (impl_within K (wr (x4)) (48:Int) (57:Int)) fun y5 =>
    br (!y5.1) (
     some (false, ())) (
     r1 (s0.1, (wr (s0.2.1 + (1:Int))), ()))) (
    r1 (s0.1, (wr (s0.2.1 + (1:Int))), ()))) (
   bnd (impl_within K (List.length s0.1 : Int) (1:Int) (6:Int)) fun y6 =>
   some (y6.1, ()))) (a0, (0:Int), ())
def impl_KidsOf (K : Nat) (a0 : List (Age)) (a1 : Int) : Option (List (Int) × Unit) :=
 br (decide (a1 = (0:Int))) (
  some (([] : List (Int)), ())) (
  loopFix K (fun r1 (s0 : List (Int) × List (Age) × Int × Int × Int × Unit) =>
   br (decide (s0.2.2.2.1 < s0.2.2.2.2.1)) (
    joinK (fun s2 : Int × List (Int) × List (Age) × Int × Int × Unit =>
     r1 (s2.2.1, s2.2.2.1, s2.2.2.2.1, (wr (s2.1 + (1:Int))), s2.2.2.2.2.1, ())) fun j3 =>
    inK s0.2.1 s0.2.2.2.1 <|
    idxK s0.2.1 s0.2.2.2.1 fun x4 =>
    br (decide (x4.from_ = s0.2.2.1)) (
     appK s0.1 ([x4.id] : List (Int)) fun z5 =>
     j3 (s0.2.2.2.1, z5, s0.2.1, s0.2.2.1, s0.2.2.2.2.1, ())) (
     j3 (s0.2.2.2.1, s0.1, s0.2.1, s0.2.2.1, s0.2.2.2.2.1, ()))) (
    some (s0.1, ()))) (([] : List (Int)), a0, a1, (0:Int), (List.length a0 : Int), ()))
def impl_volsOk_1 (K : Nat) (a0 : List Int) (a1 : Int) (a2 : Int) (a3 : Bool) (a4 : List Int) (a5 : Int) (a6 : Int) (a7 : Bool) : Option (Bool × Unit) :=
 some ((decide (a1 = a5)), ())
def slices_IndexFunc__impl_Vol_impl_Vol_impl_volsOk_1 (K : Nat) (a0 : List (Vol)) (a1 : List Int) (a2 : Int) (a3 : Int) (a4 : Bool) : Option (Int × Unit) :=
 loopFix K (fun r1 (s0 : List (Vol) × Int × Int × List Int × Int × Int × Bool × Unit) =>
  br (decide (s0.2.1 < s0.2.2.1)) (
   inK s0.1 s0.2.1 <|
   idxK s0.1 s0.2.1 fun x2 =>
   bnd (impl_volsOk_1 K x2.name x2.age x2.size x2.fixed s0.2.2.2.1 s0.2.2.2.2.1 s0.2.2.2.2.2.1 s0.2.2.2.2.2.2.1) fun y3 =>
   br y3.1 (
    some (s0.2.1, ())) (
    r1 (s0.1, (wr (s0.2.1 + (1:Int))), s0.2.2.1, s0.2.2.2.1, s0.2.2.2.2.1, s0.2.2.2.2.2.1, s0.2.2.2.2.2.2.1, ()))) (
   some ((-1:Int), ()))) (a0, (0:Int), (List.length a0 : Int), a1, a2, a3, a4, ())
def slices_ContainsFunc__impl_Vol_impl_Vol_impl_volsOk_1 (K : Nat) (a0 : List (Vol)) (a1 : List Int) (a2 : Int) (a3 : Int) (a4 : Bool) : Option (Bool × Unit) :=
 bnd (slices_IndexFunc__impl_Vol_impl_Vol_impl_volsOk_1 K a0 a1 a2 a3 a4) fun y0 =>
 some ((decide (y0.1 ≥ (0:Int))), ())
def impl_volsOk (K : Nat) (a0 : List (Int)) (a1 : List (Node)) (a2 : List (Age)) (a3 : List (Cell)) (a4 : List (Vol)) (a5 : Int) : Option (Bool × Unit) :=
 loopFix K (fun r1 (s0 : Int × List (Vol) × List (Cell) × List (Age) × List (Node) × List (Int) × List (Vol) × Int × Int × Unit) =>
  br (decide (s0.2.2.2.2.2.2.2.1 < s0.2.2.2.2.2.2.2.2.1)) (
   inK s0.2.2.2.2.2.2.1 s0.2.2.2.2.2.2.2.1 <|
   idxK s0.2.2.2.2.2.2.1 s0.2.2.2.2.2.2.2.1 fun x2 =>
   bnd (impl_NameOk K x2.name) fun y3 =>
   br (!y3.1) (
    some (false, ())) (
    br (decide (s0.2.2.2.2.2.2.2.1 > (0:Int))) (
     inK s0.2.1 (wr (s0.2.2.2.2.2.2.2.1 - (1:Int))) <|
     idxK s0.2.1 (wr (s0.2.2.2.2.2.2.2.1 - (1:Int))) fun x4 =>
     br (!lessI x4.name x2.name) (
      some (false, ())) (
      bnd (impl_within K x2.size (1:Int) (12:Int)) fun y5 =>
      br (!y5.1) (
       some (false, ())) (
       bnd (impl_AgeAt K s0.2.2.2.1 x2.age) fun y6 =>
       br (decide (y6.1 < (0:Int))) (
        some (false, ())) (
        bnd (impl_KidsOf K s0.2.2.2.1 x2.age) fun y7 =>
        br (decide ((List.length y7.1 : Int) > (0:Int))) (
         some (false, ())) (
         subK s0.2.1 (0:Int) s0.2.2.2.2.2.2.2.1 fun z8 =>
         bnd (slices_ContainsFunc__impl_Vol_impl_Vol_impl_volsOk_1 K z8 x2.name x2.age x2.size x2.fixed) fun y9 =>
         br y9.1 (
          some (false, ())) (
          r1 (s0.1, s0.2.1, s0.2.2.1, s0.2.2.2.1, s0.2.2.2.2.1, s0.2.2.2.2.2.1, s0.2.2.2.2.2.2.1, (wr (s0.2.2.2.2.2.2.2.1 + (1:Int))), s0.2.2.2.2.2.2.2.2.1, ()))))))) (
     bnd (impl_within K x2.size (1:Int) (12:Int)) fun y10 =>
     br (!y10.1) (
      some (false, ())) (
      bnd (impl_AgeAt K s0.2.2.2.1 x2.age) fun y11 =>
      br (decide (y11.1 < (0:Int))) (
       some (false, ())) (
       bnd (impl_KidsOf K s0.2.2.2.1 x2.age) fun y12 =>
       br (decide ((List.length y12.1 : Int) > (0:Int))) (
        some (false, ())) (
        subK s0.2.1 (0:Int) s0.2.2.2.2.2.2.2.1 fun z13 =>
        bnd (slices_ContainsFunc__impl_Vol_impl_Vol_impl_volsOk_1 K z13 x2.name x2.age x2.size x2.fixed) fun y14 =>
        br y14.1 (
         some (false, ())) (
         r1 (s0.1, s0.2.1, s0.2.2.1, s0.2.2.2.1, s0.2.2.2.2.1, s0.2.2.2.2.2.1, s0.2.2.2.2.2.2.1, (wr (s0.2.2.2.2.2.2.2.1 + (1:Int))), s0.2.2.2.2.2.2.2.2.1, ())))))))) (
   some ((decide ((List.length s0.2.1 : Int) ≤ (6:Int))), ()))) (a5, a4, a3, a2, a1, a0, a4, (0:Int), (List.length a4 : Int), ())
def impl_TreeKeys (K : Nat) (a0 : List (Int)) (a1 : List (Node)) : Option (List (Key) × Unit) :=
 loopFix K (fun r1 (s0 : List (Key) × List (Node) × Int × Int × Unit) =>
  br (decide (s0.2.2.1 < s0.2.2.2.1)) (
   inK s0.2.1 s0.2.2.1 <|
   idxK s0.2.1 s0.2.2.1 fun x2 =>
   bnd (impl_NodeKeys K x2.sets) fun y3 =>
   appK s0.1 y3.1 fun z4 =>
   r1 (z4, s0.2.1, (wr (s0.2.2.1 + (1:Int))), s0.2.2.2.1, ())) (
   some (s0.1, ()))) (([] : List (Key)), a1, (0:Int), (List.length a1 : Int), ())
def impl_CellAt (K : Nat) (a0 : List (Cell)) (a1 : Int) (a2 : Int) : Option (Int × Bool × Unit) :=
 bnd (impl_within K a1 (0:Int) (wr ((List.length a0 : Int) - (1:Int)))) fun y0 =>
 br (!y0.1) (
  some ((0:Int), false, ())) (
  inK a0 a1 <|
  idxK a0 a1 fun x1 =>
  br (!x1.used) (
   some ((0:Int), false, ())) (
   inK a0 a1 <|
   idxK a0 a1 fun x2 =>
   br (decide (x2.gen ≠ a2)) (
    some ((0:Int), false, ())) (
    inK a0 a1 <|
    idxK a0 a1 fun x3 =>
    some (x3.n, true, ()))))
def impl_UsedCells (K : Nat) (a0 : List (Cell)) : Option (Int × Unit) :=
 loopFix K (fun r1 (s0 : Int × List (Cell) × Int × Int × Unit) =>
  br (decide (s0.2.2.1 < s0.2.2.2.1)) (
   joinK (fun s2 : Int × Int × List (Cell) × Int × Unit =>
    r1 (s2.2.1, s2.2.2.1, (wr (s2.1 + (1:Int))), s2.2.2.2.1, ())) fun j3 =>
   inK s0.2.1 s0.2.2.1 <|
   idxK s0.2.1 s0.2.2.1 fun x4 =>
   br x4.used (
    j3 (s0.2.2.1, (wr (s0.1 + (1:Int))), s0.2.1, s0.2.2.2.1, ())) (
    j3 (s0.2.2.1, s0.1, s0.2.1, s0.2.2.2.1, ()))) (
   some (s0.1, ()))) ((0:Int), a0, (0:Int), (List.length a0 : Int), ())
def impl_keysFit (K : Nat) (a0 : List (Int)) (a1 : List (Node)) (a2 : List (Age)) (a3 : List (Cell)) (a4 : List (Vol)) (a5 : Int) : Option (Bool × Unit) :=
 makeK (zeroT tB) (24:Int) fun z0 =>
 bnd (impl_TreeKeys K a0 a1) fun y1 =>
 loopFix K (fun r3 (s2 : Int × List (Vol) × List (Cell) × List (Age) × List (Node) × List (Int) × Int × List (Key) × List (Bool) × Int × Int × Unit) =>
  br (decide (s2.2.2.2.2.2.2.2.2.2.1 < s2.2.2.2.2.2.2.2.2.2.2.1)) (
   joinK (fun s4 : Int × List (Vol) × List (Cell) × List (Age) × List (Node) × List (Int) × Int × Int × List (Key) × List (Bool) × Int × Unit =>
    r3 (s4.1, s4.2.1, s4.2.2.1, s4.2.2.2.1, s4.2.2.2.2.1, s4.2.2.2.2.2.1, s4.2.2.2.2.2.2.2.1, s4.2.2.2.2.2.2.2.2.1, s4.2.2.2.2.2.2.2.2.2.1, (wr (s4.2.2.2.2.2.2.1 + (1:Int))), s4.2.2.2.2.2.2.2.2.2.2.1, ())) fun j5 =>
   inK s2.2.2.2.2.2.2.2.1 s2.2.2.2.2.2.2.2.2.2.1 <|
   idxK s2.2.2.2.2.2.2.2.1 s2.2.2.2.2.2.2.2.2.2.1 fun x6 =>
   bnd (impl_AgeAt K s2.2.2.2.1 x6.age) fun y7 =>
   br (decide (y7.1 < (0:Int))) (
    some (false, ())) (
    br (decide (x6.kind ≠ (1:Int))) (
     j5 (s2.1, s2.2.1, s2.2.2.1, s2.2.2.2.1, s2.2.2.2.2.1, s2.2.2.2.2.2.1, s2.2.2.2.2.2.2.2.2.2.1, s2.2.2.2.2.2.2.1, s2.2.2.2.2.2.2.2.1, s2.2.2.2.2.2.2.2.2.1, s2.2.2.2.2.2.2.2.2.2.2.1, ())) (
     bnd (impl_CellAt K s2.2.2.1 x6.cell x6.gen) fun y8 =>
     br (!y8.2.1) (
      some (false, ())) (
      inK s2.2.2.2.2.2.2.2.2.1 x6.cell <|
      idxK s2.2.2.2.2.2.2.2.2.1 x6.cell fun x9 =>
      br x9 (
       some (false, ())) (
       inK s2.2.2.2.2.2.2.2.2.1 x6.cell <|
       idxK s2.2.2.2.2.2.2.2.2.1 x6.cell fun x10 =>
       j5 (s2.1, s2.2.1, s2.2.2.1, s2.2.2.2.1, s2.2.2.2.2.1, s2.2.2.2.2.2.1, s2.2.2.2.2.2.2.2.2.2.1, (wr (s2.2.2.2.2.2.2.1 + (1:Int))), s2.2.2.2.2.2.2.2.1, (List.set s2.2.2.2.2.2.2.2.2.1 (Int.toNat x6.cell) true), s2.2.2.2.2.2.2.2.2.2.2.1, ())))))) (
   bnd (impl_UsedCells K s2.2.2.1) fun y11 =>
   some ((decide (y11.1 = s2.2.2.2.2.2.2.1)), ()))) (a5, a4, a3, a2, a1, a0, (0:Int), y1.1, z0, (0:Int), (List.length y1.1 : Int), ())
def impl_PoolOk (K : Nat) (a0 : List (Int)) (a1 : List (Node)) (a2 : List (Age)) (a3 : List (Cell)) (a4 : List (Vol)) (a5 : Int) : Option (Bool × Unit) :=
 bnd (impl_TreeOk K a0 a1) fun y0 =>
 br (!y0.1) (
  some (false, ())) (
  bnd (impl_AgesOk K a2) fun y1 =>
  br (!y1.1) (
   some (false, ())) (
   bnd (impl_CellsOk K a3) fun y2 =>
   br (!y2.1) (
    some (false, ())) (
    bnd (impl_within K a5 (1:Int) (61:Int)) fun y3 =>
    br (!y3.1) (
     some (false, ())) (
     loopFix K (fun r5 (s4 : Int × List (Vol) × List (Cell) × List (Age) × List (Node) × List (Int) × List (Age) × Int × Int × Unit) =>
      br (decide (s4.2.2.2.2.2.2.2.1 < s4.2.2.2.2.2.2.2.2.1)) (
       inK s4.2.2.2.2.2.2.1 s4.2.2.2.2.2.2.2.1 <|
       idxK s4.2.2.2.2.2.2.1 s4.2.2.2.2.2.2.2.1 fun x6 =>
       br (decide (x6.id ≥ s4.1)) (
        some (false, ())) (
        r5 (s4.1, s4.2.1, s4.2.2.1, s4.2.2.2.1, s4.2.2.2.2.1, s4.2.2.2.2.2.1, s4.2.2.2.2.2.2.1, (wr (s4.2.2.2.2.2.2.2.1 + (1:Int))), s4.2.2.2.2.2.2.2.2.1, ()))) (
       bnd (impl_volsOk K s4.2.2.2.2.2.1 s4.2.2.2.2.1 s4.2.2.2.1 s4.2.2.1 s4.2.1 s4.1) fun y7 =>
       br y7.1 (
        bnd (impl_keysFit K s4.2.2.2.2.2.1 s4.2.2.2.2.1 s4.2.2.2.1 s4.2.2.1 s4.2.1 s4.1) fun y8 =>
        some (y8.1, ())) (
        some (false, ())))) (a5, a4, a3, a2, a1, a0, a2, (0:Int), (List.length a2 : Int), ())))))
def impl_blockCode (K : Nat) (a0 : List (Int)) (a1 : List (Node)) (a2 : List (Age)) (a3 : List (Cell)) (a4 : List (Vol)) (a5 : Int) (a6 : List Int) (a7 : Int) (a8 : Bool) : Option (Int × Int × Unit) :=
 bnd (impl_VolAt K a0 a1 a2 a3 a4 a5 a6) fun y0 =>
 bnd (impl_PoolOk K a0 a1 a2 a3 a4 a5) fun y1 =>
 br (!y1.1) (
  some (y0.1, (1:Int), ())) (
  bnd (impl_NameOk K a6) fun y2 =>
  br (!y2.1) (
   some (y0.1, (1:Int), ())) (
   br (decide (y0.1 < (0:Int))) (
    some (y0.1, (2:Int), ())) (
    br a8 (
     inK a4 y0.1 <|
     idxK a4 y0.1 fun x3 =>
     br x3.fixed (
      some (y0.1, (5:Int), ())) (
      inK a4 y0.1 <|
      idxK a4 y0.1 fun x4 =>
      bnd (impl_within K a7 (0:Int) (wr (x4.size - (1:Int)))) fun y5 =>
      br (!y5.1) (
       some (y0.1, (4:Int), ())) (
       some (y0.1, (0:Int), ())))) (
     inK a4 y0.1 <|
     idxK a4 y0.1 fun x6 =>
     bnd (impl_within K a7 (0:Int) (wr (x6.size - (1:Int)))) fun y7 =>
     br (!y7.1) (
      some (y0.1, (4:Int), ())) (
      some (y0.1, (0:Int), ()))))))
def impl_PathOf (K : Nat) (a0 : List (Age)) (a1 : Int) : Option (List (Int) × Unit) :=
 joinK (fun s0 : List (Int) × Unit =>
  some (s0.1, ())) fun j1 =>
 loopFix K (fun r3 (s2 : List (Int) × Int × List (Age) × Int × Int × Unit) =>
  br (decide (s2.2.2.2.1 < s2.2.2.2.2.1)) (
   bnd (impl_AgeAt K s2.2.2.1 s2.2.1) fun y4 =>
   br (decide (y4.1 < (0:Int))) (
    j1 (s2.1, ())) (
    appK s2.1 ([s2.2.1] : List (Int)) fun z5 =>
    inK s2.2.2.1 y4.1 <|
    idxK s2.2.2.1 y4.1 fun x6 =>
    r3 (z5, x6.from_, s2.2.2.1, (wr (s2.2.2.2.1 + (1:Int))), s2.2.2.2.2.1, ()))) (
   j1 (s2.1, ()))) (([] : List (Int)), a1, a0, (0:Int), (wr ((List.length a0 : Int) + (1:Int))), ())
def impl_KeysOf (K : Nat) (a0 : List (Int)) (a1 : List (Node)) (a2 : Int) : Option (List (Key) × Unit) :=
 bnd (impl_TreeKeys K a0 a1) fun y0 =>
 loopFix K (fun r2 (s1 : List (Key) × List (Key) × Int × Int × Int × Unit) =>
  br (decide (s1.2.2.2.1 < s1.2.2.2.2.1)) (
   joinK (fun s3 : Int × List (Key) × List (Key) × Int × Int × Unit =>
    r2 (s3.2.1, s3.2.2.1, s3.2.2.2.1, (wr (s3.1 + (1:Int))), s3.2.2.2.2.1, ())) fun j4 =>
   inK s1.2.1 s1.2.2.2.1 <|
   idxK s1.2.1 s1.2.2.2.1 fun x5 =>
   br (decide (x5.blk = s1.2.2.1)) (
    appK s1.1 ([(⟨x5.blk, x5.age, x5.kind, x5.cell, x5.gen⟩ : Key)] : List (Key)) fun z6 =>
    j4 (s1.2.2.2.1, z6, s1.2.1, s1.2.2.1, s1.2.2.2.2.1, ())) (
    j4 (s1.2.2.2.1, s1.1, s1.2.1, s1.2.2.1, s1.2.2.2.2.1, ()))) (
   some (s1.1, ()))) (([] : List (Key)), y0.1, a2, (0:Int), (List.length y0.1 : Int), ())
def slices_Index__int_int (K : Nat) (a0 : List (Int)) (a1 : Int) : Option (Int × Unit) :=
 loopFix K (fun r1 (s0 : Int × List (Int) × Int × Int × Unit) =>
  br (decide (s0.2.2.1 < s0.2.2.2.1)) (
   inK s0.2.1 s0.2.2.1 <|
   idxK s0.2.1 s0.2.2.1 fun x2 =>
   br (decide (s0.1 = x2)) (
    some (s0.2.2.1, ())) (
    r1 (s0.1, s0.2.1, (wr (s0.2.2.1 + (1:Int))), s0.2.2.2.1, ()))) (
   some ((-1:Int), ()))) (a1, a0, (0:Int), (List.length a0 : Int), ())
def slices_Contains__int_int (K : Nat) (a0 : List (Int)) (a1 : Int) : Option (Bool × Unit) :=
 bnd (slices_Index__int_int K a0 a1) fun y0 =>
 some ((decide (y0.1 ≥ (0:Int))), ())
def impl_seenOn (K : Nat) (a0 : List (Int)) (a1 : List (Node)) (a2 : Int) (a3 : List (Int)) : Option (Int × Int × Int × Int × Int × Bool × Unit) :=
 bnd (impl_KeysOf K a0 a1 a2) fun y0 =>
 loopFix K (fun r2 (s1 : Int × Int × Int × Int × Int × Int × Int × Int × Int × Int × Bool × List (Key) × List (Int) × Int × Int × Unit) =>
  br (decide (s1.2.2.2.2.2.2.2.2.2.2.2.2.2.1 < s1.2.2.2.2.2.2.2.2.2.2.2.2.2.2.1)) (
   joinK (fun s3 : Int × Int × Int × Int × Int × Int × Int × Int × Int × Int × Int × Bool × List (Key) × List (Int) × Int × Unit =>
    r2 (s3.1, s3.2.1, s3.2.2.1, s3.2.2.2.1, s3.2.2.2.2.1, s3.2.2.2.2.2.1, s3.2.2.2.2.2.2.1, s3.2.2.2.2.2.2.2.1, s3.2.2.2.2.2.2.2.2.1, s3.2.2.2.2.2.2.2.2.2.1, s3.2.2.2.2.2.2.2.2.2.2.2.1, s3.2.2.2.2.2.2.2.2.2.2.2.2.1, s3.2.2.2.2.2.2.2.2.2.2.2.2.2.1, (wr (s3.2.2.2.2.2.2.2.2.2.2.1 + (1:Int))), s3.2.2.2.2.2.2.2.2.2.2.2.2.2.2.1, ())) fun j4 =>
   inK s1.2.2.2.2.2.2.2.2.2.2.2.1 s1.2.2.2.2.2.2.2.2.2.2.2.2.2.1 <|
   idxK s1.2.2.2.2.2.2.2.2.2.2.2.1 s1.2.2.2.2.2.2.2.2.2.2.2.2.2.1 fun x5 =>
   bnd (slices_Contains__int_int K s1.2.2.2.2.2.2.2.2.2.2.2.2.1 x5.age) fun y6 =>
   br y6.1 (
    br (!s1.2.2.2.2.2.2.2.2.2.2.1) (
     j4 (s1.1, s1.2.1, s1.2.2.1, s1.2.2.2.1, s1.2.2.2.2.1, x5.gen, x5.cell, x5.kind, x5.age, x5.blk, s1.2.2.2.2.2.2.2.2.2.2.2.2.2.1, true, s1.2.2.2.2.2.2.2.2.2.2.2.1, s1.2.2.2.2.2.2.2.2.2.2.2.2.1, s1.2.2.2.2.2.2.2.2.2.2.2.2.2.2.1, ())) (
     br (decide (x5.age > s1.2.2.2.2.2.2.2.2.1)) (
      j4 (s1.1, s1.2.1, s1.2.2.1, s1.2.2.2.1, s1.2.2.2.2.1, x5.gen, x5.cell, x5.kind, x5.age, x5.blk, s1.2.2.2.2.2.2.2.2.2.2.2.2.2.1, true, s1.2.2.2.2.2.2.2.2.2.2.2.1, s1.2.2.2.2.2.2.2.2.2.2.2.2.1, s1.2.2.2.2.2.2.2.2.2.2.2.2.2.2.1, ())) (
      j4 (s1.1, s1.2.1, s1.2.2.1, s1.2.2.2.1, s1.2.2.2.2.1, s1.2.2.2.2.2.1, s1.2.2.2.2.2.2.1, s1.2.2.2.2.2.2.2.1, s1.2.2.2.2.2.2.2.2.1, s1.2.2.2.2.2.2.2.2.2.1, s1.2.2.2.2.2.2.2.2.2.2.2.2.2.1, s1.2.2.2.2.2.2.2.2.2.2.1, s1.2.2.2.2.2.2.2.2.2.2.2.1, s1.2.2.2.2.2.2.2.2.2.2.2.2.1, s1.2.2.2.2.2.2.2.2.2.2.2.2.2.2.1, ())))) (
    j4 (s1.1, s1.2.1, s1.2.2.1, s1.2.2.2.1, s1.2.2.2.2.1, s1.2.2.2.2.2.1, s1.2.2.2.2.2.2.1, s1.2.2.2.2.2.2.2.1, s1.2.2.2.2.2.2.2.2.1, s1.2.2.2.2.2.2.2.2.2.1, s1.2.2.2.2.2.2.2.2.2.2.2.2.2.1, s1.2.2.2.2.2.2.2.2.2.2.1, s1.2.2.2.2.2.2.2.2.2.2.2.1, s1.2.2.2.2.2.2.2.2.2.2.2.2.1, s1.2.2.2.2.2.2.2.2.2.2.2.2.2.2.1, ()))) (
   some (s1.2.2.2.2.2.2.2.2.2.1, s1.2.2.2.2.2.2.2.2.1, s1.2.2.2.2.2.2.2.1, s1.2.2.2.2.2.2.1, s1.2.2.2.2.2.1, s1.2.2.2.2.2.2.2.2.2.2.1, ()))) ((0:Int), (0:Int), (0:Int), (0:Int), (0:Int), (0:Int), (0:Int), (0:Int), (0:Int), (0:Int), false, y0.1, a3, (0:Int), (List.length y0.1 : Int), ())
def impl_Seen (K : Nat) (a0 : List (Int)) (a1 : List (Node)) (a2 : List (Age)) (a3 : Int) (a4 : Int) : Option (Int × Int × Int × Int × Int × Bool × Unit) :=
 bnd (impl_PathOf K a2 a4) fun y0 =>
 bnd (impl_seenOn K a0 a1 a3 y0.1) fun y1 =>
 some (y1.1, y1.2.1, y1.2.2.1, y1.2.2.2.1, y1.2.2.2.2.1, y1.2.2.2.2.2.1, ())
def impl_BlockOf (K : Nat) (a0 : List (Int)) (a1 : List (Node)) (a2 : List (Age)) (a3 : List (Cell)) (a4 : List (Vol)) (a5 : Int) (a6 : Int) (a7 : Int) : Option (Int × Unit) :=
 bnd (impl_within K a6 (0:Int) (wr ((List.length a4 : Int) - (1:Int)))) fun y0 =>
 br (!y0.1) (
  some ((0:Int), ())) (
  inK a4 a6 <|
  idxK a4 a6 fun x1 =>
  bnd (impl_within K a7 (0:Int) (wr (x1.size - (1:Int)))) fun y2 =>
  br (!y2.1) (
   some ((0:Int), ())) (
   inK a4 a6 <|
   idxK a4 a6 fun x3 =>
   bnd (impl_Seen K a0 a1 a2 a7 x3.age) fun y4 =>
   br (!y4.2.2.2.2.2.1) (
    some ((0:Int), ())) (
    br (decide (y4.2.2.1 ≠ (1:Int))) (
     some ((0:Int), ())) (
     bnd (impl_CellAt K a3 y4.2.2.2.1 y4.2.2.2.2.1) fun y5 =>
     some (y5.1, ())))))
def impl_Read (K : Nat) (a0 : List (Int)) (a1 : List (Node)) (a2 : List (Age)) (a3 : List (Cell)) (a4 : List (Vol)) (a5 : Int) (a6 : List Int) (a7 : Int) : Option (Int × Int × Unit) :=
 bnd (impl_blockCode K a0 a1 a2 a3 a4 a5 a6 a7 false) fun y0 =>
 br (decide (y0.2.1 ≠ (0:Int))) (
  some ((0:Int), y0.2.1, ())) (
  bnd (impl_BlockOf K a0 a1 a2 a3 a4 a5 y0.1 a7) fun y1 =>
  some (y1.1, (0:Int), ()))
def laws_at (K : Nat) (a0 : List (Int)) (a1 : Int) : Option (Int × Unit) :=
 br (decide (a1 < (List.length a0 : Int))) (
  inK a0 a1 <|
  idxK a0 a1 fun x0 =>
  some ((wr (x0)), ())) (
  some ((Int.tmod (wr ((wr (a1 * (31:Int))) + (wr ((List.length a0 : Int) * (7:Int))))) (256:Int)), ()))
def impl_copyInts (K : Nat) (a0 : List (Int)) : Option (List (Int) × Unit) :=
 appK ([] : List (Int)) a0 fun z0 =>
 some (z0, ())
def impl_copyNode (K : Nat) (a0 : List (List (Key))) : Option (List (List (Key)) × Unit) :=
 loopFix K (fun r1 (s0 : List (List (Key)) × List (List (Key)) × List (List (Key)) × Int × Int × Unit) =>
  br (decide (s0.2.2.2.1 < s0.2.2.2.2.1)) (
   inK s0.2.2.1 s0.2.2.2.1 <|
   idxK s0.2.2.1 s0.2.2.2.1 fun x2 =>
   bnd (impl_copyKeys K x2) fun y3 =>
   appK s0.2.1 ([y3.1] : List (List (Key))) fun z4 =>
   r1 (s0.1, z4, s0.2.2.1, (wr (s0.2.2.2.1 + (1:Int))), s0.2.2.2.2.1, ())) (
   some (s0.2.1, ()))) (([] : List (List (Key))), ([] : List (List (Key))), a0, (0:Int), (List.length a0 : Int), ())
def impl_copyTree (K : Nat) (a0 : List (Int)) (a1 : List (Node)) : Option (List (Int) × List (Node) × Unit) :=
 bnd (impl_copyInts K a0) fun y0 =>
 loopFix K (fun r2 (s1 : List (Node) × List (Int) × List (Node) × List (Int) × List (Node) × Int × Int × Unit) =>
  br (decide (s1.2.2.2.2.2.1 < s1.2.2.2.2.2.2.1)) (
   inK s1.2.2.2.2.1 s1.2.2.2.2.2.1 <|
   idxK s1.2.2.2.2.1 s1.2.2.2.2.2.1 fun x3 =>
   bnd (impl_copyNode K x3.sets) fun y4 =>
   appK s1.2.2.1 ([(⟨y4.1⟩ : Node)] : List (Node)) fun z5 =>
   r2 (s1.1, s1.2.1, z5, s1.2.2.2.1, s1.2.2.2.2.1, (wr (s1.2.2.2.2.2.1 + (1:Int))), s1.2.2.2.2.2.2.1, ())) (
   some (s1.2.2.2.1, s1.2.2.1, ()))) (([] : List (Node)), ([] : List (Int)), ([] : List (Node)), y0.1, a1, (0:Int), (List.length a1 : Int), ())
def impl_copyAges (K : Nat) (a0 : List (Age)) : Option (List (Age) × Unit) :=
 appK ([] : List (Age)) a0 fun z0 =>
 some (z0, ())
def impl_copyCells (K : Nat) (a0 : List (Cell)) : Option (List (Cell) × Unit) :=
 appK ([] : List (Cell)) a0 fun z0 =>
 some (z0, ())
def impl_copyPool (K : Nat) (a0 : List (Int)) (a1 : List (Node)) (a2 : List (Age)) (a3 : List (Cell)) (a4 : List (Vol)) (a5 : Int) : Option (List (Int) × List (Node) × List (Age) × List (Cell) × List (Vol) × Int × Unit) :=
 bnd (impl_copyTree K a0 a1) fun y0 =>
 bnd (impl_copyAges K a2) fun y1 =>
 bnd (impl_copyCells K a3) fun y2 =>
 appK ([] : List (Vol)) a4 fun z3 =>
 some (y0.1, y0.2.1, y1.1, y2.1, z3, a5, ())
def impl_freeAt (K : Nat) (a0 : List (Cell)) : Option (Int × Unit) :=
 loopFix K (fun r1 (s0 : List (Cell) × Int × Int × Unit) =>
  br (decide (s0.2.1 < s0.2.2.1)) (
   inK s0.1 s0.2.1 <|
   idxK s0.1 s0.2.1 fun x2 =>
   br (!x2.used) (
    some (s0.2.1, ())) (
    r1 (s0.1, (wr (s0.2.1 + (1:Int))), s0.2.2.1, ()))) (
   some ((-1:Int), ()))) (a0, (0:Int), (List.length a0 : Int), ())
def impl_TakeCell (K : Nat) (a0 : List (Cell)) (a1 : Int) : Option (List (Cell) × Int × Bool × Unit) :=
 bnd (impl_copyCells K a0) fun y0 =>
 bnd (impl_freeAt K a0) fun y1 =>
 br (decide (y1.1 < (0:Int))) (
  some (y0.1, (0:Int), false, ())) (
  bnd (impl_isWord K a1) fun y2 =>
  br (!y2.1) (
   some (y0.1, (0:Int), false, ())) (
   bnd (impl_CellsOk K a0) fun y3 =>
   br (!y3.1) (
    some (y0.1, (0:Int), false, ())) (
    inK y0.1 y1.1 <|
    idxK y0.1 y1.1 fun x4 =>
    inK (List.set y0.1 (Int.toNat y1.1) (⟨x4.gen, true, x4.n⟩ : Cell)) y1.1 <|
    idxK (List.set y0.1 (Int.toNat y1.1) (⟨x4.gen, true, x4.n⟩ : Cell)) y1.1 fun x5 =>
    some ((List.set (List.set y0.1 (Int.toNat y1.1) (⟨x4.gen, true, x4.n⟩ : Cell)) (Int.toNat y1.1) (⟨x5.gen, x5.used, a1⟩ : Cell)), y1.1, true, ()))))
def impl_WhereIn (K : Nat) (a0 : List (Int)) (a1 : List (Node)) (a2 : Int) (a3 : Int) : Option (Int × Unit) :=
 loopFix K (fun r1 (s0 : List (Node) × List (Int) × Int × Int × Int × Unit) =>
  br (decide (s0.2.2.2.2.1 ≥ (0:Int))) (
   inK s0.2.1 s0.2.2.2.2.1 <|
   idxK s0.2.1 s0.2.2.2.2.1 fun x2 =>
   bnd (impl_SpotOf K s0.2.2.1 s0.2.2.2.1) fun y3 =>
   br (decide (x2 ≤ y3.1)) (
    some (s0.2.2.2.2.1, ())) (
    r1 (s0.1, s0.2.1, s0.2.2.1, s0.2.2.2.1, (wr (s0.2.2.2.2.1 - (1:Int))), ()))) (
   some ((-1:Int), ()))) (a1, a0, a2, a3, (wr ((List.length a0 : Int) - (1:Int))), ())
def impl_SetAt (K : Nat) (a0 : List (Key)) (a1 : Int) (a2 : Int) : Option (Int × Int × Int × Int × Int × Bool × Unit) :=
 loopFix K (fun r1 (s0 : Int × Int × Int × Int × Int × List (Key) × Int × Int × Int × Int × Unit) =>
  br (decide (s0.2.2.2.2.2.2.2.2.1 < s0.2.2.2.2.2.2.2.2.2.1)) (
   inK s0.2.2.2.2.2.1 s0.2.2.2.2.2.2.2.2.1 <|
   idxK s0.2.2.2.2.2.1 s0.2.2.2.2.2.2.2.2.1 fun x2 =>
   br (decide (x2.blk = s0.2.2.2.2.2.2.1)) (
    br (decide (x2.age = s0.2.2.2.2.2.2.2.1)) (
     some (x2.blk, x2.age, x2.kind, x2.cell, x2.gen, true, ())) (
     r1 (s0.1, s0.2.1, s0.2.2.1, s0.2.2.2.1, s0.2.2.2.2.1, s0.2.2.2.2.2.1, s0.2.2.2.2.2.2.1, s0.2.2.2.2.2.2.2.1, (wr (s0.2.2.2.2.2.2.2.2.1 + (1:Int))), s0.2.2.2.2.2.2.2.2.2.1, ()))) (
    r1 (s0.1, s0.2.1, s0.2.2.1, s0.2.2.2.1, s0.2.2.2.2.1, s0.2.2.2.2.2.1, s0.2.2.2.2.2.2.1, s0.2.2.2.2.2.2.2.1, (wr (s0.2.2.2.2.2.2.2.2.1 + (1:Int))), s0.2.2.2.2.2.2.2.2.2.1, ()))) (
   some ((0:Int), (0:Int), (0:Int), (0:Int), (0:Int), false, ()))) ((0:Int), (0:Int), (0:Int), (0:Int), (0:Int), a0, a1, a2, (0:Int), (List.length a0 : Int), ())
def impl_NodeAt (K : Nat) (a0 : List (List (Key))) (a1 : Int) (a2 : Int) : Option (Int × Int × Int × Int × Int × Bool × Unit) :=
 joinK (fun s0 : Int × Int × Int × Int × Int × Unit =>
  some ((0:Int), (0:Int), (0:Int), (0:Int), (0:Int), false, ())) fun j1 =>
 loopFix K (fun r3 (s2 : Int × Int × Int × Int × Int × List (List (Key)) × Int × Int × Int × Unit) =>
  br (decide (s2.2.2.2.2.2.2.2.2.1 ≥ (0:Int))) (
   inK s2.2.2.2.2.2.1 s2.2.2.2.2.2.2.2.2.1 <|
   idxK s2.2.2.2.2.2.1 s2.2.2.2.2.2.2.2.2.1 fun x4 =>
   bnd (impl_SetAt K x4 s2.2.2.2.2.2.2.1 s2.2.2.2.2.2.2.2.1) fun y5 =>
   br (!y5.2.2.2.2.2.1) (
    r3 (s2.1, s2.2.1, s2.2.2.1, s2.2.2.2.1, s2.2.2.2.2.1, s2.2.2.2.2.2.1, s2.2.2.2.2.2.2.1, s2.2.2.2.2.2.2.2.1, (wr (s2.2.2.2.2.2.2.2.2.1 - (1:Int))), ())) (
    br (decide (y5.2.2.1 = (0:Int))) (
     j1 (s2.1, s2.2.1, s2.2.2.1, s2.2.2.2.1, s2.2.2.2.2.1, ())) (
     some (y5.1, y5.2.1, y5.2.2.1, y5.2.2.2.1, y5.2.2.2.2.1, true, ())))) (
   j1 (s2.1, s2.2.1, s2.2.2.1, s2.2.2.2.1, s2.2.2.2.2.1, ()))) ((0:Int), (0:Int), (0:Int), (0:Int), (0:Int), a0, a1, a2, (wr ((List.length a0 : Int) - (1:Int))), ())
def impl_TreeAt (K : Nat) (a0 : List (Int)) (a1 : List (Node)) (a2 : Int) (a3 : Int) : Option (Int × Int × Int × Int × Int × Bool × Unit) :=
 bnd (impl_WhereIn K a0 a1 a2 a3) fun y0 =>
 bnd (impl_within K y0.1 (0:Int) (wr ((List.length a1 : Int) - (1:Int)))) fun y1 =>
 br (!y1.1) (
  some ((0:Int), (0:Int), (0:Int), (0:Int), (0:Int), false, ())) (
  inK a1 y0.1 <|
  idxK a1 y0.1 fun x2 =>
  bnd (impl_NodeAt K x2.sets a2 a3) fun y3 =>
  some (y3.1, y3.2.1, y3.2.2.1, y3.2.2.2.1, y3.2.2.2.2.1, y3.2.2.2.2.2.1, ()))
def impl_keysWith (K : Nat) (a0 : List (List (Key))) (a1 : Int) (a2 : Int) (a3 : Int) (a4 : Int) (a5 : Int) : Option (List (Key) × Unit) :=
 bnd (impl_NodeKeys K a0) fun y0 =>
 bnd (impl_SetPut K y0.1 a1 a2 a3 a4 a5) fun y1 =>
 bnd (impl_Drop K y1.1) fun y2 =>
 some (y2.1, ())
def impl_NodeNew (K : Nat) (a0 : List (Key)) : Option (List (List (Key)) × Unit) :=
 br (decide ((List.length a0 : Int) = (0:Int))) (
  some (([] : List (List (Key))), ())) (
  bnd (impl_copyKeys K a0) fun y0 =>
  some (([y0.1] : List (List (Key))), ()))
def impl_NodePut (K : Nat) (a0 : List (List (Key))) (a1 : Int) (a2 : Int) (a3 : Int) (a4 : Int) (a5 : Int) : Option (List (List (Key)) × Bool × Unit) :=
 bnd (impl_copyNode K a0) fun y0 =>
 joinK (fun s1 : List (List (Key)) × Int × Int × Int × Int × Int × List (List (Key)) × List (List (Key)) × Bool × Int × Unit =>
  joinK (fun s3 : List (List (Key)) × Int × Int × Int × Int × Int × List (List (Key)) × List (List (Key)) × Unit =>
   bnd (impl_NodeOk K s3.1) fun y5 =>
   br y5.1 (
    some (s3.1, true, ())) (
    bnd (impl_keysWith K s3.2.2.2.2.2.2.1 s3.2.2.2.2.2.1 s3.2.2.2.2.1 s3.2.2.2.1 s3.2.2.1 s3.2.1) fun y6 =>
    bnd (impl_NodeNew K y6.1) fun y7 =>
    br (decide ((List.length y6.1 : Int) > (8:Int))) (
     bnd (impl_copyNode K s3.2.2.2.2.2.2.1) fun y8 =>
     some (y8.1, false, ())) (
     bnd (impl_NodeOk K y7.1) fun y9 =>
     br (!y9.1) (
      bnd (impl_copyNode K s3.2.2.2.2.2.2.1) fun y10 =>
      some (y10.1, false, ())) (
      some (y7.1, true, ()))))) fun j4 =>
  br s1.2.2.2.2.2.2.2.2.1 (
   inK s1.2.2.2.2.2.2.1 s1.2.2.2.2.2.2.2.2.2.1 <|
   idxK s1.2.2.2.2.2.2.1 s1.2.2.2.2.2.2.2.2.2.1 fun x11 =>
   bnd (impl_SetPut K x11 s1.2.2.2.2.2.1 s1.2.2.2.2.1 s1.2.2.2.1 s1.2.2.1 s1.2.1) fun y12 =>
   inK s1.1 s1.2.2.2.2.2.2.2.2.2.1 <|
   idxK s1.1 s1.2.2.2.2.2.2.2.2.2.1 fun x13 =>
   j4 ((List.set s1.1 (Int.toNat s1.2.2.2.2.2.2.2.2.2.1) y12.1), s1.2.1, s1.2.2.1, s1.2.2.2.1, s1.2.2.2.2.1, s1.2.2.2.2.2.1, s1.2.2.2.2.2.2.1, s1.2.2.2.2.2.2.2.1, ())) (
   appK s1.1 ([([(⟨s1.2.2.2.2.2.1, s1.2.2.2.2.1, s1.2.2.2.1, s1.2.2.1, s1.2.1⟩ : Key)] : List (Key))] : List (List (Key))) fun z14 =>
   j4 (z14, s1.2.1, s1.2.2.1, s1.2.2.2.1, s1.2.2.2.2.1, s1.2.2.2.2.2.1, s1.2.2.2.2.2.2.1, s1.2.2.2.2.2.2.2.1, ()))) fun j2 =>
 br (decide ((wr ((List.length a0 : Int) - (1:Int))) ≥ (0:Int))) (
  inK a0 (wr ((List.length a0 : Int) - (1:Int))) <|
  idxK a0 (wr ((List.length a0 : Int) - (1:Int))) fun x15 =>
  bnd (impl_SetAt K x15 a1 a2) fun y16 =>
  br y16.2.2.2.2.2.1 (
   j2 (y0.1, a5, a4, a3, a2, a1, a0, ([] : List (List (Key))), true, (wr ((List.length a0 : Int) - (1:Int))), ())) (
   inK a0 (wr ((List.length a0 : Int) - (1:Int))) <|
   idxK a0 (wr ((List.length a0 : Int) - (1:Int))) fun x17 =>
   j2 (y0.1, a5, a4, a3, a2, a1, a0, ([] : List (List (Key))), (decide ((List.length x17 : Int) < (4:Int))), (wr ((List.length a0 : Int) - (1:Int))), ()))) (
  j2 (y0.1, a5, a4, a3, a2, a1, a0, ([] : List (List (Key))), false, (wr ((List.length a0 : Int) - (1:Int))), ()))
def impl_replaced (K : Nat) (a0 : List (Int)) (a1 : List (Node)) (a2 : Int) (a3 : Int) (a4 : List (Int)) (a5 : List (Node)) : Option (List (Int) × List (Node) × Unit) :=
 subK a0 (0:Int) a2 fun z0 =>
 bnd (impl_copyInts K z0) fun y1 =>
 appK y1.1 a4 fun z2 =>
 subK a0 (wr (a2 + a3)) (List.length a0 : Int) fun z3 =>
 appK z2 z3 fun z4 =>
 subK a1 (0:Int) a2 fun z5 =>
 appK ([] : List (Node)) z5 fun z6 =>
 appK z6 a5 fun z7 =>
 subK a1 (wr (a2 + a3)) (List.length a1 : Int) fun z8 =>
 appK z7 z8 fun z9 =>
 some (z4, z9, ())
def impl_merged_o (K : Nat) (a0 : List (Int)) (a1 : List (Node)) : Option (List (Int) × List (Node) × Unit) :=
 loopFix K (fun r1 (s0 : List (Node) × List (Int) × List (Node) × List (Int) × Int × Unit) =>
  br (decide ((wr (s0.2.2.2.2.1 + (1:Int))) < (List.length s0.2.2.1 : Int))) (
   joinK (fun s2 : List (Node) × List (Int) × List (Node) × List (Int) × Int × Unit =>
    r1 (s2.1, s2.2.1, s2.2.2.1, s2.2.2.2.1, (wr (s2.2.2.2.2.1 + (1:Int))), ())) fun j3 =>
   inK s0.2.2.1 s0.2.2.2.2.1 <|
   idxK s0.2.2.1 s0.2.2.2.2.1 fun x4 =>
   bnd (impl_NodeKeys K x4.sets) fun y5 =>
   inK s0.2.2.1 (wr (s0.2.2.2.2.1 + (1:Int))) <|
   idxK s0.2.2.1 (wr (s0.2.2.2.2.1 + (1:Int))) fun x6 =>
   bnd (impl_NodeKeys K x6.sets) fun y7 =>
   appK y5.1 y7.1 fun z8 =>
   br (decide ((List.length z8 : Int) ≤ (6:Int))) (
    inK s0.2.2.2.1 s0.2.2.2.2.1 <|
    idxK s0.2.2.2.1 s0.2.2.2.2.1 fun x9 =>
    bnd (impl_NodeNew K z8) fun y10 =>
    bnd (impl_replaced K s0.2.2.2.1 s0.2.2.1 s0.2.2.2.2.1 (2:Int) ([x9] : List (Int)) ([(⟨y10.1⟩ : Node)] : List (Node))) fun y11 =>
    j3 (s0.1, s0.2.1, y11.2.1, y11.1, (-1:Int), ())) (
    j3 (s0.1, s0.2.1, s0.2.2.1, s0.2.2.2.1, s0.2.2.2.2.1, ()))) (
   some (s0.2.2.2.1, s0.2.2.1, ()))) (([] : List (Node)), ([] : List (Int)), a1, a0, (0:Int), ())
def impl_TreePut (K : Nat) (a0 : List (Int)) (a1 : List (Node)) (a2 : Int) (a3 : Int) (a4 : Int) (a5 : Int) (a6 : Int) : Option (List (Int) × List (Node) × Bool × Unit) :=
 bnd (impl_TreeOk K a0 a1) fun y0 =>
 br (!y0.1) (
  bnd (impl_copyTree K a0 a1) fun y1 =>
  some (y1.1, y1.2.1, false, ())) (
  bnd (impl_KeyOk K a2 a3 a4 a5 a6) fun y2 =>
  br (!y2.1) (
   bnd (impl_copyTree K a0 a1) fun y3 =>
   some (y3.1, y3.2.1, false, ())) (
   bnd (impl_WhereIn K a0 a1 a2 a3) fun y4 =>
   bnd (impl_copyTree K a0 a1) fun y5 =>
   inK y5.2.1 y4.1 <|
   idxK y5.2.1 y4.1 fun x6 =>
   bnd (impl_NodePut K x6.sets a2 a3 a4 a5 a6) fun y7 =>
   joinK (fun s8 : List (Node) × List (Int) × List (Node) × List (Int) × List (Node) × List (Int) × Unit =>
    bnd (impl_merged_o K s8.2.2.2.1 s8.2.2.1) fun y10 =>
    bnd (impl_TreeOk K y10.1 y10.2.1) fun y11 =>
    br (!y11.1) (
     bnd (impl_copyTree K s8.2.1 s8.1) fun y12 =>
     some (y12.1, y12.2.1, false, ())) (
     some (y10.1, y10.2.1, true, ()))) fun j9 =>
   br (!y7.2.1) (
    inK y5.2.1 y4.1 <|
    idxK y5.2.1 y4.1 fun x13 =>
    bnd (impl_keysWith K x13.sets a2 a3 a4 a5 a6) fun y14 =>
    inK y14.1 (wr (Int.tdiv (wr ((List.length y14.1 : Int) + (1:Int))) (2:Int))) <|
    idxK y14.1 (wr (Int.tdiv (wr ((List.length y14.1 : Int) + (1:Int))) (2:Int))) fun x15 =>
    inK a0 y4.1 <|
    idxK a0 y4.1 fun x16 =>
    bnd (impl_SpotOf K x15.blk x15.age) fun y17 =>
    subK y14.1 (0:Int) (wr (Int.tdiv (wr ((List.length y14.1 : Int) + (1:Int))) (2:Int))) fun z18 =>
    bnd (impl_NodeNew K z18) fun y19 =>
    subK y14.1 (wr (Int.tdiv (wr ((List.length y14.1 : Int) + (1:Int))) (2:Int))) (List.length y14.1 : Int) fun z20 =>
    bnd (impl_NodeNew K z20) fun y21 =>
    bnd (impl_replaced K y5.1 y5.2.1 y4.1 (1:Int) ([x16, y17.1] : List (Int)) ([(⟨y19.1⟩ : Node), (⟨y21.1⟩ : Node)] : List (Node))) fun y22 =>
    j9 (a1, a0, y22.2.1, y22.1, ([] : List (Node)), ([] : List (Int)), ())) (
    br (decide (y4.1 > (0:Int))) (
     bnd (impl_NodeKeys K y7.1) fun y23 =>
     br (decide ((List.length y23.1 : Int) = (0:Int))) (
      bnd (impl_replaced K y5.1 y5.2.1 y4.1 (1:Int) ([] : List (Int)) ([] : List (Node))) fun y24 =>
      j9 (a1, a0, y24.2.1, y24.1, ([] : List (Node)), ([] : List (Int)), ())) (
      inK y5.2.1 y4.1 <|
      idxK y5.2.1 y4.1 fun x25 =>
      j9 (a1, a0, (List.set y5.2.1 (Int.toNat y4.1) (⟨y7.1⟩ : Node)), y5.1, ([] : List (Node)), ([] : List (Int)), ()))) (
     inK y5.2.1 y4.1 <|
     idxK y5.2.1 y4.1 fun x26 =>
     j9 (a1, a0, (List.set y5.2.1 (Int.toNat y4.1) (⟨y7.1⟩ : Node)), y5.1, ([] : List (Node)), ([] : List (Int)), ())))))
def impl_FreeCell (K : Nat) (a0 : List (Cell)) (a1 : Int) : Option (List (Cell) × Unit) :=
 bnd (impl_copyCells K a0) fun y0 =>
 bnd (impl_CellsOk K a0) fun y1 =>
 br (!y1.1) (
  some (y0.1, ())) (
  bnd (impl_within K a1 (0:Int) (23:Int)) fun y2 =>
  br (!y2.1) (
   some (y0.1, ())) (
   inK a0 a1 <|
   idxK a0 a1 fun x3 =>
   br (!x3.used) (
    some (y0.1, ())) (
    inK a0 a1 <|
    idxK a0 a1 fun x4 =>
    inK y0.1 a1 <|
    idxK y0.1 a1 fun x5 =>
    some ((List.set y0.1 (Int.toNat a1) (⟨(Int.tmod (wr (x4.gen + (1:Int))) (1000:Int)), false, (0:Int)⟩ : Cell)), ()))))
def impl_Pool_putKey (K : Nat) (a0 : List (Int)) (a1 : List (Node)) (a2 : List (Age)) (a3 : List (Cell)) (a4 : List (Vol)) (a5 : Int) (a6 : Int) (a7 : Int) (a8 : Int) (a9 : Int) (a10 : Int) : Option (Bool × List (Int) × List (Node) × List (Cell) × Unit) :=
 bnd (impl_TreeAt K a0 a1 a6 a7) fun y0 =>
 bnd (impl_TreePut K a0 a1 a6 a7 a8 a9 a10) fun y1 =>
 joinK (fun s2 : Bool × List (Int) × List (Node) × List (Age) × List (Cell) × List (Vol) × Int × Unit =>
  some (s2.1, s2.2.1, s2.2.2.1, s2.2.2.2.2.1, ())) fun j3 =>
 br y1.2.2.1 (
  br y0.2.2.2.2.2.1 (
   br (decide (y0.2.2.1 = (1:Int))) (
    bnd (impl_FreeCell K a3 y0.2.2.2.1) fun y4 =>
    j3 (y1.2.2.1, y1.1, y1.2.1, a2, y4.1, a4, a5, ())) (
    j3 (y1.2.2.1, y1.1, y1.2.1, a2, a3, a4, a5, ()))) (
   j3 (y1.2.2.1, y1.1, y1.2.1, a2, a3, a4, a5, ()))) (
  j3 (y1.2.2.1, y1.1, y1.2.1, a2, a3, a4, a5, ()))
def impl_settled_ro (K : Nat) (a0 : List (Int)) (a1 : List (Node)) (a2 : List (Age)) (a3 : List (Cell)) (a4 : List (Vol)) (a5 : Int) (a6 : List (Int)) (a7 : List (Node)) (a8 : List (Age)) (a9 : List (Cell)) (a10 : List (Vol)) (a11 : Int) (a12 : Bool) : Option (List (Int) × List (Node) × List (Age) × List (Cell) × List (Vol) × Int × Int × Unit) :=
 br (!a12) (
  bnd (impl_copyPool K a0 a1 a2 a3 a4 a5) fun y0 =>
  some (y0.1, y0.2.1, y0.2.2.1, y0.2.2.2.1, y0.2.2.2.2.1, y0.2.2.2.2.2.1, (6:Int), ())) (
  bnd (impl_PoolOk K a6 a7 a8 a9 a10 a11) fun y1 =>
  br (!y1.1) (
   bnd (impl_copyPool K a0 a1 a2 a3 a4 a5) fun y2 =>
   some (y2.1, y2.2.1, y2.2.2.1, y2.2.2.2.1, y2.2.2.2.2.1, y2.2.2.2.2.2.1, (6:Int), ())) (
   some (a6, a7, a8, a9, a10, a11, (0:Int), ())))
def impl_Write (K : Nat) (a0 : List (Int)) (a1 : List (Node)) (a2 : List (Age)) (a3 : List (Cell)) (a4 : List (Vol)) (a5 : Int) (a6 : List Int) (a7 : Int) (a8 : Int) : Option (List (Int) × List (Node) × List (Age) × List (Cell) × List (Vol) × Int × Int × Unit) :=
 bnd (impl_blockCode K a0 a1 a2 a3 a4 a5 a6 a7 true) fun y0 =>
 joinK (fun s1 : Int × List (Vol) × List (Cell) × List (Age) × List (Node) × List (Int) × Int × List (Vol) × List (Cell) × List (Age) × List (Node) × List (Int) × Int × Int × Int × Int × Unit =>
  br (decide (s1.2.2.2.2.2.2.2.2.2.2.2.2.1 ≠ (0:Int))) (
   bnd (impl_copyPool K s1.2.2.2.2.2.1 s1.2.2.2.2.1 s1.2.2.2.1 s1.2.2.1 s1.2.1 s1.1) fun y3 =>
   some (y3.1, y3.2.1, y3.2.2.1, y3.2.2.2.1, y3.2.2.2.2.1, y3.2.2.2.2.2.1, s1.2.2.2.2.2.2.2.2.2.2.2.2.1, ())) (
   bnd (impl_copyPool K s1.2.2.2.2.2.1 s1.2.2.2.2.1 s1.2.2.2.1 s1.2.2.1 s1.2.1 s1.1) fun y4 =>
   bnd (impl_TakeCell K s1.2.2.1 s1.2.2.2.2.2.2.2.2.2.2.2.2.2.1) fun y5 =>
   br (!y5.2.2.1) (
    bnd (impl_copyPool K s1.2.2.2.2.2.1 s1.2.2.2.2.1 s1.2.2.2.1 s1.2.2.1 s1.2.1 s1.1) fun y6 =>
    some (y6.1, y6.2.1, y6.2.2.1, y6.2.2.2.1, y6.2.2.2.2.1, y6.2.2.2.2.2.1, (6:Int), ())) (
    inK s1.2.1 s1.2.2.2.2.2.2.2.2.2.2.2.2.2.2.2.1 <|
    idxK s1.2.1 s1.2.2.2.2.2.2.2.2.2.2.2.2.2.2.2.1 fun x7 =>
    inK y5.1 y5.2.1 <|
    idxK y5.1 y5.2.1 fun x8 =>
    bnd (impl_Pool_putKey K y4.1 y4.2.1 y4.2.2.1 y5.1 y4.2.2.2.2.1 y4.2.2.2.2.2.1 s1.2.2.2.2.2.2.2.2.2.2.2.2.2.2.1 x7.age (1:Int) y5.2.1 x8.gen) fun y9 =>
    bnd (impl_settled_ro K s1.2.2.2.2.2.1 s1.2.2.2.2.1 s1.2.2.2.1 s1.2.2.1 s1.2.1 s1.1 y9.2.1 y9.2.2.1 y4.2.2.1 y9.2.2.2.1 y4.2.2.2.2.1 y4.2.2.2.2.2.1 y9.1) fun y10 =>
    some (y10.1, y10.2.1, y10.2.2.1, y10.2.2.2.1, y10.2.2.2.2.1, y10.2.2.2.2.2.1, y10.2.2.2.2.2.2.1, ())))) fun j2 =>
 br (decide (y0.2.1 = (0:Int))) (
  bnd (impl_isWord K a8) fun y11 =>
  br (!y11.1) (
   j2 (a5, a4, a3, a2, a1, a0, (0:Int), ([] : List (Vol)), ([] : List (Cell)), ([] : List (Age)), ([] : List (Node)), ([] : List (Int)), (4:Int), a8, a7, y0.1, ())) (
   j2 (a5, a4, a3, a2, a1, a0, (0:Int), ([] : List (Vol)), ([] : List (Cell)), ([] : List (Age)), ([] : List (Node)), ([] : List (Int)), y0.2.1, a8, a7, y0.1, ()))) (
  j2 (a5, a4, a3, a2, a1, a0, (0:Int), ([] : List (Vol)), ([] : List (Cell)), ([] : List (Age)), ([] : List (Node)), ([] : List (Int)), y0.2.1, a8, a7, y0.1, ()))
def laws_sameInts (K : Nat) (a0 : List (Int)) (a1 : List (Int)) : Option (Bool × Unit) :=
 br (decide ((List.length a0 : Int) ≠ (List.length a1 : Int))) (
  some (false, ())) (
  loopFix K (fun r1 (s0 : List (Int) × List (Int) × Int × Unit) =>
   br (decide (s0.2.2.1 < (List.length s0.1 : Int))) (
    inK s0.1 s0.2.2.1 <|
    idxK s0.1 s0.2.2.1 fun x2 =>
    inK s0.2.1 s0.2.2.1 <|
    idxK s0.2.1 s0.2.2.1 fun x3 =>
    br (decide (x2 ≠ x3)) (
     some (false, ())) (
     r1 (s0.1, s0.2.1, (wr (s0.2.2.1 + (1:Int))), ()))) (
    some (true, ()))) (a0, a1, (0:Int), ()))
def laws_sameKeys (K : Nat) (a0 : List (Key)) (a1 : List (Key)) : Option (Bool × Unit) :=
 br (decide ((List.length a0 : Int) ≠ (List.length a1 : Int))) (
  some (false, ())) (
  loopFix K (fun r1 (s0 : List (Key) × List (Key) × Int × Unit) =>
   br (decide (s0.2.2.1 < (List.length s0.1 : Int))) (
    inK s0.1 s0.2.2.1 <|
    idxK s0.1 s0.2.2.1 fun x2 =>
    inK s0.2.1 s0.2.2.1 <|
    idxK s0.2.1 s0.2.2.1 fun x3 =>
    br (true ^^ (decide (x2.blk = x3.blk) && (decide (x2.age = x3.age) && (decide (x2.kind = x3.kind) && (decide (x2.cell = x3.cell) && (decide (x2.gen = x3.gen) && (true))))))) (
     some (false, ())) (
     r1 (s0.1, s0.2.1, (wr (s0.2.2.1 + (1:Int))), ()))) (
    some (true, ()))) (a0, a1, (0:Int), ()))
def laws_sameNode (K : Nat) (a0 : List (List (Key))) (a1 : List (List (Key))) : Option (Bool × Unit) :=
 br (decide ((List.length a0 : Int) ≠ (List.length a1 : Int))) (
  some (false, ())) (
  loopFix K (fun r1 (s0 : List (List (Key)) × List (List (Key)) × Int × Unit) =>
   br (decide (s0.2.2.1 < (List.length s0.1 : Int))) (
    inK s0.1 s0.2.2.1 <|
    idxK s0.1 s0.2.2.1 fun x2 =>
    inK s0.2.1 s0.2.2.1 <|
    idxK s0.2.1 s0.2.2.1 fun x3 =>
    bnd (laws_sameKeys K x2 x3) fun y4 =>
    br (!y4.1) (
     some (false, ())) (
     r1 (s0.1, s0.2.1, (wr (s0.2.2.1 + (1:Int))), ()))) (
    some (true, ()))) (a0, a1, (0:Int), ()))
def laws_sameTree (K : Nat) (a0 : List (Int)) (a1 : List (Node)) (a2 : List (Int)) (a3 : List (Node)) : Option (Bool × Unit) :=
 bnd (laws_sameInts K a0 a2) fun y0 =>
 br (!y0.1) (
  some (false, ())) (
  br (decide ((List.length a1 : Int) ≠ (List.length a3 : Int))) (
   some (false, ())) (
   loopFix K (fun r2 (s1 : List (Node) × List (Int) × List (Node) × List (Int) × Int × Unit) =>
    br (decide (s1.2.2.2.2.1 < (List.length s1.1 : Int))) (
     inK s1.1 s1.2.2.2.2.1 <|
     idxK s1.1 s1.2.2.2.2.1 fun x3 =>
     inK s1.2.2.1 s1.2.2.2.2.1 <|
     idxK s1.2.2.1 s1.2.2.2.2.1 fun x4 =>
     bnd (laws_sameNode K x3.sets x4.sets) fun y5 =>
     br (!y5.1) (
      some (false, ())) (
      r2 (s1.1, s1.2.1, s1.2.2.1, s1.2.2.2.1, (wr (s1.2.2.2.2.1 + (1:Int))), ()))) (
     some (true, ()))) (a1, a0, a3, a2, (0:Int), ())))
def laws_sameAges (K : Nat) (a0 : List (Age)) (a1 : List (Age)) : Option (Bool × Unit) :=
 br (decide ((List.length a0 : Int) ≠ (List.length a1 : Int))) (
  some (false, ())) (
  loopFix K (fun r1 (s0 : List (Age) × List (Age) × Int × Unit) =>
   br (decide (s0.2.2.1 < (List.length s0.1 : Int))) (
    inK s0.1 s0.2.2.1 <|
    idxK s0.1 s0.2.2.1 fun x2 =>
    inK s0.2.1 s0.2.2.1 <|
    idxK s0.2.1 s0.2.2.1 fun x3 =>
    br (true ^^ (decide (x2.id = x3.id) && (decide (x2.from_ = x3.from_) && (true)))) (
     some (false, ())) (
     r1 (s0.1, s0.2.1, (wr (s0.2.2.1 + (1:Int))), ()))) (
    some (true, ()))) (a0, a1, (0:Int), ()))
def laws_sameCells (K : Nat) (a0 : List (Cell)) (a1 : List (Cell)) : Option (Bool × Unit) :=
 br (decide ((List.length a0 : Int) ≠ (List.length a1 : Int))) (
  some (false, ())) (
  loopFix K (fun r1 (s0 : List (Cell) × List (Cell) × Int × Unit) =>
   br (decide (s0.2.2.1 < (List.length s0.1 : Int))) (
    inK s0.1 s0.2.2.1 <|
    idxK s0.1 s0.2.2.1 fun x2 =>
    inK s0.2.1 s0.2.2.1 <|
    idxK s0.2.1 s0.2.2.1 fun x3 =>
    br (true ^^ (decide (x2.gen = x3.gen) && ((x2.used == x3.used) && (decide (x2.n = x3.n) && (true))))) (
     some (false, ())) (
     r1 (s0.1, s0.2.1, (wr (s0.2.2.1 + (1:Int))), ()))) (
    some (true, ()))) (a0, a1, (0:Int), ()))
def laws_samePool (K : Nat) (a0 : List (Int)) (a1 : List (Node)) (a2 : List (Age)) (a3 : List (Cell)) (a4 : List (Vol)) (a5 : Int) (a6 : List (Int)) (a7 : List (Node)) (a8 : List (Age)) (a9 : List (Cell)) (a10 : List (Vol)) (a11 : Int) : Option (Bool × Unit) :=
 bnd (laws_sameTree K a0 a1 a6 a7) fun y0 =>
 br (!y0.1) (
  some (false, ())) (
  bnd (laws_sameAges K a2 a8) fun y1 =>
  br (!y1.1) (
   some (false, ())) (
   bnd (laws_sameCells K a3 a9) fun y2 =>
   br (!y2.1) (
    some (false, ())) (
    br (decide ((List.length a4 : Int) ≠ (List.length a10 : Int))) (
     some (false, ())) (
     br (decide (a5 ≠ a11)) (
      some (false, ())) (
      loopFix K (fun r4 (s3 : Int × List (Vol) × List (Cell) × List (Age) × List (Node) × List (Int) × Int × List (Vol) × List (Cell) × List (Age) × List (Node) × List (Int) × Int × Unit) =>
       br (decide (s3.2.2.2.2.2.2.2.2.2.2.2.2.1 < (List.length s3.2.1 : Int))) (
        inK s3.2.1 s3.2.2.2.2.2.2.2.2.2.2.2.2.1 <|
        idxK s3.2.1 s3.2.2.2.2.2.2.2.2.2.2.2.2.1 fun x5 =>
        inK s3.2.2.2.2.2.2.2.1 s3.2.2.2.2.2.2.2.2.2.2.2.2.1 <|
        idxK s3.2.2.2.2.2.2.2.1 s3.2.2.2.2.2.2.2.2.2.2.2.2.1 fun x6 =>
        br (true ^^ (decide (x5.name = x6.name) && (decide (x5.age = x6.age) && (decide (x5.size = x6.size) && ((x5.fixed == x6.fixed) && (true)))))) (
         some (false, ())) (
         r4 (s3.1, s3.2.1, s3.2.2.1, s3.2.2.2.1, s3.2.2.2.2.1, s3.2.2.2.2.2.1, s3.2.2.2.2.2.2.1, s3.2.2.2.2.2.2.2.1, s3.2.2.2.2.2.2.2.2.1, s3.2.2.2.2.2.2.2.2.2.1, s3.2.2.2.2.2.2.2.2.2.2.1, s3.2.2.2.2.2.2.2.2.2.2.2.1, (wr (s3.2.2.2.2.2.2.2.2.2.2.2.2.1 + (1:Int))), ()))) (
        some (true, ()))) (a5, a4, a3, a2, a1, a0, a11, a10, a9, a8, a7, a6, (0:Int), ()))))))
def impl_SeenAbove (K : Nat) (a0 : List (Int)) (a1 : List (Node)) (a2 : List (Age)) (a3 : Int) (a4 : Int) : Option (Int × Int × Int × Int × Int × Bool × Unit) :=
 bnd (impl_PathOf K a2 a4) fun y0 =>
 subK y0.1 (min (1:Int) (List.length y0.1 : Int)) (List.length y0.1 : Int) fun z1 =>
 bnd (impl_seenOn K a0 a1 a3 z1) fun y2 =>
 some (y2.1, y2.2.1, y2.2.2.1, y2.2.2.2.1, y2.2.2.2.2.1, y2.2.2.2.2.2.1, ())
def impl_Pool_discard (K : Nat) (a0 : List (Int)) (a1 : List (Node)) (a2 : List (Age)) (a3 : List (Cell)) (a4 : List (Vol)) (a5 : Int) (a6 : Int) (a7 : Int) : Option (Bool × List (Int) × List (Node) × List (Cell) × Unit) :=
 inK a4 a6 <|
 idxK a4 a6 fun x0 =>
 bnd (impl_SeenAbove K a0 a1 a2 a7 x0.age) fun y1 =>
 br y1.2.2.2.2.2.1 (
  br (decide (y1.2.2.1 = (1:Int))) (
   bnd (impl_Pool_putKey K a0 a1 a2 a3 a4 a5 a7 x0.age (2:Int) (0:Int) (0:Int)) fun y2 =>
   some (y2.1, y2.2.1, y2.2.2.1, y2.2.2.2.1, ())) (
   bnd (impl_TreeAt K a0 a1 a7 x0.age) fun y3 =>
   br y3.2.2.2.2.2.1 (
    bnd (impl_Pool_putKey K a0 a1 a2 a3 a4 a5 a7 x0.age (0:Int) (0:Int) (0:Int)) fun y4 =>
    some (y4.1, y4.2.1, y4.2.2.1, y4.2.2.2.1, ())) (
    some (true, a0, a1, a3, ())))) (
  bnd (impl_TreeAt K a0 a1 a7 x0.age) fun y5 =>
  br y5.2.2.2.2.2.1 (
   bnd (impl_Pool_putKey K a0 a1 a2 a3 a4 a5 a7 x0.age (0:Int) (0:Int) (0:Int)) fun y6 =>
   some (y6.1, y6.2.1, y6.2.2.1, y6.2.2.2.1, ())) (
   some (true, a0, a1, a3, ())))
def impl_Discard (K : Nat) (a0 : List (Int)) (a1 : List (Node)) (a2 : List (Age)) (a3 : List (Cell)) (a4 : List (Vol)) (a5 : Int) (a6 : List Int) (a7 : Int) : Option (List (Int) × List (Node) × List (Age) × List (Cell) × List (Vol) × Int × Int × Unit) :=
 bnd (impl_blockCode K a0 a1 a2 a3 a4 a5 a6 a7 true) fun y0 =>
 br (decide (y0.2.1 ≠ (0:Int))) (
  bnd (impl_copyPool K a0 a1 a2 a3 a4 a5) fun y1 =>
  some (y1.1, y1.2.1, y1.2.2.1, y1.2.2.2.1, y1.2.2.2.2.1, y1.2.2.2.2.2.1, y0.2.1, ())) (
  bnd (impl_copyPool K a0 a1 a2 a3 a4 a5) fun y2 =>
  bnd (impl_Pool_discard K y2.1 y2.2.1 y2.2.2.1 y2.2.2.2.1 y2.2.2.2.2.1 y2.2.2.2.2.2.1 y0.1 a7) fun y3 =>
  bnd (impl_settled_ro K a0 a1 a2 a3 a4 a5 y3.2.1 y3.2.2.1 y2.2.2.1 y3.2.2.2.1 y2.2.2.2.2.1 y2.2.2.2.2.2.1 y3.1) fun y4 =>
  some (y4.1, y4.2.1, y4.2.2.1, y4.2.2.2.1, y4.2.2.2.2.1, y4.2.2.2.2.2.1, y4.2.2.2.2.2.2.1, ()))
def laws_FnReads_v (K : Nat) (a0 : List (Int)) : Option (Bool × Unit) :=
 bnd (laws_big K a0) fun y0 =>
 br y0.1 (
  some (true, ())) (
  bnd (spec_DrawPool_v K a0) fun y1 =>
  br (decide ((List.length y1.2.2.2.2.1 : Int) = (0:Int))) (
   bnd (impl_Read K y1.1 y1.2.1 y1.2.2.1 y1.2.2.2.1 y1.2.2.2.2.1 y1.2.2.2.2.2.1 ([97] : List Int) (0:Int)) fun y2 =>
   br (decide (y2.1 = (0:Int))) (
    some ((decide (y2.2.1 = (2:Int))), ())) (
    some (false, ()))) (
   bnd (laws_at K a0 (2:Int)) fun y3 =>
   chk (decide ((List.length y1.2.2.2.2.1 : Int) ≠ 0)) <|
   inK y1.2.2.2.2.1 (Int.tmod y3.1 (List.length y1.2.2.2.2.1 : Int)) <|
   idxK y1.2.2.2.2.1 (Int.tmod y3.1 (List.length y1.2.2.2.2.1 : Int)) fun x4 =>
   bnd (laws_at K a0 (3:Int)) fun y5 =>
   chk (decide (x4.size ≠ 0)) <|
   bnd (laws_at K a0 (4:Int)) fun y6 =>
   bnd (impl_Write K y1.1 y1.2.1 y1.2.2.1 y1.2.2.2.1 y1.2.2.2.2.1 y1.2.2.2.2.2.1 x4.name (Int.tmod y5.1 x4.size) y6.1) fun y7 =>
   br (decide (y7.2.2.2.2.2.2.1 ≠ (0:Int))) (
    bnd (laws_samePool K y7.1 y7.2.1 y7.2.2.1 y7.2.2.2.1 y7.2.2.2.2.1 y7.2.2.2.2.2.1 y1.1 y1.2.1 y1.2.2.1 y1.2.2.2.1 y1.2.2.2.2.1 y1.2.2.2.2.2.1) fun y8 =>
    br y8.1 (
     br (false ^^ ((decide (y7.2.2.2.2.2.2.1 = (5:Int))) == x4.fixed)) (
      br (decide (y7.2.2.2.2.2.2.1 = (6:Int))) (
       some (true, ())) (
       some (x4.fixed, ()))) (
      some (false, ()))) (
     some (false, ()))) (
    loopFix K (fun r10 (s9 : Bool × Int × Int × List Int × Int × List (Vol) × List (Cell) × List (Age) × List (Node) × List (Int) × Int × List (Vol) × List (Cell) × List (Age) × List (Node) × List (Int) × Int × Int × List (Int) × Int × Unit) =>
     br (decide (s9.2.2.2.2.2.2.2.2.2.2.2.2.2.2.2.2.2.1 < (List.length s9.2.2.2.2.2.2.2.2.2.2.2.1 : Int))) (
      loopFix K (fun r12 (s11 : Int × List (Vol) × List (Cell) × List (Age) × List (Node) × List (Int) × Int × List (Vol) × List (Cell) × List (Age) × List (Node) × List (Int) × Bool × Int × Int × List Int × Int × List (Int) × Int × Int × Int × Unit) =>
       inK s11.2.1 s11.2.2.2.2.2.2.2.2.2.2.2.2.2.2.2.2.2.2.2.1 <|
       idxK s11.2.1 s11.2.2.2.2.2.2.2.2.2.2.2.2.2.2.2.2.2.2.2.1 fun x13 =>
       br (decide (s11.2.2.2.2.2.2.2.2.2.2.2.2.2.2.2.2.2.2.2.2.1 < x13.size)) (
        inK s11.2.1 s11.2.2.2.2.2.2.2.2.2.2.2.2.2.2.2.2.2.2.2.1 <|
        idxK s11.2.1 s11.2.2.2.2.2.2.2.2.2.2.2.2.2.2.2.2.2.2.2.1 fun x14 =>
        bnd (impl_Read K s11.2.2.2.2.2.1 s11.2.2.2.2.1 s11.2.2.2.1 s11.2.2.1 s11.2.1 s11.1 x14.name s11.2.2.2.2.2.2.2.2.2.2.2.2.2.2.2.2.2.2.2.2.1) fun y15 =>
        inK s11.2.1 s11.2.2.2.2.2.2.2.2.2.2.2.2.2.2.2.2.2.2.2.1 <|
        idxK s11.2.1 s11.2.2.2.2.2.2.2.2.2.2.2.2.2.2.2.2.2.2.2.1 fun x16 =>
        bnd (impl_Read K s11.2.2.2.2.2.2.2.2.2.2.2.1 s11.2.2.2.2.2.2.2.2.2.2.1 s11.2.2.2.2.2.2.2.2.2.1 s11.2.2.2.2.2.2.2.2.1 s11.2.2.2.2.2.2.2.1 s11.2.2.2.2.2.2.1 x16.name s11.2.2.2.2.2.2.2.2.2.2.2.2.2.2.2.2.2.2.2.2.1) fun y17 =>
        br (decide (y15.2.1 ≠ (0:Int))) (
         some (false, ())) (
         br (decide (y17.2.1 ≠ (0:Int))) (
          some (false, ())) (
          br (decide (s11.2.2.2.2.2.2.2.2.2.2.2.2.2.2.2.2.2.2.2.1 = s11.2.2.2.2.2.2.2.2.2.2.2.2.2.2.2.2.1)) (
           br (decide (s11.2.2.2.2.2.2.2.2.2.2.2.2.2.2.2.2.2.2.2.2.1 = s11.2.2.2.2.2.2.2.2.2.2.2.2.2.2.2.2.2.2.1)) (
            bnd (laws_at K s11.2.2.2.2.2.2.2.2.2.2.2.2.2.2.2.2.2.1 (4:Int)) fun y18 =>
            br (decide (y17.1 ≠ y18.1)) (
             some (false, ())) (
             br (decide (s11.2.2.2.2.2.2.2.2.2.2.2.2.2.2.2.2.2.2.2.1 ≠ s11.2.2.2.2.2.2.2.2.2.2.2.2.2.2.2.2.1)) (
              br (decide (y15.1 ≠ y17.1)) (
               some (false, ())) (
               r12 (s11.1, s11.2.1, s11.2.2.1, s11.2.2.2.1, s11.2.2.2.2.1, s11.2.2.2.2.2.1, s11.2.2.2.2.2.2.1, s11.2.2.2.2.2.2.2.1, s11.2.2.2.2.2.2.2.2.1, s11.2.2.2.2.2.2.2.2.2.1, s11.2.2.2.2.2.2.2.2.2.2.1, s11.2.2.2.2.2.2.2.2.2.2.2.1, s11.2.2.2.2.2.2.2.2.2.2.2.2.1, s11.2.2.2.2.2.2.2.2.2.2.2.2.2.1, s11.2.2.2.2.2.2.2.2.2.2.2.2.2.2.1, s11.2.2.2.2.2.2.2.2.2.2.2.2.2.2.2.1, s11.2.2.2.2.2.2.2.2.2.2.2.2.2.2.2.2.1, s11.2.2.2.2.2.2.2.2.2.2.2.2.2.2.2.2.2.1, s11.2.2.2.2.2.2.2.2.2.2.2.2.2.2.2.2.2.2.1, s11.2.2.2.2.2.2.2.2.2.2.2.2.2.2.2.2.2.2.2.1, (wr (s11.2.2.2.2.2.2.2.2.2.2.2.2.2.2.2.2.2.2.2.2.1 + (1:Int))), ()))) (
              br (decide (s11.2.2.2.2.2.2.2.2.2.2.2.2.2.2.2.2.2.2.2.2.1 ≠ s11.2.2.2.2.2.2.2.2.2.2.2.2.2.2.2.2.2.2.1)) (
               br (decide (y15.1 ≠ y17.1)) (
                some (false, ())) (
                r12 (s11.1, s11.2.1, s11.2.2.1, s11.2.2.2.1, s11.2.2.2.2.1, s11.2.2.2.2.2.1, s11.2.2.2.2.2.2.1, s11.2.2.2.2.2.2.2.1, s11.2.2.2.2.2.2.2.2.1, s11.2.2.2.2.2.2.2.2.2.1, s11.2.2.2.2.2.2.2.2.2.2.1, s11.2.2.2.2.2.2.2.2.2.2.2.1, s11.2.2.2.2.2.2.2.2.2.2.2.2.1, s11.2.2.2.2.2.2.2.2.2.2.2.2.2.1, s11.2.2.2.2.2.2.2.2.2.2.2.2.2.2.1, s11.2.2.2.2.2.2.2.2.2.2.2.2.2.2.2.1, s11.2.2.2.2.2.2.2.2.2.2.2.2.2.2.2.2.1, s11.2.2.2.2.2.2.2.2.2.2.2.2.2.2.2.2.2.1, s11.2.2.2.2.2.2.2.2.2.2.2.2.2.2.2.2.2.2.1, s11.2.2.2.2.2.2.2.2.2.2.2.2.2.2.2.2.2.2.2.1, (wr (s11.2.2.2.2.2.2.2.2.2.2.2.2.2.2.2.2.2.2.2.2.1 + (1:Int))), ()))) (
               r12 (s11.1, s11.2.1, s11.2.2.1, s11.2.2.2.1, s11.2.2.2.2.1, s11.2.2.2.2.2.1, s11.2.2.2.2.2.2.1, s11.2.2.2.2.2.2.2.1, s11.2.2.2.2.2.2.2.2.1, s11.2.2.2.2.2.2.2.2.2.1, s11.2.2.2.2.2.2.2.2.2.2.1, s11.2.2.2.2.2.2.2.2.2.2.2.1, s11.2.2.2.2.2.2.2.2.2.2.2.2.1, s11.2.2.2.2.2.2.2.2.2.2.2.2.2.1, s11.2.2.2.2.2.2.2.2.2.2.2.2.2.2.1, s11.2.2.2.2.2.2.2.2.2.2.2.2.2.2.2.1, s11.2.2.2.2.2.2.2.2.2.2.2.2.2.2.2.2.1, s11.2.2.2.2.2.2.2.2.2.2.2.2.2.2.2.2.2.1, s11.2.2.2.2.2.2.2.2.2.2.2.2.2.2.2.2.2.2.1, s11.2.2.2.2.2.2.2.2.2.2.2.2.2.2.2.2.2.2.2.1, (wr (s11.2.2.2.2.2.2.2.2.2.2.2.2.2.2.2.2.2.2.2.2.1 + (1:Int))), ()))))) (
            br (decide (s11.2.2.2.2.2.2.2.2.2.2.2.2.2.2.2.2.2.2.2.1 ≠ s11.2.2.2.2.2.2.2.2.2.2.2.2.2.2.2.2.1)) (
             br (decide (y15.1 ≠ y17.1)) (
              some (false, ())) (
              r12 (s11.1, s11.2.1, s11.2.2.1, s11.2.2.2.1, s11.2.2.2.2.1, s11.2.2.2.2.2.1, s11.2.2.2.2.2.2.1, s11.2.2.2.2.2.2.2.1, s11.2.2.2.2.2.2.2.2.1, s11.2.2.2.2.2.2.2.2.2.1, s11.2.2.2.2.2.2.2.2.2.2.1, s11.2.2.2.2.2.2.2.2.2.2.2.1, s11.2.2.2.2.2.2.2.2.2.2.2.2.1, s11.2.2.2.2.2.2.2.2.2.2.2.2.2.1, s11.2.2.2.2.2.2.2.2.2.2.2.2.2.2.1, s11.2.2.2.2.2.2.2.2.2.2.2.2.2.2.2.1, s11.2.2.2.2.2.2.2.2.2.2.2.2.2.2.2.2.1, s11.2.2.2.2.2.2.2.2.2.2.2.2.2.2.2.2.2.1, s11.2.2.2.2.2.2.2.2.2.2.2.2.2.2.2.2.2.2.1, s11.2.2.2.2.2.2.2.2.2.2.2.2.2.2.2.2.2.2.2.1, (wr (s11.2.2.2.2.2.2.2.2.2.2.2.2.2.2.2.2.2.2.2.2.1 + (1:Int))), ()))) (
             br (decide (s11.2.2.2.2.2.2.2.2.2.2.2.2.2.2.2.2.2.2.2.2.1 ≠ s11.2.2.2.2.2.2.2.2.2.2.2.2.2.2.2.2.2.2.1)) (
              br (decide (y15.1 ≠ y17.1)) (
               some (false, ())) (
               r12 (s11.1, s11.2.1, s11.2.2.1, s11.2.2.2.1, s11.2.2.2.2.1, s11.2.2.2.2.2.1, s11.2.2.2.2.2.2.1, s11.2.2.2.2.2.2.2.1, s11.2.2.2.2.2.2.2.2.1, s11.2.2.2.2.2.2.2.2.2.1, s11.2.2.2.2.2.2.2.2.2.2.1, s11.2.2.2.2.2.2.2.2.2.2.2.1, s11.2.2.2.2.2.2.2.2.2.2.2.2.1, s11.2.2.2.2.2.2.2.2.2.2.2.2.2.1, s11.2.2.2.2.2.2.2.2.2.2.2.2.2.2.1, s11.2.2.2.2.2.2.2.2.2.2.2.2.2.2.2.1, s11.2.2.2.2.2.2.2.2.2.2.2.2.2.2.2.2.1, s11.2.2.2.2.2.2.2.2.2.2.2.2.2.2.2.2.2.1, s11.2.2.2.2.2.2.2.2.2.2.2.2.2.2.2.2.2.2.1, s11.2.2.2.2.2.2.2.2.2.2.2.2.2.2.2.2.2.2.2.1, (wr (s11.2.2.2.2.2.2.2.2.2.2.2.2.2.2.2.2.2.2.2.2.1 + (1:Int))), ()))) (
              r12 (s11.1, s11.2.1, s11.2.2.1, s11.2.2.2.1, s11.2.2.2.2.1, s11.2.2.2.2.2.1, s11.2.2.2.2.2.2.1, s11.2.2.2.2.2.2.2.1, s11.2.2.2.2.2.2.2.2.1, s11.2.2.2.2.2.2.2.2.2.1, s11.2.2.2.2.2.2.2.2.2.2.1, s11.2.2.2.2.2.2.2.2.2.2.2.1, s11.2.2.2.2.2.2.2.2.2.2.2.2.1, s11.2.2.2.2.2.2.2.2.2.2.2.2.2.1, s11.2.2.2.2.2.2.2.2.2.2.2.2.2.2.1, s11.2.2.2.2.2.2.2.2.2.2.2.2.2.2.2.1, s11.2.2.2.2.2.2.2.2.2.2.2.2.2.2.2.2.1, s11.2.2.2.2.2.2.2.2.2.2.2.2.2.2.2.2.2.1, s11.2.2.2.2.2.2.2.2.2.2.2.2.2.2.2.2.2.2.1, s11.2.2.2.2.2.2.2.2.2.2.2.2.2.2.2.2.2.2.2.1, (wr (s11.2.2.2.2.2.2.2.2.2.2.2.2.2.2.2.2.2.2.2.2.1 + (1:Int))), ()))))) (
           br (decide (s11.2.2.2.2.2.2.2.2.2.2.2.2.2.2.2.2.2.2.2.1 ≠ s11.2.2.2.2.2.2.2.2.2.2.2.2.2.2.2.2.1)) (
            br (decide (y15.1 ≠ y17.1)) (
             some (false, ())) (
             r12 (s11.1, s11.2.1, s11.2.2.1, s11.2.2.2.1, s11.2.2.2.2.1, s11.2.2.2.2.2.1, s11.2.2.2.2.2.2.1, s11.2.2.2.2.2.2.2.1, s11.2.2.2.2.2.2.2.2.1, s11.2.2.2.2.2.2.2.2.2.1, s11.2.2.2.2.2.2.2.2.2.2.1, s11.2.2.2.2.2.2.2.2.2.2.2.1, s11.2.2.2.2.2.2.2.2.2.2.2.2.1, s11.2.2.2.2.2.2.2.2.2.2.2.2.2.1, s11.2.2.2.2.2.2.2.2.2.2.2.2.2.2.1, s11.2.2.2.2.2.2.2.2.2.2.2.2.2.2.2.1, s11.2.2.2.2.2.2.2.2.2.2.2.2.2.2.2.2.1, s11.2.2.2.2.2.2.2.2.2.2.2.2.2.2.2.2.2.1, s11.2.2.2.2.2.2.2.2.2.2.2.2.2.2.2.2.2.2.1, s11.2.2.2.2.2.2.2.2.2.2.2.2.2.2.2.2.2.2.2.1, (wr (s11.2.2.2.2.2.2.2.2.2.2.2.2.2.2.2.2.2.2.2.2.1 + (1:Int))), ()))) (
            br (decide (s11.2.2.2.2.2.2.2.2.2.2.2.2.2.2.2.2.2.2.2.2.1 ≠ s11.2.2.2.2.2.2.2.2.2.2.2.2.2.2.2.2.2.2.1)) (
             br (decide (y15.1 ≠ y17.1)) (
              some (false, ())) (
              r12 (s11.1, s11.2.1, s11.2.2.1, s11.2.2.2.1, s11.2.2.2.2.1, s11.2.2.2.2.2.1, s11.2.2.2.2.2.2.1, s11.2.2.2.2.2.2.2.1, s11.2.2.2.2.2.2.2.2.1, s11.2.2.2.2.2.2.2.2.2.1, s11.2.2.2.2.2.2.2.2.2.2.1, s11.2.2.2.2.2.2.2.2.2.2.2.1, s11.2.2.2.2.2.2.2.2.2.2.2.2.1, s11.2.2.2.2.2.2.2.2.2.2.2.2.2.1, s11.2.2.2.2.2.2.2.2.2.2.2.2.2.2.1, s11.2.2.2.2.2.2.2.2.2.2.2.2.2.2.2.1, s11.2.2.2.2.2.2.2.2.2.2.2.2.2.2.2.2.1, s11.2.2.2.2.2.2.2.2.2.2.2.2.2.2.2.2.2.1, s11.2.2.2.2.2.2.2.2.2.2.2.2.2.2.2.2.2.2.1, s11.2.2.2.2.2.2.2.2.2.2.2.2.2.2.2.2.2.2.2.1, (wr (s11.2.2.2.2.2.2.2.2.2.2.2.2.2.2.2.2.2.2.2.2.1 + (1:Int))), ()))) (
             r12 (s11.1, s11.2.1, s11.2.2.1, s11.2.2.2.1, s11.2.2.2.2.1, s11.2.2.2.2.2.1, s11.2.2.2.2.2.2.1, s11.2.2.2.2.2.2.2.1, s11.2.2.2.2.2.2.2.2.1, s11.2.2.2.2.2.2.2.2.2.1, s11.2.2.2.2.2.2.2.2.2.2.1, s11.2.2.2.2.2.2.2.2.2.2.2.1, s11.2.2.2.2.2.2.2.2.2.2.2.2.1, s11.2.2.2.2.2.2.2.2.2.2.2.2.2.1, s11.2.2.2.2.2.2.2.2.2.2.2.2.2.2.1, s11.2.2.2.2.2.2.2.2.2.2.2.2.2.2.2.1, s11.2.2.2.2.2.2.2.2.2.2.2.2.2.2.2.2.1, s11.2.2.2.2.2.2.2.2.2.2.2.2.2.2.2.2.2.1, s11.2.2.2.2.2.2.2.2.2.2.2.2.2.2.2.2.2.2.1, s11.2.2.2.2.2.2.2.2.2.2.2.2.2.2.2.2.2.2.2.1, (wr (s11.2.2.2.2.2.2.2.2.2.2.2.2.2.2.2.2.2.2.2.2.1 + (1:Int))), ()))))))) (
        r10 (s11.2.2.2.2.2.2.2.2.2.2.2.2.1, s11.2.2.2.2.2.2.2.2.2.2.2.2.2.1, s11.2.2.2.2.2.2.2.2.2.2.2.2.2.2.1, s11.2.2.2.2.2.2.2.2.2.2.2.2.2.2.2.1, s11.2.2.2.2.2.2.1, s11.2.2.2.2.2.2.2.1, s11.2.2.2.2.2.2.2.2.1, s11.2.2.2.2.2.2.2.2.2.1, s11.2.2.2.2.2.2.2.2.2.2.1, s11.2.2.2.2.2.2.2.2.2.2.2.1, s11.1, s11.2.1, s11.2.2.1, s11.2.2.2.1, s11.2.2.2.2.1, s11.2.2.2.2.2.1, s11.2.2.2.2.2.2.2.2.2.2.2.2.2.2.2.2.2.2.1, (wr (s11.2.2.2.2.2.2.2.2.2.2.2.2.2.2.2.2.2.2.2.1 + (1:Int))), s11.2.2.2.2.2.2.2.2.2.2.2.2.2.2.2.2.2.1, s11.2.2.2.2.2.2.2.2.2.2.2.2.2.2.2.2.1, ()))) (s9.2.2.2.2.2.2.2.2.2.2.1, s9.2.2.2.2.2.2.2.2.2.2.2.1, s9.2.2.2.2.2.2.2.2.2.2.2.2.1, s9.2.2.2.2.2.2.2.2.2.2.2.2.2.1, s9.2.2.2.2.2.2.2.2.2.2.2.2.2.2.1, s9.2.2.2.2.2.2.2.2.2.2.2.2.2.2.2.1, s9.2.2.2.2.1, s9.2.2.2.2.2.1, s9.2.2.2.2.2.2.1, s9.2.2.2.2.2.2.2.1, s9.2.2.2.2.2.2.2.2.1, s9.2.2.2.2.2.2.2.2.2.1, s9.1, s9.2.1, s9.2.2.1, s9.2.2.2.1, s9.2.2.2.2.2.2.2.2.2.2.2.2.2.2.2.2.2.2.2.1, s9.2.2.2.2.2.2.2.2.2.2.2.2.2.2.2.2.2.2.1, s9.2.2.2.2.2.2.2.2.2.2.2.2.2.2.2.2.1, s9.2.2.2.2.2.2.2.2.2.2.2.2.2.2.2.2.2.1, (0:Int), ())) (
      bnd (impl_Discard K s9.2.2.2.2.2.2.2.2.2.1 s9.2.2.2.2.2.2.2.2.1 s9.2.2.2.2.2.2.2.1 s9.2.2.2.2.2.2.1 s9.2.2.2.2.2.1 s9.2.2.2.2.1 s9.2.2.2.1 s9.2.2.2.2.2.2.2.2.2.2.2.2.2.2.2.2.1) fun y19 =>
      bnd (impl_Read K y19.1 y19.2.1 y19.2.2.1 y19.2.2.2.1 y19.2.2.2.2.1 y19.2.2.2.2.2.1 s9.2.2.2.1 s9.2.2.2.2.2.2.2.2.2.2.2.2.2.2.2.2.1) fun y20 =>
      br (!s9.1) (
       br (decide (y19.2.2.2.2.2.2.1 = (0:Int))) (
        br (decide (y20.1 = (0:Int))) (
         some ((decide (y20.2.1 = (0:Int))), ())) (
         br (decide (y19.2.2.2.2.2.2.1 = (6:Int))) (
          some ((decide (y20.2.1 = (0:Int))), ())) (
          some (false, ())))) (
        br (decide (y19.2.2.2.2.2.2.1 = (6:Int))) (
         some ((decide (y20.2.1 = (0:Int))), ())) (
         some (false, ())))) (
       some (false, ())))) (x4.fixed, x4.size, x4.age, x4.name, y7.2.2.2.2.2.1, y7.2.2.2.2.1, y7.2.2.2.1, y7.2.2.1, y7.2.1, y7.1, y1.2.2.2.2.2.1, y1.2.2.2.2.1, y1.2.2.2.1, y1.2.2.1, y1.2.1, y1.1, (Int.tmod y5.1 x4.size), (0:Int), a0, (Int.tmod y3.1 (List.length y1.2.2.2.2.1 : Int)), ()))))
end Go.Proofs.Fw.R1
set_option linter.unusedVariables false
set_option maxRecDepth 100000
namespace Go.Proofs.Fw.R1
open Go Go.Proofs Go.Proofs.Fw
def ents : List Entry := [⟨8, [.v .leaf [.rd]], (.one .leaf), [.val]⟩,
  ⟨42, [.v .leaf [.val]], (.one .leaf), [.nb [.val, .val, .val]]⟩,
  ⟨44, [.v .leaf [.rd], .v .leaf [.val]], (.one .leaf), [.val]⟩,
  ⟨152, [], (.one (.agg 2)), [.own, .own]⟩,
  ⟨153, [], (.one .leaf), [.own]⟩,
  ⟨96, [], (.one (.agg 6)), [.own, .own, .own, .own, .own, .val]⟩,
  ⟨154, [.p [.rd, .val, .val] [.same, .val, .val]], (.one .leaf), [.val]⟩,
  ⟨97, [.p [.rd, .val, .val] [.same, .val, .val], .v .leaf [.val]], (.one .leaf), [.val]⟩,
  ⟨74, [.p [.rd, .val, .val] [.same, .val, .val], .v .leaf [.rd]], (.one .leaf), [.val]⟩,
  ⟨99, [.p [.rd, .val, .val] [.same, .val, .val], .v .leaf [.rd]], (.one .leaf), [.val]⟩,
  ⟨100, [.p [.rd, .val, .val] [.same, .val, .val]], (.one .leaf), [.val]⟩,
  ⟨101, [.p [.rd, .val, .val] [.same, .val, .val]], (.one .leaf), [.val]⟩,
  ⟨45, [.p [.rd, .val, .val] [.same, .val, .val]], (.one (.agg 5)), [.val, .val, .val, .val, .val]⟩,
  ⟨78, [.v .leaf [.val], .v .leaf [.val], .v .leaf [.val]], (.one .leaf), [.val]⟩,
  ⟨180, [.v .leaf [.val]], (.one .leaf), [.val]⟩,
  ⟨138, [.v .leaf [.val]], (.one .leaf), [.val]⟩,
  ⟨197, [.v (.agg 5) [.val, .val, .val, .val, .val]], (.one .leaf), [.val]⟩,
  ⟨155, [.v (.agg 5) [.val, .val, .val, .val, .val]], (.one .leaf), [.val]⟩,
  ⟨139, [.v (.agg 5) [.val, .val, .val, .val, .val]], (.one .leaf), [.val]⟩,
  ⟨188, [.v (.agg 5) [.val, .val, .val, .val, .val], .v (.agg 5) [.val, .val, .val, .val, .val]], (.one .leaf), [.val]⟩,
  ⟨229, [.v .leaf [.rd]], (.one .leaf), [.val]⟩,
  ⟨213, [.v .leaf [.rd]], (.one .leaf), [.val]⟩,
  ⟨214, [.v (.agg 1) [.rd]], (.one .leaf), [.val]⟩,
  ⟨187, [.v (.agg 1) [.rd]], (.one .leaf), [.val]⟩,
  ⟨189, [.v (.agg 5) [.val, .val, .val, .val, .val], .v (.agg 5) [.val, .val, .val, .val, .val]], (.one .leaf), [.val]⟩,
  ⟨144, [.v .leaf [.rd], .v (.agg 5) [.val, .val, .val, .val, .val]], (.one .leaf), [.own]⟩,
  ⟨190, [.v .leaf [.rd], .v .leaf [.rd]], (.one .leaf), [.own]⟩,
  ⟨143, [.v .leaf [.rd]], (.one .leaf), [.own]⟩,
  ⟨145, [.v (.agg 1) [.rd]], (.one .leaf), [.own]⟩,
  ⟨185, [.v .leaf [.val], .v .leaf [.val]], (.one .leaf), [.val]⟩,
  ⟨146, [.v (.agg 5) [.val, .val, .val, .val, .val]], (.one .leaf), [.val]⟩,
  ⟨178, [.v (.agg 2) [.rd, .rd], .v .leaf [.val]], (.one .leaf), [.val]⟩,
  ⟨137, [.v (.agg 2) [.rd, .rd]], (.one .leaf), [.own]⟩,
  ⟨123, [.v (.agg 2) [.rd, .rd]], (.one .leaf), [.val]⟩,
  ⟨179, [.v .leaf [.rd], .v .leaf [.val]], (.one .leaf), [.val]⟩,
  ⟨124, [.v .leaf [.rd]], (.one .leaf), [.val]⟩,
  ⟨125, [.v .leaf [.rd]], (.one .leaf), [.val]⟩,
  ⟨181, [.v .leaf [.rd], .v .leaf [.val]], (.one .leaf), [.own]⟩,
  ⟨126, [.v (.agg 6) [.rd, .rd, .rd, .rd, .rd, .val]], (.one .leaf), [.val]⟩,
  ⟨182, [.v .leaf [.rd], .v .leaf [.val], .v .leaf [.val]], (.tup [.leaf, .leaf]), [.val, .val]⟩,
  ⟨183, [.v .leaf [.rd]], (.one .leaf), [.val]⟩,
  ⟨127, [.v (.agg 6) [.rd, .rd, .rd, .rd, .rd, .val]], (.one .leaf), [.val]⟩,
  ⟨77, [.v (.agg 6) [.rd, .rd, .rd, .rd, .rd, .val]], (.one .leaf), [.val]⟩,
  ⟨177, [.v (.agg 1) [.rd]], (.one (.agg 1)), [.own]⟩,
  ⟨121, [.v (.agg 2) [.rd, .rd]], (.one (.agg 2)), [.own, .own]⟩,
  ⟨122, [.v .leaf [.rd]], (.one .leaf), [.own]⟩,
  ⟨76, [.v (.agg 6) [.rd, .rd, .rd, .rd, .rd, .val]], (.one (.agg 6)), [.own, .own, .own, .own, .own, .val]⟩,
  ⟨198, [.v (.agg 6) [.rd, .rd, .rd, .rd, .rd, .val], .v .leaf [.val]], (.one .leaf), [.val]⟩,
  ⟨193, [.v (.agg 6) [.rd, .rd, .rd, .rd, .rd, .val], .v .leaf [.val]], (.one .leaf), [.val]⟩,
  ⟨199, [.v .leaf [.rd], .v .leaf [.val], .v .leaf [.val]], (.tup [.leaf, .leaf]), [.own, .val]⟩,
  ⟨200, [.v .leaf [.rd], .v (.agg 4) [.val, .val, .val, .val]], (.one .leaf), [.own]⟩,
  ⟨194, [.v (.agg 6) [.rd, .rd, .rd, .rd, .rd, .val], .v (.agg 6) [.own, .own, .own, .own, .own, .val], .v .leaf [.val]], (.tup [(.agg 6), .leaf]), [.own, .own, .own, .own, .own, .val, .val]⟩,
  ⟨156, [.v (.agg 6) [.rd, .rd, .rd, .rd, .rd, .val], .v .leaf [.val], .v .leaf [.val]], (.tup [(.agg 6), .leaf]), [.own, .own, .own, .own, .own, .val, .val]⟩,
  ⟨157, [.v (.agg 6) [.rd, .rd, .rd, .rd, .rd, .val], .v .leaf [.val], .v .leaf [.val], .v .leaf [.val]], (.tup [(.agg 6), .leaf]), [.own, .own, .own, .own, .own, .val, .val]⟩,
  ⟨192, [.v (.agg 6) [.rd, .rd, .rd, .rd, .rd, .val], .v .leaf [.val]], (.one .leaf), [.val]⟩,
  ⟨149, [.v (.agg 6) [.rd, .rd, .rd, .rd, .rd, .val], .v .leaf [.val]], (.tup [(.agg 6), .leaf]), [.own, .own, .own, .own, .own, .val, .val]⟩,
  ⟨201, [.v (.agg 6) [.rd, .rd, .rd, .rd, .rd, .val], .v .leaf [.val], .v .leaf [.val]], (.one .leaf), [.val]⟩,
  ⟨84, [.v .leaf [.rd], .v .leaf [.val]], (.tup [.leaf, .leaf, .leaf]), [.own, .val, .val]⟩,
  ⟨140, [.v (.agg 2) [.rd, .rd], .v .leaf [.val], .v .leaf [.val]], (.one .leaf), [.val]⟩,
  ⟨186, [.v .leaf [.rd], .v .leaf [.val], .v .leaf [.val]], (.tup [(.agg 5), .leaf]), [.val, .val, .val, .val, .val, .val]⟩,
  ⟨231, [.v (.agg 1) [.rd], .v .leaf [.val], .v .leaf [.val]], (.tup [(.agg 5), .leaf]), [.val, .val, .val, .val, .val, .val]⟩,
  ⟨216, [.v (.agg 2) [.rd, .rd], .v .leaf [.val], .v .leaf [.val]], (.tup [(.agg 5), .leaf]), [.val, .val, .val, .val, .val, .val]⟩,
  ⟨147, [.v .leaf [.rd]], (.one (.agg 1)), [.own]⟩,
  ⟨141, [.v (.agg 1) [.rd], .v (.agg 5) [.val, .val, .val, .val, .val]], (.tup [(.agg 1), .leaf]), [.own, .val]⟩,
  ⟨142, [.v (.agg 2) [.rd, .rd], .v .leaf [.val], .v .leaf [.rd], .v .leaf [.rd]], (.one (.agg 2)), [.own, .own]⟩,
  ⟨191, [.v (.agg 2) [.rd, .rd]], (.one .leaf), [.val]⟩,
  ⟨148, [.v (.agg 2) [.own, .own]], (.one (.agg 2)), [.own, .own]⟩,
  ⟨85, [.v (.agg 2) [.rd, .rd], .v (.agg 5) [.val, .val, .val, .val, .val]], (.tup [(.agg 2), .leaf]), [.own, .own, .val]⟩,
  ⟨86, [.v .leaf [.rd], .v .leaf [.val]], (.one .leaf), [.own]⟩,
  ⟨217, [.p [.rd, .rd, .rd, .own, .rd, .val] [.same, .same, .same, .own, .same, .same], .v (.agg 5) [.val, .val, .val, .val, .val], .v .leaf [.val]], (.tup []), []⟩,
  ⟨202, [.p [.own, .own, .rd, .own, .rd, .val] [.own, .own, .same, .own, .same, .same], .v (.agg 5) [.val, .val, .val, .val, .val]], (.one .leaf), [.val]⟩,
  ⟨158, [.v (.agg 6) [.rd, .rd, .rd, .rd, .rd, .val], .v .leaf [.val], .v .leaf [.val], .v .leaf [.val]], (.tup [(.agg 6), .leaf]), [.own, .own, .own, .own, .own, .val, .val]⟩,
  ⟨232, [.v .leaf [.rd], .v .leaf [.val]], (.one .leaf), [.own]⟩,
  ⟨239, [.v (.agg 2) [.rd, .rd], .v .leaf [.val]], (.one .leaf), [.own]⟩,
  ⟨240, [.v .leaf [.rd], .v .leaf [.val]], (.one .leaf), [.val]⟩,
  ⟨233, [.v (.agg 2) [.rd, .rd], .v .leaf [.val], .v .leaf [.rd]], (.tup [(.agg 5), .leaf]), [.val, .val, .val, .val, .val, .val]⟩,
  ⟨218, [.v (.agg 2) [.rd, .rd], .v .leaf [.rd], .v .leaf [.val], .v .leaf [.val]], (.tup [(.agg 5), .leaf]), [.val, .val, .val, .val, .val, .val]⟩,
  ⟨203, [.p [.own, .own, .rd, .own, .rd, .val] [.own, .own, .same, .own, .same, .same], .v .leaf [.val], .v .leaf [.val]], (.one .leaf), [.val]⟩,
  ⟨159, [.v (.agg 6) [.rd, .rd, .rd, .rd, .rd, .val], .v .leaf [.val], .v .leaf [.val]], (.tup [(.agg 6), .leaf]), [.own, .own, .own, .own, .own, .val, .val]⟩,
  ⟨160, [.v (.agg 6) [.rd, .rd, .rd, .rd, .rd, .val], .v .leaf [.val], .v .leaf [.val]], (.tup [(.agg 6), .leaf]), [.own, .own, .own, .own, .own, .val, .val]⟩,
  ⟨244, [.v (.agg 2) [.rd, .rd], .v .leaf [.rd], .v .leaf [.val], .v .leaf [.val]], (.tup [(.agg 5), .leaf]), [.val, .val, .val, .val, .val, .val]⟩,
  ⟨243, [.v (.agg 2) [.rd, .rd], .v .leaf [.rd], .v (.agg 5) [.val, .val, .val, .val, .val], .v .leaf [.val]], (.one .leaf), [.val]⟩,
  ⟨241, [.v (.agg 6) [.rd, .rd, .rd, .rd, .rd, .val], .v (.agg 5) [.val, .val, .val, .val, .val]], (.one .leaf), [.val]⟩,
  ⟨236, [.v (.agg 6) [.rd, .rd, .rd, .rd, .rd, .val], .v .leaf [.val]], (.one .leaf), [.val]⟩,
  ⟨221, [.v (.agg 6) [.rd, .rd, .rd, .rd, .rd, .val], .v .leaf [.val]], (.one .leaf), [.val]⟩,
  ⟨242, [.v (.agg 6) [.rd, .rd, .rd, .rd, .rd, .val], .v (.agg 5) [.val, .val, .val, .val, .val]], (.one .leaf), [.val]⟩,
  ⟨234, [.v (.agg 6) [.rd, .rd, .rd, .rd, .rd, .val], .v .leaf [.val], .v (.agg 5) [.val, .val, .val, .val, .val]], (.one .leaf), [.val]⟩,
  ⟨235, [.v (.agg 6) [.rd, .rd, .rd, .rd, .rd, .val], .v .leaf [.val]], (.one .leaf), [.val]⟩,
  ⟨219, [.v (.agg 6) [.rd, .rd, .rd, .rd, .rd, .val]], (.tup [.leaf, .leaf]), [.val, .val]⟩,
  ⟨220, [.p [.own, .own, .rd, .own, .rd, .val] [.own, .own, .same, .own, .same, .same], .v (.agg 5) [.val, .val, .val, .val, .val]], (.one .leaf), [.val]⟩,
  ⟨222, [.v .leaf [.rd], .v .leaf [.val]], (.tup [.leaf, .leaf]), [.own, .val]⟩,
  ⟨204, [.v (.agg 6) [.rd, .rd, .rd, .rd, .rd, .val]], (.tup [(.agg 6), .leaf]), [.own, .own, .own, .own, .own, .val, .val]⟩,
  ⟨128, [.v (.agg 1) [.rd]], (.one (.agg 1)), [.own]⟩,
  ⟨79, [.v (.agg 2) [.rd, .rd], .v .leaf [.val]], (.one (.agg 2)), [.own, .own]⟩,
  ⟨32, [.v (.agg 6) [.rd, .rd, .rd, .rd, .rd, .val], .v .leaf [.val]], (.tup [(.agg 6), .leaf]), [.own, .own, .own, .own, .own, .val, .val]⟩,
  ⟨83, [.v (.agg 6) [.rd, .rd, .rd, .rd, .rd, .val], .v .leaf [.val]], (.one (.agg 5)), [.val, .val, .val, .val, .val]⟩,
  ⟨35, [.v (.agg 6) [.rd, .rd, .rd, .rd, .rd, .val], .v .leaf [.val]], (.tup [(.agg 6), .leaf]), [.own, .own, .own, .own, .own, .val, .val]⟩,
  ⟨161, [.v (.agg 6) [.rd, .rd, .rd, .rd, .rd, .val], .v (.agg 5) [.val, .val, .val, .val, .val]], (.tup [(.agg 6), .leaf]), [.own, .own, .own, .own, .own, .val, .val]⟩,
  ⟨98, [.v (.agg 6) [.rd, .rd, .rd, .rd, .rd, .val], .v (.agg 5) [.val, .val, .val, .val, .val]], (.tup [(.agg 6), .leaf]), [.own, .own, .own, .own, .own, .val, .val]⟩,
  ⟨43, [.p [.rd, .val, .val] [.same, .val, .val], .v .leaf [.val]], (.one (.agg 6)), [.own, .own, .own, .own, .own, .val]⟩,
  ⟨9, [.v .leaf [.val]], (.tup [(.agg 6), (.agg 5)]), [.own, .own, .own, .own, .own, .val, .val, .val, .val, .val, .val]⟩,
  ⟨150, [.v (.agg 4) [.val, .val, .val, .val], .p [.val] [.same]], (.one .leaf), [.val]⟩,
  ⟨112, [.v .leaf [.rd], .f 150 [[.val]]], (.one .leaf), [.val]⟩,
  ⟨90, [.v (.agg 6) [.rd, .rd, .rd, .rd, .rd, .val], .v .leaf [.val]], (.one .leaf), [.val]⟩,
  ⟨70, [.v .leaf [.val], .v .leaf [.val], .v .leaf [.val]], (.one .leaf), [.val]⟩,
  ⟨129, [.v (.agg 5) [.val, .val, .val, .val, .val]], (.one .leaf), [.val]⟩,
  ⟨207, [.v (.agg 5) [.val, .val, .val, .val, .val], .v (.agg 5) [.val, .val, .val, .val, .val]], (.one .leaf), [.val]⟩,
  ⟨171, [.v .leaf [.rd]], (.one .leaf), [.val]⟩,
  ⟨115, [.v (.agg 1) [.rd]], (.one .leaf), [.val]⟩,
  ⟨134, [.v .leaf [.val], .v .leaf [.val]], (.one .leaf), [.val]⟩,
  ⟨116, [.v (.agg 2) [.rd, .rd], .v .leaf [.val]], (.one .leaf), [.val]⟩,
  ⟨168, [.v .leaf [.rd]], (.one .leaf), [.own]⟩,
  ⟨208, [.v (.agg 5) [.val, .val, .val, .val, .val], .v (.agg 5) [.val, .val, .val, .val, .val]], (.one .leaf), [.val]⟩,
  ⟨169, [.v .leaf [.rd], .v (.agg 5) [.val, .val, .val, .val, .val]], (.one .leaf), [.own]⟩,
  ⟨110, [.v .leaf [.rd], .v .leaf [.rd]], (.one .leaf), [.own]⟩,
  ⟨111, [.v .leaf [.rd]], (.one .leaf), [.own]⟩,
  ⟨58, [.v (.agg 1) [.rd]], (.one .leaf), [.own]⟩,
  ⟨67, [.v (.agg 2) [.rd, .rd]], (.one .leaf), [.val]⟩,
  ⟨173, [.v (.agg 2) [.val, .val], .p [.val] [.same]], (.one .leaf), [.val]⟩,
  ⟨172, [.v .leaf [.rd], .f 173 [[.val]]], (.one .leaf), [.val]⟩,
  ⟨117, [.v .leaf [.rd], .v .leaf [.val]], (.one .leaf), [.val]⟩,
  ⟨68, [.v .leaf [.rd]], (.one .leaf), [.val]⟩,
  ⟨48, [.v .leaf [.val]], (.one .leaf), [.val]⟩,
  ⟨69, [.v .leaf [.rd]], (.one .leaf), [.val]⟩,
  ⟨91, [.v .leaf [.val]], (.one .leaf), [.val]⟩,
  ⟨20, [.v .leaf [.rd], .v .leaf [.val]], (.one .leaf), [.own]⟩,
  ⟨118, [.v (.agg 4) [.val, .val, .val, .val], .p [.val, .val, .val, .val] [.same, .same, .same, .same]], (.one .leaf), [.val]⟩,
  ⟨112, [.v .leaf [.rd], .f 118 [[.val, .val, .val, .val]]], (.one .leaf), [.val]⟩,
  ⟨60, [.v .leaf [.rd], .f 118 [[.val, .val, .val, .val]]], (.one .leaf), [.val]⟩,
  ⟨71, [.v (.agg 6) [.rd, .rd, .rd, .rd, .rd, .val]], (.one .leaf), [.val]⟩,
  ⟨17, [.v (.agg 2) [.rd, .rd]], (.one .leaf), [.own]⟩,
  ⟨103, [.v .leaf [.rd], .v .leaf [.val], .v .leaf [.val]], (.tup [.leaf, .leaf]), [.val, .val]⟩,
  ⟨25, [.v .leaf [.rd]], (.one .leaf), [.val]⟩,
  ⟨72, [.v (.agg 6) [.rd, .rd, .rd, .rd, .rd, .val]], (.one .leaf), [.val]⟩,
  ⟨29, [.v (.agg 6) [.rd, .rd, .rd, .rd, .rd, .val]], (.one .leaf), [.val]⟩,
  ⟨46, [.v (.agg 6) [.rd, .rd, .rd, .rd, .rd, .val], .v .leaf [.val], .v .leaf [.val], .v .leaf [.val]], (.tup [.leaf, .leaf]), [.val, .val]⟩,
  ⟨163, [.v .leaf [.rd], .v .leaf [.val]], (.one .leaf), [.own]⟩,
  ⟨205, [.v (.agg 2) [.rd, .rd], .v .leaf [.val]], (.one .leaf), [.own]⟩,
  ⟨223, [.v .leaf [.rd], .v .leaf [.val]], (.one .leaf), [.val]⟩,
  ⟨206, [.v .leaf [.rd], .v .leaf [.val]], (.one .leaf), [.val]⟩,
  ⟨162, [.v (.agg 2) [.rd, .rd], .v .leaf [.val], .v .leaf [.rd]], (.tup [(.agg 5), .leaf]), [.val, .val, .val, .val, .val, .val]⟩,
  ⟨102, [.v (.agg 2) [.rd, .rd], .v .leaf [.rd], .v .leaf [.val], .v .leaf [.val]], (.tup [(.agg 5), .leaf]), [.val, .val, .val, .val, .val, .val]⟩,
  ⟨47, [.v (.agg 6) [.rd, .rd, .rd, .rd, .rd, .val], .v .leaf [.val], .v .leaf [.val]], (.one .leaf), [.val]⟩,
  ⟨10, [.v (.agg 6) [.rd, .rd, .rd, .rd, .rd, .val], .v .leaf [.val], .v .leaf [.val]], (.tup [.leaf, .leaf]), [.val, .val]⟩,
  ⟨11, [.v .leaf [.rd], .v .leaf [.val]], (.one .leaf), [.val]⟩,
  ⟨164, [.v .leaf [.rd]], (.one .leaf), [.own]⟩,
  ⟨165, [.v (.agg 1) [.rd]], (.one (.agg 1)), [.own]⟩,
  ⟨104, [.v (.agg 2) [.rd, .rd]], (.one (.agg 2)), [.own, .own]⟩,
  ⟨105, [.v .leaf [.rd]], (.one .leaf), [.own]⟩,
  ⟨106, [.v .leaf [.rd]], (.one .leaf), [.own]⟩,
  ⟨49, [.v (.agg 6) [.rd, .rd, .rd, .rd, .rd, .val]], (.one (.agg 6)), [.own, .own, .own, .own, .own, .val]⟩,
  ⟨80, [.v .leaf [.rd]], (.one .leaf), [.val]⟩,
  ⟨50, [.v .leaf [.rd], .v .leaf [.val]], (.tup [.leaf, .leaf, .leaf]), [.own, .val, .val]⟩,
  ⟨130, [.v (.agg 2) [.rd, .rd], .v .leaf [.val], .v .leaf [.val]], (.one .leaf), [.val]⟩,
  ⟨184, [.v .leaf [.rd], .v .leaf [.val], .v .leaf [.val]], (.tup [(.agg 5), .leaf]), [.val, .val, .val, .val, .val, .val]⟩,
  ⟨166, [.v (.agg 1) [.rd], .v .leaf [.val], .v .leaf [.val]], (.tup [(.agg 5), .leaf]), [.val, .val, .val, .val, .val, .val]⟩,
  ⟨107, [.v (.agg 2) [.rd, .rd], .v .leaf [.val], .v .leaf [.val]], (.tup [(.agg 5), .leaf]), [.val, .val, .val, .val, .val, .val]⟩,
  ⟨132, [.v (.agg 1) [.rd], .v (.agg 5) [.val, .val, .val, .val, .val]], (.one .leaf), [.own]⟩,
  ⟨135, [.v .leaf [.rd]], (.one (.agg 1)), [.own]⟩,
  ⟨131, [.v (.agg 1) [.rd], .v (.agg 5) [.val, .val, .val, .val, .val]], (.tup [(.agg 1), .leaf]), [.own, .val]⟩,
  ⟨133, [.v (.agg 2) [.rd, .rd], .v .leaf [.val], .v .leaf [.val], .v .leaf [.rd], .v .leaf [.rd]], (.one (.agg 2)), [.own, .own]⟩,
  ⟨136, [.v (.agg 2) [.own, .own]], (.one (.agg 2)), [.own, .own]⟩,
  ⟨81, [.v (.agg 2) [.rd, .rd], .v (.agg 5) [.val, .val, .val, .val, .val]], (.tup [(.agg 2), .leaf]), [.own, .own, .val]⟩,
  ⟨82, [.v .leaf [.rd], .v .leaf [.val]], (.one .leaf), [.own]⟩,
  ⟨51, [.p [.own, .own, .rd, .own, .rd, .val] [.own, .own, .same, .own, .same, .same], .v (.agg 5) [.val, .val, .val, .val, .val]], (.one .leaf), [.val]⟩,
  ⟨52, [.v (.agg 6) [.rd, .rd, .rd, .rd, .rd, .val], .v (.agg 6) [.own, .own, .own, .own, .own, .val], .v .leaf [.val]], (.tup [(.agg 6), .leaf]), [.own, .own, .own, .own, .own, .val, .val]⟩,
  ⟨12, [.v (.agg 6) [.rd, .rd, .rd, .rd, .rd, .val], .v .leaf [.val], .v .leaf [.val], .v .leaf [.val]], (.tup [(.agg 6), .leaf]), [.own, .own, .own, .own, .own, .val, .val]⟩,
  ⟨41, [.v .leaf [.rd], .v .leaf [.rd]], (.one .leaf), [.val]⟩,
  ⟨167, [.v .leaf [.rd], .v .leaf [.rd]], (.one .leaf), [.val]⟩,
  ⟨108, [.v (.agg 1) [.rd], .v (.agg 1) [.rd]], (.one .leaf), [.val]⟩,
  ⟨53, [.v (.agg 2) [.rd, .rd], .v (.agg 2) [.rd, .rd]], (.one .leaf), [.val]⟩,
  ⟨54, [.v .leaf [.rd], .v .leaf [.rd]], (.one .leaf), [.val]⟩,
  ⟨55, [.v .leaf [.rd], .v .leaf [.rd]], (.one .leaf), [.val]⟩,
  ⟨13, [.v (.agg 6) [.rd, .rd, .rd, .rd, .rd, .val], .v (.agg 6) [.rd, .rd, .rd, .rd, .rd, .val]], (.one .leaf), [.val]⟩,
  ⟨109, [.v (.agg 2) [.rd, .rd], .v .leaf [.rd], .v .leaf [.val], .v .leaf [.val]], (.tup [(.agg 5), .leaf]), [.val, .val, .val, .val, .val, .val]⟩,
  ⟨56, [.p [.own, .own, .rd, .own, .rd, .val] [.own, .own, .same, .own, .same, .same], .v .leaf [.val], .v .leaf [.val]], (.one .leaf), [.val]⟩,
  ⟨14, [.v (.agg 6) [.rd, .rd, .rd, .rd, .rd, .val], .v .leaf [.val], .v .leaf [.val]], (.tup [(.agg 6), .leaf]), [.own, .own, .own, .own, .own, .val, .val]⟩,
  ⟨3, [.v .leaf [.val]], (.one .leaf), [.val]⟩]
def tab (K : Nat) : List CEnt := [⟨[(.sl tU)], [tB], fun x => laws_big K x.1⟩,
  ⟨[(.sl tU)], [(.sl tU), tI, tI], fun x => spec_l1New_v K x.1⟩,
  ⟨[(.sl tU), tI], [tI], fun x => spec_l1Size K x.1 x.2.1⟩,
  ⟨[], [(.sl tI), (.sl (.st .node))], fun x => spec_TreeNew K⟩,
  ⟨[], [(.sl (.st .cell))], fun x => spec_CellsNew K⟩,
  ⟨[], [(.sl tI), (.sl (.st .node)), (.sl (.st .age)), (.sl (.st .cell)), (.sl (.st .vol)), tI], fun x => spec_PoolNew K⟩,
  ⟨[(.sl tU), tI, tI], [tI, tI, tI], fun x => spec_l1Byte K x.1 x.2.1 x.2.2.1⟩,
  ⟨[(.sl tU), tI, tI, tI], [tI, tI, tI], fun x => spec_l1Below K x.1 x.2.1 x.2.2.1 x.2.2.2.1⟩,
  ⟨[(.sl tU), tI, tI, (.sl tI)], [tI, tI, tI], fun x => spec_l1Int K x.1 x.2.1 x.2.2.1 x.2.2.2.1⟩,
  ⟨[(.sl tU), tI, tI, (.sl tS)], [tS, tI, tI], fun x => spec_l1Str K x.1 x.2.1 x.2.2.1 x.2.2.2.1⟩,
  ⟨[(.sl tU), tI, tI], [tS, tI, tI], fun x => spec_l1Name K x.1 x.2.1 x.2.2.1⟩,
  ⟨[(.sl tU), tI, tI], [tI, tI, tI], fun x => spec_l1Draw K x.1 x.2.1 x.2.2.1⟩,
  ⟨[(.sl tU), tI, tI], [tI, tS, tS, tI, tI, tI, tI], fun x => spec_l15Draw K x.1 x.2.1 x.2.2.1⟩,
  ⟨[tI, tI, tI], [tB], fun x => spec_l1In K x.1 x.2.1 x.2.2.1⟩,
  ⟨[tS], [tB], fun x => spec_NameOk K x.1⟩,
  ⟨[tI], [tB], fun x => spec_l1Word K x.1⟩,
  ⟨[tI, tS, tS, tI, tI], [tB], fun x => spec_l15Zero K x.1 x.2.1 x.2.2.1 x.2.2.2.1 x.2.2.2.2.1⟩,
  ⟨[tI, tS, tS, tI, tI], [tB], fun x => spec_OpOk K x.1 x.2.1 x.2.2.1 x.2.2.2.1 x.2.2.2.2.1⟩,
  ⟨[tI, tI, tI, tI, tI], [tB], fun x => spec_KeyOk K x.1 x.2.1 x.2.2.1 x.2.2.2.1 x.2.2.2.2.1⟩,
  ⟨[tI, tI, tI, tI, tI, tI, tI, tI, tI, tI], [tB], fun x => spec_LessKey K x.1 x.2.1 x.2.2.1 x.2.2.2.1 x.2.2.2.2.1 x.2.2.2.2.2.1 x.2.2.2.2.2.2.1 x.2.2.2.2.2.2.2.1 x.2.2.2.2.2.2.2.2.1 x.2.2.2.2.2.2.2.2.2.1⟩,
  ⟨[(.sl (.st .key))], [tB], fun x => spec_l4Rises K x.1⟩,
  ⟨[(.sl (.st .key))], [tB], fun x => spec_SetOk K x.1⟩,
  ⟨[(.sl (.sl (.st .key)))], [tI], fun x => spec_l5Count K x.1⟩,
  ⟨[(.sl (.sl (.st .key)))], [tB], fun x => spec_NodeOk K x.1⟩,
  ⟨[tI, tI, tI, tI, tI, tI, tI, tI, tI, tI], [tB], fun x => spec_SameSpot K x.1 x.2.1 x.2.2.1 x.2.2.2.1 x.2.2.2.2.1 x.2.2.2.2.2.1 x.2.2.2.2.2.2.1 x.2.2.2.2.2.2.2.1 x.2.2.2.2.2.2.2.2.1 x.2.2.2.2.2.2.2.2.2.1⟩,
  ⟨[(.sl (.st .key)), tI, tI, tI, tI, tI], [(.sl (.st .key))], fun x => spec_SetPut K x.1 x.2.1 x.2.2.1 x.2.2.2.1 x.2.2.2.2.1 x.2.2.2.2.2.1⟩,
  ⟨[(.sl (.st .key)), (.sl (.st .key))], [(.sl (.st .key))], fun x => spec_MergeSets K x.1 x.2.1⟩,
  ⟨[(.sl (.st .key))], [(.sl (.st .key))], fun x => spec_Drop K x.1⟩,
  ⟨[(.sl (.sl (.st .key)))], [(.sl (.st .key))], fun x => spec_NodeKeys K x.1⟩,
  ⟨[tI, tI], [tI], fun x => spec_SpotOf K x.1 x.2.1⟩,
  ⟨[tI, tI, tI, tI, tI], [tI], fun x => spec_l6Spot K x.1 x.2.1 x.2.2.1 x.2.2.2.1 x.2.2.2.2.1⟩,
  ⟨[(.sl tI), (.sl (.st .node)), tI], [tB], fun x => spec_l6Node K x.1 x.2.1 x.2.2.1⟩,
  ⟨[(.sl tI), (.sl (.st .node))], [(.sl (.st .key))], fun x => spec_TreeKeys K x.1 x.2.1⟩,
  ⟨[(.sl tI), (.sl (.st .node))], [tB], fun x => spec_TreeOk K x.1 x.2.1⟩,
  ⟨[(.sl (.st .age)), tI], [tI], fun x => spec_AgeAt K x.1 x.2.1⟩,
  ⟨[(.sl (.st .age))], [tB], fun x => spec_AgesOk K x.1⟩,
  ⟨[(.sl (.st .cell))], [tB], fun x => spec_CellsOk K x.1⟩,
  ⟨[(.sl (.st .age)), tI], [(.sl tI)], fun x => spec_KidsOf K x.1 x.2.1⟩,
  ⟨[(.sl tI), (.sl (.st .node)), (.sl (.st .age)), (.sl (.st .cell)), (.sl (.st .vol)), tI], [tB], fun x => spec_l10Vols K x.1 x.2.1 x.2.2.1 x.2.2.2.1 x.2.2.2.2.1 x.2.2.2.2.2.1⟩,
  ⟨[(.sl (.st .cell)), tI, tI], [tI, tB], fun x => spec_CellAt K x.1 x.2.1 x.2.2.1⟩,
  ⟨[(.sl (.st .cell))], [tI], fun x => spec_UsedCells K x.1⟩,
  ⟨[(.sl tI), (.sl (.st .node)), (.sl (.st .age)), (.sl (.st .cell)), (.sl (.st .vol)), tI], [tB], fun x => spec_l10Keys K x.1 x.2.1 x.2.2.1 x.2.2.2.1 x.2.2.2.2.1 x.2.2.2.2.2.1⟩,
  ⟨[(.sl tI), (.sl (.st .node)), (.sl (.st .age)), (.sl (.st .cell)), (.sl (.st .vol)), tI], [tB], fun x => spec_PoolOk K x.1 x.2.1 x.2.2.1 x.2.2.2.1 x.2.2.2.2.1 x.2.2.2.2.2.1⟩,
  ⟨[(.sl (.sl (.st .key)))], [(.sl (.sl (.st .key)))], fun x => spec_l5Copy K x.1⟩,
  ⟨[(.sl tI), (.sl (.st .node))], [(.sl tI), (.sl (.st .node))], fun x => spec_l6Copy K x.1 x.2.1⟩,
  ⟨[(.sl (.st .cell))], [(.sl (.st .cell))], fun x => spec_l9Copy K x.1⟩,
  ⟨[(.sl tI), (.sl (.st .node)), (.sl (.st .age)), (.sl (.st .cell)), (.sl (.st .vol)), tI], [(.sl tI), (.sl (.st .node)), (.sl (.st .age)), (.sl (.st .cell)), (.sl (.st .vol)), tI], fun x => spec_l10Copy K x.1 x.2.1 x.2.2.1 x.2.2.2.1 x.2.2.2.2.1 x.2.2.2.2.2.1⟩,
  ⟨[(.sl tI), (.sl (.st .node)), (.sl (.st .age)), (.sl (.st .cell)), (.sl (.st .vol)), tI, tS], [tI], fun x => spec_l11Form K x.1 x.2.1 x.2.2.1 x.2.2.2.1 x.2.2.2.2.1 x.2.2.2.2.2.1 x.2.2.2.2.2.2.1⟩,
  ⟨[(.sl tI), (.sl (.st .node)), (.sl (.st .age)), (.sl (.st .cell)), (.sl (.st .vol)), tI, tS], [tI], fun x => spec_VolAt K x.1 x.2.1 x.2.2.1 x.2.2.2.1 x.2.2.2.2.1 x.2.2.2.2.2.1 x.2.2.2.2.2.2.1⟩,
  ⟨[(.sl (.st .age)), tI, tI], [(.sl (.st .age)), tB], fun x => spec_NewAge K x.1 x.2.1 x.2.2.1⟩,
  ⟨[(.sl (.st .vol)), tS, tI, tI, tB], [(.sl (.st .vol))], fun x => spec_l11PutVol K x.1 x.2.1 x.2.2.1 x.2.2.2.1 x.2.2.2.2.1⟩,
  ⟨[(.sl tI), (.sl (.st .node)), (.sl (.st .age)), (.sl (.st .cell)), (.sl (.st .vol)), tI, (.sl tI), (.sl (.st .node)), (.sl (.st .age)), (.sl (.st .cell)), (.sl (.st .vol)), tI, tB], [(.sl tI), (.sl (.st .node)), (.sl (.st .age)), (.sl (.st .cell)), (.sl (.st .vol)), tI, tI], fun x => spec_l11End_ro K x.1 x.2.1 x.2.2.1 x.2.2.2.1 x.2.2.2.2.1 x.2.2.2.2.2.1 x.2.2.2.2.2.2.1 x.2.2.2.2.2.2.2.1 x.2.2.2.2.2.2.2.2.1 x.2.2.2.2.2.2.2.2.2.1 x.2.2.2.2.2.2.2.2.2.2.1 x.2.2.2.2.2.2.2.2.2.2.2.1 x.2.2.2.2.2.2.2.2.2.2.2.2.1⟩,
  ⟨[(.sl tI), (.sl (.st .node)), (.sl (.st .age)), (.sl (.st .cell)), (.sl (.st .vol)), tI, tS, tI], [(.sl tI), (.sl (.st .node)), (.sl (.st .age)), (.sl (.st .cell)), (.sl (.st .vol)), tI, tI], fun x => spec_Create K x.1 x.2.1 x.2.2.1 x.2.2.2.1 x.2.2.2.2.1 x.2.2.2.2.2.1 x.2.2.2.2.2.2.1 x.2.2.2.2.2.2.2.1⟩,
  ⟨[(.sl tI), (.sl (.st .node)), (.sl (.st .age)), (.sl (.st .cell)), (.sl (.st .vol)), tI, tS, tS, tB], [(.sl tI), (.sl (.st .node)), (.sl (.st .age)), (.sl (.st .cell)), (.sl (.st .vol)), tI, tI], fun x => spec_Snap K x.1 x.2.1 x.2.2.1 x.2.2.2.1 x.2.2.2.2.1 x.2.2.2.2.2.1 x.2.2.2.2.2.2.1 x.2.2.2.2.2.2.2.1 x.2.2.2.2.2.2.2.2.1⟩,
  ⟨[(.sl tI), (.sl (.st .node)), (.sl (.st .age)), (.sl (.st .cell)), (.sl (.st .vol)), tI, tS], [tI], fun x => spec_l11Vol K x.1 x.2.1 x.2.2.1 x.2.2.2.1 x.2.2.2.2.1 x.2.2.2.2.2.1 x.2.2.2.2.2.2.1⟩,
  ⟨[(.sl tI), (.sl (.st .node)), (.sl (.st .age)), (.sl (.st .cell)), (.sl (.st .vol)), tI, tS], [(.sl tI), (.sl (.st .node)), (.sl (.st .age)), (.sl (.st .cell)), (.sl (.st .vol)), tI, tI], fun x => spec_Kill K x.1 x.2.1 x.2.2.1 x.2.2.2.1 x.2.2.2.2.1 x.2.2.2.2.2.1 x.2.2.2.2.2.2.1⟩,
  ⟨[(.sl tI), (.sl (.st .node)), (.sl (.st .age)), (.sl (.st .cell)), (.sl (.st .vol)), tI, tS, tI], [tI], fun x => spec_l11Block K x.1 x.2.1 x.2.2.1 x.2.2.2.1 x.2.2.2.2.1 x.2.2.2.2.2.1 x.2.2.2.2.2.2.1 x.2.2.2.2.2.2.2.1⟩,
  ⟨[(.sl (.st .cell)), tI], [(.sl (.st .cell)), tI, tB], fun x => spec_TakeCell K x.1 x.2.1⟩,
  ⟨[(.sl tI), (.sl (.st .node)), tI, tI], [tI], fun x => spec_WhereIn K x.1 x.2.1 x.2.2.1 x.2.2.2.1⟩,
  ⟨[(.sl (.st .key)), tI, tI], [tI, tI, tI, tI, tI, tB], fun x => spec_SetAt K x.1 x.2.1 x.2.2.1⟩,
  ⟨[(.sl (.sl (.st .key))), tI, tI], [tI, tI, tI, tI, tI, tB], fun x => spec_NodeAt K x.1 x.2.1 x.2.2.1⟩,
  ⟨[(.sl tI), (.sl (.st .node)), tI, tI], [tI, tI, tI, tI, tI, tB], fun x => spec_TreeAt K x.1 x.2.1 x.2.2.1 x.2.2.2.1⟩,
  ⟨[(.sl (.st .key))], [(.sl (.sl (.st .key)))], fun x => spec_NodeNew K x.1⟩,
  ⟨[(.sl (.sl (.st .key))), tI, tI, tI, tI, tI], [(.sl (.sl (.st .key))), tB], fun x => spec_NodePut K x.1 x.2.1 x.2.2.1 x.2.2.2.1 x.2.2.2.2.1 x.2.2.2.2.2.1⟩,
  ⟨[(.sl tI), (.sl (.st .node)), tI, (.sl tI), (.sl (.st .node))], [(.sl tI), (.sl (.st .node))], fun x => spec_l6Set K x.1 x.2.1 x.2.2.1 x.2.2.2.1 x.2.2.2.2.1⟩,
  ⟨[(.sl tI), (.sl (.st .node))], [tI], fun x => spec_l6Pair K x.1 x.2.1⟩,
  ⟨[(.sl tI), (.sl (.st .node))], [(.sl tI), (.sl (.st .node))], fun x => spec_l6Join_o K x.1 x.2.1⟩,
  ⟨[(.sl tI), (.sl (.st .node)), tI, tI, tI, tI, tI], [(.sl tI), (.sl (.st .node)), tB], fun x => spec_TreePut K x.1 x.2.1 x.2.2.1 x.2.2.2.1 x.2.2.2.2.1 x.2.2.2.2.2.1 x.2.2.2.2.2.2.1⟩,
  ⟨[(.sl (.st .cell)), tI], [(.sl (.st .cell))], fun x => spec_FreeCell K x.1 x.2.1⟩,
  ⟨[(.sl tI), (.sl (.st .node)), (.sl (.st .age)), (.sl (.st .cell)), (.sl (.st .vol)), tI, tI, tI, tI, tI, tI, tB], [(.sl (.st .cell))], fun x => spec_l11Drop K x.1 x.2.1 x.2.2.1 x.2.2.2.1 x.2.2.2.2.1 x.2.2.2.2.2.1 x.2.2.2.2.2.2.1 x.2.2.2.2.2.2.2.1 x.2.2.2.2.2.2.2.2.1 x.2.2.2.2.2.2.2.2.2.1 x.2.2.2.2.2.2.2.2.2.2.1 x.2.2.2.2.2.2.2.2.2.2.2.1⟩,
  ⟨[(.sl tI), (.sl (.st .node)), (.sl (.st .age)), (.sl (.st .cell)), (.sl (.st .vol)), tI, tI, tI, tI, tI, tI], [tB, (.sl tI), (.sl (.st .node)), (.sl (.st .cell))], fun x => spec_l11Put K x.1 x.2.1 x.2.2.1 x.2.2.2.1 x.2.2.2.2.1 x.2.2.2.2.2.1 x.2.2.2.2.2.2.1 x.2.2.2.2.2.2.2.1 x.2.2.2.2.2.2.2.2.1 x.2.2.2.2.2.2.2.2.2.1 x.2.2.2.2.2.2.2.2.2.2.1⟩,
  ⟨[(.sl tI), (.sl (.st .node)), (.sl (.st .age)), (.sl (.st .cell)), (.sl (.st .vol)), tI, tS, tI, tI], [(.sl tI), (.sl (.st .node)), (.sl (.st .age)), (.sl (.st .cell)), (.sl (.st .vol)), tI, tI], fun x => spec_Write K x.1 x.2.1 x.2.2.1 x.2.2.2.1 x.2.2.2.2.1 x.2.2.2.2.2.1 x.2.2.2.2.2.2.1 x.2.2.2.2.2.2.2.1 x.2.2.2.2.2.2.2.2.1⟩,
  ⟨[(.sl (.st .age)), tI], [(.sl tI)], fun x => spec_PathOf K x.1 x.2.1⟩,
  ⟨[(.sl tI), (.sl (.st .node)), tI], [(.sl (.st .key))], fun x => spec_KeysOf K x.1 x.2.1 x.2.2.1⟩,
  ⟨[(.sl tI), tI], [tB], fun x => spec_l7Has K x.1 x.2.1⟩,
  ⟨[(.sl tI), (.sl (.st .node)), tI, (.sl tI)], [tI, tI, tI, tI, tI, tB], fun x => spec_l8Near K x.1 x.2.1 x.2.2.1 x.2.2.2.1⟩,
  ⟨[(.sl tI), (.sl (.st .node)), (.sl (.st .age)), tI, tI], [tI, tI, tI, tI, tI, tB], fun x => spec_SeenAbove K x.1 x.2.1 x.2.2.1 x.2.2.2.1 x.2.2.2.2.1⟩,
  ⟨[(.sl tI), (.sl (.st .node)), (.sl (.st .age)), (.sl (.st .cell)), (.sl (.st .vol)), tI, tI, tI], [tB, (.sl tI), (.sl (.st .node)), (.sl (.st .cell))], fun x => spec_l11Discard K x.1 x.2.1 x.2.2.1 x.2.2.2.1 x.2.2.2.2.1 x.2.2.2.2.2.1 x.2.2.2.2.2.2.1 x.2.2.2.2.2.2.2.1⟩,
  ⟨[(.sl tI), (.sl (.st .node)), (.sl (.st .age)), (.sl (.st .cell)), (.sl (.st .vol)), tI, tS, tI], [(.sl tI), (.sl (.st .node)), (.sl (.st .age)), (.sl (.st .cell)), (.sl (.st .vol)), tI, tI], fun x => spec_Discard K x.1 x.2.1 x.2.2.1 x.2.2.2.1 x.2.2.2.2.1 x.2.2.2.2.2.1 x.2.2.2.2.2.2.1 x.2.2.2.2.2.2.2.1⟩,
  ⟨[(.sl tI), (.sl (.st .node)), (.sl (.st .age)), (.sl (.st .cell)), (.sl (.st .vol)), tI, tS, tI], [(.sl tI), (.sl (.st .node)), (.sl (.st .age)), (.sl (.st .cell)), (.sl (.st .vol)), tI, tI], fun x => spec_Resize K x.1 x.2.1 x.2.2.1 x.2.2.2.1 x.2.2.2.2.1 x.2.2.2.2.2.1 x.2.2.2.2.2.2.1 x.2.2.2.2.2.2.2.1⟩,
  ⟨[(.sl tI), (.sl (.st .node)), (.sl (.st .age)), tI, tI], [tI, tI, tI, tI, tI, tB], fun x => spec_Seen K x.1 x.2.1 x.2.2.1 x.2.2.2.1 x.2.2.2.2.1⟩,
  ⟨[(.sl tI), (.sl (.st .node)), (.sl (.st .age)), tI, tI, tI, tI, tI, tI], [tB], fun x => spec_Sees K x.1 x.2.1 x.2.2.1 x.2.2.2.1 x.2.2.2.2.1 x.2.2.2.2.2.1 x.2.2.2.2.2.2.1 x.2.2.2.2.2.2.2.1 x.2.2.2.2.2.2.2.2.1⟩,
  ⟨[(.sl tI), (.sl (.st .node)), (.sl (.st .age)), (.sl (.st .cell)), (.sl (.st .vol)), tI, tI, tI, tI, tI, tI], [tB], fun x => spec_SeenByAny K x.1 x.2.1 x.2.2.1 x.2.2.2.1 x.2.2.2.2.1 x.2.2.2.2.2.1 x.2.2.2.2.2.2.1 x.2.2.2.2.2.2.2.1 x.2.2.2.2.2.2.2.2.1 x.2.2.2.2.2.2.2.2.2.1 x.2.2.2.2.2.2.2.2.2.2.1⟩,
  ⟨[(.sl tI), (.sl (.st .node)), (.sl (.st .age)), (.sl (.st .cell)), (.sl (.st .vol)), tI, tI], [tB], fun x => spec_Idle K x.1 x.2.1 x.2.2.1 x.2.2.2.1 x.2.2.2.2.1 x.2.2.2.2.2.1 x.2.2.2.2.2.2.1⟩,
  ⟨[(.sl tI), (.sl (.st .node)), (.sl (.st .age)), (.sl (.st .cell)), (.sl (.st .vol)), tI, tI], [tI], fun x => spec_l13Kid K x.1 x.2.1 x.2.2.1 x.2.2.2.1 x.2.2.2.2.1 x.2.2.2.2.2.1 x.2.2.2.2.2.2.1⟩,
  ⟨[(.sl tI), (.sl (.st .node)), (.sl (.st .age)), (.sl (.st .cell)), (.sl (.st .vol)), tI, tI, tI, tI, tI, tI], [tB], fun x => spec_l13Move K x.1 x.2.1 x.2.2.1 x.2.2.2.1 x.2.2.2.2.1 x.2.2.2.2.2.1 x.2.2.2.2.2.2.1 x.2.2.2.2.2.2.2.1 x.2.2.2.2.2.2.2.2.1 x.2.2.2.2.2.2.2.2.2.1 x.2.2.2.2.2.2.2.2.2.2.1⟩,
  ⟨[(.sl tI), (.sl (.st .node)), (.sl (.st .age)), (.sl (.st .cell)), (.sl (.st .vol)), tI, tI, tI, tI, tI, tI, tI], [tB], fun x => spec_l13Key K x.1 x.2.1 x.2.2.1 x.2.2.2.1 x.2.2.2.2.1 x.2.2.2.2.2.1 x.2.2.2.2.2.2.1 x.2.2.2.2.2.2.2.1 x.2.2.2.2.2.2.2.2.1 x.2.2.2.2.2.2.2.2.2.1 x.2.2.2.2.2.2.2.2.2.2.1 x.2.2.2.2.2.2.2.2.2.2.2.1⟩,
  ⟨[(.sl tI), (.sl (.st .node)), (.sl (.st .age)), (.sl (.st .cell)), (.sl (.st .vol)), tI, tI], [tB], fun x => spec_l13Age K x.1 x.2.1 x.2.2.1 x.2.2.2.1 x.2.2.2.2.1 x.2.2.2.2.2.1 x.2.2.2.2.2.2.1⟩,
  ⟨[(.sl tI), (.sl (.st .node)), (.sl (.st .age)), (.sl (.st .cell)), (.sl (.st .vol)), tI], [tI, tI], fun x => spec_NextStep K x.1 x.2.1 x.2.2.1 x.2.2.2.1 x.2.2.2.2.1 x.2.2.2.2.2.1⟩,
  ⟨[(.sl tI), (.sl (.st .node)), (.sl (.st .age)), (.sl (.st .cell)), (.sl (.st .vol)), tI, tI, tI, tI, tI, tI], [tB, (.sl tI), (.sl (.st .node)), (.sl (.st .cell))], fun x => spec_l13None K x.1 x.2.1 x.2.2.1 x.2.2.2.1 x.2.2.2.2.1 x.2.2.2.2.2.1 x.2.2.2.2.2.2.1 x.2.2.2.2.2.2.2.1 x.2.2.2.2.2.2.2.2.1 x.2.2.2.2.2.2.2.2.2.1 x.2.2.2.2.2.2.2.2.2.2.1⟩,
  ⟨[(.sl (.st .age)), tI], [(.sl (.st .age)), tB], fun x => spec_CutAge K x.1 x.2.1⟩,
  ⟨[(.sl tI), (.sl (.st .node)), (.sl (.st .age)), (.sl (.st .cell)), (.sl (.st .vol)), tI], [(.sl tI), (.sl (.st .node)), (.sl (.st .age)), (.sl (.st .cell)), (.sl (.st .vol)), tI, tB], fun x => spec_PruneStep K x.1 x.2.1 x.2.2.1 x.2.2.2.1 x.2.2.2.2.1 x.2.2.2.2.2.1⟩,
  ⟨[(.sl (.sl (.st .key)))], [(.sl (.sl (.st .key)))], fun x => spec_NodePack K x.1⟩,
  ⟨[(.sl tI), (.sl (.st .node)), tI], [(.sl tI), (.sl (.st .node))], fun x => spec_TreePack K x.1 x.2.1 x.2.2.1⟩,
  ⟨[(.sl tI), (.sl (.st .node)), (.sl (.st .age)), (.sl (.st .cell)), (.sl (.st .vol)), tI, tI], [(.sl tI), (.sl (.st .node)), (.sl (.st .age)), (.sl (.st .cell)), (.sl (.st .vol)), tI, tB], fun x => spec_PackStep K x.1 x.2.1 x.2.2.1 x.2.2.2.1 x.2.2.2.2.1 x.2.2.2.2.2.1 x.2.2.2.2.2.2.1⟩,
  ⟨[(.sl tI), (.sl (.st .node)), (.sl (.st .age)), (.sl (.st .cell)), (.sl (.st .vol)), tI, tI], [tI, tI, tI, tI, tI], fun x => spec_l14Key K x.1 x.2.1 x.2.2.1 x.2.2.2.1 x.2.2.2.2.1 x.2.2.2.2.2.1 x.2.2.2.2.2.2.1⟩,
  ⟨[(.sl tI), (.sl (.st .node)), (.sl (.st .age)), (.sl (.st .cell)), (.sl (.st .vol)), tI, tI], [(.sl tI), (.sl (.st .node)), (.sl (.st .age)), (.sl (.st .cell)), (.sl (.st .vol)), tI, tB], fun x => spec_MoveStep K x.1 x.2.1 x.2.2.1 x.2.2.2.1 x.2.2.2.2.1 x.2.2.2.2.2.1 x.2.2.2.2.2.2.1⟩,
  ⟨[(.sl tI), (.sl (.st .node)), (.sl (.st .age)), (.sl (.st .cell)), (.sl (.st .vol)), tI, tI, tS, tS, tI, tI], [(.sl tI), (.sl (.st .node)), (.sl (.st .age)), (.sl (.st .cell)), (.sl (.st .vol)), tI, tB], fun x => spec_l15Step K x.1 x.2.1 x.2.2.1 x.2.2.2.1 x.2.2.2.2.1 x.2.2.2.2.2.1 x.2.2.2.2.2.2.1 x.2.2.2.2.2.2.2.1 x.2.2.2.2.2.2.2.2.1 x.2.2.2.2.2.2.2.2.2.1 x.2.2.2.2.2.2.2.2.2.2.1⟩,
  ⟨[(.sl tI), (.sl (.st .node)), (.sl (.st .age)), (.sl (.st .cell)), (.sl (.st .vol)), tI, tI, tS, tS, tI, tI], [(.sl tI), (.sl (.st .node)), (.sl (.st .age)), (.sl (.st .cell)), (.sl (.st .vol)), tI, tI], fun x => spec_Apply K x.1 x.2.1 x.2.2.1 x.2.2.2.1 x.2.2.2.2.1 x.2.2.2.2.2.1 x.2.2.2.2.2.2.1 x.2.2.2.2.2.2.2.1 x.2.2.2.2.2.2.2.2.1 x.2.2.2.2.2.2.2.2.2.1 x.2.2.2.2.2.2.2.2.2.2.1⟩,
  ⟨[(.sl tU), tI, tI, tI], [(.sl tI), (.sl (.st .node)), (.sl (.st .age)), (.sl (.st .cell)), (.sl (.st .vol)), tI, tI, tI], fun x => spec_l10Draw K x.1 x.2.1 x.2.2.1 x.2.2.2.1⟩,
  ⟨[(.sl tU)], [(.sl tI), (.sl (.st .node)), (.sl (.st .age)), (.sl (.st .cell)), (.sl (.st .vol)), tI, tI, tS, tS, tI, tI], fun x => spec_DrawPool_v K x.1⟩,
  ⟨[tS, tI, tI, tB, tS], [tB], fun x => impl_VolAt_1 K x.1 x.2.1 x.2.2.1 x.2.2.2.1 x.2.2.2.2.1⟩,
  ⟨[(.sl (.st .vol)), tS], [tI], fun x => slices_IndexFunc__impl_Vol_impl_Vol_impl_VolAt_1 K x.1 x.2.1⟩,
  ⟨[(.sl tI), (.sl (.st .node)), (.sl (.st .age)), (.sl (.st .cell)), (.sl (.st .vol)), tI, tS], [tI], fun x => impl_VolAt K x.1 x.2.1 x.2.2.1 x.2.2.2.1 x.2.2.2.2.1 x.2.2.2.2.2.1 x.2.2.2.2.2.2.1⟩,
  ⟨[tI, tI, tI], [tB], fun x => impl_within K x.1 x.2.1 x.2.2.1⟩,
  ⟨[tI, tI, tI, tI, tI], [tB], fun x => impl_KeyOk K x.1 x.2.1 x.2.2.1 x.2.2.2.1 x.2.2.2.2.1⟩,
  ⟨[tI, tI, tI, tI, tI, tI, tI, tI, tI, tI], [tB], fun x => impl_LessKey K x.1 x.2.1 x.2.2.1 x.2.2.2.1 x.2.2.2.2.1 x.2.2.2.2.2.1 x.2.2.2.2.2.2.1 x.2.2.2.2.2.2.2.1 x.2.2.2.2.2.2.2.2.1 x.2.2.2.2.2.2.2.2.2.1⟩,
  ⟨[(.sl (.st .key))], [tB], fun x => impl_SetOk K x.1⟩,
  ⟨[(.sl (.sl (.st .key)))], [tB], fun x => impl_NodeOk K x.1⟩,
  ⟨[tI, tI], [tI], fun x => impl_SpotOf K x.1 x.2.1⟩,
  ⟨[(.sl tI), (.sl (.st .node)), tI], [tB], fun x => impl_inBounds K x.1 x.2.1 x.2.2.1⟩,
  ⟨[(.sl (.st .key))], [(.sl (.st .key))], fun x => impl_copyKeys K x.1⟩,
  ⟨[tI, tI, tI, tI, tI, tI, tI, tI, tI, tI], [tB], fun x => impl_SameSpot K x.1 x.2.1 x.2.2.1 x.2.2.2.1 x.2.2.2.2.1 x.2.2.2.2.2.1 x.2.2.2.2.2.2.1 x.2.2.2.2.2.2.2.1 x.2.2.2.2.2.2.2.2.1 x.2.2.2.2.2.2.2.2.2.1⟩,
  ⟨[(.sl (.st .key)), tI, tI, tI, tI, tI], [(.sl (.st .key))], fun x => impl_SetPut K x.1 x.2.1 x.2.2.1 x.2.2.2.1 x.2.2.2.2.1 x.2.2.2.2.2.1⟩,
  ⟨[(.sl (.st .key)), (.sl (.st .key))], [(.sl (.st .key))], fun x => impl_MergeSets K x.1 x.2.1⟩,
  ⟨[(.sl (.st .key))], [(.sl (.st .key))], fun x => impl_Drop K x.1⟩,
  ⟨[(.sl (.sl (.st .key)))], [(.sl (.st .key))], fun x => impl_NodeKeys K x.1⟩,
  ⟨[(.sl tI), (.sl (.st .node))], [tB], fun x => impl_TreeOk K x.1 x.2.1⟩,
  ⟨[tI, tI, tI], [tB], fun x => impl_AgeAt_1 K x.1 x.2.1 x.2.2.1⟩,
  ⟨[(.sl (.st .age)), tI], [tI], fun x => slices_IndexFunc__impl_Age_impl_Age_impl_AgeAt_1 K x.1 x.2.1⟩,
  ⟨[(.sl (.st .age)), tI], [tI], fun x => impl_AgeAt K x.1 x.2.1⟩,
  ⟨[(.sl (.st .age))], [tB], fun x => impl_AgesOk K x.1⟩,
  ⟨[tI], [tB], fun x => impl_isWord K x.1⟩,
  ⟨[(.sl (.st .cell))], [tB], fun x => impl_CellsOk K x.1⟩,
  ⟨[tS], [tB], fun x => impl_NameOk K x.1⟩,
  ⟨[(.sl (.st .age)), tI], [(.sl tI)], fun x => impl_KidsOf K x.1 x.2.1⟩,
  ⟨[tS, tI, tI, tB, tS, tI, tI, tB], [tB], fun x => impl_volsOk_1 K x.1 x.2.1 x.2.2.1 x.2.2.2.1 x.2.2.2.2.1 x.2.2.2.2.2.1 x.2.2.2.2.2.2.1 x.2.2.2.2.2.2.2.1⟩,
  ⟨[(.sl (.st .vol)), tS, tI, tI, tB], [tI], fun x => slices_IndexFunc__impl_Vol_impl_Vol_impl_volsOk_1 K x.1 x.2.1 x.2.2.1 x.2.2.2.1 x.2.2.2.2.1⟩,
  ⟨[(.sl (.st .vol)), tS, tI, tI, tB], [tB], fun x => slices_ContainsFunc__impl_Vol_impl_Vol_impl_volsOk_1 K x.1 x.2.1 x.2.2.1 x.2.2.2.1 x.2.2.2.2.1⟩,
  ⟨[(.sl tI), (.sl (.st .node)), (.sl (.st .age)), (.sl (.st .cell)), (.sl (.st .vol)), tI], [tB], fun x => impl_volsOk K x.1 x.2.1 x.2.2.1 x.2.2.2.1 x.2.2.2.2.1 x.2.2.2.2.2.1⟩,
  ⟨[(.sl tI), (.sl (.st .node))], [(.sl (.st .key))], fun x => impl_TreeKeys K x.1 x.2.1⟩,
  ⟨[(.sl (.st .cell)), tI, tI], [tI, tB], fun x => impl_CellAt K x.1 x.2.1 x.2.2.1⟩,
  ⟨[(.sl (.st .cell))], [tI], fun x => impl_UsedCells K x.1⟩,
  ⟨[(.sl tI), (.sl (.st .node)), (.sl (.st .age)), (.sl (.st .cell)), (.sl (.st .vol)), tI], [tB], fun x => impl_keysFit K x.1 x.2.1 x.2.2.1 x.2.2.2.1 x.2.2.2.2.1 x.2.2.2.2.2.1⟩,
  ⟨[(.sl tI), (.sl (.st .node)), (.sl (.st .age)), (.sl (.st .cell)), (.sl (.st .vol)), tI], [tB], fun x => impl_PoolOk K x.1 x.2.1 x.2.2.1 x.2.2.2.1 x.2.2.2.2.1 x.2.2.2.2.2.1⟩,
  ⟨[(.sl tI), (.sl (.st .node)), (.sl (.st .age)), (.sl (.st .cell)), (.sl (.st .vol)), tI, tS, tI, tB], [tI, tI], fun x => impl_blockCode K x.1 x.2.1 x.2.2.1 x.2.2.2.1 x.2.2.2.2.1 x.2.2.2.2.2.1 x.2.2.2.2.2.2.1 x.2.2.2.2.2.2.2.1 x.2.2.2.2.2.2.2.2.1⟩,
  ⟨[(.sl (.st .age)), tI], [(.sl tI)], fun x => impl_PathOf K x.1 x.2.1⟩,
  ⟨[(.sl tI), (.sl (.st .node)), tI], [(.sl (.st .key))], fun x => impl_KeysOf K x.1 x.2.1 x.2.2.1⟩,
  ⟨[(.sl tI), tI], [tI], fun x => slices_Index__int_int K x.1 x.2.1⟩,
  ⟨[(.sl tI), tI], [tB], fun x => slices_Contains__int_int K x.1 x.2.1⟩,
  ⟨[(.sl tI), (.sl (.st .node)), tI, (.sl tI)], [tI, tI, tI, tI, tI, tB], fun x => impl_seenOn K x.1 x.2.1 x.2.2.1 x.2.2.2.1⟩,
  ⟨[(.sl tI), (.sl (.st .node)), (.sl (.st .age)), tI, tI], [tI, tI, tI, tI, tI, tB], fun x => impl_Seen K x.1 x.2.1 x.2.2.1 x.2.2.2.1 x.2.2.2.2.1⟩,
  ⟨[(.sl tI), (.sl (.st .node)), (.sl (.st .age)), (.sl (.st .cell)), (.sl (.st .vol)), tI, tI, tI], [tI], fun x => impl_BlockOf K x.1 x.2.1 x.2.2.1 x.2.2.2.1 x.2.2.2.2.1 x.2.2.2.2.2.1 x.2.2.2.2.2.2.1 x.2.2.2.2.2.2.2.1⟩,
  ⟨[(.sl tI), (.sl (.st .node)), (.sl (.st .age)), (.sl (.st .cell)), (.sl (.st .vol)), tI, tS, tI], [tI, tI], fun x => impl_Read K x.1 x.2.1 x.2.2.1 x.2.2.2.1 x.2.2.2.2.1 x.2.2.2.2.2.1 x.2.2.2.2.2.2.1 x.2.2.2.2.2.2.2.1⟩,
  ⟨[(.sl tU), tI], [tI], fun x => laws_at K x.1 x.2.1⟩,
  ⟨[(.sl tI)], [(.sl tI)], fun x => impl_copyInts K x.1⟩,
  ⟨[(.sl (.sl (.st .key)))], [(.sl (.sl (.st .key)))], fun x => impl_copyNode K x.1⟩,
  ⟨[(.sl tI), (.sl (.st .node))], [(.sl tI), (.sl (.st .node))], fun x => impl_copyTree K x.1 x.2.1⟩,
  ⟨[(.sl (.st .age))], [(.sl (.st .age))], fun x => impl_copyAges K x.1⟩,
  ⟨[(.sl (.st .cell))], [(.sl (.st .cell))], fun x => impl_copyCells K x.1⟩,
  ⟨[(.sl tI), (.sl (.st .node)), (.sl (.st .age)), (.sl (.st .cell)), (.sl (.st .vol)), tI], [(.sl tI), (.sl (.st .node)), (.sl (.st .age)), (.sl (.st .cell)), (.sl (.st .vol)), tI], fun x => impl_copyPool K x.1 x.2.1 x.2.2.1 x.2.2.2.1 x.2.2.2.2.1 x.2.2.2.2.2.1⟩,
  ⟨[(.sl (.st .cell))], [tI], fun x => impl_freeAt K x.1⟩,
  ⟨[(.sl (.st .cell)), tI], [(.sl (.st .cell)), tI, tB], fun x => impl_TakeCell K x.1 x.2.1⟩,
  ⟨[(.sl tI), (.sl (.st .node)), tI, tI], [tI], fun x => impl_WhereIn K x.1 x.2.1 x.2.2.1 x.2.2.2.1⟩,
  ⟨[(.sl (.st .key)), tI, tI], [tI, tI, tI, tI, tI, tB], fun x => impl_SetAt K x.1 x.2.1 x.2.2.1⟩,
  ⟨[(.sl (.sl (.st .key))), tI, tI], [tI, tI, tI, tI, tI, tB], fun x => impl_NodeAt K x.1 x.2.1 x.2.2.1⟩,
  ⟨[(.sl tI), (.sl (.st .node)), tI, tI], [tI, tI, tI, tI, tI, tB], fun x => impl_TreeAt K x.1 x.2.1 x.2.2.1 x.2.2.2.1⟩,
  ⟨[(.sl (.sl (.st .key))), tI, tI, tI, tI, tI], [(.sl (.st .key))], fun x => impl_keysWith K x.1 x.2.1 x.2.2.1 x.2.2.2.1 x.2.2.2.2.1 x.2.2.2.2.2.1⟩,
  ⟨[(.sl (.st .key))], [(.sl (.sl (.st .key)))], fun x => impl_NodeNew K x.1⟩,
  ⟨[(.sl (.sl (.st .key))), tI, tI, tI, tI, tI], [(.sl (.sl (.st .key))), tB], fun x => impl_NodePut K x.1 x.2.1 x.2.2.1 x.2.2.2.1 x.2.2.2.2.1 x.2.2.2.2.2.1⟩,
  ⟨[(.sl tI), (.sl (.st .node)), tI, tI, (.sl tI), (.sl (.st .node))], [(.sl tI), (.sl (.st .node))], fun x => impl_replaced K x.1 x.2.1 x.2.2.1 x.2.2.2.1 x.2.2.2.2.1 x.2.2.2.2.2.1⟩,
  ⟨[(.sl tI), (.sl (.st .node))], [(.sl tI), (.sl (.st .node))], fun x => impl_merged_o K x.1 x.2.1⟩,
  ⟨[(.sl tI), (.sl (.st .node)), tI, tI, tI, tI, tI], [(.sl tI), (.sl (.st .node)), tB], fun x => impl_TreePut K x.1 x.2.1 x.2.2.1 x.2.2.2.1 x.2.2.2.2.1 x.2.2.2.2.2.1 x.2.2.2.2.2.2.1⟩,
  ⟨[(.sl (.st .cell)), tI], [(.sl (.st .cell))], fun x => impl_FreeCell K x.1 x.2.1⟩,
  ⟨[(.sl tI), (.sl (.st .node)), (.sl (.st .age)), (.sl (.st .cell)), (.sl (.st .vol)), tI, tI, tI, tI, tI, tI], [tB, (.sl tI), (.sl (.st .node)), (.sl (.st .cell))], fun x => impl_Pool_putKey K x.1 x.2.1 x.2.2.1 x.2.2.2.1 x.2.2.2.2.1 x.2.2.2.2.2.1 x.2.2.2.2.2.2.1 x.2.2.2.2.2.2.2.1 x.2.2.2.2.2.2.2.2.1 x.2.2.2.2.2.2.2.2.2.1 x.2.2.2.2.2.2.2.2.2.2.1⟩,
  ⟨[(.sl tI), (.sl (.st .node)), (.sl (.st .age)), (.sl (.st .cell)), (.sl (.st .vol)), tI, (.sl tI), (.sl (.st .node)), (.sl (.st .age)), (.sl (.st .cell)), (.sl (.st .vol)), tI, tB], [(.sl tI), (.sl (.st .node)), (.sl (.st .age)), (.sl (.st .cell)), (.sl (.st .vol)), tI, tI], fun x => impl_settled_ro K x.1 x.2.1 x.2.2.1 x.2.2.2.1 x.2.2.2.2.1 x.2.2.2.2.2.1 x.2.2.2.2.2.2.1 x.2.2.2.2.2.2.2.1 x.2.2.2.2.2.2.2.2.1 x.2.2.2.2.2.2.2.2.2.1 x.2.2.2.2.2.2.2.2.2.2.1 x.2.2.2.2.2.2.2.2.2.2.2.1 x.2.2.2.2.2.2.2.2.2.2.2.2.1⟩,
  ⟨[(.sl tI), (.sl (.st .node)), (.sl (.st .age)), (.sl (.st .cell)), (.sl (.st .vol)), tI, tS, tI, tI], [(.sl tI), (.sl (.st .node)), (.sl (.st .age)), (.sl (.st .cell)), (.sl (.st .vol)), tI, tI], fun x => impl_Write K x.1 x.2.1 x.2.2.1 x.2.2.2.1 x.2.2.2.2.1 x.2.2.2.2.2.1 x.2.2.2.2.2.2.1 x.2.2.2.2.2.2.2.1 x.2.2.2.2.2.2.2.2.1⟩,
  ⟨[(.sl tI), (.sl tI)], [tB], fun x => laws_sameInts K x.1 x.2.1⟩,
  ⟨[(.sl (.st .key)), (.sl (.st .key))], [tB], fun x => laws_sameKeys K x.1 x.2.1⟩,
  ⟨[(.sl (.sl (.st .key))), (.sl (.sl (.st .key)))], [tB], fun x => laws_sameNode K x.1 x.2.1⟩,
  ⟨[(.sl tI), (.sl (.st .node)), (.sl tI), (.sl (.st .node))], [tB], fun x => laws_sameTree K x.1 x.2.1 x.2.2.1 x.2.2.2.1⟩,
  ⟨[(.sl (.st .age)), (.sl (.st .age))], [tB], fun x => laws_sameAges K x.1 x.2.1⟩,
  ⟨[(.sl (.st .cell)), (.sl (.st .cell))], [tB], fun x => laws_sameCells K x.1 x.2.1⟩,
  ⟨[(.sl tI), (.sl (.st .node)), (.sl (.st .age)), (.sl (.st .cell)), (.sl (.st .vol)), tI, (.sl tI), (.sl (.st .node)), (.sl (.st .age)), (.sl (.st .cell)), (.sl (.st .vol)), tI], [tB], fun x => laws_samePool K x.1 x.2.1 x.2.2.1 x.2.2.2.1 x.2.2.2.2.1 x.2.2.2.2.2.1 x.2.2.2.2.2.2.1 x.2.2.2.2.2.2.2.1 x.2.2.2.2.2.2.2.2.1 x.2.2.2.2.2.2.2.2.2.1 x.2.2.2.2.2.2.2.2.2.2.1 x.2.2.2.2.2.2.2.2.2.2.2.1⟩,
  ⟨[(.sl tI), (.sl (.st .node)), (.sl (.st .age)), tI, tI], [tI, tI, tI, tI, tI, tB], fun x => impl_SeenAbove K x.1 x.2.1 x.2.2.1 x.2.2.2.1 x.2.2.2.2.1⟩,
  ⟨[(.sl tI), (.sl (.st .node)), (.sl (.st .age)), (.sl (.st .cell)), (.sl (.st .vol)), tI, tI, tI], [tB, (.sl tI), (.sl (.st .node)), (.sl (.st .cell))], fun x => impl_Pool_discard K x.1 x.2.1 x.2.2.1 x.2.2.2.1 x.2.2.2.2.1 x.2.2.2.2.2.1 x.2.2.2.2.2.2.1 x.2.2.2.2.2.2.2.1⟩,
  ⟨[(.sl tI), (.sl (.st .node)), (.sl (.st .age)), (.sl (.st .cell)), (.sl (.st .vol)), tI, tS, tI], [(.sl tI), (.sl (.st .node)), (.sl (.st .age)), (.sl (.st .cell)), (.sl (.st .vol)), tI, tI], fun x => impl_Discard K x.1 x.2.1 x.2.2.1 x.2.2.2.1 x.2.2.2.2.1 x.2.2.2.2.2.1 x.2.2.2.2.2.2.1 x.2.2.2.2.2.2.2.1⟩,
  ⟨[(.sl tU)], [tB], fun x => laws_FnReads_v K x.1⟩]
theorem noNum : NoNum Tryz.prog := noNum_of (by kernel_rfl)
theorem entsOk : (ents.all (entOk Tryz.prog)) = true := by kernel_rfl
end Go.Proofs.Fw.R1
set_option linter.unusedVariables false
set_option maxRecDepth 100000
namespace Go.Proofs.Fw.R1
open Go Go.Proofs Go.Proofs.Fw
def h0 : List Hint := []
theorem G0 : ∀ K x, denF K Tryz.prog (tab K) (ents.take 0) h0 ⟨8, [.v .leaf [.rd]], (.one .leaf), [.val]⟩ [(.sl tU)] [tB] x = laws_big K x.1 := fun K x => by kernel_rfl
def h1 : List Hint := [⟨7, [192, 0, 256], [tI, (.sl tU), tI], [⟨192, .val, (some (.one .leaf))⟩, ⟨0, .val, (some (.one .leaf))⟩, ⟨256, .val, (some (.one .leaf))⟩]⟩]
theorem G1 : ∀ K x, denF K Tryz.prog (tab K) (ents.take 1) h1 ⟨42, [.v .leaf [.val]], (.one .leaf), [.nb [.val, .val, .val]]⟩ [(.sl tU)] [(.sl tU), tI, tI] x = spec_l1New_v K x.1 := fun K x => by kernel_rfl
def h2 : List Hint := []
theorem G2 : ∀ K x, denF K Tryz.prog (tab K) (ents.take 2) h2 ⟨44, [.v .leaf [.rd], .v .leaf [.val]], (.one .leaf), [.val]⟩ [(.sl tU), tI] [tI] x = spec_l1Size K x.1 x.2.1 := fun K x => by kernel_rfl
def h3 : List Hint := []
theorem G3 : ∀ K x, denF K Tryz.prog (tab K) (ents.take 3) h3 ⟨152, [], (.one (.agg 2)), [.own, .own]⟩ [] [(.sl tI), (.sl (.st .node))] x = spec_TreeNew K := fun K x => by kernel_rfl
def h4 : List Hint := []
theorem G4 : ∀ K x, denF K Tryz.prog (tab K) (ents.take 4) h4 ⟨153, [], (.one .leaf), [.own]⟩ [] [(.sl (.st .cell))] x = spec_CellsNew K := fun K x => by kernel_rfl
def h5 : List Hint := []
theorem G5 : ∀ K x, denF K Tryz.prog (tab K) (ents.take 5) h5 ⟨96, [], (.one (.agg 6)), [.own, .own, .own, .own, .own, .val]⟩ [] [(.sl tI), (.sl (.st .node)), (.sl (.st .age)), (.sl (.st .cell)), (.sl (.st .vol)), tI] x = spec_PoolNew K := fun K x => by kernel_rfl
def h6 : List Hint := [⟨12, [192, 256000, 128001, 128002], [tI, (.sl tU), tI, tI], [⟨192, .val, (some (.one .leaf))⟩, ⟨256000, .rd, none⟩, ⟨128000, (.al 256000), none⟩, ⟨128001, .val, none⟩, ⟨128002, .val, none⟩, ⟨384000, .dead, (some (.bx 3))⟩]⟩]
theorem G6 : ∀ K x, denF K Tryz.prog (tab K) (ents.take 6) h6 ⟨154, [.p [.rd, .val, .val] [.same, .val, .val]], (.one .leaf), [.val]⟩ [(.sl tU), tI, tI] [tI, tI, tI] x = spec_l1Byte K x.1 x.2.1 x.2.2.1 := fun K x => by kernel_rfl
def h7 : List Hint := []
theorem G7 : ∀ K x, denF K Tryz.prog (tab K) (ents.take 7) h7 ⟨97, [.p [.rd, .val, .val] [.same, .val, .val], .v .leaf [.val]], (.one .leaf), [.val]⟩ [(.sl tU), tI, tI, tI] [tI, tI, tI] x = spec_l1Below K x.1 x.2.1 x.2.2.1 x.2.2.2.1 := fun K x => by kernel_rfl
def h8 : List Hint := []
theorem G8 : ∀ K x, denF K Tryz.prog (tab K) (ents.take 8) h8 ⟨74, [.p [.rd, .val, .val] [.same, .val, .val], .v .leaf [.rd]], (.one .leaf), [.val]⟩ [(.sl tU), tI, tI, (.sl tI)] [tI, tI, tI] x = spec_l1Int K x.1 x.2.1 x.2.2.1 x.2.2.2.1 := fun K x => by kernel_rfl
def h9 : List Hint := []
theorem G9 : ∀ K x, denF K Tryz.prog (tab K) (ents.take 9) h9 ⟨99, [.p [.rd, .val, .val] [.same, .val, .val], .v .leaf [.rd]], (.one .leaf), [.val]⟩ [(.sl tU), tI, tI, (.sl tS)] [tS, tI, tI] x = spec_l1Str K x.1 x.2.1 x.2.2.1 x.2.2.2.1 := fun K x => by kernel_rfl
def h10 : List Hint := []
theorem G10 : ∀ K x, denF K Tryz.prog (tab K) (ents.take 10) h10 ⟨100, [.p [.rd, .val, .val] [.same, .val, .val]], (.one .leaf), [.val]⟩ [(.sl tU), tI, tI] [tS, tI, tI] x = spec_l1Name K x.1 x.2.1 x.2.2.1 := fun K x => by kernel_rfl
def h11 : List Hint := []
theorem G11 : ∀ K x, denF K Tryz.prog (tab K) (ents.take 11) h11 ⟨101, [.p [.rd, .val, .val] [.same, .val, .val]], (.one .leaf), [.val]⟩ [(.sl tU), tI, tI] [tI, tI, tI] x = spec_l1Draw K x.1 x.2.1 x.2.2.1 := fun K x => by kernel_rfl
def h12 : List Hint := [⟨38, [128196, 128195, 128194, 128193, 128192, 128132, 128131, 128130, 128129, 128128, 256000, 128001, 128002], [tI, tI, tS, tS, tI, tI, tI, tS, tS, tI, (.sl tU), tI, tI], [⟨128196, .val, none⟩, ⟨128195, .val, none⟩, ⟨128194, .val, none⟩, ⟨128193, .val, none⟩, ⟨128192, .val, none⟩, ⟨128132, .val, none⟩, ⟨128131, .val, none⟩, ⟨128130, .val, none⟩, ⟨128129, .val, none⟩, ⟨128128, .val, none⟩, ⟨384192, .dead, (some (.bx 5))⟩, ⟨192, (.ptr 3 0), (some (.one .leaf))⟩, ⟨384128, .dead, (some (.bx 5))⟩, ⟨128, (.ptr 2 0), (some (.one .leaf))⟩, ⟨256000, .rd, none⟩, ⟨128000, (.al 256000), none⟩, ⟨128001, .val, none⟩, ⟨128002, .val, none⟩, ⟨384000, .dead, (some (.bx 3))⟩]⟩, ⟨36, [128196, 128195, 128194, 128193, 128192, 128132, 128131, 128130, 128129, 128128, 2944, 256000, 128001, 128002], [tI, tI, tS, tS, tI, tI, tI, tS, tS, tI, tB, (.sl tU), tI, tI], [⟨128196, .val, none⟩, ⟨128195, .val, none⟩, ⟨128194, .val, none⟩, ⟨128193, .val, none⟩, ⟨128192, .val, none⟩, ⟨128132, .val, none⟩, ⟨128131, .val, none⟩, ⟨128130, .val, none⟩, ⟨128129, .val, none⟩, ⟨128128, .val, none⟩, ⟨2944, .val, (some (.one .leaf))⟩, ⟨0, (.ptr 0 0), (some (.one .leaf))⟩, ⟨384192, .dead, (some (.bx 5))⟩, ⟨192, (.ptr 3 0), (some (.one .leaf))⟩, ⟨384128, .dead, (some (.bx 5))⟩, ⟨128, (.ptr 2 0), (some (.one .leaf))⟩, ⟨256000, .rd, none⟩, ⟨128000, (.al 256000), none⟩, ⟨128001, .val, none⟩, ⟨128002, .val, none⟩, ⟨384000, .dead, (some (.bx 3))⟩]⟩, ⟨14, [128196, 128195, 128194, 128193, 128192, 128132, 128131, 128130, 128129, 128128, 1088, 1024, 256000, 128001, 128002], [tI, tI, tS, tS, tI, tI, tI, tS, tS, tI, tB, tI, (.sl tU), tI, tI], [⟨128196, .val, none⟩, ⟨128195, .val, none⟩, ⟨128194, .val, none⟩, ⟨128193, .val, none⟩, ⟨128192, .val, none⟩, ⟨128132, .val, none⟩, ⟨128131, .val, none⟩, ⟨128130, .val, none⟩, ⟨128129, .val, none⟩, ⟨128128, .val, none⟩, ⟨1088, .val, (some (.one .leaf))⟩, ⟨1024, .val, (some (.one .leaf))⟩, ⟨0, (.ptr 0 0), (some (.one .leaf))⟩, ⟨384192, .dead, (some (.bx 5))⟩, ⟨192, (.ptr 3 0), (some (.one .leaf))⟩, ⟨384128, .dead, (some (.bx 5))⟩, ⟨128, (.ptr 2 0), (some (.one .leaf))⟩, ⟨256000, .rd, none⟩, ⟨128000, (.al 256000), none⟩, ⟨128001, .val, none⟩, ⟨128002, .val, none⟩, ⟨384000, .dead, (some (.bx 3))⟩]⟩, ⟨8, [128196, 128195, 128194, 128193, 128192, 128132, 128131, 128130, 128129, 128128, 256000, 128001, 128002], [tI, tI, tS, tS, tI, tI, tI, tS, tS, tI, (.sl tU), tI, tI], [⟨128196, .val, none⟩, ⟨128195, .val, none⟩, ⟨128194, .val, none⟩, ⟨128193, .val, none⟩, ⟨128192, .val, none⟩, ⟨128132, .val, none⟩, ⟨128131, .val, none⟩, ⟨128130, .val, none⟩, ⟨128129, .val, none⟩, ⟨128128, .val, none⟩, ⟨0, (.ptr 0 0), (some (.one .leaf))⟩, ⟨384192, .dead, (some (.bx 5))⟩, ⟨192, (.ptr 3 0), (some (.one .leaf))⟩, ⟨384128, .dead, (some (.bx 5))⟩, ⟨128, (.ptr 2 0), (some (.one .leaf))⟩, ⟨256000, .rd, none⟩, ⟨128000, (.al 256000), none⟩, ⟨128001, .val, none⟩, ⟨128002, .val, none⟩, ⟨384000, .dead, (some (.bx 3))⟩]⟩]
theorem G12 : ∀ K x, denF K Tryz.prog (tab K) (ents.take 12) h12 ⟨45, [.p [.rd, .val, .val] [.same, .val, .val]], (.one (.agg 5)), [.val, .val, .val, .val, .val]⟩ [(.sl tU), tI, tI] [tI, tS, tS, tI, tI, tI, tI] x = spec_l15Draw K x.1 x.2.1 x.2.2.1 := fun K x => by kernel_rfl
def h13 : List Hint := []
theorem G13 : ∀ K x, denF K Tryz.prog (tab K) (ents.take 13) h13 ⟨78, [.v .leaf [.val], .v .leaf [.val], .v .leaf [.val]], (.one .leaf), [.val]⟩ [tI, tI, tI] [tB] x = spec_l1In K x.1 x.2.1 x.2.2.1 := fun K x => by kernel_rfl
def h14 : List Hint := [⟨5, [0, 192], [tS, tI], [⟨0, .val, (some (.one .leaf))⟩, ⟨192, .val, (some (.one .leaf))⟩]⟩]
theorem G14 : ∀ K x, denF K Tryz.prog (tab K) (ents.take 14) h14 ⟨180, [.v .leaf [.val]], (.one .leaf), [.val]⟩ [tS] [tB] x = spec_NameOk K x.1 := fun K x => by kernel_rfl
def h15 : List Hint := []
theorem G15 : ∀ K x, denF K Tryz.prog (tab K) (ents.take 15) h15 ⟨138, [.v .leaf [.val]], (.one .leaf), [.val]⟩ [tI] [tB] x = spec_l1Word K x.1 := fun K x => by kernel_rfl
def h16 : List Hint := [⟨12, [128068, 128067, 128066, 128065, 128064, 960, 256], [tI, tI, tS, tS, tI, tB, tI], [⟨128068, .val, none⟩, ⟨128067, .val, none⟩, ⟨128066, .val, none⟩, ⟨128065, .val, none⟩, ⟨128064, .val, none⟩, ⟨960, .val, (some (.one .leaf))⟩, ⟨256, .val, (some (.one .leaf))⟩, ⟨384064, .dead, (some (.bx 5))⟩, ⟨64, (.ptr 1 0), (some (.one .leaf))⟩]⟩]
theorem G16 : ∀ K x, denF K Tryz.prog (tab K) (ents.take 16) h16 ⟨197, [.v (.agg 5) [.val, .val, .val, .val, .val]], (.one .leaf), [.val]⟩ [tI, tS, tS, tI, tI] [tB] x = spec_l15Zero K x.1 x.2.1 x.2.2.1 x.2.2.2.1 x.2.2.2.2.1 := fun K x => by kernel_rfl
def h17 : List Hint := [⟨14, [128068, 128067, 128066, 128065, 128064, 192, 256], [tI, tI, tS, tS, tI, tB, tB], [⟨128068, .val, none⟩, ⟨128067, .val, none⟩, ⟨128066, .val, none⟩, ⟨128065, .val, none⟩, ⟨128064, .val, none⟩, ⟨192, .val, (some (.one .leaf))⟩, ⟨256, .val, (some (.one .leaf))⟩, ⟨384064, .dead, (some (.bx 5))⟩, ⟨64, (.ptr 1 0), (some (.one .leaf))⟩]⟩, ⟨8, [128068, 128067, 128066, 128065, 128064, 192], [tI, tI, tS, tS, tI, tB], [⟨128068, .val, none⟩, ⟨128067, .val, none⟩, ⟨128066, .val, none⟩, ⟨128065, .val, none⟩, ⟨128064, .val, none⟩, ⟨192, .val, (some (.one .leaf))⟩, ⟨384064, .dead, (some (.bx 5))⟩, ⟨64, (.ptr 1 0), (some (.one .leaf))⟩]⟩]
theorem G17 : ∀ K x, denF K Tryz.prog (tab K) (ents.take 17) h17 ⟨155, [.v (.agg 5) [.val, .val, .val, .val, .val]], (.one .leaf), [.val]⟩ [tI, tS, tS, tI, tI] [tB] x = spec_OpOk K x.1 x.2.1 x.2.2.1 x.2.2.2.1 x.2.2.2.2.1 := fun K x => by kernel_rfl
def h18 : List Hint := []
theorem G18 : ∀ K x, denF K Tryz.prog (tab K) (ents.take 18) h18 ⟨139, [.v (.agg 5) [.val, .val, .val, .val, .val]], (.one .leaf), [.val]⟩ [tI, tI, tI, tI, tI] [tB] x = spec_KeyOk K x.1 x.2.1 x.2.2.1 x.2.2.2.1 x.2.2.2.2.1 := fun K x => by kernel_rfl
def h19 : List Hint := []
theorem G19 : ∀ K x, denF K Tryz.prog (tab K) (ents.take 19) h19 ⟨188, [.v (.agg 5) [.val, .val, .val, .val, .val], .v (.agg 5) [.val, .val, .val, .val, .val]], (.one .leaf), [.val]⟩ [tI, tI, tI, tI, tI, tI, tI, tI, tI, tI] [tB] x = spec_LessKey K x.1 x.2.1 x.2.2.1 x.2.2.2.1 x.2.2.2.2.1 x.2.2.2.2.2.1 x.2.2.2.2.2.2.1 x.2.2.2.2.2.2.2.1 x.2.2.2.2.2.2.2.2.1 x.2.2.2.2.2.2.2.2.2.1 := fun K x => by kernel_rfl
def h20 : List Hint := [⟨5, [0, 192], [(.sl (.st .key)), tI], [⟨0, .rd, (some (.one .leaf))⟩, ⟨192, .val, (some (.one .leaf))⟩]⟩]
theorem G20 : ∀ K x, denF K Tryz.prog (tab K) (ents.take 20) h20 ⟨229, [.v .leaf [.rd]], (.one .leaf), [.val]⟩ [(.sl (.st .key))] [tB] x = spec_l4Rises K x.1 := fun K x => by kernel_rfl
def h21 : List Hint := [⟨5, [0, 192], [(.sl (.st .key)), tI], [⟨0, .rd, (some (.one .leaf))⟩, ⟨192, .val, (some (.one .leaf))⟩]⟩]
theorem G21 : ∀ K x, denF K Tryz.prog (tab K) (ents.take 21) h21 ⟨213, [.v .leaf [.rd]], (.one .leaf), [.val]⟩ [(.sl (.st .key))] [tB] x = spec_SetOk K x.1 := fun K x => by kernel_rfl
def h22 : List Hint := [⟨7, [128064, 192, 256], [(.sl (.sl (.st .key))), tI, tI], [⟨128064, .rd, none⟩, ⟨192, .val, (some (.one .leaf))⟩, ⟨384064, .dead, (some (.bx 1))⟩, ⟨64, (.ptr 1 0), (some (.one .leaf))⟩, ⟨256, .val, (some (.one .leaf))⟩]⟩]
theorem G22 : ∀ K x, denF K Tryz.prog (tab K) (ents.take 22) h22 ⟨214, [.v (.agg 1) [.rd]], (.one .leaf), [.val]⟩ [(.sl (.sl (.st .key)))] [tI] x = spec_l5Count K x.1 := fun K x => by kernel_rfl
def h23 : List Hint := [⟨5, [128064, 192], [(.sl (.sl (.st .key))), tI], [⟨128064, .rd, none⟩, ⟨384064, .dead, (some (.bx 1))⟩, ⟨64, (.ptr 1 0), (some (.one .leaf))⟩, ⟨192, .val, (some (.one .leaf))⟩]⟩]
theorem G23 : ∀ K x, denF K Tryz.prog (tab K) (ents.take 23) h23 ⟨187, [.v (.agg 1) [.rd]], (.one .leaf), [.val]⟩ [(.sl (.sl (.st .key)))] [tB] x = spec_NodeOk K x.1 := fun K x => by kernel_rfl
def h24 : List Hint := []
theorem G24 : ∀ K x, denF K Tryz.prog (tab K) (ents.take 24) h24 ⟨189, [.v (.agg 5) [.val, .val, .val, .val, .val], .v (.agg 5) [.val, .val, .val, .val, .val]], (.one .leaf), [.val]⟩ [tI, tI, tI, tI, tI, tI, tI, tI, tI, tI] [tB] x = spec_SameSpot K x.1 x.2.1 x.2.2.1 x.2.2.2.1 x.2.2.2.2.1 x.2.2.2.2.2.1 x.2.2.2.2.2.2.1 x.2.2.2.2.2.2.2.1 x.2.2.2.2.2.2.2.2.1 x.2.2.2.2.2.2.2.2.2.1 := fun K x => by kernel_rfl
def h25 : List Hint := [⟨26, [320], [(.sl (.st .key))], [⟨320, .own, (some (.one .leaf))⟩]⟩, ⟨10, [128196, 128195, 128194, 128193, 128192, 448, 320, 384, 0], [tI, tI, tI, tI, tI, tI, (.sl (.st .key)), tB, (.sl (.st .key))], [⟨128196, .val, none⟩, ⟨128195, .val, none⟩, ⟨128194, .val, none⟩, ⟨128193, .val, none⟩, ⟨128192, .val, none⟩, ⟨448, .val, (some (.one .leaf))⟩, ⟨320, .own, (some (.one .leaf))⟩, ⟨384192, .dead, (some (.bx 5))⟩, ⟨192, (.ptr 3 0), (some (.one .leaf))⟩, ⟨384, .val, (some (.one .leaf))⟩, ⟨0, .rd, (some (.one .leaf))⟩]⟩, ⟨18, [128196, 128195, 128194, 128193, 128192, 448, 320, 384, 0], [tI, tI, tI, tI, tI, tI, (.sl (.st .key)), tB, (.sl (.st .key))], [⟨128196, .val, none⟩, ⟨128195, .val, none⟩, ⟨128194, .val, none⟩, ⟨128193, .val, none⟩, ⟨128192, .val, none⟩, ⟨448, .val, (some (.one .leaf))⟩, ⟨320, .own, (some (.one .leaf))⟩, ⟨384192, .dead, (some (.bx 5))⟩, ⟨192, (.ptr 3 0), (some (.one .leaf))⟩, ⟨384, .val, (some (.one .leaf))⟩, ⟨0, .rd, (some (.one .leaf))⟩]⟩, ⟨9, [128196, 128195, 128194, 128193, 128192, 320, 384, 0, 448], [tI, tI, tI, tI, tI, (.sl (.st .key)), tB, (.sl (.st .key)), tI], [⟨128196, .val, none⟩, ⟨128195, .val, none⟩, ⟨128194, .val, none⟩, ⟨128193, .val, none⟩, ⟨128192, .val, none⟩, ⟨320, .own, (some (.one .leaf))⟩, ⟨384192, .dead, (some (.bx 5))⟩, ⟨192, (.ptr 3 0), (some (.one .leaf))⟩, ⟨384, .val, (some (.one .leaf))⟩, ⟨0, .rd, (some (.one .leaf))⟩, ⟨448, .val, (some (.one .leaf))⟩]⟩]
theorem G25 : ∀ K x, denF K Tryz.prog (tab K) (ents.take 25) h25 ⟨144, [.v .leaf [.rd], .v (.agg 5) [.val, .val, .val, .val, .val]], (.one .leaf), [.own]⟩ [(.sl (.st .key)), tI, tI, tI, tI, tI] [(.sl (.st .key))] x = spec_SetPut K x.1 x.2.1 x.2.2.1 x.2.2.2.1 x.2.2.2.2.1 x.2.2.2.2.2.1 := fun K x => by kernel_rfl
def h26 : List Hint := [⟨7, [320, 64, 384], [(.sl (.st .key)), (.sl (.st .key)), tI], [⟨320, .own, (some (.one .leaf))⟩, ⟨64, .rd, (some (.one .leaf))⟩, ⟨384, .val, (some (.one .leaf))⟩]⟩]
theorem G26 : ∀ K x, denF K Tryz.prog (tab K) (ents.take 26) h26 ⟨190, [.v .leaf [.rd], .v .leaf [.rd]], (.one .leaf), [.own]⟩ [(.sl (.st .key)), (.sl (.st .key))] [(.sl (.st .key))] x = spec_MergeSets K x.1 x.2.1 := fun K x => by kernel_rfl
def h27 : List Hint := [⟨8, [256, 192, 0], [tI, (.sl (.st .key)), (.sl (.st .key))], [⟨256, .val, (some (.one .leaf))⟩, ⟨192, .own, (some (.one .leaf))⟩, ⟨0, .rd, (some (.one .leaf))⟩]⟩, ⟨7, [192, 0, 256], [(.sl (.st .key)), (.sl (.st .key)), tI], [⟨192, .own, (some (.one .leaf))⟩, ⟨0, .rd, (some (.one .leaf))⟩, ⟨256, .val, (some (.one .leaf))⟩]⟩]
theorem G27 : ∀ K x, denF K Tryz.prog (tab K) (ents.take 27) h27 ⟨143, [.v .leaf [.rd]], (.one .leaf), [.own]⟩ [(.sl (.st .key))] [(.sl (.st .key))] x = spec_Drop K x.1 := fun K x => by kernel_rfl
def h28 : List Hint := [⟨7, [128064, 192, 256], [(.sl (.sl (.st .key))), (.sl (.st .key)), tI], [⟨128064, .rd, none⟩, ⟨192, .own, (some (.one .leaf))⟩, ⟨384064, .dead, (some (.bx 1))⟩, ⟨64, (.ptr 1 0), (some (.one .leaf))⟩, ⟨256, .val, (some (.one .leaf))⟩]⟩]
theorem G28 : ∀ K x, denF K Tryz.prog (tab K) (ents.take 28) h28 ⟨145, [.v (.agg 1) [.rd]], (.one .leaf), [.own]⟩ [(.sl (.sl (.st .key)))] [(.sl (.st .key))] x = spec_NodeKeys K x.1 := fun K x => by kernel_rfl
def h29 : List Hint := []
theorem G29 : ∀ K x, denF K Tryz.prog (tab K) (ents.take 29) h29 ⟨185, [.v .leaf [.val], .v .leaf [.val]], (.one .leaf), [.val]⟩ [tI, tI] [tI] x = spec_SpotOf K x.1 x.2.1 := fun K x => by kernel_rfl
def h30 : List Hint := []
theorem G30 : ∀ K x, denF K Tryz.prog (tab K) (ents.take 30) h30 ⟨146, [.v (.agg 5) [.val, .val, .val, .val, .val]], (.one .leaf), [.val]⟩ [tI, tI, tI, tI, tI] [tI] x = spec_l6Spot K x.1 x.2.1 x.2.2.1 x.2.2.2.1 x.2.2.2.2.1 := fun K x => by kernel_rfl
def h31 : List Hint := [⟨17, [128129, 128128, 128320, 64, 384, 448], [(.sl (.st .node)), (.sl tI), (.sl (.sl (.st .key))), tI, tI, tI], [⟨128129, .rd, none⟩, ⟨128128, .rd, none⟩, ⟨128320, .val, none⟩, ⟨64, .val, (some (.one .leaf))⟩, ⟨384128, .dead, (some (.bx 2))⟩, ⟨128, (.ptr 2 0), (some (.one .leaf))⟩, ⟨384320, .dead, (some (.bx 1))⟩, ⟨320, (.ptr 5 0), (some (.one .leaf))⟩, ⟨384, .val, (some (.one .leaf))⟩, ⟨448, .val, (some (.one .leaf))⟩]⟩, ⟨11, [128320, 128129, 128128, 384, 64], [(.sl (.sl (.st .key))), (.sl (.st .node)), (.sl tI), tI, tI], [⟨128320, .val, none⟩, ⟨128129, .rd, none⟩, ⟨128128, .rd, none⟩, ⟨384, .val, (some (.one .leaf))⟩, ⟨384320, .dead, (some (.bx 1))⟩, ⟨320, (.ptr 5 0), (some (.one .leaf))⟩, ⟨384128, .dead, (some (.bx 2))⟩, ⟨128, (.ptr 2 0), (some (.one .leaf))⟩, ⟨64, .val, (some (.one .leaf))⟩]⟩]
theorem G31 : ∀ K x, denF K Tryz.prog (tab K) (ents.take 31) h31 ⟨178, [.v (.agg 2) [.rd, .rd], .v .leaf [.val]], (.one .leaf), [.val]⟩ [(.sl tI), (.sl (.st .node)), tI] [tB] x = spec_l6Node K x.1 x.2.1 x.2.2.1 := fun K x => by kernel_rfl
def h32 : List Hint := [⟨7, [128065, 128064, 192, 256], [(.sl (.st .node)), (.sl tI), (.sl (.st .key)), tI], [⟨128065, .rd, none⟩, ⟨128064, .rd, none⟩, ⟨192, .own, (some (.one .leaf))⟩, ⟨384064, .dead, (some (.bx 2))⟩, ⟨64, (.ptr 1 0), (some (.one .leaf))⟩, ⟨256, .val, (some (.one .leaf))⟩]⟩]
theorem G32 : ∀ K x, denF K Tryz.prog (tab K) (ents.take 32) h32 ⟨137, [.v (.agg 2) [.rd, .rd]], (.one .leaf), [.own]⟩ [(.sl tI), (.sl (.st .node))] [(.sl (.st .key))] x = spec_TreeKeys K x.1 x.2.1 := fun K x => by kernel_rfl
def h33 : List Hint := [⟨9, [128065, 128064, 192], [(.sl (.st .node)), (.sl tI), tI], [⟨128065, .rd, none⟩, ⟨128064, .rd, none⟩, ⟨384064, .dead, (some (.bx 2))⟩, ⟨64, (.ptr 1 0), (some (.one .leaf))⟩, ⟨192, .val, (some (.one .leaf))⟩]⟩]
theorem G33 : ∀ K x, denF K Tryz.prog (tab K) (ents.take 33) h33 ⟨123, [.v (.agg 2) [.rd, .rd]], (.one .leaf), [.val]⟩ [(.sl tI), (.sl (.st .node))] [tB] x = spec_TreeOk K x.1 x.2.1 := fun K x => by kernel_rfl
def h34 : List Hint := [⟨5, [0, 64, 320], [(.sl (.st .age)), tI, tI], [⟨0, .rd, (some (.one .leaf))⟩, ⟨64, .val, (some (.one .leaf))⟩, ⟨320, .val, (some (.one .leaf))⟩]⟩]
theorem G34 : ∀ K x, denF K Tryz.prog (tab K) (ents.take 34) h34 ⟨179, [.v .leaf [.rd], .v .leaf [.val]], (.one .leaf), [.val]⟩ [(.sl (.st .age)), tI] [tI] x = spec_AgeAt K x.1 x.2.1 := fun K x => by kernel_rfl
def h35 : List Hint := [⟨5, [0, 192], [(.sl (.st .age)), tI], [⟨0, .rd, (some (.one .leaf))⟩, ⟨192, .val, (some (.one .leaf))⟩]⟩]
theorem G35 : ∀ K x, denF K Tryz.prog (tab K) (ents.take 35) h35 ⟨124, [.v .leaf [.rd]], (.one .leaf), [.val]⟩ [(.sl (.st .age))] [tB] x = spec_AgesOk K x.1 := fun K x => by kernel_rfl
def h36 : List Hint := [⟨5, [0, 192], [(.sl (.st .cell)), tI], [⟨0, .rd, (some (.one .leaf))⟩, ⟨192, .val, (some (.one .leaf))⟩]⟩]
theorem G36 : ∀ K x, denF K Tryz.prog (tab K) (ents.take 36) h36 ⟨125, [.v .leaf [.rd]], (.one .leaf), [.val]⟩ [(.sl (.st .cell))] [tB] x = spec_CellsOk K x.1 := fun K x => by kernel_rfl
def h37 : List Hint := [⟨8, [384, 320, 64, 0], [tI, (.sl tI), tI, (.sl (.st .age))], [⟨384, .val, (some (.one .leaf))⟩, ⟨320, .own, (some (.one .leaf))⟩, ⟨64, .val, (some (.one .leaf))⟩, ⟨0, .rd, (some (.one .leaf))⟩]⟩, ⟨7, [320, 64, 0, 384], [(.sl tI), tI, (.sl (.st .age)), tI], [⟨320, .own, (some (.one .leaf))⟩, ⟨64, .val, (some (.one .leaf))⟩, ⟨0, .rd, (some (.one .leaf))⟩, ⟨384, .val, (some (.one .leaf))⟩]⟩]
theorem G37 : ∀ K x, denF K Tryz.prog (tab K) (ents.take 37) h37 ⟨181, [.v .leaf [.rd], .v .leaf [.val]], (.one .leaf), [.own]⟩ [(.sl (.st .age)), tI] [(.sl tI)] x = spec_KidsOf K x.1 x.2.1 := fun K x => by kernel_rfl
def h38 : List Hint := [⟨17, [128069, 128068, 128067, 128066, 128065, 128064, 128259, 128258, 128257, 128256, 192, 320], [tI, (.sl (.st .vol)), (.sl (.st .cell)), (.sl (.st .age)), (.sl (.st .node)), (.sl tI), tB, tI, tI, tS, tI, tI], [⟨128069, .val, none⟩, ⟨128068, .rd, none⟩, ⟨128067, .rd, none⟩, ⟨128066, .rd, none⟩, ⟨128065, .rd, none⟩, ⟨128064, .rd, none⟩, ⟨128259, .val, none⟩, ⟨128258, .val, none⟩, ⟨128257, .val, none⟩, ⟨128256, .val, none⟩, ⟨384064, .dead, (some (.bx 6))⟩, ⟨64, (.ptr 1 0), (some (.one .leaf))⟩, ⟨192, .val, (some (.one .leaf))⟩, ⟨384256, .dead, (some (.bx 4))⟩, ⟨256, (.ptr 4 0), (some (.one .leaf))⟩, ⟨320, .val, (some (.one .leaf))⟩]⟩, ⟨5, [128069, 128068, 128067, 128066, 128065, 128064, 192], [tI, (.sl (.st .vol)), (.sl (.st .cell)), (.sl (.st .age)), (.sl (.st .node)), (.sl tI), tI], [⟨128069, .val, none⟩, ⟨128068, .rd, none⟩, ⟨128067, .rd, none⟩, ⟨128066, .rd, none⟩, ⟨128065, .rd, none⟩, ⟨128064, .rd, none⟩, ⟨384064, .dead, (some (.bx 6))⟩, ⟨64, (.ptr 1 0), (some (.one .leaf))⟩, ⟨192, .val, (some (.one .leaf))⟩]⟩]
theorem G38 : ∀ K x, denF K Tryz.prog (tab K) (ents.take 38) h38 ⟨126, [.v (.agg 6) [.rd, .rd, .rd, .rd, .rd, .val]], (.one .leaf), [.val]⟩ [(.sl tI), (.sl (.st .node)), (.sl (.st .age)), (.sl (.st .cell)), (.sl (.st .vol)), tI] [tB] x = spec_l10Vols K x.1 x.2.1 x.2.2.1 x.2.2.2.1 x.2.2.2.2.1 x.2.2.2.2.2.1 := fun K x => by kernel_rfl
def h39 : List Hint := []
theorem G39 : ∀ K x, denF K Tryz.prog (tab K) (ents.take 39) h39 ⟨182, [.v .leaf [.rd], .v .leaf [.val], .v .leaf [.val]], (.tup [.leaf, .leaf]), [.val, .val]⟩ [(.sl (.st .cell)), tI, tI] [tI, tB] x = spec_CellAt K x.1 x.2.1 x.2.2.1 := fun K x => by kernel_rfl
def h40 : List Hint := [⟨8, [256, 192, 0], [tI, tI, (.sl (.st .cell))], [⟨256, .val, (some (.one .leaf))⟩, ⟨192, .val, (some (.one .leaf))⟩, ⟨0, .rd, (some (.one .leaf))⟩]⟩, ⟨7, [192, 0, 256], [tI, (.sl (.st .cell)), tI], [⟨192, .val, (some (.one .leaf))⟩, ⟨0, .rd, (some (.one .leaf))⟩, ⟨256, .val, (some (.one .leaf))⟩]⟩]
theorem G40 : ∀ K x, denF K Tryz.prog (tab K) (ents.take 40) h40 ⟨183, [.v .leaf [.rd]], (.one .leaf), [.val]⟩ [(.sl (.st .cell))] [tI] x = spec_UsedCells K x.1 := fun K x => by kernel_rfl
def h41 : List Hint := [⟨10, [128069, 128068, 128067, 128066, 128065, 128064, 320, 256, 192], [tI, (.sl (.st .vol)), (.sl (.st .cell)), (.sl (.st .age)), (.sl (.st .node)), (.sl tI), tI, tI, (.sl (.st .key))], [⟨128069, .val, none⟩, ⟨128068, .rd, none⟩, ⟨128067, .rd, none⟩, ⟨128066, .rd, none⟩, ⟨128065, .rd, none⟩, ⟨128064, .rd, none⟩, ⟨320, .val, (some (.one .leaf))⟩, ⟨384064, .dead, (some (.bx 6))⟩, ⟨64, (.ptr 1 0), (some (.one .leaf))⟩, ⟨256, .val, (some (.one .leaf))⟩, ⟨192, .own, (some (.one .leaf))⟩]⟩, ⟨29, [128069, 128068, 128067, 128066, 128065, 128064, 192, 256, 320, 512], [tI, (.sl (.st .vol)), (.sl (.st .cell)), (.sl (.st .age)), (.sl (.st .node)), (.sl tI), (.sl (.st .key)), tI, tI, tI], [⟨128069, .val, none⟩, ⟨128068, .rd, none⟩, ⟨128067, .rd, none⟩, ⟨128066, .rd, none⟩, ⟨128065, .rd, none⟩, ⟨128064, .rd, none⟩, ⟨192, .own, (some (.one .leaf))⟩, ⟨256, .val, (some (.one .leaf))⟩, ⟨384064, .dead, (some (.bx 6))⟩, ⟨64, (.ptr 1 0), (some (.one .leaf))⟩, ⟨320, .val, (some (.one .leaf))⟩, ⟨512, .val, (some (.one .leaf))⟩]⟩, ⟨9, [128069, 128068, 128067, 128066, 128065, 128064, 256, 320, 192], [tI, (.sl (.st .vol)), (.sl (.st .cell)), (.sl (.st .age)), (.sl (.st .node)), (.sl tI), tI, tI, (.sl (.st .key))], [⟨128069, .val, none⟩, ⟨128068, .rd, none⟩, ⟨128067, .rd, none⟩, ⟨128066, .rd, none⟩, ⟨128065, .rd, none⟩, ⟨128064, .rd, none⟩, ⟨384064, .dead, (some (.bx 6))⟩, ⟨64, (.ptr 1 0), (some (.one .leaf))⟩, ⟨256, .val, (some (.one .leaf))⟩, ⟨320, .val, (some (.one .leaf))⟩, ⟨192, .own, (some (.one .leaf))⟩]⟩]
theorem G41 : ∀ K x, denF K Tryz.prog (tab K) (ents.take 41) h41 ⟨127, [.v (.agg 6) [.rd, .rd, .rd, .rd, .rd, .val]], (.one .leaf), [.val]⟩ [(.sl tI), (.sl (.st .node)), (.sl (.st .age)), (.sl (.st .cell)), (.sl (.st .vol)), tI] [tB] x = spec_l10Keys K x.1 x.2.1 x.2.2.1 x.2.2.2.1 x.2.2.2.2.1 x.2.2.2.2.2.1 := fun K x => by kernel_rfl
def h42 : List Hint := [⟨5, [128069, 128068, 128067, 128066, 128065, 128064, 192], [tI, (.sl (.st .vol)), (.sl (.st .cell)), (.sl (.st .age)), (.sl (.st .node)), (.sl tI), tI], [⟨128069, .val, none⟩, ⟨128068, .rd, none⟩, ⟨128067, .rd, none⟩, ⟨128066, .rd, none⟩, ⟨128065, .rd, none⟩, ⟨128064, .rd, none⟩, ⟨384064, .dead, (some (.bx 6))⟩, ⟨64, (.ptr 1 0), (some (.one .leaf))⟩, ⟨192, .val, (some (.one .leaf))⟩]⟩]
theorem G42 : ∀ K x, denF K Tryz.prog (tab K) (ents.take 42) h42 ⟨77, [.v (.agg 6) [.rd, .rd, .rd, .rd, .rd, .val]], (.one .leaf), [.val]⟩ [(.sl tI), (.sl (.st .node)), (.sl (.st .age)), (.sl (.st .cell)), (.sl (.st .vol)), tI] [tB] x = spec_PoolOk K x.1 x.2.1 x.2.2.1 x.2.2.2.1 x.2.2.2.2.1 x.2.2.2.2.2.1 := fun K x => by kernel_rfl
def h43 : List Hint := [⟨7, [128128, 128192, 128064, 256], [(.sl (.sl (.st .key))), (.sl (.sl (.st .key))), (.sl (.sl (.st .key))), tI], [⟨128128, .own, none⟩, ⟨128192, .own, none⟩, ⟨128064, .rd, none⟩, ⟨384128, .dead, (some (.bx 1))⟩, ⟨128, (.ptr 2 0), (some (.one .leaf))⟩, ⟨384192, .dead, (some (.bx 1))⟩, ⟨192, (.ptr 3 0), (some (.one .leaf))⟩, ⟨384064, .dead, (some (.bx 1))⟩, ⟨64, (.ptr 1 0), (some (.one .leaf))⟩, ⟨256, .val, (some (.one .leaf))⟩]⟩]
theorem G43 : ∀ K x, denF K Tryz.prog (tab K) (ents.take 43) h43 ⟨177, [.v (.agg 1) [.rd]], (.one (.agg 1)), [.own]⟩ [(.sl (.sl (.st .key)))] [(.sl (.sl (.st .key)))] x = spec_l5Copy K x.1 := fun K x => by kernel_rfl
def h44 : List Hint := [⟨7, [128129, 128128, 128193, 128192, 128065, 128064, 256], [(.sl (.st .node)), (.sl tI), (.sl (.st .node)), (.sl tI), (.sl (.st .node)), (.sl tI), tI], [⟨128129, .own, none⟩, ⟨128128, .own, none⟩, ⟨128193, .own, none⟩, ⟨128192, .own, none⟩, ⟨128065, .rd, none⟩, ⟨128064, .rd, none⟩, ⟨384128, .dead, (some (.bx 2))⟩, ⟨128, (.ptr 2 0), (some (.one .leaf))⟩, ⟨384192, .dead, (some (.bx 2))⟩, ⟨192, (.ptr 3 0), (some (.one .leaf))⟩, ⟨384064, .dead, (some (.bx 2))⟩, ⟨64, (.ptr 1 0), (some (.one .leaf))⟩, ⟨256, .val, (some (.one .leaf))⟩]⟩]
theorem G44 : ∀ K x, denF K Tryz.prog (tab K) (ents.take 44) h44 ⟨121, [.v (.agg 2) [.rd, .rd]], (.one (.agg 2)), [.own, .own]⟩ [(.sl tI), (.sl (.st .node))] [(.sl tI), (.sl (.st .node))] x = spec_l6Copy K x.1 x.2.1 := fun K x => by kernel_rfl
def h45 : List Hint := []
theorem G45 : ∀ K x, denF K Tryz.prog (tab K) (ents.take 45) h45 ⟨122, [.v .leaf [.rd]], (.one .leaf), [.own]⟩ [(.sl (.st .cell))] [(.sl (.st .cell))] x = spec_l9Copy K x.1 := fun K x => by kernel_rfl
def h46 : List Hint := []
theorem G46 : ∀ K x, denF K Tryz.prog (tab K) (ents.take 46) h46 ⟨76, [.v (.agg 6) [.rd, .rd, .rd, .rd, .rd, .val]], (.one (.agg 6)), [.own, .own, .own, .own, .own, .val]⟩ [(.sl tI), (.sl (.st .node)), (.sl (.st .age)), (.sl (.st .cell)), (.sl (.st .vol)), tI] [(.sl tI), (.sl (.st .node)), (.sl (.st .age)), (.sl (.st .cell)), (.sl (.st .vol)), tI] x = spec_l10Copy K x.1 x.2.1 x.2.2.1 x.2.2.2.1 x.2.2.2.2.1 x.2.2.2.2.2.1 := fun K x => by kernel_rfl
def h47 : List Hint := []
theorem G47 : ∀ K x, denF K Tryz.prog (tab K) (ents.take 47) h47 ⟨198, [.v (.agg 6) [.rd, .rd, .rd, .rd, .rd, .val], .v .leaf [.val]], (.one .leaf), [.val]⟩ [(.sl tI), (.sl (.st .node)), (.sl (.st .age)), (.sl (.st .cell)), (.sl (.st .vol)), tI, tS] [tI] x = spec_l11Form K x.1 x.2.1 x.2.2.1 x.2.2.2.1 x.2.2.2.2.1 x.2.2.2.2.2.1 x.2.2.2.2.2.2.1 := fun K x => by kernel_rfl
def h48 : List Hint := [⟨5, [128133, 128132, 128131, 128130, 128129, 128128, 64, 320], [tI, (.sl (.st .vol)), (.sl (.st .cell)), (.sl (.st .age)), (.sl (.st .node)), (.sl tI), tS, tI], [⟨128133, .val, none⟩, ⟨128132, .rd, none⟩, ⟨128131, .rd, none⟩, ⟨128130, .rd, none⟩, ⟨128129, .rd, none⟩, ⟨128128, .rd, none⟩, ⟨384128, .dead, (some (.bx 6))⟩, ⟨128, (.ptr 2 0), (some (.one .leaf))⟩, ⟨64, .val, (some (.one .leaf))⟩, ⟨320, .val, (some (.one .leaf))⟩]⟩]
theorem G48 : ∀ K x, denF K Tryz.prog (tab K) (ents.take 48) h48 ⟨193, [.v (.agg 6) [.rd, .rd, .rd, .rd, .rd, .val], .v .leaf [.val]], (.one .leaf), [.val]⟩ [(.sl tI), (.sl (.st .node)), (.sl (.st .age)), (.sl (.st .cell)), (.sl (.st .vol)), tI, tS] [tI] x = spec_VolAt K x.1 x.2.1 x.2.2.1 x.2.2.2.1 x.2.2.2.2.1 x.2.2.2.2.2.1 x.2.2.2.2.2.2.1 := fun K x => by kernel_rfl
def h49 : List Hint := [⟨24, [64, 0, 512], [tI, (.sl (.st .age)), (.sl (.st .age))], [⟨64, .val, (some (.one .leaf))⟩, ⟨0, .rd, (some (.one .leaf))⟩, ⟨512, .own, (some (.one .leaf))⟩]⟩, ⟨18, [512, 640, 0, 64, 128, 576], [(.sl (.st .age)), tI, (.sl (.st .age)), tI, tI, tB], [⟨512, .own, (some (.one .leaf))⟩, ⟨640, .val, (some (.one .leaf))⟩, ⟨0, .rd, (some (.one .leaf))⟩, ⟨64, .val, (some (.one .leaf))⟩, ⟨128, .val, (some (.one .leaf))⟩, ⟨576, .val, (some (.one .leaf))⟩]⟩, ⟨9, [512, 0, 64, 128, 576, 640], [(.sl (.st .age)), (.sl (.st .age)), tI, tI, tB, tI], [⟨512, .own, (some (.one .leaf))⟩, ⟨0, .rd, (some (.one .leaf))⟩, ⟨64, .val, (some (.one .leaf))⟩, ⟨128, .val, (some (.one .leaf))⟩, ⟨576, .val, (some (.one .leaf))⟩, ⟨640, .val, (some (.one .leaf))⟩]⟩]
theorem G49 : ∀ K x, denF K Tryz.prog (tab K) (ents.take 49) h49 ⟨199, [.v .leaf [.rd], .v .leaf [.val], .v .leaf [.val]], (.tup [.leaf, .leaf]), [.own, .val]⟩ [(.sl (.st .age)), tI, tI] [(.sl (.st .age)), tB] x = spec_NewAge K x.1 x.2.1 x.2.2.1 := fun K x => by kernel_rfl
def h50 : List Hint := [⟨7, [128195, 128194, 128193, 128192, 320, 384], [tB, tI, tI, tS, (.sl (.st .vol)), tI], [⟨128195, .val, none⟩, ⟨128194, .val, none⟩, ⟨128193, .val, none⟩, ⟨128192, .val, none⟩, ⟨320, .own, (some (.one .leaf))⟩, ⟨384192, .dead, (some (.bx 4))⟩, ⟨192, (.ptr 3 0), (some (.one .leaf))⟩, ⟨384, .val, (some (.one .leaf))⟩]⟩]
theorem G50 : ∀ K x, denF K Tryz.prog (tab K) (ents.take 50) h50 ⟨200, [.v .leaf [.rd], .v (.agg 4) [.val, .val, .val, .val]], (.one .leaf), [.own]⟩ [(.sl (.st .vol)), tS, tI, tI, tB] [(.sl (.st .vol))] x = spec_l11PutVol K x.1 x.2.1 x.2.2.1 x.2.2.2.1 x.2.2.2.2.1 := fun K x => by kernel_rfl
def h51 : List Hint := []
theorem G51 : ∀ K x, denF K Tryz.prog (tab K) (ents.take 51) h51 ⟨194, [.v (.agg 6) [.rd, .rd, .rd, .rd, .rd, .val], .v (.agg 6) [.own, .own, .own, .own, .own, .val], .v .leaf [.val]], (.tup [(.agg 6), .leaf]), [.own, .own, .own, .own, .own, .val, .val]⟩ [(.sl tI), (.sl (.st .node)), (.sl (.st .age)), (.sl (.st .cell)), (.sl (.st .vol)), tI, (.sl tI), (.sl (.st .node)), (.sl (.st .age)), (.sl (.st .cell)), (.sl (.st .vol)), tI, tB] [(.sl tI), (.sl (.st .node)), (.sl (.st .age)), (.sl (.st .cell)), (.sl (.st .vol)), tI, tI] x = spec_l11End_ro K x.1 x.2.1 x.2.2.1 x.2.2.2.1 x.2.2.2.2.1 x.2.2.2.2.2.1 x.2.2.2.2.2.2.1 x.2.2.2.2.2.2.2.1 x.2.2.2.2.2.2.2.2.1 x.2.2.2.2.2.2.2.2.2.1 x.2.2.2.2.2.2.2.2.2.2.1 x.2.2.2.2.2.2.2.2.2.2.2.1 x.2.2.2.2.2.2.2.2.2.2.2.2.1 := fun K x => by kernel_rfl
def h52 : List Hint := []
theorem G52 : ∀ K x, denF K Tryz.prog (tab K) (ents.take 52) h52 ⟨156, [.v (.agg 6) [.rd, .rd, .rd, .rd, .rd, .val], .v .leaf [.val], .v .leaf [.val]], (.tup [(.agg 6), .leaf]), [.own, .own, .own, .own, .own, .val, .val]⟩ [(.sl tI), (.sl (.st .node)), (.sl (.st .age)), (.sl (.st .cell)), (.sl (.st .vol)), tI, tS, tI] [(.sl tI), (.sl (.st .node)), (.sl (.st .age)), (.sl (.st .cell)), (.sl (.st .vol)), tI, tI] x = spec_Create K x.1 x.2.1 x.2.2.1 x.2.2.2.1 x.2.2.2.2.1 x.2.2.2.2.2.1 x.2.2.2.2.2.2.1 x.2.2.2.2.2.2.2.1 := fun K x => by kernel_rfl
def h53 : List Hint := []
theorem G53 : ∀ K x, denF K Tryz.prog (tab K) (ents.take 53) h53 ⟨157, [.v (.agg 6) [.rd, .rd, .rd, .rd, .rd, .val], .v .leaf [.val], .v .leaf [.val], .v .leaf [.val]], (.tup [(.agg 6), .leaf]), [.own, .own, .own, .own, .own, .val, .val]⟩ [(.sl tI), (.sl (.st .node)), (.sl (.st .age)), (.sl (.st .cell)), (.sl (.st .vol)), tI, tS, tS, tB] [(.sl tI), (.sl (.st .node)), (.sl (.st .age)), (.sl (.st .cell)), (.sl (.st .vol)), tI, tI] x = spec_Snap K x.1 x.2.1 x.2.2.1 x.2.2.2.1 x.2.2.2.2.1 x.2.2.2.2.2.1 x.2.2.2.2.2.2.1 x.2.2.2.2.2.2.2.1 x.2.2.2.2.2.2.2.2.1 := fun K x => by kernel_rfl
def h54 : List Hint := []
theorem G54 : ∀ K x, denF K Tryz.prog (tab K) (ents.take 54) h54 ⟨192, [.v (.agg 6) [.rd, .rd, .rd, .rd, .rd, .val], .v .leaf [.val]], (.one .leaf), [.val]⟩ [(.sl tI), (.sl (.st .node)), (.sl (.st .age)), (.sl (.st .cell)), (.sl (.st .vol)), tI, tS] [tI] x = spec_l11Vol K x.1 x.2.1 x.2.2.1 x.2.2.2.1 x.2.2.2.2.1 x.2.2.2.2.2.1 x.2.2.2.2.2.2.1 := fun K x => by kernel_rfl
def h55 : List Hint := []
theorem G55 : ∀ K x, denF K Tryz.prog (tab K) (ents.take 55) h55 ⟨149, [.v (.agg 6) [.rd, .rd, .rd, .rd, .rd, .val], .v .leaf [.val]], (.tup [(.agg 6), .leaf]), [.own, .own, .own, .own, .own, .val, .val]⟩ [(.sl tI), (.sl (.st .node)), (.sl (.st .age)), (.sl (.st .cell)), (.sl (.st .vol)), tI, tS] [(.sl tI), (.sl (.st .node)), (.sl (.st .age)), (.sl (.st .cell)), (.sl (.st .vol)), tI, tI] x = spec_Kill K x.1 x.2.1 x.2.2.1 x.2.2.2.1 x.2.2.2.2.1 x.2.2.2.2.2.1 x.2.2.2.2.2.2.1 := fun K x => by kernel_rfl
def h56 : List Hint := []
theorem G56 : ∀ K x, denF K Tryz.prog (tab K) (ents.take 56) h56 ⟨201, [.v (.agg 6) [.rd, .rd, .rd, .rd, .rd, .val], .v .leaf [.val], .v .leaf [.val]], (.one .leaf), [.val]⟩ [(.sl tI), (.sl (.st .node)), (.sl (.st .age)), (.sl (.st .cell)), (.sl (.st .vol)), tI, tS, tI] [tI] x = spec_l11Block K x.1 x.2.1 x.2.2.1 x.2.2.2.1 x.2.2.2.2.1 x.2.2.2.2.2.1 x.2.2.2.2.2.2.1 x.2.2.2.2.2.2.2.1 := fun K x => by kernel_rfl
def h57 : List Hint := [⟨7, [448, 0, 64, 512], [(.sl (.st .cell)), (.sl (.st .cell)), tI, tI], [⟨448, .own, (some (.one .leaf))⟩, ⟨0, .rd, (some (.one .leaf))⟩, ⟨64, .val, (some (.one .leaf))⟩, ⟨512, .val, (some (.one .leaf))⟩]⟩]
theorem G57 : ∀ K x, denF K Tryz.prog (tab K) (ents.take 57) h57 ⟨84, [.v .leaf [.rd], .v .leaf [.val]], (.tup [.leaf, .leaf, .leaf]), [.own, .val, .val]⟩ [(.sl (.st .cell)), tI] [(.sl (.st .cell)), tI, tB] x = spec_TakeCell K x.1 x.2.1 := fun K x => by kernel_rfl
def h58 : List Hint := [⟨8, [128193, 128192, 512, 448, 64, 128], [(.sl (.st .node)), (.sl tI), tI, tI, tI, tI], [⟨128193, .rd, none⟩, ⟨128192, .rd, none⟩, ⟨512, .val, (some (.one .leaf))⟩, ⟨448, .val, (some (.one .leaf))⟩, ⟨384192, .dead, (some (.bx 2))⟩, ⟨192, (.ptr 3 0), (some (.one .leaf))⟩, ⟨64, .val, (some (.one .leaf))⟩, ⟨128, .val, (some (.one .leaf))⟩]⟩, ⟨7, [128193, 128192, 448, 64, 128, 512], [(.sl (.st .node)), (.sl tI), tI, tI, tI, tI], [⟨128193, .rd, none⟩, ⟨128192, .rd, none⟩, ⟨448, .val, (some (.one .leaf))⟩, ⟨384192, .dead, (some (.bx 2))⟩, ⟨192, (.ptr 3 0), (some (.one .leaf))⟩, ⟨64, .val, (some (.one .leaf))⟩, ⟨128, .val, (some (.one .leaf))⟩, ⟨512, .val, (some (.one .leaf))⟩]⟩]
theorem G58 : ∀ K x, denF K Tryz.prog (tab K) (ents.take 58) h58 ⟨140, [.v (.agg 2) [.rd, .rd], .v .leaf [.val], .v .leaf [.val]], (.one .leaf), [.val]⟩ [(.sl tI), (.sl (.st .node)), tI, tI] [tI] x = spec_WhereIn K x.1 x.2.1 x.2.2.1 x.2.2.2.1 := fun K x => by kernel_rfl
def h59 : List Hint := [⟨5, [128388, 128387, 128386, 128385, 128384, 64, 128, 0, 512], [tI, tI, tI, tI, tI, tI, tI, (.sl (.st .key)), tI], [⟨128388, .val, none⟩, ⟨128387, .val, none⟩, ⟨128386, .val, none⟩, ⟨128385, .val, none⟩, ⟨128384, .val, none⟩, ⟨384384, .dead, (some (.bx 5))⟩, ⟨384, (.ptr 6 0), (some (.one .leaf))⟩, ⟨64, .val, (some (.one .leaf))⟩, ⟨128, .val, (some (.one .leaf))⟩, ⟨0, .rd, (some (.one .leaf))⟩, ⟨512, .val, (some (.one .leaf))⟩]⟩]
theorem G59 : ∀ K x, denF K Tryz.prog (tab K) (ents.take 59) h59 ⟨186, [.v .leaf [.rd], .v .leaf [.val], .v .leaf [.val]], (.tup [(.agg 5), .leaf]), [.val, .val, .val, .val, .val, .val]⟩ [(.sl (.st .key)), tI, tI] [tI, tI, tI, tI, tI, tB] x = spec_SetAt K x.1 x.2.1 x.2.2.1 := fun K x => by kernel_rfl
end Go.Proofs.Fw.R1
