import JvmDerived
import JvmDerived.Pilot.@@N@@Statement
import JvmDerived.Pilot.@@N@@Code
set_option linter.unusedVariables false
set_option linter.unusedSimpArgs false
@@BLOCK:NumsL.lean.txt@@
@@BLOCK:Masks.lean.txt@@
namespace Jvm.OwnMini
open Jvm Jvm.ClassFile Sem Op Lib Jvm.Free Jvm.Stand Jvm.LawKit Jvm.RoadKit
/-! A small machine over plain integers. A value: an int, a long or a reference (a cell's number). -/
abbrev OV := Sum Int (Sum Int Nat)
abbrev vi (z : Int) : OV := .inl z
abbrev vl (z : Int) : OV := .inr (.inl z)
abbrev vr (k : Nat) : OV := .inr (.inr k)
/-- an object's memory: cell (0: its scalar fields; j: its j-th array), index -/
abbrev OMem := Nat → Int → Int
abbrev OLs := List (Option OV)
def w32 (z : Int) : Int := (z + 2147483648) % 4294967296 - 2147483648
def w64 (z : Int) : Int := (z + 9223372036854775808) % 18446744073709551616 - 9223372036854775808
def and32 (a b : Int) : Int := (Int32.ofInt a &&& Int32.ofInt b).toInt
def or32 (a b : Int) : Int := (Int32.ofInt a ||| Int32.ofInt b).toInt
def xor32 (a b : Int) : Int := (Int32.ofInt a ^^^ Int32.ofInt b).toInt
def shl32 (a b : Int) : Int := (Int32.ofInt a <<< (Int32.ofInt b &&& 31)).toInt
def shr32 (a b : Int) : Int := (Int32.ofInt a >>> (Int32.ofInt b &&& 31)).toInt
def ushr32 (a b : Int) : Int := (XT.ushr (Int32.ofInt a) (Int32.ofInt b)).toInt
def and64 (a b : Int) : Int := (Int64.ofInt a &&& Int64.ofInt b).toInt
def or64 (a b : Int) : Int := (Int64.ofInt a ||| Int64.ofInt b).toInt
def xor64 (a b : Int) : Int := (Int64.ofInt a ^^^ Int64.ofInt b).toInt
def shl64 (a b : Int) : Int := (Int64.ofInt a <<< ((Int32.ofInt b).toInt64 &&& 63)).toInt
def shr64 (a b : Int) : Int := (Int64.ofInt a >>> ((Int32.ofInt b).toInt64 &&& 63)).toInt
def ushr64 (a b : Int) : Int := (XT.ushrL (Int64.ofInt a) (Int32.ofInt b)).toInt
def div32 (a b : Int) : Int := w32 (Int.tdiv a b)
def rem32 (a b : Int) : Int := Int.tmod a b
def div64 (a b : Int) : Int := w64 (Int.tdiv a b)
def rem64 (a b : Int) : Int := Int.tmod a b
def b8 (a : Int) : Int := (a + 128) % 256 - 128
def lcm (a b : Int) : Int := if b < a then 1 else if a = b then 0 else -1
def sto (m : OMem) (k : Nat) (i z : Int) : OMem := fun k' i' => if k' = k ∧ i' = i then z else m k' i'
def lget : OLs → Nat → Option OV
  | [], _ => none
  | x :: _, 0 => x
  | _ :: xs, n + 1 => lget xs n
def lput : OLs → Nat → Option OV → OLs
  | [], _, _ => []
  | _ :: xs, 0, v => v :: xs
  | x :: xs, n + 1, v => x :: lput xs n v
def killPrev (L : OLs) : Nat → OLs
  | 0 => L
  | j + 1 => match lget L j with
    | some (.inr (.inl _)) => lput L j none
    | _ => L
def lst1 (L : OLs) (k : Nat) (v : OV) : OLs := lput (killPrev L k) k (some v)
def lst2 (L : OLs) (k : Nat) (v : OV) : OLs := lput (lput (killPrev L k) k (some v)) (k + 1) none
def mask : Option (List Bool) → OLs → OLs
  | some (true :: bs), x :: xs => x :: mask (some bs) xs
  | some (false :: bs), _ :: xs => none :: mask (some bs) xs
  | _, xs => xs
section Pop
variable {β : Type}
def pi1 (S : List OV) (f : Int → List OV → Option β) : Option β := match S with | .inl a :: S' => f a S' | _ => none
def pi2 (S : List OV) (f : Int → Int → List OV → Option β) : Option β := match S with | .inl b :: .inl a :: S' => f a b S' | _ => none
def pl1 (S : List OV) (f : Int → List OV → Option β) : Option β := match S with | .inr (.inl a) :: S' => f a S' | _ => none
def pl2 (S : List OV) (f : Int → Int → List OV → Option β) : Option β := match S with | .inr (.inl b) :: .inr (.inl a) :: S' => f a b S' | _ => none
def pli (S : List OV) (f : Int → Int → List OV → Option β) : Option β := match S with | .inl b :: .inr (.inl a) :: S' => f a b S' | _ => none
def pr1 (S : List OV) (f : Nat → List OV → Option β) : Option β := match S with | .inr (.inr a) :: S' => f a S' | _ => none
def gi (L : OLs) (k : Nat) (f : Int → Option β) : Option β := match lget L k with | some (.inl a) => f a | _ => none
def gl (L : OLs) (k : Nat) (f : Int → Option β) : Option β := match lget L k with | some (.inr (.inl a)) => f a | _ => none
def gr (L : OLs) (k : Nat) (f : Nat → Option β) : Option β := match lget L k with | some (.inr (.inr a)) => f a | _ => none
def inL (L : OLs) (k : Nat) (x : Option β) : Option β := if k < L.length then x else none
def br (c : ClassFile.Cond) (a b : Int) (x y : Option β) : Option β := match c with
  | .eq => if a = b then x else y
  | .ne => if a = b then y else x
  | .lt => if a < b then x else y
  | .ge => if a < b then y else x
  | .gt => if b < a then x else y
  | .le => if b < a then y else x
def tsw (a : Int) : Int → List Int → (Int → Option β) → Option β → Option β
  | _, [], _, d => d
  | lo, o :: os, f, d => if a = lo then f o else tsw a (lo + 1) os f d
end Pop
def tgt (pc : Nat) (o : Int) : Nat := ((pc : Int) + o).toNat
def mcat : OV → Nat
  | .inr (.inl _) => 2
  | _ => 1
/-- the steps that touch no heap -/
def pstep {β : Type} (cst : Nat → Option OV) (i : Instr) (pc len : Nat) (L : OLs) (S : List OV) (k : Nat → OLs → List OV → Option β) : Option β :=
  match i with
  | .iconst z => k (pc + len) L (vi z :: S)
  | .bipush z => k (pc + len) L (vi z :: S)
  | .sipush z => k (pc + len) L (vi z :: S)
  | .lconst z => k (pc + len) L (vl (Int.ofNat z.val) :: S)
  | .ldc x => match cst x with | some (.inl z) => k (pc + len) L (vi z :: S) | _ => none
  | .ldc_w x => match cst x with | some (.inl z) => k (pc + len) L (vi z :: S) | _ => none
  | .ldc2_w x => match cst x with | some (.inr (.inl z)) => k (pc + len) L (vl z :: S) | _ => none
  | .iload x => gi L x fun z => k (pc + len) L (vi z :: S)
  | .iload_n x => gi L x.val fun z => k (pc + len) L (vi z :: S)
  | .lload x => gl L x fun z => k (pc + len) L (vl z :: S)
  | .lload_n x => gl L x.val fun z => k (pc + len) L (vl z :: S)
  | .aload x => gr L x fun z => k (pc + len) L (vr z :: S)
  | .aload_n x => gr L x.val fun z => k (pc + len) L (vr z :: S)
  | .istore x => pi1 S fun z S => inL L x (k (pc + len) (lst1 L x (vi z)) S)
  | .istore_n x => pi1 S fun z S => inL L x.val (k (pc + len) (lst1 L x.val (vi z)) S)
  | .lstore x => pl1 S fun z S => inL L (x + 1) (k (pc + len) (lst2 L x (vl z)) S)
  | .lstore_n x => pl1 S fun z S => inL L (x.val + 1) (k (pc + len) (lst2 L x.val (vl z)) S)
  | .astore x => pr1 S fun z S => inL L x (k (pc + len) (lst1 L x (vr z)) S)
  | .astore_n x => pr1 S fun z S => inL L x.val (k (pc + len) (lst1 L x.val (vr z)) S)
  | .iinc x c => gi L x fun z => inL L x (k (pc + len) (lst1 L x (vi (w32 (z + c)))) S)
  | .iadd => pi2 S fun a b S => k (pc + len) L (vi (w32 (a + b)) :: S)
  | .isub => pi2 S fun a b S => k (pc + len) L (vi (w32 (a - b)) :: S)
  | .imul => pi2 S fun a b S => k (pc + len) L (vi (w32 (a * b)) :: S)
  | .idiv => pi2 S fun a b S => if b = 0 then none else k (pc + len) L (vi (div32 a b) :: S)
  | .irem => pi2 S fun a b S => if b = 0 then none else k (pc + len) L (vi (rem32 a b) :: S)
  | .ineg => pi1 S fun a S => k (pc + len) L (vi (w32 (-a)) :: S)
  | .iand => pi2 S fun a b S => k (pc + len) L (vi (and32 a b) :: S)
  | .ior => pi2 S fun a b S => k (pc + len) L (vi (or32 a b) :: S)
  | .ixor => pi2 S fun a b S => k (pc + len) L (vi (xor32 a b) :: S)
  | .ishl => pi2 S fun a b S => k (pc + len) L (vi (shl32 a b) :: S)
  | .ishr => pi2 S fun a b S => k (pc + len) L (vi (shr32 a b) :: S)
  | .iushr => pi2 S fun a b S => k (pc + len) L (vi (ushr32 a b) :: S)
  | .ladd => pl2 S fun a b S => k (pc + len) L (vl (w64 (a + b)) :: S)
  | .lsub => pl2 S fun a b S => k (pc + len) L (vl (w64 (a - b)) :: S)
  | .lmul => pl2 S fun a b S => k (pc + len) L (vl (w64 (a * b)) :: S)
  | .ldiv => pl2 S fun a b S => if b = 0 then none else k (pc + len) L (vl (div64 a b) :: S)
  | .lrem => pl2 S fun a b S => if b = 0 then none else k (pc + len) L (vl (rem64 a b) :: S)
  | .lneg => pl1 S fun a S => k (pc + len) L (vl (w64 (-a)) :: S)
  | .land => pl2 S fun a b S => k (pc + len) L (vl (and64 a b) :: S)
  | .lor => pl2 S fun a b S => k (pc + len) L (vl (or64 a b) :: S)
  | .lxor => pl2 S fun a b S => k (pc + len) L (vl (xor64 a b) :: S)
  | .lshl => pli S fun a b S => k (pc + len) L (vl (shl64 a b) :: S)
  | .lshr => pli S fun a b S => k (pc + len) L (vl (shr64 a b) :: S)
  | .lushr => pli S fun a b S => k (pc + len) L (vl (ushr64 a b) :: S)
  | .lcmp => pl2 S fun a b S => k (pc + len) L (vi (lcm a b) :: S)
  | .i2l => pi1 S fun a S => k (pc + len) L (vl a :: S)
  | .l2i => pl1 S fun a S => k (pc + len) L (vi (w32 a) :: S)
  | .i2b => pi1 S fun a S => k (pc + len) L (vi (b8 a) :: S)
  | .goto o => k (tgt pc o) L S
  | .if_icmp c o => pi2 S fun a b S => br c a b (k (tgt pc o) L S) (k (pc + len) L S)
  | .ifCond c o => pi1 S fun a S => br c a 0 (k (tgt pc o) L S) (k (pc + len) L S)
  | .tableswitch d lo _ os => pi1 S fun a S => tsw a lo os.toList (fun o => k (tgt pc o) L S) (k (tgt pc d) L S)
  | .dup => match S with
    | .inr (.inl _) :: _ => none
    | v :: S' => k (pc + len) L (v :: v :: S')
    | _ => none
  | .dup2 => match S with
    | .inr (.inl z) :: S' => k (pc + len) L (vl z :: vl z :: S')
    | _ :: .inr (.inl _) :: _ => none
    | u :: v :: S' => k (pc + len) L (u :: v :: u :: v :: S')
    | _ => none
  | .pop => match S with
    | .inr (.inl _) :: _ => none
    | _ :: S' => k (pc + len) L S'
    | _ => none
  | _ => none
def ilen : Instr → Nat
  | .bipush _ | .iload _ | .lload _ | .aload _ | .istore _ | .lstore _ | .astore _ | .ldc _ | .newarray _ => 2
  | .sipush _ | .iinc _ _ | .goto _ | .if_icmp _ _ | .ifCond _ _ | .ldc_w _ | .ldc2_w _ | .getfield _ | .putfield _ | .invokevirtual _ | .invokespecial _ | .invokestatic _ | .new _ => 3
  | _ => 1
/-- what of an instruction's figures the laws ask -/
def chk (pc : Nat) (i : Instr) (len : Nat) : Bool :=
  match i with
  | .iconst z => len == 1 && decide (-32768 ≤ z) && decide (z ≤ 32767)
  | .bipush z => len == 2 && decide (-128 ≤ z) && decide (z ≤ 127)
  | .sipush z => len == 3 && decide (-32768 ≤ z) && decide (z ≤ 32767)
  | .iinc _ z => len == 3 && decide (-32768 ≤ z) && decide (z ≤ 32767)
  | .goto o => len == 3 && decide (0 ≤ (pc : Int) + o)
  | .if_icmp _ o => len == 3 && decide (0 ≤ (pc : Int) + o)
  | .ifCond _ o => len == 3 && decide (0 ≤ (pc : Int) + o)
  | .tableswitch d lo hi os => decide (0 ≤ (pc : Int) + d) && os.toList.all (fun o => decide (0 ≤ (pc : Int) + o)) && decide (hi = lo + os.toList.length - 1) && decide (-2147483648 ≤ lo) && decide (hi ≤ 2147483647)
  | i => len == ilen i
end Jvm.OwnMini
namespace Jvm.OwnMini
open Jvm Jvm.ClassFile Sem Op Lib Jvm.Free Jvm.Stand Jvm.LawKit Jvm.RoadKit
/-! The project's own methods: one object, its scalar fields (cell 0) and its arrays (cells 1, 2, ..). t: how far its maker has come (2 j: the first j arrays are made and laid). -/
abbrev CodeT := Nat → Nat → Option (Instr × Nat)
/-- by the pool's index: the field's number, its kind (0: array, 1 int, 2 boolean, 3 byte, 4 long), its cell, is it final -/
abbrev FldT := Nat → Option (Int × Nat × Nat × Bool)
/-- by the cell: kind, length -/
abbrev LayT := Nat → Option (Nat × Int)
/-- by the method: its parameters from the last to the first (is it a long), locals, kind of the result (0 none, 1 int, 2 boolean, 4 long), frames and words that it asks -/
abbrev InfT := Nat → Option (List Bool × Nat × Nat × Nat × Nat)
abbrev LivT := Nat → Nat → Option (List Bool)
abbrev PT := CodeT × FldT × LayT × (Nat → Option OV) × (Nat → Option Nat) × InfT × (Nat → Bool) × LivT
abbrev pcode (P : PT) : CodeT := P.1
abbrev pfld (P : PT) : FldT := P.2.1
abbrev play (P : PT) : LayT := P.2.2.1
abbrev pcst (P : PT) : Nat → Option OV := P.2.2.2.1
abbrev pmth (P : PT) : Nat → Option Nat := P.2.2.2.2.1
abbrev pinf (P : PT) : InfT := P.2.2.2.2.2.1
abbrev pobi (P : PT) : Nat → Bool := P.2.2.2.2.2.2.1
abbrev pliv (P : PT) : LivT := P.2.2.2.2.2.2.2
abbrev RT := Option (Option OV × Nat × OMem)
def akind : ArrayType → Nat
  | .int => 1
  | .boolean => 2
  | .byte => 3
  | .long => 4
  | _ => 0
def popA : List Bool → List OV → List OV → Option (List OV × List OV)
  | [], S, acc => some (acc, S)
  | false :: ts, .inl z :: S, acc => popA ts S (vi z :: acc)
  | true :: ts, .inr (.inl z) :: S, acc => popA ts S (vl z :: acc)
  | _, _, _ => none
def laid : List OV → OLs
  | [] => []
  | .inr (.inl z) :: as => some (vl z) :: none :: laid as
  | .inl z :: as => some (vi z) :: laid as
  | .inr (.inr z) :: as => some (vr z) :: laid as
def initL (as : List OV) (n : Nat) : OLs := laid as ++ List.replicate (n - (laid as).length) none
def cats : List OV → Nat
  | [] => 0
  | v :: S => mcat v + cats S
def pushR : Option OV → List OV → List OV
  | none, S => S
  | some v, S => v :: S
def ald (P : PT) (kd : Nat → Bool) (S : List OV) (t : Nat) (f : Nat → Int → List OV → RT) : RT :=
  match S with
  | .inl i :: .inr (.inr j) :: S' =>
    match play P j with
    | some (k, n) => cond (kd k && Nat.ble j (t / 2)) (if 0 ≤ i ∧ i < n then f j i S' else none) none
    | none => none
  | _ => none
def asi (P : PT) (kd : Nat → Bool) (S : List OV) (t : Nat) (f : Nat → Nat → Int → Int → List OV → RT) : RT :=
  match S with
  | .inl z :: .inl i :: .inr (.inr j) :: S' =>
    match play P j with
    | some (k, n) => cond (kd k && Nat.ble j (t / 2)) (if 0 ≤ i ∧ i < n then f k j i z S' else none) none
    | none => none
  | _ => none
def asl (P : PT) (kd : Nat → Bool) (S : List OV) (t : Nat) (f : Nat → Int → Int → List OV → RT) : RT :=
  match S with
  | .inr (.inl z) :: .inl i :: .inr (.inr j) :: S' =>
    match play P j with
    | some (k, n) => cond (kd k && Nat.ble j (t / 2)) (if 0 ≤ i ∧ i < n then f j i z S' else none) none
    | none => none
  | _ => none
/-- the instructions that touch the object, call or return -/
def isSpec : Instr → Bool
  | .getfield _ | .putfield _ | .iaload | .baload | .laload | .iastore | .bastore | .lastore | .arraylength | .newarray _ | .invokespecial _ | .invokevirtual _ | .ireturn | .lreturn | .return_ => true
  | _ => false
def stepS (P : PT) (k : Nat → Nat → OLs → List OV → Nat → OMem → RT) (q pc : Nat) (L : OLs) (S : List OV) (t : Nat) (m : OMem) (i : Instr) (len : Nat) : RT :=
  match i with
  | .getfield x =>
    match S with
    | .inr (.inr 0) :: S' =>
      match pfld P x with
      | some (_, 0, j, _) => cond (Nat.ble j (t / 2)) (k q (pc + len) L (vr j :: S') t m) none
      | some (f, 1, _, _) => k q (pc + len) L (vi (m 0 f) :: S') t m
      | some (f, 2, _, _) => k q (pc + len) L (vi (m 0 f) :: S') t m
      | some (f, 4, _, _) => k q (pc + len) L (vl (m 0 f) :: S') t m
      | _ => none
    | _ => none
  | .putfield x =>
    match pfld P x with
    | some (_, 0, j, fin) =>
      match S with
      | .inr (.inr j') :: .inr (.inr 0) :: S' => cond (Nat.beq j' j && Nat.beq (t + 1) (2 * j) && Nat.beq q 0) (k q (pc + len) L S' (t + 1) m) none
      | _ => none
    | some (f, 1, _, fin) =>
      match S with
      | .inl z :: .inr (.inr 0) :: S' => cond (!fin || Nat.beq q 0) (k q (pc + len) L S' t (sto m 0 f z)) none
      | _ => none
    | some (f, 2, _, fin) =>
      match S with
      | .inl z :: .inr (.inr 0) :: S' => cond (!fin || Nat.beq q 0) (k q (pc + len) L S' t (sto m 0 f (z % 2))) none
      | _ => none
    | some (f, 4, _, fin) =>
      match S with
      | .inr (.inl z) :: .inr (.inr 0) :: S' => cond (!fin || Nat.beq q 0) (k q (pc + len) L S' t (sto m 0 f z)) none
      | _ => none
    | _ => none
  | .iaload => ald P (fun kd => Nat.beq kd 1) S t fun j i S' => k q (pc + len) L (vi (m j i) :: S') t m
  | .baload => ald P (fun kd => Nat.beq kd 2 || Nat.beq kd 3) S t fun j i S' => k q (pc + len) L (vi (m j i) :: S') t m
  | .laload => ald P (fun kd => Nat.beq kd 4) S t fun j i S' => k q (pc + len) L (vl (m j i) :: S') t m
  | .iastore => asi P (fun kd => Nat.beq kd 1) S t fun _ j i z S' => k q (pc + len) L S' t (sto m j i z)
  | .bastore => asi P (fun kd => Nat.beq kd 2 || Nat.beq kd 3) S t fun kd j i z S' => k q (pc + len) L S' t (sto m j i (cond (Nat.beq kd 2) (z % 2) (b8 z)))
  | .lastore => asl P (fun kd => Nat.beq kd 4) S t fun j i z S' => k q (pc + len) L S' t (sto m j i z)
  | .arraylength =>
    match S with
    | .inr (.inr j) :: S' =>
      match play P j with
      | some (_, n) => cond (Nat.ble j (t / 2)) (k q (pc + len) L (vi n :: S') t m) none
      | none => none
    | _ => none
  | .newarray a =>
    match S with
    | .inl z :: S' =>
      match play P (t / 2 + 1) with
      | some (kd, n) => cond (Nat.beq (t % 2) 0 && Nat.beq kd (akind a) && Nat.beq q 0) (if z = n then k q (pc + len) L (vr (t / 2 + 1) :: S') (t + 1) m else none) none
      | none => none
    | _ => none
  | .invokespecial x =>
    match S with
    | .inr (.inr 0) :: S' =>
      match pinf P q with
      | some (_, _, _, fr, lc) => cond (pobi P x && Nat.ble 1 fr && Nat.ble (cats S' + 12) lc) (k q (pc + len) L S' t m) none
      | none => none
    | _ => none
  | .invokevirtual x =>
    match pmth P x with
    | some q' =>
      match pinf P q', pinf P q with
      | some (ps, ml, _, fr', lc'), some (_, _, _, fr, lc) =>
        match popA ps S [] with
        | some (as, .inr (.inr 0) :: S') =>
          cond (Nat.ble (fr' + 1) fr && Nat.ble (cats S' + (ml + 11) + lc') lc && !(Nat.beq q' 0) && Nat.ble (initL (vr 0 :: as) ml).length ml)
            ((k q' 0 (initL (vr 0 :: as) ml) [] t m).bind fun y => k q (pc + len) L (pushR y.1 S') y.2.1 y.2.2) none
        | _ => none
      | _, _ => none
    | none => none
  | .ireturn =>
    match S with
    | .inl z :: _ =>
      match pinf P q with
      | some (_, _, 1, _) => some (some (vi z), t, m)
      | some (_, _, 2, _) => some (some (vi (z % 2)), t, m)
      | _ => none
    | _ => none
  | .lreturn =>
    match S with
    | .inr (.inl z) :: _ =>
      match pinf P q with
      | some (_, _, 4, _) => some (some (vl z), t, m)
      | _ => none
    | _ => none
  | .return_ =>
    match S with
    | [] =>
      match pinf P q with
      | some (_, _, 0, _) => some (none, t, m)
      | _ => none
    | _ => none
  | _ => none
def stepI (P : PT) (k : Nat → Nat → OLs → List OV → Nat → OMem → RT) (q pc : Nat) (L : OLs) (S : List OV) (t : Nat) (m : OMem) (i : Instr) (len : Nat) : RT :=
  cond (isSpec i) (stepS P k q pc L S t m i len) (pstep (pcst P) i pc len L S fun pc' L' S' => k q pc' L' S' t m)
def stepP (P : PT) (k : Nat → Nat → OLs → List OV → Nat → OMem → RT) (q pc : Nat) (L : OLs) (S : List OV) (t : Nat) (m : OMem) : RT :=
  match pcode P q pc with
  | some (i, len) => stepI P k q pc (mask (pliv P q pc) L) S t m i len
  | none => none
def runP (P : PT) : Nat → Nat → Nat → OLs → List OV → Nat → OMem → RT
  | 0 => fun _ _ _ _ _ _ => none
  | n + 1 => stepP P (runP P n)
end Jvm.OwnMini
namespace Jvm.OwnMini
/-- a local variable, written short -/
abbrev qi (z : Int) : Option OV := some (vi z)
abbrev qj (z : Int) : Option OV := some (vl z)
abbrev qr (k : Nat) : Option OV := some (vr k)
abbrev qn : Option OV := none
end Jvm.OwnMini
namespace Jvm.OwnMini
open Jvm Jvm.ClassFile Sem Op Lib Jvm.Free Jvm.Stand Jvm.LawKit Jvm.RoadKit
/-! How the small machine's values stand for the JVM's. -/
def VR (A : Nat → Addr) (b : Nat) : OV → Value → Prop
  | .inl z, v => ∃ x : Int32, v = .int x ∧ x.toInt = z
  | .inr (.inl z), v => ∃ x : Int64, v = .long x ∧ x.toInt = z
  | .inr (.inr k), v => k ≤ b ∧ v = .ref (A k)
def SR (A : Nat → Addr) (b : Nat) : List OV → List Value → Prop
  | [], [] => True
  | v :: S, x :: X => VR A b v x ∧ SR A b S X
  | _, _ => False
/-- the local variables are well laid: behind a long (or double) its second half, and nowhere else -/
def WF (l : Array Slot) : Prop := (∀ k, l[k]? = some .second → ∃ j v, k = j + 1 ∧ l[j]? = some (.val v) ∧ v.category = 2) ∧ (∀ k v, l[k]? = some (.val v) → v.category = 2 → l[k + 1]? = some .second)
def LR (A : Nat → Addr) (b : Nat) (L : OLs) (Ls : Array Slot) : Prop := L.length = Ls.size ∧ (∀ k v, lget L k = some v → ∃ x, Ls[k]? = some (.val x) ∧ VR A b v x) ∧ WF Ls
section Rel
variable {A A' : Nat → Addr} {b b' : Nat}
theorem VR.mono {v : OV} {x : Value} (h : VR A b v x) (hA : ∀ j, j ≤ b → A' j = A j) (hb : b ≤ b') : VR A' b' v x := by
  rcases v with z | z | k
  · exact h
  · exact h
  · obtain ⟨h1, h2⟩ := h
    exact ⟨Nat.le_trans h1 hb, by rw [h2, hA k h1]⟩
theorem SR.mono (hA : ∀ j, j ≤ b → A' j = A j) (hb : b ≤ b') : ∀ {S : List OV} {X : List Value}, SR A b S X → SR A' b' S X
  | [], [], _ => trivial
  | _ :: _, _ :: _, ⟨h1, h2⟩ => ⟨h1.mono hA hb, SR.mono hA hb h2⟩
theorem LR.mono {L : OLs} {Ls : Array Slot} (h : LR A b L Ls) (hA : ∀ j, j ≤ b → A' j = A j) (hb : b ≤ b') : LR A' b' L Ls :=
  ⟨h.1, fun k v hk => by obtain ⟨x, h1, h2⟩ := h.2.1 k v hk; exact ⟨x, h1, h2.mono hA hb⟩, h.2.2⟩
theorem VR.cat {v : OV} {x : Value} (h : VR A b v x) (hv : mcat v = 1) : x.category = 1 := by
  rcases v with z | z | k
  · obtain ⟨y, rfl, -⟩ := h; rfl
  · cases hv
  · obtain ⟨-, rfl⟩ := h; rfl
theorem VR.cats {v : OV} {x : Value} (h : VR A b v x) : x.category = mcat v := by
  rcases v with z | z | k
  · obtain ⟨y, rfl, -⟩ := h; rfl
  · obtain ⟨y, rfl, -⟩ := h; rfl
  · obtain ⟨-, rfl⟩ := h; rfl
theorem SR.catsum : ∀ {S : List OV} {X : List Value}, SR A b S X → (X.map fun v => v.category).sum = cats S
  | [], [], _ => rfl
  | v :: S, x :: X, ⟨h1, h2⟩ => by
    show ((x.category :: X.map fun v => v.category)).sum = mcat v + cats S
    rw [List.sum_cons, h1.cats, SR.catsum h2]
theorem SR.i1 {z : Int} {S : List OV} {X : List Value} (h : SR A b (.inl z :: S) X) : ∃ y X', X = .int y :: X' ∧ y.toInt = z ∧ SR A b S X' := by
  cases X with
  | nil => exact h.elim
  | cons x X' => obtain ⟨⟨y, rfl, e⟩, h2⟩ := h; exact ⟨y, X', rfl, e, h2⟩
theorem SR.l1 {z : Int} {S : List OV} {X : List Value} (h : SR A b (.inr (.inl z) :: S) X) : ∃ y X', X = .long y :: X' ∧ y.toInt = z ∧ SR A b S X' := by
  cases X with
  | nil => exact h.elim
  | cons x X' => obtain ⟨⟨y, rfl, e⟩, h2⟩ := h; exact ⟨y, X', rfl, e, h2⟩
theorem SR.r1 {k : Nat} {S : List OV} {X : List Value} (h : SR A b (.inr (.inr k) :: S) X) : k ≤ b ∧ ∃ X', X = .ref (A k) :: X' ∧ SR A b S X' := by
  cases X with
  | nil => exact h.elim
  | cons x X' => obtain ⟨⟨hb, rfl⟩, h2⟩ := h; exact ⟨hb, X', rfl, h2⟩
theorem SR.i2 {z w : Int} {S : List OV} {X : List Value} (h : SR A b (.inl w :: .inl z :: S) X) : ∃ y x X', X = .int y :: .int x :: X' ∧ y.toInt = w ∧ x.toInt = z ∧ SR A b S X' := by
  obtain ⟨y, X', rfl, e, h⟩ := SR.i1 h
  obtain ⟨x, X', rfl, e', h⟩ := SR.i1 h
  exact ⟨y, x, X', rfl, e, e', h⟩
theorem SR.l2 {z w : Int} {S : List OV} {X : List Value} (h : SR A b (.inr (.inl w) :: .inr (.inl z) :: S) X) : ∃ y x X', X = .long y :: .long x :: X' ∧ y.toInt = w ∧ x.toInt = z ∧ SR A b S X' := by
  obtain ⟨y, X', rfl, e, h⟩ := SR.l1 h
  obtain ⟨x, X', rfl, e', h⟩ := SR.l1 h
  exact ⟨y, x, X', rfl, e, e', h⟩
theorem SR.li {z w : Int} {S : List OV} {X : List Value} (h : SR A b (.inl w :: .inr (.inl z) :: S) X) : ∃ y x X', X = .int y :: .long x :: X' ∧ y.toInt = w ∧ x.toInt = z ∧ SR A b S X' := by
  obtain ⟨y, X', rfl, e, h⟩ := SR.i1 h
  obtain ⟨x, X', rfl, e', h⟩ := SR.l1 h
  exact ⟨y, x, X', rfl, e, e', h⟩
theorem SR.ci {z : Int} {y : Int32} {S : List OV} {X : List Value} (hy : y.toInt = z) (h : SR A b S X) : SR A b (vi z :: S) (.int y :: X) := ⟨⟨y, rfl, hy⟩, h⟩
theorem SR.cj {z : Int} {y : Int64} {S : List OV} {X : List Value} (hy : y.toInt = z) (h : SR A b S X) : SR A b (vl z :: S) (.long y :: X) := ⟨⟨y, rfl, hy⟩, h⟩
theorem SR.cr {k : Nat} {S : List OV} {X : List Value} (hb : k ≤ b) (h : SR A b S X) : SR A b (vr k :: S) (.ref (A k) :: X) := ⟨⟨hb, rfl⟩, h⟩
theorem SR.cv {v : OV} {x : Value} {S : List OV} {X : List Value} (h1 : VR A b v x) (h : SR A b S X) : SR A b (v :: S) (x :: X) := ⟨h1, h⟩
end Rel
section Pops
variable {β : Type} {S : List OV} {L : OLs} {b : β}
theorem pi1_some {f : Int → List OV → Option β} (h : pi1 S f = some b) : ∃ a S', S = .inl a :: S' ∧ f a S' = some b := by
  match S, h with
  | .inl a :: S', h => exact ⟨a, S', rfl, h⟩
theorem pl1_some {f : Int → List OV → Option β} (h : pl1 S f = some b) : ∃ a S', S = .inr (.inl a) :: S' ∧ f a S' = some b := by
  match S, h with
  | .inr (.inl a) :: S', h => exact ⟨a, S', rfl, h⟩
theorem pr1_some {f : Nat → List OV → Option β} (h : pr1 S f = some b) : ∃ a S', S = .inr (.inr a) :: S' ∧ f a S' = some b := by
  match S, h with
  | .inr (.inr a) :: S', h => exact ⟨a, S', rfl, h⟩
theorem pi2_some {f : Int → Int → List OV → Option β} (h : pi2 S f = some b) : ∃ x y S', S = .inl y :: .inl x :: S' ∧ f x y S' = some b := by
  match S, h with
  | .inl y :: .inl x :: S', h => exact ⟨x, y, S', rfl, h⟩
theorem pl2_some {f : Int → Int → List OV → Option β} (h : pl2 S f = some b) : ∃ x y S', S = .inr (.inl y) :: .inr (.inl x) :: S' ∧ f x y S' = some b := by
  match S, h with
  | .inr (.inl y) :: .inr (.inl x) :: S', h => exact ⟨x, y, S', rfl, h⟩
theorem pli_some {f : Int → Int → List OV → Option β} (h : pli S f = some b) : ∃ x y S', S = .inl y :: .inr (.inl x) :: S' ∧ f x y S' = some b := by
  match S, h with
  | .inl y :: .inr (.inl x) :: S', h => exact ⟨x, y, S', rfl, h⟩
theorem gi_some {k : Nat} {f : Int → Option β} (h : gi L k f = some b) : ∃ z, lget L k = some (.inl z) ∧ f z = some b := by
  unfold gi at h
  split at h
  · exact ⟨_, by assumption, h⟩
  · cases h
theorem gl_some {k : Nat} {f : Int → Option β} (h : gl L k f = some b) : ∃ z, lget L k = some (.inr (.inl z)) ∧ f z = some b := by
  unfold gl at h
  split at h
  · exact ⟨_, by assumption, h⟩
  · cases h
theorem gr_some {k : Nat} {f : Nat → Option β} (h : gr L k f = some b) : ∃ z, lget L k = some (.inr (.inr z)) ∧ f z = some b := by
  unfold gr at h
  split at h
  · exact ⟨_, by assumption, h⟩
  · cases h
theorem inL_some {k : Nat} {x : Option β} (h : inL L k x = some b) : k < L.length ∧ x = some b := by
  unfold inL at h
  split at h
  · exact ⟨by assumption, h⟩
  · cases h
def brP (c : ClassFile.Cond) (x y : Int) : Prop := match c with
  | .eq => x = y
  | .ne => ¬ x = y
  | .lt => x < y
  | .ge => ¬ x < y
  | .gt => y < x
  | .le => ¬ y < x
theorem br_some {c : ClassFile.Cond} {x y : Int} {u v : Option β} (h : br c x y u v = some b) : (brP c x y ∧ u = some b) ∨ (¬ brP c x y ∧ v = some b) := by
  cases c <;> simp only [br] at h <;> split at h <;> rename_i q <;> simp only [brP] <;> first | exact Or.inl ⟨q, h⟩ | exact Or.inr ⟨q, h⟩ | exact Or.inr ⟨fun r => r q, h⟩
theorem icmp_holds {c : ClassFile.Cond} {x y : Int32} (h : brP c x.toInt y.toInt) : if_icmp.holds c x y = true := by
  cases c <;> simp only [brP] at h
  · exact (teq (Int32.toInt_inj.mp h)).1
  · exact (feq (fun q => h (by rw [q]))).2
  · exact (tlt (Int32.lt_iff_toInt_lt.mpr h)).1
  · exact (flt (fun q => h (Int32.lt_iff_toInt_lt.mp q))).2.1
  · exact (tlt (Int32.lt_iff_toInt_lt.mpr h)).2.2.1
  · exact (flt (fun q => h (Int32.lt_iff_toInt_lt.mp q))).2.2.2
theorem icmp_fails {c : ClassFile.Cond} {x y : Int32} (h : ¬ brP c x.toInt y.toInt) : if_icmp.holds c x y = false := by
  cases c <;> simp only [brP] at h
  · exact (feq (fun q => h (by rw [q]))).1
  · exact (teq (Int32.toInt_inj.mp (Classical.not_not.mp h))).2
  · exact (flt (fun q => h (Int32.lt_iff_toInt_lt.mp q))).1
  · exact (tlt (Int32.lt_iff_toInt_lt.mpr (Classical.not_not.mp h))).2.1
  · exact (flt (fun q => h (Int32.lt_iff_toInt_lt.mp q))).2.2.1
  · exact (tlt (Int32.lt_iff_toInt_lt.mpr (Classical.not_not.mp h))).2.2.2
theorem tsw_some (a : Int) : ∀ (lo : Int) (os : List Int) {f : Int → Option β} {d : Option β}, tsw a lo os f d = some b → (∃ o n, a = lo + (n : Nat) ∧ os[n]? = some o ∧ f o = some b) ∨ ((a < lo ∨ lo + os.length - 1 < a) ∧ d = some b)
  | lo, [], f, d, h => by
    refine Or.inr ⟨?_, h⟩
    simp only [List.length_nil]; omega
  | lo, o :: os, f, d, h => by
    unfold tsw at h
    split at h
    · rename_i q
      exact Or.inl ⟨o, 0, by simpa using q, rfl, h⟩
    · rename_i q
      rcases tsw_some a (lo + 1) os h with ⟨o', n, h1, h2, h3⟩ | ⟨h1, h2⟩
      · exact Or.inl ⟨o', n + 1, by rw [h1]; simp only [Int.natCast_add]; omega, by simpa using h2, h3⟩
      · refine Or.inr ⟨?_, h2⟩
        simp only [List.length_cons]; omega
theorem dup_some {cst : Nat → Option OV} {pc len : Nat} {k : Nat → OLs → List OV → Option β} (h : pstep cst .dup pc len L S k = some b) : ∃ v S', S = v :: S' ∧ mcat v = 1 ∧ k (pc + len) L (v :: v :: S') = some b := by
  match S, h with
  | .inl z :: S', h => exact ⟨_, S', rfl, rfl, h⟩
  | .inr (.inr z) :: S', h => exact ⟨_, S', rfl, rfl, h⟩
theorem pop_some {cst : Nat → Option OV} {pc len : Nat} {k : Nat → OLs → List OV → Option β} (h : pstep cst .pop pc len L S k = some b) : ∃ v S', S = v :: S' ∧ mcat v = 1 ∧ k (pc + len) L S' = some b := by
  match S, h with
  | .inl z :: S', h => exact ⟨_, S', rfl, rfl, h⟩
  | .inr (.inr z) :: S', h => exact ⟨_, S', rfl, rfl, h⟩
theorem dup2_some {cst : Nat → Option OV} {pc len : Nat} {k : Nat → OLs → List OV → Option β} (h : pstep cst .dup2 pc len L S k = some b) : (∃ z S', S = .inr (.inl z) :: S' ∧ k (pc + len) L (vl z :: vl z :: S') = some b) ∨ ∃ u v S', S = u :: v :: S' ∧ mcat u = 1 ∧ mcat v = 1 ∧ k (pc + len) L (u :: v :: u :: v :: S') = some b := by
  match S, h with
  | .inr (.inl z) :: S', h => exact Or.inl ⟨z, S', rfl, h⟩
  | .inl y :: .inl z :: S', h => exact Or.inr ⟨_, _, S', rfl, rfl, rfl, h⟩
  | .inl y :: .inr (.inr z) :: S', h => exact Or.inr ⟨_, _, S', rfl, rfl, rfl, h⟩
  | .inr (.inr y) :: .inl z :: S', h => exact Or.inr ⟨_, _, S', rfl, rfl, rfl, h⟩
  | .inr (.inr y) :: .inr (.inr z) :: S', h => exact Or.inr ⟨_, _, S', rfl, rfl, rfl, h⟩
end Pops
/-! numbers -/
theorem w32_eq (z : Int) : w32 z = z.bmod (2 ^ 32) := by
  unfold w32
  rw [Int.bmod_def]
  split <;> omega
theorem w64_eq (z : Int) : w64 z = z.bmod (2 ^ 64) := by
  unfold w64
  rw [Int.bmod_def]
  split <;> omega
theorem b8_eq (x : Int32) : (x.toInt8.toInt32).toInt = b8 x.toInt := by
  obtain ⟨h1, h2, h3⟩ := c_i2b x
  unfold b8
  omega
theorem cmpL_toInt (x y : Int64) : (XT.cmpL x y).toInt = lcm x.toInt y.toInt := by
  unfold XT.cmpL lcm
  by_cases h : y < x
  · rw [if_pos h, if_pos (Int64.lt_iff_toInt_lt.mp h)]; rfl
  · rw [if_neg h, if_neg (fun q => h (Int64.lt_iff_toInt_lt.mpr q))]
    by_cases h2 : x = y
    · rw [if_pos h2, if_pos (by rw [h2])]; rfl
    · rw [if_neg h2, if_neg (fun q => h2 (Int64.toInt_inj.mp q))]; rfl
theorem and1_eq (x : Int32) : (x &&& 1).toInt = x.toInt % 2 := c_mask x 1 1 (by decide) (by decide)
/-! the local variables -/
theorem lget_lput : ∀ (L : OLs) (k j : Nat) (v : Option OV), lget (lput L k v) j = if j = k ∧ k < L.length then v else lget L j
  | [], k, j, v => by simp [lput, lget]
  | x :: xs, 0, 0, v => by simp [lput, lget]
  | x :: xs, 0, j + 1, v => by simp [lput, lget]
  | x :: xs, k + 1, 0, v => by simp [lput, lget]
  | x :: xs, k + 1, j + 1, v => by
    have := lget_lput xs k j v
    simp only [lput, lget, this, List.length_cons]
    by_cases h : j = k ∧ k < xs.length
    · rw [if_pos h, if_pos (by omega)]
    · rw [if_neg h, if_neg (by omega)]
theorem length_lput : ∀ (L : OLs) (k : Nat) (v : Option OV), (lput L k v).length = L.length
  | [], _, _ => rfl
  | _ :: _, 0, _ => rfl
  | x :: xs, k + 1, v => by simp [lput, length_lput xs k v]
theorem length_killPrev (L : OLs) (k : Nat) : (killPrev L k).length = L.length := by
  cases k with
  | zero => rfl
  | succ j =>
    simp only [killPrev]
    split
    · exact length_lput _ _ _
    · rfl
theorem lget_killPrev {L : OLs} {k j : Nat} {v : OV} (h : lget (killPrev L k) j = some v) : lget L j = some v ∧ (j + 1 = k → mcat v = 1) := by
  cases k with
  | zero => exact ⟨h, fun q => by omega⟩
  | succ i =>
    simp only [killPrev] at h
    split at h
    · rename_i z hz
      rw [lget_lput] at h
      split at h
      · cases h
      · rename_i hn
        refine ⟨h, fun q => ?_⟩
        have e : j = i := by omega
        subst e
        rw [hz] at h
        by_cases hl : j < L.length
        · exact absurd ⟨rfl, hl⟩ hn
        · exfalso
          have : lget L j = none := by
            clear h hz hn
            induction L generalizing j with
            | nil => rfl
            | cons x xs ih =>
              cases j with
              | zero => simp at hl
              | succ j => exact ih (by omega) (by simpa using hl)
          rw [this] at hz; cases hz
    · rename_i hn
      refine ⟨h, fun q => ?_⟩
      have e : j = i := by omega
      subst e
      rcases v with z | z | z
      · rfl
      · exact absurd h (hn z)
      · rfl
theorem lget_mask : ∀ (bs : Option (List Bool)) (L : OLs) (k : Nat) {v : OV}, lget (mask bs L) k = some v → lget L k = some v
  | none, L, k, v, h => by simpa [mask] using h
  | some [], L, k, v, h => by simpa [mask] using h
  | some (true :: bs), [], k, v, h => by simpa [mask] using h
  | some (false :: bs), [], k, v, h => by simpa [mask] using h
  | some (true :: bs), x :: xs, 0, v, h => h
  | some (true :: bs), x :: xs, k + 1, v, h => lget_mask (some bs) xs k h
  | some (false :: bs), x :: xs, 0, v, h => by cases h
  | some (false :: bs), x :: xs, k + 1, v, h => lget_mask (some bs) xs k h
theorem length_mask : ∀ (bs : Option (List Bool)) (L : OLs), (mask bs L).length = L.length
  | none, L => by simp [mask]
  | some [], L => by simp [mask]
  | some (true :: bs), [] => by simp [mask]
  | some (false :: bs), [] => by simp [mask]
  | some (true :: bs), x :: xs => by simp [mask, length_mask (some bs) xs]
  | some (false :: bs), x :: xs => by simp [mask, length_mask (some bs) xs]
theorem LR.mask {A : Nat → Addr} {b : Nat} {L : OLs} {Ls : Array Slot} (h : LR A b L Ls) (bs : Option (List Bool)) : LR A b (mask bs L) Ls :=
  ⟨by rw [length_mask]; exact h.1, fun k v hk => h.2.1 k v (lget_mask bs L k hk), h.2.2⟩
/-- what a store of one word makes of the slots, slot by slot -/
theorem store1_at {l : Array Slot} (hw : WF l) {k : Nat} (hk : k < l.size) {x : Value} (hc : x.category = 1) :
    ∃ l', storeLocals l k x = some l' ∧ l'.size = l.size ∧ l'[k]? = some (.val x) ∧
      (∀ j, j ≠ k → l'[j]? = l[j]? ∨ (l'[j]? = some .unset ∧ ((j + 1 = k ∧ l[k]? = some .second) ∨ (j = k + 1 ∧ l[j]? = some .second ∧ ∃ v, l[k]? = some (.val v) ∧ v.category = 2)))) ∧
      (l[k]? = some .second → ∀ j, j + 1 = k → l'[j]? = some .unset) ∧ (∀ v, l[k]? = some (.val v) → v.category = 2 → l'[k + 1]? = some .unset) := by
  have hx : l[k]? = some l[k] := Array.getElem?_eq_getElem hk
  have hc2 : ¬ x.category = 2 := by omega
  cases ho : l[k] with
  | unset =>
    rw [ho] at hx
    refine ⟨l.setIfInBounds k (.val x), by simp [storeLocals, storeSelf, setAt, ho, hk, hc2], by simp, by simp [hk], fun j hj => Or.inl (Array.getElem?_setIfInBounds_ne (Ne.symm hj)), (fun q => by rw [hx] at q; cases q), (fun v q => by rw [hx] at q; cases q)⟩
  | second =>
    rw [ho] at hx
    obtain ⟨j, v, rfl, hj, -⟩ := hw.1 k hx
    have hj' : j < l.size := by omega
    refine ⟨(l.setIfInBounds j .unset).setIfInBounds (j + 1) (.val x), by simp [storeLocals, storeSelf, setAt, ho, hk, hj', hc2], by simp, by simp [hk], fun i hi => ?_, fun _ i hi => ?_, (fun v q => by rw [hx] at q; cases q)⟩
    · rw [Array.getElem?_setIfInBounds_ne (Ne.symm hi)]
      by_cases e : i = j
      · subst e
        exact Or.inr ⟨by simp [hj'], Or.inl ⟨rfl, hx⟩⟩
      · exact Or.inl (Array.getElem?_setIfInBounds_ne (Ne.symm e))
    · have e : i = j := by omega
      subst e
      rw [Array.getElem?_setIfInBounds_ne (by omega)]
      simp [hj']
  | val old =>
    rw [ho] at hx
    by_cases h2 : old.category = 2
    · have hs := hw.2 k old hx h2
      have hk1 : k + 1 < l.size := (Array.getElem?_eq_some_iff.mp hs).1
      refine ⟨(l.setIfInBounds (k + 1) .unset).setIfInBounds k (.val x), by simp [storeLocals, storeSelf, setAt, ho, hk, hk1, hc2, h2], by simp, by simp [hk], fun i hi => ?_, (fun q => by rw [hx] at q; cases q), fun v _ _ => ?_⟩
      · rw [Array.getElem?_setIfInBounds_ne (Ne.symm hi)]
        by_cases e : i = k + 1
        · subst e
          exact Or.inr ⟨by simp [hk1], Or.inr ⟨rfl, hs, old, hx, h2⟩⟩
        · exact Or.inl (Array.getElem?_setIfInBounds_ne (Ne.symm e))
      · rw [Array.getElem?_setIfInBounds_ne (by omega)]
        simp [hk1]
    · refine ⟨l.setIfInBounds k (.val x), by simp [storeLocals, storeSelf, setAt, ho, hk, hc2, h2], by simp, by simp [hk], fun j hj => Or.inl (Array.getElem?_setIfInBounds_ne (Ne.symm hj)), (fun q => by rw [hx] at q; cases q), (fun v q qq => by rw [hx] at q; cases q; exact absurd qq h2)⟩
theorem LR.st1 {A : Nat → Addr} {b : Nat} {L : OLs} {Ls : Array Slot} (h : LR A b L Ls) {k : Nat} (hk : k < L.length) {v : OV} {x : Value} (hv : VR A b v x) (hc : x.category = 1) :
    ∃ Ls', storeLocals Ls k x = some Ls' ∧ LR A b (lst1 L k v) Ls' ∧ Ls'.size = Ls.size := by
  obtain ⟨l', h1, h2, h3, h4, h5, h6⟩ := store1_at h.2.2 (by rw [← h.1]; exact hk) hc
  refine ⟨l', h1, ⟨?_, ?_, ?_, ?_⟩, h2⟩
  · rw [lst1, length_lput, length_killPrev, h.1, h2]
  · intro j w hj
    rw [lst1, lget_lput, length_killPrev] at hj
    by_cases e : j = k ∧ k < L.length
    · rw [if_pos e] at hj
      cases hj
      obtain ⟨rfl, -⟩ := e
      exact ⟨x, h3, hv⟩
    · rw [if_neg e] at hj
      have hne : j ≠ k := fun q => e ⟨q, hk⟩
      obtain ⟨g1, g2⟩ := lget_killPrev hj
      obtain ⟨y, g3, g4⟩ := h.2.1 j w g1
      rcases h4 j hne with q | ⟨-, q | q⟩
      · exact ⟨y, q.trans g3, g4⟩
      · exfalso
        obtain ⟨i, u, q1, q2, q3⟩ := h.2.2.1 k q.2
        have : i = j := by omega
        subst this
        cases g3.symm.trans q2
        rw [g4.cat (g2 q.1)] at q3; cases q3
      · exfalso
        cases g3.symm.trans q.2.1
  · intro j hj
    by_cases e : j = k
    · subst e; rw [h3] at hj; cases hj
    · have hj0 : Ls[j]? = some .second := by
        rcases h4 j e with q | ⟨q, -⟩
        · exact q ▸ hj
        · rw [q] at hj; cases hj
      obtain ⟨i, u, rfl, q2, q3⟩ := h.2.2.1 j hj0
      refine ⟨i, u, rfl, ?_, q3⟩
      have hi : i ≠ k := fun q => by
        subst q
        rw [h6 u q2 q3] at hj; cases hj
      rcases h4 i hi with q | ⟨-, q | q⟩
      · rw [q]; exact q2
      · exact absurd q.1 e
      · rw [q2] at q; cases q.2.1
  · intro j u hj hu
    by_cases e : j = k
    · subst e; rw [h3] at hj; cases hj; omega
    · have hj0 : Ls[j]? = some (.val u) := by
        rcases h4 j e with q | ⟨q, -⟩
        · exact q ▸ hj
        · rw [q] at hj; cases hj
      have q2 := h.2.2.2 j u hj0 hu
      have hi : j + 1 ≠ k := fun q => by
        subst q
        rw [h5 q2 j rfl] at hj; cases hj
      rcases h4 (j + 1) hi with q | ⟨-, q | q⟩
      · rw [q]; exact q2
      · exfalso
        obtain ⟨i, w, r1, r2, r3⟩ := h.2.2.1 k q.2
        have : i = j + 1 := by omega
        subst this
        rw [q2] at r2; cases r2
      · exact absurd (by omega : j = k) e
/-- what a store of two words makes of the slots -/
theorem store2_at {l : Array Slot} (hw : WF l) {k : Nat} (hk : k + 1 < l.size) {x : Value} (hc : x.category = 2) :
    ∃ l', storeLocals l k x = some l' ∧ l'.size = l.size ∧ l'[k]? = some (.val x) ∧ l'[k + 1]? = some .second ∧
      (∀ j, j ≠ k → j ≠ k + 1 → l'[j]? = l[j]? ∨ (l'[j]? = some .unset ∧ ((j + 1 = k ∧ l[k]? = some .second) ∨ (j = k + 2 ∧ l[j]? = some .second ∧ ∃ v, l[k + 1]? = some (.val v) ∧ v.category = 2)))) ∧
      (l[k]? = some .second → ∀ j, j + 1 = k → l'[j]? = some .unset) ∧ (∀ v, l[k + 1]? = some (.val v) → v.category = 2 → l'[k + 2]? = some .unset) := by
  have hk0 : k < l.size := by omega
  have hx : l[k]? = some l[k] := Array.getElem?_eq_getElem hk0
  have hy : l[k + 1]? = some l[k + 1] := Array.getElem?_eq_getElem hk
  have key : ∀ l1 : Array Slot, l1.size = l.size → ∀ s1, l1[k + 1]? = some s1 → (∀ v, s1 = .val v → v.category = 2 → k + 2 < l.size) → ∃ l', storeSelf l1 k x = some l' ∧ l'.size = l.size ∧ l'[k]? = some (.val x) ∧ l'[k + 1]? = some .second ∧ (∀ j, j ≠ k → j ≠ k + 1 → l'[j]? = l1[j]? ∨ (j = k + 2 ∧ l'[j]? = some .unset ∧ ∃ v, s1 = .val v ∧ v.category = 2)) ∧ (∀ v, s1 = .val v → v.category = 2 → l'[k + 2]? = some .unset) := by
    intro l1 hs1 s1 hl1 h2
    have a1 : k < l1.size := by omega
    have a2 : k + 1 < l1.size := by omega
    have hg : (l1.setIfInBounds k (.val x))[k + 1]? = some s1 := by rw [Array.getElem?_setIfInBounds_ne (by omega)]; exact hl1
    have plain : (∀ v, s1 = .val v → v.category ≠ 2) → storeSelf l1 k x = some ((l1.setIfInBounds k (.val x)).setIfInBounds (k + 1) .second) := by
      intro q
      simp only [storeSelf, setAt, a1, if_true, Option.bind_eq_bind, Option.bind_some, hc]
      rw [hg]
      cases s1 with
      | unset => simp [a2]
      | second => simp [a2]
      | val v => simp [a2, q v rfl]
    have done : (∀ v, s1 = .val v → v.category ≠ 2) → ∃ l', storeSelf l1 k x = some l' ∧ l'.size = l.size ∧ l'[k]? = some (.val x) ∧ l'[k + 1]? = some .second ∧ (∀ j, j ≠ k → j ≠ k + 1 → l'[j]? = l1[j]? ∨ (j = k + 2 ∧ l'[j]? = some .unset ∧ ∃ v, s1 = .val v ∧ v.category = 2)) ∧ (∀ v, s1 = .val v → v.category = 2 → l'[k + 2]? = some .unset) := by
      intro q
      refine ⟨_, plain q, by simp [hs1], ?_, by simp [a2], fun j h1 h2 => Or.inl ?_, fun v e1 e2 => absurd e2 (q v e1)⟩
      · rw [Array.getElem?_setIfInBounds_ne (by omega)]; simp [a1]
      · rw [Array.getElem?_setIfInBounds_ne (Ne.symm h2), Array.getElem?_setIfInBounds_ne (Ne.symm h1)]
    cases s1 with
    | unset => exact done (fun v q => by cases q)
    | second => exact done (fun v q => by cases q)
    | val v =>
      by_cases hv : v.category = 2
      · have a3 : k + 2 < l1.size := by rw [hs1]; exact h2 v rfl hv
        refine ⟨((l1.setIfInBounds k (.val x)).setIfInBounds (k + 2) .unset).setIfInBounds (k + 1) .second, ?_, by simp [hs1], ?_, by simp [a2], fun j q1 q2 => ?_, fun _ _ _ => ?_⟩
        · simp only [storeSelf, setAt, a1, if_true, Option.bind_eq_bind, Option.bind_some, hc]
          rw [hg]
          simp [hv, a2, a3]
        · rw [Array.getElem?_setIfInBounds_ne (by omega), Array.getElem?_setIfInBounds_ne (by omega)]; simp [a1]
        · rw [Array.getElem?_setIfInBounds_ne (Ne.symm q2)]
          by_cases e : j = k + 2
          · subst e
            exact Or.inr ⟨rfl, by simp [a3], v, rfl, hv⟩
          · rw [Array.getElem?_setIfInBounds_ne (Ne.symm e), Array.getElem?_setIfInBounds_ne (Ne.symm q1)]
            exact Or.inl rfl
        · rw [Array.getElem?_setIfInBounds_ne (by omega)]; simp [a3]
      · exact done (fun v' q => by cases q; exact hv)
  have room2 : ∀ v, l[k + 1]? = some (.val v) → v.category = 2 → k + 2 < l.size := fun v q1 q2 => (Array.getElem?_eq_some_iff.mp (hw.2 (k + 1) v q1 q2)).1
  cases ho : l[k] with
  | unset =>
    rw [ho] at hx
    obtain ⟨l', g1, g2, g3, g4, g5, g6⟩ := key l rfl _ hy (fun v q1 q2 => room2 v (by rw [hy, q1]) q2)
    refine ⟨l', by simp [storeLocals, ho, hk0, g1], g2, g3, g4, fun j q1 q2 => ?_, (fun q => by rw [hx] at q; cases q), fun v q1 q2 => g6 v (by rw [hy] at q1; exact Option.some.inj q1) q2⟩
    rcases g5 j q1 q2 with q | ⟨rfl, q, v, r1, r2⟩
    · exact Or.inl q
    · exact Or.inr ⟨q, Or.inr ⟨rfl, hw.2 (k + 1) v (by rw [hy, r1]) r2, v, by rw [hy, r1], r2⟩⟩
  | second =>
    rw [ho] at hx
    obtain ⟨i, u, rfl, hi, -⟩ := hw.1 k hx
    have hi' : i < l.size := by omega
    obtain ⟨l', g1, g2, g3, g4, g5, g6⟩ := key (l.setIfInBounds i .unset) (by simp) _ (by rw [Array.getElem?_setIfInBounds_ne (by omega)]; exact hy) (fun v q1 q2 => room2 v (by rw [hy, q1]) q2)
    refine ⟨l', by simp [storeLocals, setAt, ho, hk0, hi', g1], g2, g3, g4, fun j q1 q2 => ?_, fun _ j hj => ?_, fun v q1 q2 => g6 v (by rw [hy] at q1; exact Option.some.inj q1) q2⟩
    · rcases g5 j q1 q2 with q | ⟨rfl, q, v, r1, r2⟩
      · by_cases e : j = i
        · subst e
          exact Or.inr ⟨by rw [q]; simp [hi'], Or.inl ⟨rfl, hx⟩⟩
        · exact Or.inl (by rw [q, Array.getElem?_setIfInBounds_ne (Ne.symm e)])
      · exact Or.inr ⟨q, Or.inr ⟨rfl, hw.2 (i + 1 + 1) v (by rw [hy, r1]) r2, v, by rw [hy, r1], r2⟩⟩
    · have e : j = i := by omega
      subst e
      rcases g5 j (by omega) (by omega) with q | ⟨q, -⟩
      · rw [q]; simp [hi']
      · omega
  | val old =>
    rw [ho] at hx
    by_cases h2 : old.category = 2
    · have hs := hw.2 k old hx h2
      have hy2 : l[k + 1] = .second := by rw [hy] at hs; exact Option.some.inj hs
      obtain ⟨l', g1, g2, g3, g4, g5, g6⟩ := key (l.setIfInBounds (k + 1) .unset) (by simp) .unset (by simp [hk]) (fun v q1 => by cases q1)
      refine ⟨l', by simp [storeLocals, setAt, ho, hk0, hk, h2, g1], g2, g3, g4, fun j q1 q2 => ?_, (fun q => by rw [hx] at q; cases q), fun v q1 q2 => by rw [hs] at q1; cases q1⟩
      rcases g5 j q1 q2 with q | ⟨_, _, v, r1, _⟩
      · exact Or.inl (by rw [q, Array.getElem?_setIfInBounds_ne (Ne.symm q2)])
      · cases r1
    · obtain ⟨l', g1, g2, g3, g4, g5, g6⟩ := key l rfl _ hy (fun v q1 q2 => room2 v (by rw [hy, q1]) q2)
      refine ⟨l', by simp [storeLocals, ho, hk0, h2, g1], g2, g3, g4, fun j q1 q2 => ?_, (fun q => by rw [hx] at q; cases q), fun v q1 q2 => g6 v (by rw [hy] at q1; exact Option.some.inj q1) q2⟩
      rcases g5 j q1 q2 with q | ⟨rfl, q, v, r1, r2⟩
      · exact Or.inl q
      · exact Or.inr ⟨q, Or.inr ⟨rfl, hw.2 (k + 1) v (by rw [hy, r1]) r2, v, by rw [hy, r1], r2⟩⟩
theorem LR.st2 {A : Nat → Addr} {b : Nat} {L : OLs} {Ls : Array Slot} (h : LR A b L Ls) {k : Nat} (hk : k + 1 < L.length) {v : OV} {x : Value} (hv : VR A b v x) (hc : x.category = 2) :
    ∃ Ls', storeLocals Ls k x = some Ls' ∧ LR A b (lst2 L k v) Ls' ∧ Ls'.size = Ls.size := by
  obtain ⟨l', h1, h2, h3, h3', h4, h5, h6⟩ := store2_at h.2.2 (by rw [← h.1]; exact hk) hc
  refine ⟨l', h1, ⟨?_, ?_, ?_, ?_⟩, h2⟩
  · rw [lst2, length_lput, length_lput, length_killPrev, h.1, h2]
  · intro j w hj
    rw [lst2, lget_lput, length_lput, length_killPrev, lget_lput, length_killPrev] at hj
    by_cases e1 : j = k + 1 ∧ k + 1 < L.length
    · rw [if_pos e1] at hj; cases hj
    rw [if_neg e1] at hj
    have hne1 : j ≠ k + 1 := fun q => e1 ⟨q, hk⟩
    by_cases e : j = k ∧ k < L.length
    · rw [if_pos e] at hj
      cases hj
      obtain ⟨rfl, -⟩ := e
      exact ⟨x, h3, hv⟩
    · rw [if_neg e] at hj
      have hne : j ≠ k := fun q => e ⟨q, by omega⟩
      obtain ⟨g1, g2⟩ := lget_killPrev hj
      obtain ⟨y, g3, g4⟩ := h.2.1 j w g1
      rcases h4 j hne hne1 with q | ⟨-, q | q⟩
      · exact ⟨y, q.trans g3, g4⟩
      · exfalso
        obtain ⟨i, u, q1, q2, q3⟩ := h.2.2.1 k q.2
        have : i = j := by omega
        subst this
        cases g3.symm.trans q2
        rw [g4.cat (g2 q.1)] at q3; cases q3
      · exfalso
        cases g3.symm.trans q.2.1
  · intro j hj
    by_cases e : j = k
    · subst e; rw [h3] at hj; cases hj
    by_cases e' : j = k + 1
    · exact ⟨k, x, e', h3, hc⟩
    · have hj0 : Ls[j]? = some .second := by
        rcases h4 j e e' with q | ⟨q, -⟩
        · exact q ▸ hj
        · rw [q] at hj; cases hj
      obtain ⟨i, u, rfl, q2, q3⟩ := h.2.2.1 j hj0
      refine ⟨i, u, rfl, ?_, q3⟩
      have hi : i ≠ k := fun q => e' (by omega)
      have hi' : i ≠ k + 1 := fun q => by
        subst q
        rw [h6 u q2 q3] at hj; cases hj
      rcases h4 i hi hi' with q | ⟨-, q | q⟩
      · rw [q]; exact q2
      · exact absurd q.1 e
      · rw [q2] at q; cases q.2.1
  · intro j u hj hu
    by_cases e : j = k
    · subst e; exact h3'
    by_cases e' : j = k + 1
    · subst e'; rw [h3'] at hj; cases hj
    · have hj0 : Ls[j]? = some (.val u) := by
        rcases h4 j e e' with q | ⟨q, -⟩
        · exact q ▸ hj
        · rw [q] at hj; cases hj
      have q2 := h.2.2.2 j u hj0 hu
      have hi : j + 1 ≠ k := fun q => by
        subst q
        rw [h5 q2 j rfl] at hj; cases hj
      rcases h4 (j + 1) hi (by omega) with q | ⟨-, q | q⟩
      · rw [q]; exact q2
      · exfalso
        obtain ⟨i, w, r1, r2, r3⟩ := h.2.2.1 k q.2
        have : i = j + 1 := by omega
        subst this
        rw [q2] at r2; cases r2
      · exact absurd (by omega : j = k + 1) e'
end Jvm.OwnMini
namespace Jvm.OwnMini
open Jvm Jvm.ClassFile Sem Op Lib Jvm.Free Jvm.Stand Jvm.LawKit Jvm.RoadKit
set_option maxHeartbeats 4000000 in
theorem pstep_sound {p : Program} {l : Launch} {e : Env} {R : Room} {s : State} {m : MethodId} {args : Array Value} {below : List Frame} {meth : Method} {c : Code} {T : State} {locs : List Loc} {cells slots : Nat}
    (X : Stand p l e R s m args below meth c T locs cells slots) (hx : p.tables.exec = Jvm.exec) {own : String} (hown : s.vm.findClass own = some m.cls) {cst : Nat → Option OV}
    (hcst : (∀ x z, cst x = some (.inl z) → ∃ v : Int32, (Jvm.Cond.constant own x v).before args s = true ∧ v.toInt = z) ∧ (∀ x z, cst x = some (.inr (.inl z)) → ∃ v : Int64, (Jvm.Cond.constantLong own x v).before args s = true ∧ v.toInt = z))
    {A : Nat → Addr} {b : Nat} {L : OLs} {Ls : Array Slot} {S : List OV} {St : List Value} (hL : LR A b L Ls) (hS : SR A b S St) {i : Instr} {pc len : Nat} (hd : decode c.code pc = .ok (i, len)) (hchk : chk pc i len = true)
    {β : Type} {k : Nat → OLs → List OV → Option β} {r : β} (h : pstep cst i pc len L S k = some r) :
    ∃ pc' L' S' Ls' St', k pc' L' S' = some r ∧ LR A b L' Ls' ∧ SR A b S' St' ∧ Ls'.size = Ls.size ∧ ∀ target, Steps p.tables e below (T.setTop (mkF m pc' Ls' St')) target → Steps p.tables e below (T.setTop (mkF m pc Ls St)) target := by
  cases i
  case iconst z =>
    have hc : (len = 1 ∧ -32768 ≤ z) ∧ z ≤ 32767 := by simpa [chk] using hchk
    obtain ⟨⟨rfl, h1⟩, h2⟩ := hc
    exact ⟨_, _, _, _, _, h, hL, SR.ci (Int32.toInt_ofInt_of_le (by omega) (by omega)) hS, rfl, fun target hr => XS.iconst X.here hx rfl hd hr⟩
  case bipush z =>
    have hc : (len = 2 ∧ -128 ≤ z) ∧ z ≤ 127 := by simpa [chk] using hchk
    obtain ⟨⟨rfl, h1⟩, h2⟩ := hc
    exact ⟨_, _, _, _, _, h, hL, SR.ci (by rw [Int8.toInt_toInt32, Int8.toInt_ofInt_of_le (by omega) (by omega)]) hS, rfl, fun target hr => XS.bipush X.here hx rfl hd hr⟩
  case sipush z =>
    have hc : (len = 3 ∧ -32768 ≤ z) ∧ z ≤ 32767 := by simpa [chk] using hchk
    obtain ⟨⟨rfl, h1⟩, h2⟩ := hc
    exact ⟨_, _, _, _, _, h, hL, SR.ci (by rw [Int16.toInt_toInt32, Int16.toInt_ofInt_of_le (by omega) (by omega)]) hS, rfl, fun target hr => XS.sipush X.here hx rfl hd hr⟩
  case lconst z =>
    obtain rfl : len = 1 := by simpa [chk, ilen] using hchk
    refine ⟨_, _, _, _, _, h, hL, SR.cj (y := Int64.ofNat z.val) ?_ hS, rfl, fun target hr => XT.lconst X.here hx rfl hd hr⟩
    match z with
    | ⟨0, _⟩ => rfl
    | ⟨1, _⟩ => rfl
  case ldc x =>
    obtain rfl : len = 2 := by simpa [chk, ilen] using hchk
    simp only [pstep] at h
    cases hq : cst x with
    | none => simp [hq] at h
    | some v =>
      cases v with
      | inr v => simp [hq] at h
      | inl z =>
        simp only [hq] at h
        obtain ⟨cv, hcv, rfl⟩ := hcst.1 x z hq
        exact ⟨_, _, _, _, _, h, hL, SR.ci rfl hS, rfl, fun target hr => X.ldcI hx hown hcv rfl hd hr⟩
  case ldc_w x =>
    obtain rfl : len = 3 := by simpa [chk, ilen] using hchk
    simp only [pstep] at h
    cases hq : cst x with
    | none => simp [hq] at h
    | some v =>
      cases v with
      | inr v => simp [hq] at h
      | inl z =>
        simp only [hq] at h
        obtain ⟨cv, hcv, rfl⟩ := hcst.1 x z hq
        exact ⟨_, _, _, _, _, h, hL, SR.ci rfl hS, rfl, fun target hr => X.ldcWI hx hown hcv rfl hd hr⟩
  case ldc2_w x =>
    obtain rfl : len = 3 := by simpa [chk, ilen] using hchk
    simp only [pstep] at h
    cases hq : cst x with
    | none => simp [hq] at h
    | some v =>
      cases v with
      | inl z => simp [hq] at h
      | inr v =>
        cases v with
        | inr z => simp [hq] at h
        | inl z =>
          simp only [hq] at h
          obtain ⟨cv, hcv, rfl⟩ := hcst.2 x z hq
          exact ⟨_, _, _, _, _, h, hL, SR.cj rfl hS, rfl, fun target hr => X.ldc2J hx hown hcv rfl hd hr⟩
  case iload x =>
    obtain rfl : len = 2 := by simpa [chk, ilen] using hchk
    obtain ⟨z, hg, h⟩ := gi_some h
    obtain ⟨w, hw, hv⟩ := hL.2.1 _ _ hg
    obtain ⟨y, rfl, rfl⟩ := hv
    exact ⟨_, _, _, _, _, h, hL, SR.ci rfl hS, rfl, fun target hr => XS.iload X.here hx rfl hd hw hr⟩
  case iload_n x =>
    obtain rfl : len = 1 := by simpa [chk, ilen] using hchk
    obtain ⟨z, hg, h⟩ := gi_some h
    obtain ⟨w, hw, hv⟩ := hL.2.1 _ _ hg
    obtain ⟨y, rfl, rfl⟩ := hv
    exact ⟨_, _, _, _, _, h, hL, SR.ci rfl hS, rfl, fun target hr => XS.iloadN X.here hx rfl hd hw hr⟩
  case lload x =>
    obtain rfl : len = 2 := by simpa [chk, ilen] using hchk
    obtain ⟨z, hg, h⟩ := gl_some h
    obtain ⟨w, hw, hv⟩ := hL.2.1 _ _ hg
    obtain ⟨y, rfl, rfl⟩ := hv
    exact ⟨_, _, _, _, _, h, hL, SR.cj rfl hS, rfl, fun target hr => XT.lload X.here hx rfl hd hw hr⟩
  case lload_n x =>
    obtain rfl : len = 1 := by simpa [chk, ilen] using hchk
    obtain ⟨z, hg, h⟩ := gl_some h
    obtain ⟨w, hw, hv⟩ := hL.2.1 _ _ hg
    obtain ⟨y, rfl, rfl⟩ := hv
    exact ⟨_, _, _, _, _, h, hL, SR.cj rfl hS, rfl, fun target hr => XT.lloadN X.here hx rfl hd hw hr⟩
  case aload x =>
    obtain rfl : len = 2 := by simpa [chk, ilen] using hchk
    obtain ⟨z, hg, h⟩ := gr_some h
    obtain ⟨w, hw, hv⟩ := hL.2.1 _ _ hg
    obtain ⟨hb, rfl⟩ := hv
    exact ⟨_, _, _, _, _, h, hL, SR.cr hb hS, rfl, fun target hr => XS.aload X.here hx rfl hd hw rfl hr⟩
  case aload_n x =>
    obtain rfl : len = 1 := by simpa [chk, ilen] using hchk
    obtain ⟨z, hg, h⟩ := gr_some h
    obtain ⟨w, hw, hv⟩ := hL.2.1 _ _ hg
    obtain ⟨hb, rfl⟩ := hv
    exact ⟨_, _, _, _, _, h, hL, SR.cr hb hS, rfl, fun target hr => XS.aloadN X.here hx rfl hd hw rfl hr⟩
  case istore x =>
    obtain rfl : len = 2 := by simpa [chk, ilen] using hchk
    obtain ⟨z, S', rfl, h⟩ := pi1_some h
    obtain ⟨hk, h⟩ := inL_some h
    obtain ⟨y, St', rfl, hy, hS'⟩ := SR.i1 hS
    obtain ⟨Ls', hst, hL', hsz⟩ := hL.st1 hk (v := vi z) (x := .int y) ⟨y, rfl, hy⟩ rfl
    exact ⟨_, _, _, _, _, h, hL', hS', hsz, fun target hr => XS.istore X.here hx rfl hd rfl hst hr⟩
  case istore_n x =>
    obtain rfl : len = 1 := by simpa [chk, ilen] using hchk
    obtain ⟨z, S', rfl, h⟩ := pi1_some h
    obtain ⟨hk, h⟩ := inL_some h
    obtain ⟨y, St', rfl, hy, hS'⟩ := SR.i1 hS
    obtain ⟨Ls', hst, hL', hsz⟩ := hL.st1 hk (v := vi z) (x := .int y) ⟨y, rfl, hy⟩ rfl
    exact ⟨_, _, _, _, _, h, hL', hS', hsz, fun target hr => XS.istoreN X.here hx rfl hd rfl hst hr⟩
  case lstore x =>
    obtain rfl : len = 2 := by simpa [chk, ilen] using hchk
    obtain ⟨z, S', rfl, h⟩ := pl1_some h
    obtain ⟨hk, h⟩ := inL_some h
    obtain ⟨y, St', rfl, hy, hS'⟩ := SR.l1 hS
    obtain ⟨Ls', hst, hL', hsz⟩ := hL.st2 hk (v := vl z) (x := .long y) ⟨y, rfl, hy⟩ rfl
    exact ⟨_, _, _, _, _, h, hL', hS', hsz, fun target hr => XT.lstore X.here hx rfl hd rfl hst hr⟩
  case lstore_n x =>
    obtain rfl : len = 1 := by simpa [chk, ilen] using hchk
    obtain ⟨z, S', rfl, h⟩ := pl1_some h
    obtain ⟨hk, h⟩ := inL_some h
    obtain ⟨y, St', rfl, hy, hS'⟩ := SR.l1 hS
    obtain ⟨Ls', hst, hL', hsz⟩ := hL.st2 hk (v := vl z) (x := .long y) ⟨y, rfl, hy⟩ rfl
    exact ⟨_, _, _, _, _, h, hL', hS', hsz, fun target hr => XT.lstoreN X.here hx rfl hd rfl hst hr⟩
  case astore x =>
    obtain rfl : len = 2 := by simpa [chk, ilen] using hchk
    obtain ⟨z, S', rfl, h⟩ := pr1_some h
    obtain ⟨hk, h⟩ := inL_some h
    obtain ⟨hb, St', rfl, hS'⟩ := SR.r1 hS
    obtain ⟨Ls', hst, hL', hsz⟩ := hL.st1 hk (v := vr z) (x := .ref (A z)) ⟨hb, rfl⟩ rfl
    exact ⟨_, _, _, _, _, h, hL', hS', hsz, fun target hr => XS.astore X.here hx rfl hd rfl rfl hst hr⟩
  case astore_n x =>
    obtain rfl : len = 1 := by simpa [chk, ilen] using hchk
    obtain ⟨z, S', rfl, h⟩ := pr1_some h
    obtain ⟨hk, h⟩ := inL_some h
    obtain ⟨hb, St', rfl, hS'⟩ := SR.r1 hS
    obtain ⟨Ls', hst, hL', hsz⟩ := hL.st1 hk (v := vr z) (x := .ref (A z)) ⟨hb, rfl⟩ rfl
    exact ⟨_, _, _, _, _, h, hL', hS', hsz, fun target hr => XS.astoreN X.here hx rfl hd rfl rfl hst hr⟩
  case iinc x z =>
    have hc : (len = 3 ∧ -32768 ≤ z) ∧ z ≤ 32767 := by simpa [chk] using hchk
    obtain ⟨⟨rfl, h1⟩, h2⟩ := hc
    obtain ⟨a, hg, h⟩ := gi_some h
    obtain ⟨hk, h⟩ := inL_some h
    obtain ⟨w, hw, y, rfl, rfl⟩ := hL.2.1 _ _ hg
    obtain ⟨Ls', hst, hL', hsz⟩ := hL.st1 hk (v := vi (w32 (y.toInt + z))) (x := .int (y + Int32.ofInt z)) ⟨_, rfl, by rw [Int32.toInt_add, Int32.toInt_ofInt_of_le (by omega) (by omega), w32_eq]⟩ rfl
    exact ⟨_, _, _, _, _, h, hL', hS, hsz, fun target hr => XS.iinc X.here hx rfl hd hw hst hr⟩
  case iadd =>
    obtain rfl : len = 1 := by simpa [chk, ilen] using hchk
    obtain ⟨a, b', S', rfl, h⟩ := pi2_some h
    obtain ⟨y, x, St', rfl, rfl, rfl, hS'⟩ := SR.i2 hS
    exact ⟨_, _, _, _, _, h, hL, SR.ci (by rw [Int32.toInt_add, w32_eq]) hS', rfl, fun target hr => XS.iadd X.here hx rfl hd rfl hr⟩
  case isub =>
    obtain rfl : len = 1 := by simpa [chk, ilen] using hchk
    obtain ⟨a, b', S', rfl, h⟩ := pi2_some h
    obtain ⟨y, x, St', rfl, rfl, rfl, hS'⟩ := SR.i2 hS
    exact ⟨_, _, _, _, _, h, hL, SR.ci (by rw [Int32.toInt_sub, w32_eq]) hS', rfl, fun target hr => XS.isub X.here hx rfl hd rfl hr⟩
  case imul =>
    obtain rfl : len = 1 := by simpa [chk, ilen] using hchk
    obtain ⟨a, b', S', rfl, h⟩ := pi2_some h
    obtain ⟨y, x, St', rfl, rfl, rfl, hS'⟩ := SR.i2 hS
    exact ⟨_, _, _, _, _, h, hL, SR.ci (by rw [Int32.toInt_mul, w32_eq]) hS', rfl, fun target hr => XS.imul X.here hx rfl hd rfl hr⟩
  case idiv =>
    obtain rfl : len = 1 := by simpa [chk, ilen] using hchk
    obtain ⟨a, b', S', rfl, h⟩ := pi2_some h
    obtain ⟨y, x, St', rfl, rfl, rfl, hS'⟩ := SR.i2 hS
    simp only [pstep, pi2] at h
    by_cases hz : y.toInt = 0
    · simp [hz] at h
    rw [if_neg hz] at h
    have hy : y ≠ 0 := fun q => hz (by rw [q]; rfl)
    exact ⟨_, _, _, _, _, h, hL, SR.ci (by rw [Int32.toInt_div, div32, w32_eq]) hS', rfl, fun target hr => XS.idiv X.here hx rfl hd rfl hy hr⟩
  case irem =>
    obtain rfl : len = 1 := by simpa [chk, ilen] using hchk
    obtain ⟨a, b', S', rfl, h⟩ := pi2_some h
    obtain ⟨y, x, St', rfl, rfl, rfl, hS'⟩ := SR.i2 hS
    simp only [pstep, pi2] at h
    by_cases hz : y.toInt = 0
    · simp [hz] at h
    rw [if_neg hz] at h
    have hy : y ≠ 0 := fun q => hz (by rw [q]; rfl)
    exact ⟨_, _, _, _, _, h, hL, SR.ci (by rw [Int32.toInt_mod, rem32]) hS', rfl, fun target hr => iremM X hx rfl hd rfl hy hr⟩
  case iand =>
    obtain rfl : len = 1 := by simpa [chk, ilen] using hchk
    obtain ⟨a, b', S', rfl, h⟩ := pi2_some h
    obtain ⟨y, x, St', rfl, rfl, rfl, hS'⟩ := SR.i2 hS
    exact ⟨_, _, _, _, _, h, hL, SR.ci (by simp only [and32, Int32.ofInt_toInt]) hS', rfl, fun target hr => XS.iand X.here hx rfl hd rfl hr⟩
  case ior =>
    obtain rfl : len = 1 := by simpa [chk, ilen] using hchk
    obtain ⟨a, b', S', rfl, h⟩ := pi2_some h
    obtain ⟨y, x, St', rfl, rfl, rfl, hS'⟩ := SR.i2 hS
    exact ⟨_, _, _, _, _, h, hL, SR.ci (by simp only [or32, Int32.ofInt_toInt]) hS', rfl, fun target hr => XT.ior X.here hx rfl hd rfl hr⟩
  case ixor =>
    obtain rfl : len = 1 := by simpa [chk, ilen] using hchk
    obtain ⟨a, b', S', rfl, h⟩ := pi2_some h
    obtain ⟨y, x, St', rfl, rfl, rfl, hS'⟩ := SR.i2 hS
    exact ⟨_, _, _, _, _, h, hL, SR.ci (by simp only [xor32, Int32.ofInt_toInt]) hS', rfl, fun target hr => XT.ixor X.here hx rfl hd rfl hr⟩
  case ishl =>
    obtain rfl : len = 1 := by simpa [chk, ilen] using hchk
    obtain ⟨a, b', S', rfl, h⟩ := pi2_some h
    obtain ⟨y, x, St', rfl, rfl, rfl, hS'⟩ := SR.i2 hS
    exact ⟨_, _, _, _, _, h, hL, SR.ci (by simp only [shl32, Int32.ofInt_toInt]) hS', rfl, fun target hr => XT.ishl X.here hx rfl hd rfl hr⟩
  case ishr =>
    obtain rfl : len = 1 := by simpa [chk, ilen] using hchk
    obtain ⟨a, b', S', rfl, h⟩ := pi2_some h
    obtain ⟨y, x, St', rfl, rfl, rfl, hS'⟩ := SR.i2 hS
    exact ⟨_, _, _, _, _, h, hL, SR.ci (by simp only [shr32, Int32.ofInt_toInt]) hS', rfl, fun target hr => XT.ishr X.here hx rfl hd rfl hr⟩
  case iushr =>
    obtain rfl : len = 1 := by simpa [chk, ilen] using hchk
    obtain ⟨a, b', S', rfl, h⟩ := pi2_some h
    obtain ⟨y, x, St', rfl, rfl, rfl, hS'⟩ := SR.i2 hS
    exact ⟨_, _, _, _, _, h, hL, SR.ci (by simp only [ushr32, Int32.ofInt_toInt]) hS', rfl, fun target hr => XT.iushr X.here hx rfl hd rfl hr⟩
  case ladd =>
    obtain rfl : len = 1 := by simpa [chk, ilen] using hchk
    obtain ⟨a, b', S', rfl, h⟩ := pl2_some h
    obtain ⟨y, x, St', rfl, rfl, rfl, hS'⟩ := SR.l2 hS
    exact ⟨_, _, _, _, _, h, hL, SR.cj (by rw [Int64.toInt_add, w64_eq]) hS', rfl, fun target hr => XT.ladd X.here hx rfl hd rfl hr⟩
  case lsub =>
    obtain rfl : len = 1 := by simpa [chk, ilen] using hchk
    obtain ⟨a, b', S', rfl, h⟩ := pl2_some h
    obtain ⟨y, x, St', rfl, rfl, rfl, hS'⟩ := SR.l2 hS
    exact ⟨_, _, _, _, _, h, hL, SR.cj (by rw [Int64.toInt_sub, w64_eq]) hS', rfl, fun target hr => XT.lsub X.here hx rfl hd rfl hr⟩
  case lmul =>
    obtain rfl : len = 1 := by simpa [chk, ilen] using hchk
    obtain ⟨a, b', S', rfl, h⟩ := pl2_some h
    obtain ⟨y, x, St', rfl, rfl, rfl, hS'⟩ := SR.l2 hS
    exact ⟨_, _, _, _, _, h, hL, SR.cj (by rw [Int64.toInt_mul, w64_eq]) hS', rfl, fun target hr => XT.lmul X.here hx rfl hd rfl hr⟩
  case ldiv =>
    obtain rfl : len = 1 := by simpa [chk, ilen] using hchk
    obtain ⟨a, b', S', rfl, h⟩ := pl2_some h
    obtain ⟨y, x, St', rfl, rfl, rfl, hS'⟩ := SR.l2 hS
    simp only [pstep, pl2] at h
    by_cases hz : y.toInt = 0
    · simp [hz] at h
    rw [if_neg hz] at h
    have hy : y ≠ 0 := fun q => hz (by rw [q]; rfl)
    exact ⟨_, _, _, _, _, h, hL, SR.cj (by rw [Int64.toInt_div, div64, w64_eq]) hS', rfl, fun target hr => XT.ldiv X.here hx rfl hd rfl hy hr⟩
  case lrem =>
    obtain rfl : len = 1 := by simpa [chk, ilen] using hchk
    obtain ⟨a, b', S', rfl, h⟩ := pl2_some h
    obtain ⟨y, x, St', rfl, rfl, rfl, hS'⟩ := SR.l2 hS
    simp only [pstep, pl2] at h
    by_cases hz : y.toInt = 0
    · simp [hz] at h
    rw [if_neg hz] at h
    have hy : y ≠ 0 := fun q => hz (by rw [q]; rfl)
    exact ⟨_, _, _, _, _, h, hL, SR.cj (by rw [lrem_mod, Int64.toInt_mod, rem64]) hS', rfl, fun target hr => XT.lrem X.here hx rfl hd rfl hy hr⟩
  case land =>
    obtain rfl : len = 1 := by simpa [chk, ilen] using hchk
    obtain ⟨a, b', S', rfl, h⟩ := pl2_some h
    obtain ⟨y, x, St', rfl, rfl, rfl, hS'⟩ := SR.l2 hS
    exact ⟨_, _, _, _, _, h, hL, SR.cj (by simp only [and64, Int64.ofInt_toInt]) hS', rfl, fun target hr => XT.land X.here hx rfl hd rfl hr⟩
  case lor =>
    obtain rfl : len = 1 := by simpa [chk, ilen] using hchk
    obtain ⟨a, b', S', rfl, h⟩ := pl2_some h
    obtain ⟨y, x, St', rfl, rfl, rfl, hS'⟩ := SR.l2 hS
    exact ⟨_, _, _, _, _, h, hL, SR.cj (by simp only [or64, Int64.ofInt_toInt]) hS', rfl, fun target hr => XT.lor X.here hx rfl hd rfl hr⟩
  case lxor =>
    obtain rfl : len = 1 := by simpa [chk, ilen] using hchk
    obtain ⟨a, b', S', rfl, h⟩ := pl2_some h
    obtain ⟨y, x, St', rfl, rfl, rfl, hS'⟩ := SR.l2 hS
    exact ⟨_, _, _, _, _, h, hL, SR.cj (by simp only [xor64, Int64.ofInt_toInt]) hS', rfl, fun target hr => XT.lxor X.here hx rfl hd rfl hr⟩
  case lshl =>
    obtain rfl : len = 1 := by simpa [chk, ilen] using hchk
    obtain ⟨a, b', S', rfl, h⟩ := pli_some h
    obtain ⟨y, x, St', rfl, rfl, rfl, hS'⟩ := SR.li hS
    exact ⟨_, _, _, _, _, h, hL, SR.cj (by simp only [shl64, Int64.ofInt_toInt, Int32.ofInt_toInt]) hS', rfl, fun target hr => XT.lshl X.here hx rfl hd rfl hr⟩
  case lshr =>
    obtain rfl : len = 1 := by simpa [chk, ilen] using hchk
    obtain ⟨a, b', S', rfl, h⟩ := pli_some h
    obtain ⟨y, x, St', rfl, rfl, rfl, hS'⟩ := SR.li hS
    exact ⟨_, _, _, _, _, h, hL, SR.cj (by simp only [shr64, Int64.ofInt_toInt, Int32.ofInt_toInt]) hS', rfl, fun target hr => XT.lshr X.here hx rfl hd rfl hr⟩
  case lushr =>
    obtain rfl : len = 1 := by simpa [chk, ilen] using hchk
    obtain ⟨a, b', S', rfl, h⟩ := pli_some h
    obtain ⟨y, x, St', rfl, rfl, rfl, hS'⟩ := SR.li hS
    exact ⟨_, _, _, _, _, h, hL, SR.cj (by simp only [ushr64, Int64.ofInt_toInt, Int32.ofInt_toInt]) hS', rfl, fun target hr => XT.lushr X.here hx rfl hd rfl hr⟩
  case lcmp =>
    obtain rfl : len = 1 := by simpa [chk, ilen] using hchk
    obtain ⟨a, b', S', rfl, h⟩ := pl2_some h
    obtain ⟨y, x, St', rfl, rfl, rfl, hS'⟩ := SR.l2 hS
    exact ⟨_, _, _, _, _, h, hL, SR.ci (cmpL_toInt _ _) hS', rfl, fun target hr => XT.lcmp X.here hx rfl hd rfl hr⟩
  case ineg =>
    obtain rfl : len = 1 := by simpa [chk, ilen] using hchk
    obtain ⟨a, S', rfl, h⟩ := pi1_some h
    obtain ⟨y, St', rfl, rfl, hS'⟩ := SR.i1 hS
    exact ⟨_, _, _, _, _, h, hL, SR.ci (by rw [Int32.toInt_neg, w32_eq]) hS', rfl, fun target hr => XS.ineg X.here hx rfl hd rfl hr⟩
  case lneg =>
    obtain rfl : len = 1 := by simpa [chk, ilen] using hchk
    obtain ⟨a, S', rfl, h⟩ := pl1_some h
    obtain ⟨y, St', rfl, rfl, hS'⟩ := SR.l1 hS
    exact ⟨_, _, _, _, _, h, hL, SR.cj (by rw [Int64.toInt_neg, w64_eq]) hS', rfl, fun target hr => XT.lneg X.here hx rfl hd rfl hr⟩
  case i2l =>
    obtain rfl : len = 1 := by simpa [chk, ilen] using hchk
    obtain ⟨a, S', rfl, h⟩ := pi1_some h
    obtain ⟨y, St', rfl, rfl, hS'⟩ := SR.i1 hS
    exact ⟨_, _, _, _, _, h, hL, SR.cj (Int32.toInt_toInt64 _) hS', rfl, fun target hr => XT.i2l X.here hx rfl hd rfl hr⟩
  case l2i =>
    obtain rfl : len = 1 := by simpa [chk, ilen] using hchk
    obtain ⟨a, S', rfl, h⟩ := pl1_some h
    obtain ⟨y, St', rfl, rfl, hS'⟩ := SR.l1 hS
    exact ⟨_, _, _, _, _, h, hL, SR.ci (by rw [Int64.toInt_toInt32, w32_eq]) hS', rfl, fun target hr => XT.l2i X.here hx rfl hd rfl hr⟩
  case i2b =>
    obtain rfl : len = 1 := by simpa [chk, ilen] using hchk
    obtain ⟨a, S', rfl, h⟩ := pi1_some h
    obtain ⟨y, St', rfl, rfl, hS'⟩ := SR.i1 hS
    exact ⟨_, _, _, _, _, h, hL, SR.ci (b8_eq _) hS', rfl, fun target hr => XT.i2b X.here hx rfl hd rfl hr⟩
  case goto o =>
    have hc : len = 3 ∧ 0 ≤ (pc : Int) + o := by simpa [chk] using hchk
    obtain ⟨rfl, h1⟩ := hc
    exact ⟨_, _, _, _, _, h, hL, hS, rfl, fun target hr => XS.goto X.here hx rfl rfl hd h1 rfl hr⟩
  case if_icmp c o =>
    have hc : len = 3 ∧ 0 ≤ (pc : Int) + o := by simpa [chk] using hchk
    obtain ⟨rfl, h1⟩ := hc
    obtain ⟨a, b', S', rfl, h⟩ := pi2_some h
    obtain ⟨y, x, St', rfl, rfl, rfl, hS'⟩ := SR.i2 hS
    rcases br_some h with ⟨hq, h⟩ | ⟨hq, h⟩
    · exact ⟨_, _, _, _, _, h, hL, hS', rfl, fun target hr => XS.icmpYes X.here hx rfl rfl hd rfl (icmp_holds hq) h1 rfl hr⟩
    · exact ⟨_, _, _, _, _, h, hL, hS', rfl, fun target hr => XS.icmpNo X.here hx rfl hd rfl (icmp_fails hq) hr⟩
  case ifCond c o =>
    have hc : len = 3 ∧ 0 ≤ (pc : Int) + o := by simpa [chk] using hchk
    obtain ⟨rfl, h1⟩ := hc
    obtain ⟨a, S', rfl, h⟩ := pi1_some h
    obtain ⟨x, St', rfl, rfl, hS'⟩ := SR.i1 hS
    rcases br_some h with ⟨hq, h⟩ | ⟨hq, h⟩
    · exact ⟨_, _, _, _, _, h, hL, hS', rfl, fun target hr => XS.ifYes X.here hx rfl rfl hd rfl (by rw [if0]; exact icmp_holds (y := 0) hq) h1 rfl hr⟩
    · exact ⟨_, _, _, _, _, h, hL, hS', rfl, fun target hr => XS.ifNo X.here hx rfl hd rfl (by rw [if0]; exact icmp_fails (y := 0) hq) hr⟩
  case tableswitch d lo hi os =>
    have hc : (((0 ≤ (pc : Int) + d ∧ ∀ o ∈ os.toList, 0 ≤ (pc : Int) + o) ∧ hi = lo + os.toList.length - 1) ∧ -2147483648 ≤ lo) ∧ hi ≤ 2147483647 := by simpa only [chk, Bool.and_eq_true, decide_eq_true_eq, List.all_eq_true] using hchk
    obtain ⟨⟨⟨⟨h1, h2⟩, h3⟩, h4⟩, h5⟩ := hc
    obtain ⟨a, S', rfl, h⟩ := pi1_some h
    obtain ⟨x, St', rfl, rfl, hS'⟩ := SR.i1 hS
    rcases tsw_some _ _ _ h with ⟨o, n, hn, ho, h⟩ | ⟨hout, h⟩
    · refine ⟨_, _, _, _, _, h, hL, hS', rfl, fun target hr => XS.tswIn X.here hx rfl rfl hd rfl (o := o) ?_ ?_ (h2 o (List.mem_of_getElem? ho)) rfl hr⟩
      · have := (List.getElem?_eq_some_iff.mp ho).1
        omega
      · have e : (x.toInt - lo).toNat = n := by omega
        rw [e, ← Array.getElem?_toList]; exact ho
    · refine ⟨_, _, _, _, _, h, hL, hS', rfl, fun target hr => XS.tswOut X.here hx rfl rfl hd rfl ?_ h1 rfl hr⟩
      omega
  case dup =>
    obtain rfl : len = 1 := by simpa [chk, ilen] using hchk
    obtain ⟨v, S', rfl, hv, h⟩ := dup_some h
    cases St with
    | nil => exact hS.elim
    | cons x St' =>
      obtain ⟨h1, h2⟩ := hS
      exact ⟨_, _, _, _, _, h, hL, SR.cv h1 (SR.cv h1 h2), rfl, fun target hr => XS.dup X.here hx rfl hd rfl (h1.cat hv) hr⟩
  case pop =>
    obtain rfl : len = 1 := by simpa [chk, ilen] using hchk
    obtain ⟨v, S', rfl, hv, h⟩ := pop_some h
    cases St with
    | nil => exact hS.elim
    | cons x St' =>
      obtain ⟨h1, h2⟩ := hS
      exact ⟨_, _, _, _, _, h, hL, h2, rfl, fun target hr => XT.pop X.here hx rfl hd rfl (h1.cat hv) hr⟩
  case dup2 =>
    obtain rfl : len = 1 := by simpa [chk, ilen] using hchk
    rcases dup2_some h with ⟨z, S', rfl, h⟩ | ⟨u, v, S', rfl, hu, hv, h⟩
    · obtain ⟨y, St', rfl, hy, hS'⟩ := SR.l1 hS
      exact ⟨_, _, _, _, _, h, hL, SR.cj hy (SR.cj hy hS'), rfl, fun target hr => XT.dup2L X.here hx rfl hd rfl hr⟩
    · match St, hS with
      | x :: y :: St', ⟨h1, h2, h3⟩ => exact ⟨_, _, _, _, _, h, hL, SR.cv h1 (SR.cv h2 (SR.cv h1 (SR.cv h2 h3))), rfl, fun target hr => XT.dup2 X.here hx rfl hd rfl (h1.cat hu) (h2.cat hv) hr⟩
  all_goals cases h
end Jvm.OwnMini
namespace Jvm.OwnMini
open Jvm Jvm.ClassFile Sem Op Lib Jvm.Free Jvm.Stand Jvm.LawKit Jvm.RoadKit
/-! How an object of the small machine lies in the JVM's heap. -/
def rty : Nat → Option FieldType
  | 1 => some .int
  | 2 => some .boolean
  | 4 => some .long
  | _ => none
def kty : Nat → FieldType
  | 2 => .boolean
  | 3 => .byte
  | 4 => .long
  | _ => .int
def EV (kd : Nat) (v : Value) (z : Int) : Prop := (kd = 4 ∧ ∃ x : Int64, v = .long x ∧ x.toInt = z) ∨ (kd ≠ 4 ∧ ∃ x : Int32, v = .int x ∧ x.toInt = z)
def AOK (Z : State) (h : Heap) (a : Addr) (kd : Nat) (n : Int) (f : Int → Int) : Prop := ∃ c : Cell, Arr Z h a c (kty kd) ∧ (c.slots.size : Int) = n ∧ ∀ i : Nat, i < c.slots.size → ∃ v, c.slots[i]? = some v ∧ EV kd v (f i)
abbrev FK := Int → Option (Nat × Nat × Bool)
abbrev FN := Int → String × String
def RepO (P : PT) (C : String) (fnm : FN) (fkd : FK) (Z : State) (h : Heap) (A : Nat → Addr) (n0 t : Nat) (m : OMem) : Prop :=
  Exa Z h (A 0) C ∧ n0 ≤ A 0 ∧
  (∀ f kd j fin, fkd f = some (kd, j, fin) → ∃ v, Fld Z h (A 0) C (fnm f).1 (fnm f).2 v ∧ (kd = 0 → j ≤ t / 2 → v = .ref (A j)) ∧ (kd ≠ 0 → EV kd v (m 0 f))) ∧
  (∀ j, 1 ≤ j → j ≤ (t + 1) / 2 → n0 ≤ A j ∧ ∃ kd n, play P j = some (kd, n) ∧ AOK Z h (A j) kd n (m j)) ∧
  (∀ j j', j ≤ (t + 1) / 2 → j' ≤ (t + 1) / 2 → A j = A j' → j = j') ∧
  (∀ j, (t + 1) / 2 < j → ∀ i, m j i = 0)
def psum (P : PT) : Nat → Nat
  | 0 => 0
  | j + 1 => psum P j + (match play P (j + 1) with | some (_, n) => n.toNat | none => 0)
def fty (P : PT) (kd j : Nat) : FieldType := match kd with
  | 0 => .array (match play P j with | some (k, _) => kty k | none => .int)
  | k => kty k
def TabP (P : PT) (C : String) (fnm : FN) (fkd : FK) (nm : Nat → MethodName) (bys : Nat → ByteArray) (nA nf : Nat) (a0 : Array Value) (Z : State) : Prop :=
  (∀ q pc i len, pcode P q pc = some (i, len) → decode (bys q) pc = .ok (i, len) ∧ chk pc i len = true) ∧
  (∀ x f kd j fin, pfld P x = some (f, kd, j, fin) → (Jvm.Cond.fieldLink C x C (fnm f).1 (fnm f).2).before a0 Z = true ∧ fkd f = some (kd, j, fin)) ∧
  (∀ f kd j fin, fkd f = some (kd, j, fin) → ((fin = false ∧ (Jvm.Cond.lays C C (fnm f).1 (fnm f).2).before a0 Z = true) ∨ (fin = true ∧ (Jvm.Cond.laysFinal C C (fnm f).1 (fnm f).2).before a0 Z = true)) ∧ parseFieldDescriptor (fnm f).2 = some (fty P kd j) ∧ (kd = 0 → 1 ≤ j) ∧ kd ≤ 4) ∧
  (∀ f f' x x', fkd f = some x → fkd f' = some x' → f ≠ f' → (fnm f).1 ≠ (fnm f').1) ∧
  (∀ f f' j fin fin', fkd f = some (0, j, fin) → fkd f' = some (0, j, fin') → f = f') ∧
  (∀ j kd n, play P j = some (kd, n) → 1 ≤ j ∧ j ≤ nA ∧ 0 ≤ n ∧ n ≤ 60000000 ∧ (kd = 1 ∨ kd = 2 ∨ kd = 3 ∨ kd = 4) ∧ (Jvm.Cond.arrayClass (kty kd)).before a0 Z = true) ∧
  ((∀ x z, pcst P x = some (.inl z) → ∃ v : Int32, (Jvm.Cond.constant C x v).before a0 Z = true ∧ v.toInt = z) ∧ (∀ x z, pcst P x = some (.inr (.inl z)) → ∃ v : Int64, (Jvm.Cond.constantLong C x v).before a0 Z = true ∧ v.toInt = z)) ∧
  (∀ x q, pmth P x = some q → (Jvm.Cond.methodLink C x (nm q)).before a0 Z = true) ∧
  (∀ q ps ml rk fr lc, pinf P q = some (ps, ml, rk, fr, lc) → (nm q).cls = C ∧ (Jvm.Cond.instanceMethod (nm q)).before a0 Z = true ∧ (Jvm.Cond.code (nm q) (bys q) ml (rty rk)).before a0 Z = true ∧
    (q ≠ 0 → (Jvm.Cond.privateMethod (nm q)).before a0 Z = true ∨ ((Jvm.Cond.declares (nm q)).before a0 Z = true ∧ (Jvm.Cond.selects C (nm q) (nm q)).before a0 Z = true)) ∧ ∃ params, parseMethodDescriptor (nm q).desc = some ⟨params, rty rk⟩ ∧ params.length = ps.length) ∧
  (∀ x, pobi P x = true → (Jvm.Cond.methodLink C x Lib.objectInit).before a0 Z = true) ∧
  ((Jvm.Cond.instanceMethod Lib.objectInit).before a0 Z = true ∧ (Jvm.Cond.code Lib.objectInit ⟨#[0xb1]⟩ 1 none).before a0 Z = true) ∧
  (Jvm.Cond.instantiable C nf).before a0 Z = true ∧ (Jvm.Cond.initialized C).before a0 Z = true ∧ plainName C = true ∧ (C ≠ "java/lang/invoke/MethodHandle" ∧ C ≠ "java/lang/invoke/VarHandle") ∧ (nm 0).name = "<init>" ∧
  (∀ ps ml rk fr lc, pinf P 0 = some (ps, ml, rk, fr, lc) → rk = 0)
section Rep
variable {P : PT} {C : String} {fnm : FN} {fkd : FK} {nm : Nat → MethodName} {bys : Nat → ByteArray} {nA nf : Nat} {a0 : Array Value} {Z : State} {h h' : Heap} {A : Nat → Addr} {n0 t : Nat} {m : OMem}
theorem TabP.laid (HT : TabP P C fnm fkd nm bys nA nf a0 Z) {f : Int} {kd j : Nat} {fin : Bool} (hf : fkd f = some (kd, j, fin)) : Laid Z a0 C C (fnm f).1 (fnm f).2 := by
  obtain ⟨-, -, h3, -⟩ := HT
  rcases (h3 f kd j fin hf).1 with q | q
  · exact Or.inl q.2
  · exact Or.inr q.2
theorem TabP.slot (HT : TabP P C fnm fkd nm bys nA nf a0 Z) {f f' : Int} {x x' : Nat × Nat × Bool} (hf : fkd f = some x) (hf' : fkd f' = some x') (hne : f ≠ f') : RoadKit.slotOf Z C (fnm f).1 (fnm f).2 ≠ RoadKit.slotOf Z C (fnm f').1 (fnm f').2 := by
  obtain ⟨kd, j, fin⟩ := x
  obtain ⟨kd', j', fin'⟩ := x'
  have L1 := HT.laid hf
  have L2 := HT.laid hf'
  obtain ⟨-, -, h3, h4, -⟩ := HT
  exact slot_ne L1 L2 (h4 f f' _ _ hf hf' hne) (h3 f _ _ _ hf).2.1 (h3 f' _ _ _ hf').2.1
theorem RepO.ext (hR : RepO P C fnm fkd Z h A n0 t m) (E : Ext h h') : RepO P C fnm fkd Z h' A n0 t m := by
  obtain ⟨r1, r2, r3, r4, r5, r6⟩ := hR
  refine ⟨r1.ext E, r2, fun f kd j fin hf => ?_, fun j h1 h2 => ?_, r5, r6⟩
  · obtain ⟨v, q1, q2⟩ := r3 f kd j fin hf
    exact ⟨v, q1.ext E, q2⟩
  · obtain ⟨g1, kd, n, g2, c, g3, g4⟩ := r4 j h1 h2
    exact ⟨g1, kd, n, g2, c, g3.ext E, g4⟩
/-- the heap may change where the object isn't -/
theorem RepO.keep (hR : RepO P C fnm fkd Z h A n0 t m) (hk : ∀ a c, h[a]? = some c → (∃ j, j ≤ (t + 1) / 2 ∧ a = A j) → h'[a]? = some c) : RepO P C fnm fkd Z h' A n0 t m := by
  obtain ⟨r1, r2, r3, r4, r5, r6⟩ := hR
  refine ⟨?_, r2, fun f kd j fin hf => ?_, fun j h1 h2 => ?_, r5, r6⟩
  · obtain ⟨cell, k, q, r⟩ := r1
    exact ⟨cell, k, hk _ _ q ⟨0, by omega, rfl⟩, r⟩
  · obtain ⟨v, ⟨cell, cf, k, i, ff, q, r⟩, q2⟩ := r3 f kd j fin hf
    exact ⟨v, ⟨cell, cf, k, i, ff, hk _ _ q ⟨0, by omega, rfl⟩, r⟩, q2⟩
  · obtain ⟨g1, kd, n, g2, c, g3, g4⟩ := r4 j h1 h2
    exact ⟨g1, kd, n, g2, c, ⟨hk _ _ g3.1 ⟨j, h2, rfl⟩, g3.2⟩, g4⟩
theorem sto_ne {k k' : Nat} {i z : Int} (hk : k' ≠ k) : sto m k i z k' = m k' := by
  funext i'
  unfold sto
  rw [if_neg (fun q => hk q.1)]
theorem RepO.wrF (HT : TabP P C fnm fkd nm bys nA nf a0 Z) (hR : RepO P C fnm fkd Z h A n0 t m) {f : Int} {kd j : Nat} {fin : Bool} (hf : fkd f = some (kd, j, fin)) (hkd : kd ≠ 0) {v : Value} {z : Int} (hv : EV kd v z)
    (W : Wr h h' (A 0) (RoadKit.slotOf Z C (fnm f).1 (fnm f).2) v) : RepO P C fnm fkd Z h' A n0 t (sto m 0 f z) := by
  obtain ⟨r1, r2, r3, r4, r5, r6⟩ := hR
  refine ⟨r1.wr W, r2, fun f' kd' j' fin' hf' => ?_, fun j' h1 h2 => ?_, r5, fun j' hj' i => ?_⟩
  · obtain ⟨v', q1, q2, q3⟩ := r3 f' kd' j' fin' hf'
    by_cases e : f' = f
    · subst e
      cases hf.symm.trans hf'
      exact ⟨v, q1.same W, fun q => absurd q hkd, fun _ => by simpa [sto] using hv⟩
    · refine ⟨v', q1.other W (Or.inr (HT.slot hf' hf e)), q2, fun q => ?_⟩
      have : sto m 0 f z 0 f' = m 0 f' := by unfold sto; rw [if_neg (fun q => e q.2)]
      rw [this]; exact q3 q
  · obtain ⟨g1, kd', n, g2, c, g3, g4⟩ := r4 j' h1 h2
    rw [sto_ne (by omega)]
    exact ⟨g1, kd', n, g2, c, g3.other W (fun q => by have := r5 j' 0 h2 (by omega) q; omega), g4⟩
  · rw [sto_ne (by omega)]; exact r6 j' hj' i
theorem RepO.wrP (HT : TabP P C fnm fkd nm bys nA nf a0 Z) (hR : RepO P C fnm fkd Z h A n0 t m) {f : Int} {j : Nat} {fin : Bool} (hf : fkd f = some (0, j, fin)) (ht : t + 1 = 2 * j)
    (W : Wr h h' (A 0) (RoadKit.slotOf Z C (fnm f).1 (fnm f).2) (.ref (A j))) : RepO P C fnm fkd Z h' A n0 (t + 1) m := by
  obtain ⟨r1, r2, r3, r4, r5, r6⟩ := hR
  have e1 : (t + 1 + 1) / 2 = (t + 1) / 2 := by omega
  refine ⟨r1.wr W, r2, fun f' kd' j' fin' hf' => ?_, fun j' h1 h2 => ?_, by rw [e1]; exact r5, by rw [e1]; exact r6⟩
  · obtain ⟨v', q1, q2, q3⟩ := r3 f' kd' j' fin' hf'
    by_cases e : f' = f
    · subst e
      cases hf.symm.trans hf'
      exact ⟨_, q1.same W, fun _ _ => rfl, fun q => absurd rfl q⟩
    · refine ⟨v', q1.other W (Or.inr (HT.slot hf' hf e)), fun q1 q2' => q2 q1 ?_, q3⟩
      have hne : j' ≠ j := fun q => by
        subst q1 q
        obtain ⟨-, -, -, -, h5, -⟩ := HT
        exact e (h5 f' f j' fin' fin hf' hf)
      omega
  · rw [e1] at h2
    obtain ⟨g1, kd', n, g2, c, g3, g4⟩ := r4 j' h1 h2
    exact ⟨g1, kd', n, g2, c, g3.other W (fun q => by have := r5 j' 0 h2 (by omega) q; omega), g4⟩
theorem RepO.wrA (hR : RepO P C fnm fkd Z h A n0 t m) {j : Nat} (h1 : 1 ≤ j) (h2 : j ≤ (t + 1) / 2) {i : Nat} {v : Value} {z : Int} {kd : Nat} {n : Int} (hl : play P j = some (kd, n)) (hv : EV kd v z)
    (W : Wr h h' (A j) i v) : RepO P C fnm fkd Z h' A n0 t (sto m j i z) := by
  obtain ⟨r1, r2, r3, r4, r5, r6⟩ := hR
  refine ⟨r1.wr W, r2, fun f' kd' j' fin' hf' => ?_, fun j' g1 g2 => ?_, r5, fun j' hj' i' => ?_⟩
  · obtain ⟨v', q1, q2, q3⟩ := r3 f' kd' j' fin' hf'
    refine ⟨v', q1.other W (Or.inl fun q => by have := r5 0 j (by omega) h2 q; omega), q2, fun q => ?_⟩
    rw [sto_ne (by omega)]; exact q3 q
  · obtain ⟨k1, kd', n', k2, c, k3, k4, k5⟩ := r4 j' g1 g2
    by_cases e : j' = j
    · subst e
      cases hl.symm.trans k2
      refine ⟨k1, kd, n, hl, c.setSlot i v, k3.same W, by rw [sz_set]; exact k4, fun i' hi' => ?_⟩
      rw [sz_set] at hi'
      by_cases ei : i' = i
      · subst ei
        exact ⟨v, by simp [Cell.setSlot, hi'], by simpa [sto] using hv⟩
      · obtain ⟨w, w1, w2⟩ := k5 i' hi'
        refine ⟨w, ?_, ?_⟩
        · show (c.slots.setIfInBounds i v)[i']? = _
          rw [Array.getElem?_setIfInBounds_ne (fun q => ei q.symm)]; exact w1
        · have : sto m j' i z j' i' = m j' i' := by unfold sto; rw [if_neg (fun q => ei (by have := q.2; omega))]
          rw [this]; exact w2
    · rw [sto_ne e]
      exact ⟨k1, kd', n', k2, c, k3.other W (fun q => e (r5 j' j g2 h2 q)), k4, k5⟩
  · rw [sto_ne (by omega)]; exact r6 j' hj' i'
theorem RepO.lt (hR : RepO P C fnm fkd Z h A n0 t m) {j : Nat} (hj : j ≤ (t + 1) / 2) : A j < h.size := by
  obtain ⟨r1, r2, r3, r4, r5, r6⟩ := hR
  by_cases e : j = 0
  · subst e; exact r1.lt
  · obtain ⟨k1, kd', n', k2, c, k3, -⟩ := r4 j (by omega) hj
    exact k3.lt
def updA (A : Nat → Addr) (j : Nat) (a : Addr) : Nat → Addr := fun i => if i = j then a else A i
theorem updA_ne {j i : Nat} {a : Addr} (h : i ≠ j) : updA A j a i = A i := by unfold updA; rw [if_neg h]
theorem updA_eq {j : Nat} {a : Addr} : updA A j a j = a := by unfold updA; rw [if_pos rfl]
theorem RepO.new (hR : RepO P C fnm fkd Z h A n0 t m) (ht : t % 2 = 0) (hn : n0 ≤ h.size) {kd : Nat} {n : Int} (hl : play P (t / 2 + 1) = some (kd, n)) (hkd : kd = 1 ∨ kd = 2 ∨ kd = 3 ∨ kd = 4) (E : Ext h h') {x : Int32} (hx : x.toInt = n) (hx0 : 0 ≤ n) {cA : ClassId}
    (hA : Arr Z h' h.size (newA cA (kty kd) x) (kty kd)) : RepO P C fnm fkd Z h' (updA A (t / 2 + 1) h.size) n0 (t + 1) m := by
  have hlt := fun j (hj : j ≤ (t + 1) / 2) => hR.lt hj
  obtain ⟨r1, r2, r3, r4, r5, r6⟩ := hR
  have e0 : updA A (t / 2 + 1) h.size 0 = A 0 := updA_ne (by omega)
  refine ⟨by rw [e0]; exact r1.ext E, by rw [e0]; exact r2, fun f kd j fin hf => ?_, fun j h1 h2 => ?_, fun j j' h1 h2 hq => ?_, fun j hj => r6 j (by omega)⟩
  · rw [e0]
    obtain ⟨v, q1, q2, q3⟩ := r3 f kd j fin hf
    refine ⟨v, q1.ext E, fun q4 q5 => ?_, q3⟩
    rw [q2 q4 (by omega), updA_ne (by omega)]
  · by_cases e : j = t / 2 + 1
    · subst e
      rw [updA_eq]
      have sz : (newA cA (kty kd) x).slots.size = x.toNatClampNeg := sz_new cA (kty kd) x
      have hc : (x.toNatClampNeg : Int) = n := by simp only [Int32.toNatClampNeg]; omega
      refine ⟨hn, kd, n, hl, _, hA, by rw [sz]; exact hc, fun i hi => ⟨defaultValue (kty kd), ?_, ?_⟩⟩
      · rw [sz] at hi
        show (Array.replicate x.toNatClampNeg (defaultValue (kty kd)))[i]? = _
        simp [hi]
      · rw [r6 (t / 2 + 1) (by omega)]
        rcases hkd with rfl | rfl | rfl | rfl
        · exact Or.inr ⟨by decide, 0, rfl, rfl⟩
        · exact Or.inr ⟨by decide, 0, rfl, rfl⟩
        · exact Or.inr ⟨by decide, 0, rfl, rfl⟩
        · exact Or.inl ⟨rfl, 0, rfl, rfl⟩
    · rw [updA_ne e]
      obtain ⟨g1, kd, n, g2, c, g3, g4⟩ := r4 j h1 (by omega)
      exact ⟨g1, kd, n, g2, c, g3.ext E, g4⟩
  · by_cases e : j = t / 2 + 1
    · by_cases e' : j' = t / 2 + 1
      · omega
      · subst e
        rw [updA_eq, updA_ne e'] at hq
        exact (Nat.ne_of_gt (hlt j' (by omega)) hq).elim
    · by_cases e' : j' = t / 2 + 1
      · subst e'
        rw [updA_eq, updA_ne e] at hq
        exact (Nat.ne_of_lt (hlt j (by omega)) hq).elim
      · rw [updA_ne e, updA_ne e'] at hq
        exact r5 j j' (by omega) (by omega) hq
/-- nothing but the object's own cells has changed -/
def Sam (h h' : Heap) (A : Nat → Addr) (b : Nat) : Prop := h.size ≤ h'.size ∧ ∀ (a : Addr) (c : Cell), h[a]? = some c → (∀ j, j ≤ b → a ≠ A j) → h'[a]? = some c
theorem Sam.refl (h : Heap) (A : Nat → Addr) (b : Nat) : Sam h h A b := ⟨Nat.le_refl _, fun _ _ q _ => q⟩
theorem Sam.ext (E : Ext h h') (b : Nat) : Sam h h' A b := ⟨E.1, fun a c q _ => E.2 a c q⟩
theorem Sam.wr {j i b : Nat} {v : Value} (W : Wr h h' (A j) i v) (hj : j ≤ b) : Sam h h' A b := by
  refine ⟨by rw [W.size]; exact Nat.le_refl _, fun a c q hq => ?_⟩
  obtain ⟨cell, -, -, -, rfl⟩ := W
  rw [Array.getElem?_setIfInBounds_ne (fun e => hq j hj e.symm)]; exact q
theorem Sam.trans {h1 : Heap} {A1 : Nat → Addr} {b b1 : Nat} (S1 : Sam h h1 A b) (S2 : Sam h1 h' A1 b1) (hA : ∀ j, j ≤ b → A1 j = A j) (hn : ∀ j, b < j → j ≤ b1 → h.size ≤ A1 j) : Sam h h' A b := by
  refine ⟨Nat.le_trans S1.1 S2.1, fun a c q hq => S2.2 a c (S1.2 a c q hq) fun j hj e => ?_⟩
  by_cases hb : j ≤ b
  · exact hq j hb (by rw [e, hA j hb])
  · have h1 := (Array.getElem?_eq_some_iff.mp q).1
    exact Nat.not_lt.mpr (hn j (by omega) hj) (e ▸ h1)
end Rep
/-! entering a method -/
theorem lget_append_none : ∀ (L : OLs) (n k : Nat) {v : OV}, lget (L ++ List.replicate n none) k = some v → lget L k = some v
  | [], n, k, v, h => by
    exfalso
    simp only [List.nil_append] at h
    induction n generalizing k with
    | zero => simp [lget] at h
    | succ n ih =>
      cases k with
      | zero => simp [List.replicate_succ, lget] at h
      | succ k => exact ih k (by simpa [List.replicate_succ, lget] using h)
  | x :: xs, n, 0, v, h => h
  | x :: xs, n, k + 1, v, h => lget_append_none xs n k h
theorem laid_rel {A : Nat → Addr} {b : Nat} : ∀ {as : List OV} {vs : List Value}, SR A b as vs → (laid as).length = (Jvm.Sym.laidSlots vs).length ∧ (∀ k v, lget (laid as) k = some v → ∃ x, (Jvm.Sym.laidSlots vs)[k]? = some (.val x) ∧ VR A b v x) ∧
    (∀ k, (Jvm.Sym.laidSlots vs)[k]? = some .second → ∃ j v, k = j + 1 ∧ (Jvm.Sym.laidSlots vs)[j]? = some (.val v) ∧ v.category = 2) ∧ (∀ k v, (Jvm.Sym.laidSlots vs)[k]? = some (.val v) → v.category = 2 → (Jvm.Sym.laidSlots vs)[k + 1]? = some .second)
  | [], [], _ => ⟨rfl, fun k v h => by simp [laid, lget] at h, fun k h => by simp [Jvm.Sym.laidSlots] at h, fun k v h => by simp [Jvm.Sym.laidSlots] at h⟩
  | a :: as, x :: xs, ⟨h1, h2⟩ => by
    obtain ⟨g1, g2, g3, g4⟩ := laid_rel h2
    by_cases hc : mcat a = 2
    · have hx : x.category = 2 := by rw [h1.cats]; exact hc
      have e1 : Jvm.Sym.laidSlots (x :: xs) = .val x :: .second :: Jvm.Sym.laidSlots xs := by simp [Jvm.Sym.laidSlots, hx]
      have e2 : laid (a :: as) = some a :: none :: laid as := by
        rcases a with z | z | z
        · cases hc
        · rfl
        · cases hc
      rw [e1, e2]
      refine ⟨by simp [g1], fun k v hk => ?_, fun k hk => ?_, fun k v hk hv => ?_⟩
      · match k, hk with
        | 0, hk => cases hk; exact ⟨x, rfl, h1⟩
        | 1, hk => cases hk
        | k + 2, hk => exact g2 k v hk
      · match k, hk with
        | 0, hk => cases hk
        | 1, hk => exact ⟨0, x, rfl, rfl, hx⟩
        | k + 2, hk =>
          obtain ⟨j, v, rfl, q1, q2⟩ := g3 k hk
          exact ⟨j + 2, v, rfl, q1, q2⟩
      · match k, hk with
        | 0, hk => rfl
        | 1, hk => cases hk
        | k + 2, hk => exact g4 k v hk hv
    · have hx : ¬ x.category = 2 := by rw [h1.cats]; exact hc
      have e1 : Jvm.Sym.laidSlots (x :: xs) = .val x :: Jvm.Sym.laidSlots xs := by simp [Jvm.Sym.laidSlots, hx]
      have e2 : laid (a :: as) = some a :: laid as := by
        rcases a with z | z | z
        · rfl
        · exact absurd rfl hc
        · rfl
      rw [e1, e2]
      refine ⟨by simp [g1], fun k v hk => ?_, fun k hk => ?_, fun k v hk hv => ?_⟩
      · match k, hk with
        | 0, hk => cases hk; exact ⟨x, rfl, h1⟩
        | k + 1, hk => exact g2 k v hk
      · match k, hk with
        | 0, hk => cases hk
        | k + 1, hk =>
          obtain ⟨j, v, rfl, q1, q2⟩ := g3 k hk
          exact ⟨j + 1, v, rfl, q1, q2⟩
      · match k, hk with
        | 0, hk => cases hk; exact absurd hv hx
        | k + 1, hk => exact g4 k v hk hv
theorem entry_rel {A : Nat → Addr} {b n : Nat} {as : List OV} {vs : List Value} (h : SR A b as vs) : LR A b (initL as n) (argsToLocals vs.toArray n) := by
  obtain ⟨g1, g2, g3, g4⟩ := laid_rel h
  have e : (argsToLocals vs.toArray n).toList = Jvm.Sym.laidSlots vs ++ List.replicate (n - (Jvm.Sym.laidSlots vs).length) Slot.unset := Jvm.Sym.argsToLocals_toList _ _
  have ge : ∀ k, (argsToLocals vs.toArray n)[k]? = (Jvm.Sym.laidSlots vs ++ List.replicate (n - (Jvm.Sym.laidSlots vs).length) Slot.unset)[k]? := fun k => by rw [← e, Array.getElem?_toList]
  have up : ∀ k s, (Jvm.Sym.laidSlots vs)[k]? = some s → (argsToLocals vs.toArray n)[k]? = some s := fun k s q => by
    rw [ge, List.getElem?_append_left (List.getElem?_eq_some_iff.mp q).1]; exact q
  have down : ∀ k s, (argsToLocals vs.toArray n)[k]? = some s → s ≠ Slot.unset → (Jvm.Sym.laidSlots vs)[k]? = some s := fun k s q hs => by
    rw [ge, List.getElem?_append] at q
    split at q
    · exact q
    · rw [List.getElem?_replicate] at q
      split at q
      · exact absurd (Option.some.inj q).symm hs
      · cases q
  refine ⟨?_, fun k v hk => ?_, fun k hk => ?_, fun k v hk hv => ?_⟩
  · rw [← Array.length_toList, e]
    simp [initL, g1]
  · obtain ⟨x, q1, q2⟩ := g2 k v (lget_append_none _ _ _ hk)
    exact ⟨x, up _ _ q1, q2⟩
  · obtain ⟨j, v, q1, q2, q3⟩ := g3 k (down k _ hk (by intro q; cases q))
    exact ⟨j, v, q1, up _ _ q2, q3⟩
  · exact up _ _ (g4 k v (down k _ hk (by intro q; cases q)) hv)
theorem popA_rel {A : Nat → Addr} {b : Nat} : ∀ {ts : List Bool} {S : List OV} {acc as : List OV} {S' : List OV} {St : List Value}, popA ts S acc = some (as, S') → SR A b S St →
    ∃ B St', (∀ A' b' X, SR A' b' acc X → SR A' b' as (B ++ X)) ∧ SR A b S' St' ∧ St = B.reverse ++ St' ∧ B.length = ts.length
  | [], S, acc, as, S', St, h, hS => by
    cases h
    exact ⟨[], St, fun _ _ _ hX => hX, hS, rfl, rfl⟩
  | false :: ts, .inl z :: S, acc, as, S', St, h, hS => by
    obtain ⟨y, St1, rfl, hy, hS1⟩ := SR.i1 hS
    obtain ⟨B, St', q1, q2, q3, q4⟩ := popA_rel (ts := ts) h hS1
    exact ⟨B ++ [.int y], St', fun A' b' X hX => by simpa using q1 A' b' (.int y :: X) ⟨⟨y, rfl, hy⟩, hX⟩, q2, by simp [q3], by simp [q4]⟩
  | true :: ts, .inr (.inl z) :: S, acc, as, S', St, h, hS => by
    obtain ⟨y, St1, rfl, hy, hS1⟩ := SR.l1 hS
    obtain ⟨B, St', q1, q2, q3, q4⟩ := popA_rel (ts := ts) h hS1
    exact ⟨B ++ [.long y], St', fun A' b' X hX => by simpa using q1 A' b' (.long y :: X) ⟨⟨y, rfl, hy⟩, hX⟩, q2, by simp [q3], by simp [q4]⟩
end Jvm.OwnMini
namespace Jvm.OwnMini
open Jvm Jvm.ClassFile Sem Op Lib Jvm.Free Jvm.Stand Jvm.LawKit Jvm.RoadKit
theorem retI' {p : Program} {l : Launch} {e : Env} {R : Room} {s : State} {m : MethodId} {args : Array Value} {below : List Frame} {meth : Method} {c : Code} {T : State} {locs : List Loc} {cells slots : Nat} (X : Stand p l e R s m args below meth c T locs cells slots) (hx : p.tables.exec = Jvm.exec) {pc : Nat} {Ls : Array Slot} {z : Int32} {rest : List Value} (hret : meth.sig.returnType = some .int) (hd : decode c.code pc = .ok (.ireturn, 1)) {fs : List Frame}
    (hl : ∀ (f : JFrame) (acts : List Action), f.method = m → f.locked = none → f.entered = [] → (doReturn e (T.setTop f) acts (some (.int z))).1 = T.setFrames fs) : Steps p.tables e below (T.setTop (mkF m pc Ls (.int z :: rest))) (T.setFrames fs) :=
  retOut X hx hret rfl (Or.inl ⟨rfl, Or.inl rfl, z, rfl⟩) hd hl
def RVl : Option OV → Option Value → Prop
  | none, v => v = none
  | some (.inl z), v => ∃ x : Int32, v = some (.int x) ∧ x.toInt = z
  | some (.inr (.inl z)), v => ∃ x : Int64, v = some (.long x) ∧ x.toInt = z
  | some (.inr (.inr _)), _ => False
theorem RVl.push {A : Nat → Addr} {b : Nat} {r : Option OV} {v : Option Value} (h : RVl r v) {S : List OV} {St : List Value} (hS : SR A b S St) : SR A b (pushR r S) (v.toList ++ St) := by
  rcases r with _ | z | z | z
  · cases h; exact hS
  · obtain ⟨x, rfl, e⟩ := h; exact ⟨⟨x, rfl, e⟩, hS⟩
  · obtain ⟨x, rfl, e⟩ := h; exact ⟨⟨x, rfl, e⟩, hS⟩
  · exact h.elim
/-- from where the walk stands it comes to its end -/
def EndP (P : PT) (C : String) (fnm : FN) (fkd : FK) (Z : State) (nA : Nat) (p : Program) (l : Launch) (e : Env) (R : Room) (s : State) (mi : MethodId) (args : Array Value) (below : List Frame) (meth : Method) (c : Code) (n0 q : Nat)
    (T : State) (A : Nat → Addr) (t : Nat) (locs : List Loc) (cells slots : Nat) (f0 : JFrame) (r : Option OV) (t' : Nat) (m' : OMem) : Prop :=
  ∃ (v : Option Value) (T' : State) (A' : Nat → Addr) (lw : List Loc) (cells' slots' : Nat),
    Stand p l e R s mi args below meth c T' (locs ++ lw) cells' slots' ∧ RepO P C fnm fkd Z T'.heap A' n0 t' m' ∧
    (∀ j, j ≤ (t + 1) / 2 → A' j = A j) ∧ t ≤ t' ∧ (∀ j, (t + 1) / 2 < j → j ≤ (t' + 1) / 2 → T.heap.size ≤ A' j) ∧ Fr n0 lw ∧
    cells' + (nA - (t' + 1) / 2) ≤ cells + (nA - (t + 1) / 2) ∧ slots' + (psum P nA - psum P ((t' + 1) / 2)) ≤ slots + (psum P nA - psum P ((t + 1) / 2)) ∧
    (q ≠ 0 → t' = t ∧ cells' = cells ∧ slots' = slots) ∧ Sam T.heap T'.heap A ((t + 1) / 2) ∧ RVl r v ∧ (meth.sig.returnType = none → v = none) ∧
    ∀ fs, (∀ (f : JFrame) (acts : List Action), f.method = mi → f.locked = none → f.entered = [] → (doReturn e (T'.setTop f) acts v).1 = T'.setFrames fs) → Steps p.tables e below (T.setTop f0) (T'.setFrames fs)
section Sound
variable {P : PT} {C : String} {fnm : FN} {fkd : FK} {nm : Nat → MethodName} {bys : Nat → ByteArray} {nA nf : Nat} {a0 : Array Value} {Z : State}
variable {p : Program} {l : Launch} {e : Env} {R : Room} {s : State} {mi : MethodId} {args : Array Value} {below : List Frame} {meth : Method} {c : Code} {n0 q : Nat}
theorem EndP.trans {T T1 : State} {A A1 : Nat → Addr} {t t1 : Nat} {locs l1 : List Loc} {cells slots cells1 slots1 : Nat} {f0 f1 : JFrame} {r : Option OV} {t' : Nat} {m' : OMem}
    (E : EndP P C fnm fkd Z nA p l e R s mi args below meth c n0 q T1 A1 t1 (locs ++ l1) cells1 slots1 f1 r t' m') (hA : ∀ j, j ≤ (t + 1) / 2 → A1 j = A j) (ht : t ≤ t1) (hn : ∀ j, (t + 1) / 2 < j → j ≤ (t1 + 1) / 2 → T.heap.size ≤ A1 j) (hF : Fr n0 l1)
    (hc : cells1 + (nA - (t1 + 1) / 2) ≤ cells + (nA - (t + 1) / 2)) (hs : slots1 + (psum P nA - psum P ((t1 + 1) / 2)) ≤ slots + (psum P nA - psum P ((t + 1) / 2))) (hq : q ≠ 0 → t1 = t ∧ cells1 = cells ∧ slots1 = slots) (hS : Sam T.heap T1.heap A ((t + 1) / 2))
    (st : ∀ target, Steps p.tables e below (T1.setTop f1) target → Steps p.tables e below (T.setTop f0) target) : EndP P C fnm fkd Z nA p l e R s mi args below meth c n0 q T A t locs cells slots f0 r t' m' := by
  obtain ⟨v, T', A', lw, cells', slots', h1, h2, h3, h4, h5, h6, h7, h8, h9, h10, h11, h12, h13⟩ := E
  refine ⟨v, T', A', l1 ++ lw, cells', slots', by rw [← List.append_assoc]; exact h1, h2, fun j hj => (h3 j (by omega)).trans (hA j hj), by omega, fun j g1 g2 => ?_, hF.app h6, by omega, by omega, fun hq' => ?_, hS.trans h10 hA hn, h11, h12, fun fs hfs => st _ (h13 fs hfs)⟩
  · by_cases hj : j ≤ (t1 + 1) / 2
    · rw [h3 j hj]; exact hn j g1 hj
    · exact Nat.le_trans hS.1 (h5 j (by omega) g2)
  · obtain ⟨a1, a2, a3⟩ := hq hq'
    obtain ⟨b1, b2, b3⟩ := h9 hq'
    exact ⟨b1.trans a1, b2.trans a2, b3.trans a3⟩
/-- a step that leaves the heap as it is -/
theorem EndP.still {T T1 : State} {A : Nat → Addr} {t : Nat} {locs : List Loc} {cells slots : Nat} {f0 f1 : JFrame} {r : Option OV} {t' : Nat} {m' : OMem}
    (E : EndP P C fnm fkd Z nA p l e R s mi args below meth c n0 q T1 A t locs cells slots f1 r t' m') (hh : T1.heap = T.heap) (st : ∀ target, Steps p.tables e below (T1.setTop f1) target → Steps p.tables e below (T.setTop f0) target) :
    EndP P C fnm fkd Z nA p l e R s mi args below meth c n0 q T A t locs cells slots f0 r t' m' :=
  EndP.trans (l1 := []) (by rw [List.append_nil]; exact E) (fun _ _ => rfl) (Nat.le_refl _) (fun j h1 h2 => by omega) (Fr.nil _) (Nat.le_refl _) (Nat.le_refl _) (fun _ => ⟨rfl, rfl, rfl⟩) (by rw [hh]; exact Sam.refl _ _ _) st
def SoundAt (P : PT) (C : String) (fnm : FN) (fkd : FK) (bys : Nat → ByteArray) (nA : Nat) (Z : State) (l : Launch) (n : Nat) : Prop :=
  ∀ q pc L S t m r t' m', runP P n q pc L S t m = some (r, t', m') → ∀ ps ml rk fr lc, pinf P q = some (ps, ml, rk, fr, lc) →
  ∀ (p : Program) (e : Env) (R : Room) (s : State) (mi : MethodId) (args : Array Value) (below : List Frame) (meth : Method) (c : Code) (T : State) (locs : List Loc) (cells slots : Nat) (A : Nat → Addr) (Ls : Array Slot) (St : List Value) (n0 : Nat),
    Stand p l e R s mi args below meth c T locs cells slots → p.tables.exec = Jvm.exec → Z.Warmed39 s.vm → s.vm.findClass C = some mi.cls → c.code = bys q → c.maxLocals = ml → meth.sig.returnType = rty rk → (q = 0 → meth.name = "<init>") →
    RepO P C fnm fkd Z T.heap A n0 t m → LR A ((t + 1) / 2) L Ls → SR A ((t + 1) / 2) S St → Ls.size = ml → n0 ≤ T.heap.size → fr ≤ R.frames → lc ≤ R.locals → cells ≤ R.cells → slots ≤ R.slots →
    (q = 0 → cells + (nA - (t + 1) / 2) ≤ R.cells ∧ slots + (psum P nA - psum P ((t + 1) / 2)) ≤ R.slots) →
    EndP P C fnm fkd Z nA p l e R s mi args below meth c n0 q T A t locs cells slots (mkF mi pc Ls St) r t' m'
/-- what a method of the object leaves -/
def QP (P : PT) (C : String) (fnm : FN) (fkd : FK) (Z : State) (n0 q t : Nat) (A : Nat → Addr) (h : Heap) (r : Option OV) (t' : Nat) (m' : OMem) (v : Option Value) (h' : Heap) (L : List Loc) : Prop :=
  ∃ A', RepO P C fnm fkd Z h' A' n0 t' m' ∧ (∀ j, j ≤ (t + 1) / 2 → A' j = A j) ∧ t ≤ t' ∧ (∀ j, (t + 1) / 2 < j → j ≤ (t' + 1) / 2 → h.size ≤ A' j) ∧ Fr n0 L ∧ Sam h h' A ((t + 1) / 2) ∧ RVl r v ∧ (q ≠ 0 → t' = t)
theorem metP (HT : TabP P C fnm fkd nm bys nA nf a0 Z) {n : Nat} (hS : SoundAt P C fnm fkd bys nA Z l n) {ps : List Bool} {ml rk fr lc : Nat} (hq : pinf P q = some (ps, ml, rk, fr, lc)) {as : List OV} {t : Nat} {m : OMem} {r : Option OV} {t' : Nat} {m' : OMem}
    (hrun : runP P n q 0 (initL as ml) [] t m = some (r, t', m')) (hsz : (initL as ml).length ≤ ml) {A : Nat → Addr} {h : Heap} (hn0 : n0 ≤ h.size) (hR : RepO P C fnm fkd Z h A n0 t m) {vals : List Value} (hv : SR A ((t + 1) / 2) as vals) {cl sl : Nat}
    (hcl : q = 0 → nA - (t + 1) / 2 ≤ cl ∧ psum P nA - psum P ((t + 1) / 2) ≤ sl) :
    MetFree l (nm q) (head1 [Jvm.Cond.code (nm q) (bys q) ml (rty rk)] ({ frames := fr, cells := cl, slots := sl, locals := lc } : Room)) (fun a U => a = vals.toArray ∧ Z.Warmed39 U.vm ∧ U.heap = h) (fun _ _ _ _ _ => True)
      (fun _ U o U' => ∃ v L, o = .returned v ∧ QP P C fnm fkd Z n0 q t A h r t' m' v U'.heap L ∧ FrameEnd U o U' L cl sl) := by
  have HT' := HT
  obtain ⟨-, -, -, -, -, -, -, -, hinf, -, -, -, -, hpn, -, hin, -⟩ := HT'
  obtain ⟨hcls, -⟩ := hinf q ps ml rk fr lc hq
  refine MetFree.of_bodySF (plainFor_of_name (by rw [hcls]; exact hpn)) hisR ?_
  intro p e s m' args below meth c s₁ Bd hml0 hP hK
  obtain ⟨rfl, hZ, hh⟩ := hP
  have X0 := Stand.of_body Bd
  have e0 : s₁.heap = h := by rw [← hh, Bd.state]; rfl
  have hown : s.vm.findClass C = some m'.cls := by rw [← hcls]; exact findClass_of_methodNamed Bd.named
  have hnm := (name_of_methodNamed Bd.named Bd.method).1
  have hL := entry_rel (n := ml) hv
  have hz : (argsToLocals vals.toArray ml).size = ml := by
    rw [← hL.1]
    refine Nat.le_antisymm hsz ?_
    simp only [initL, List.length_append, List.length_replicate]; omega
  obtain ⟨v, T', A', lw, cells', slots', h1, h2, h3, h4, h5, h6, h7, h8, h9, h10, h11, h12, h13⟩ := hS q 0 _ [] t m r t' _ hrun ps ml rk fr lc hq p e _ s m' _ below meth c s₁ [] 0 0 A (argsToLocals vals.toArray ml) [] n0 X0 Bd.exec hZ hown Bd.bytes hml0 Bd.returns (fun q0 => by subst q0; exact hnm.trans hin)
    (by rw [e0]; exact hR) hL trivial hz (by rw [e0]; exact hn0) (Nat.le_refl _) (Nat.le_refl _) (Nat.zero_le _) (Nat.zero_le _) (fun q0 => by have := hcl q0; exact ⟨by show 0 + _ ≤ cl; omega, by show 0 + _ ≤ sl; omega⟩)
  rw [e0] at h5 h10
  obtain ⟨fs, hr, hrun', hended, hW, hsame⟩ := h1.leave (v := v) h12
  refine ⟨_, _, h13 fs hr, hrun', hended, v, _, rfl, ⟨A', h2, h3, h4, h5, h6, h10, h11, fun q0 => (h9 q0).1⟩, ⟨_, rfl⟩, hW, hsame.mono ?_ ?_⟩
  · by_cases q0 : q = 0
    · have := (hcl q0).1; omega
    · have := (h9 q0).2.1; omega
  · by_cases q0 : q = 0
    · have := (hcl q0).2; omega
    · have := (h9 q0).2.2; omega
end Sound
end Jvm.OwnMini
namespace Jvm.OwnMini
open Jvm Jvm.ClassFile Sem Op Lib Jvm.Free Jvm.Stand Jvm.LawKit Jvm.RoadKit
section Inv
variable {P : PT} {k : Nat → Nat → OLs → List OV → Nat → OMem → RT} {q pc len t : Nat} {L : OLs} {S : List OV} {m : OMem} {r : Option OV × Nat × OMem}
theorem getfield_some {x : Nat} (h : stepS P k q pc L S t m (.getfield x) len = some r) : ∃ S', S = .inr (.inr 0) :: S' ∧
    ((∃ f j fin, pfld P x = some (f, 0, j, fin) ∧ j ≤ t / 2 ∧ k q (pc + len) L (vr j :: S') t m = some r) ∨ (∃ f kd j fin, pfld P x = some (f, kd, j, fin) ∧ (kd = 1 ∨ kd = 2) ∧ k q (pc + len) L (vi (m 0 f) :: S') t m = some r) ∨ (∃ f j fin, pfld P x = some (f, 4, j, fin) ∧ k q (pc + len) L (vl (m 0 f) :: S') t m = some r)) := by
  simp only [stepS] at h
  split at h
  · refine ⟨_, rfl, ?_⟩
    split at h
    · rename_i f j fin hf
      cases hb : Nat.ble j (t / 2) with
      | false => rw [hb] at h; cases h
      | true => rw [hb] at h; exact Or.inl ⟨f, j, fin, hf, Nat.le_of_ble_eq_true hb, h⟩
    · rename_i f j fin hf; exact Or.inr (Or.inl ⟨f, 1, j, fin, hf, Or.inl rfl, h⟩)
    · rename_i f j fin hf; exact Or.inr (Or.inl ⟨f, 2, j, fin, hf, Or.inr rfl, h⟩)
    · rename_i f j fin hf; exact Or.inr (Or.inr ⟨f, j, fin, hf, h⟩)
    · cases h
  · cases h
theorem cond_some {α : Type} {b : Bool} {x : Option α} {a : α} (h : cond b x none = some a) : b = true ∧ x = some a := by
  cases b
  · cases h
  · exact ⟨rfl, h⟩
theorem putfield_some {x : Nat} (h : stepS P k q pc L S t m (.putfield x) len = some r) :
    (∃ f j fin S', pfld P x = some (f, 0, j, fin) ∧ S = .inr (.inr j) :: .inr (.inr 0) :: S' ∧ t + 1 = 2 * j ∧ q = 0 ∧ k q (pc + len) L S' (t + 1) m = some r) ∨
    (∃ f kd j fin z S', pfld P x = some (f, kd, j, fin) ∧ (kd = 1 ∨ kd = 2) ∧ S = .inl z :: .inr (.inr 0) :: S' ∧ (fin = false ∨ q = 0) ∧ k q (pc + len) L S' t (sto m 0 f (if kd = 2 then z % 2 else z)) = some r) ∨
    (∃ f j fin z S', pfld P x = some (f, 4, j, fin) ∧ S = .inr (.inl z) :: .inr (.inr 0) :: S' ∧ (fin = false ∨ q = 0) ∧ k q (pc + len) L S' t (sto m 0 f z) = some r) := by
  have fq : ∀ {fin : Bool}, (!fin || Nat.beq q 0) = true → fin = false ∨ q = 0 := fun {fin} hh => by
    cases fin
    · exact Or.inl rfl
    · exact Or.inr (Nat.eq_of_beq_eq_true (by simpa using hh))
  simp only [stepS] at h
  split at h
  · rename_i f j fin hf
    split at h
    · rename_i j' S'
      obtain ⟨hb, hh⟩ := cond_some h
      simp only [Bool.and_eq_true] at hb
      obtain ⟨⟨h1, h2⟩, h3⟩ := hb
      cases Nat.eq_of_beq_eq_true h1
      exact Or.inl ⟨f, _, fin, S', hf, rfl, Nat.eq_of_beq_eq_true h2, Nat.eq_of_beq_eq_true h3, hh⟩
    · cases h
  · rename_i f j fin hf
    split at h
    · obtain ⟨hb, h⟩ := cond_some h
      exact Or.inr (Or.inl ⟨f, 1, j, fin, _, _, hf, Or.inl rfl, rfl, fq hb, h⟩)
    · cases h
  · rename_i f j fin hf
    split at h
    · obtain ⟨hb, h⟩ := cond_some h
      exact Or.inr (Or.inl ⟨f, 2, j, fin, _, _, hf, Or.inr rfl, rfl, fq hb, h⟩)
    · cases h
  · rename_i f j fin hf
    split at h
    · obtain ⟨hb, h⟩ := cond_some h
      exact Or.inr (Or.inr ⟨f, j, fin, _, _, hf, rfl, fq hb, h⟩)
    · cases h
  · cases h
theorem ald_some {kd : Nat → Bool} {f : Nat → Int → List OV → RT} (h : ald P kd S t f = some r) : ∃ i j S' k n, S = .inl i :: .inr (.inr j) :: S' ∧ play P j = some (k, n) ∧ kd k = true ∧ j ≤ t / 2 ∧ 0 ≤ i ∧ i < n ∧ f j i S' = some r := by
  simp only [ald] at h
  split at h
  · split at h
    · rename_i hl
      obtain ⟨hb, h⟩ := cond_some h
      simp only [Bool.and_eq_true] at hb
      split at h
      · rename_i hc
        exact ⟨_, _, _, _, _, rfl, hl, hb.1, Nat.le_of_ble_eq_true hb.2, hc.1, hc.2, h⟩
      · cases h
    · cases h
  · cases h
theorem asi_some {kd : Nat → Bool} {f : Nat → Nat → Int → Int → List OV → RT} (h : asi P kd S t f = some r) : ∃ z i j S' k n, S = .inl z :: .inl i :: .inr (.inr j) :: S' ∧ play P j = some (k, n) ∧ kd k = true ∧ j ≤ t / 2 ∧ 0 ≤ i ∧ i < n ∧ f k j i z S' = some r := by
  simp only [asi] at h
  split at h
  · split at h
    · rename_i hl
      obtain ⟨hb, h⟩ := cond_some h
      simp only [Bool.and_eq_true] at hb
      split at h
      · rename_i hc
        exact ⟨_, _, _, _, _, _, rfl, hl, hb.1, Nat.le_of_ble_eq_true hb.2, hc.1, hc.2, h⟩
      · cases h
    · cases h
  · cases h
theorem asl_some {kd : Nat → Bool} {f : Nat → Int → Int → List OV → RT} (h : asl P kd S t f = some r) : ∃ z i j S' k n, S = .inr (.inl z) :: .inl i :: .inr (.inr j) :: S' ∧ play P j = some (k, n) ∧ kd k = true ∧ j ≤ t / 2 ∧ 0 ≤ i ∧ i < n ∧ f j i z S' = some r := by
  simp only [asl] at h
  split at h
  · split at h
    · rename_i hl
      obtain ⟨hb, h⟩ := cond_some h
      simp only [Bool.and_eq_true] at hb
      split at h
      · rename_i hc
        exact ⟨_, _, _, _, _, _, rfl, hl, hb.1, Nat.le_of_ble_eq_true hb.2, hc.1, hc.2, h⟩
      · cases h
    · cases h
  · cases h
theorem arraylength_some (h : stepS P k q pc L S t m .arraylength len = some r) : ∃ j S' kd n, S = .inr (.inr j) :: S' ∧ play P j = some (kd, n) ∧ j ≤ t / 2 ∧ k q (pc + len) L (vi n :: S') t m = some r := by
  simp only [stepS] at h
  split at h
  · split at h
    · rename_i hl
      obtain ⟨hb, h⟩ := cond_some h
      exact ⟨_, _, _, _, rfl, hl, Nat.le_of_ble_eq_true hb, h⟩
    · cases h
  · cases h
theorem newarray_some {a : ArrayType} (h : stepS P k q pc L S t m (.newarray a) len = some r) : ∃ S' kd n, S = .inl n :: S' ∧ play P (t / 2 + 1) = some (kd, n) ∧ t % 2 = 0 ∧ kd = akind a ∧ q = 0 ∧ k q (pc + len) L (vr (t / 2 + 1) :: S') (t + 1) m = some r := by
  simp only [stepS] at h
  split at h
  · split at h
    · rename_i hl
      obtain ⟨hb, hh⟩ := cond_some h
      simp only [Bool.and_eq_true] at hb
      obtain ⟨⟨h1, h2⟩, h3⟩ := hb
      split at hh
      · rename_i hz
        subst hz
        exact ⟨_, _, _, rfl, hl, Nat.eq_of_beq_eq_true h1, Nat.eq_of_beq_eq_true h2, Nat.eq_of_beq_eq_true h3, hh⟩
      · cases hh
    · cases h
  · cases h
theorem invokespecial_some {x : Nat} (h : stepS P k q pc L S t m (.invokespecial x) len = some r) : ∃ S' ps ml rk fr lc, S = .inr (.inr 0) :: S' ∧ pinf P q = some (ps, ml, rk, fr, lc) ∧ pobi P x = true ∧ 1 ≤ fr ∧ cats S' + 12 ≤ lc ∧ k q (pc + len) L S' t m = some r := by
  simp only [stepS] at h
  split at h
  · split at h
    · rename_i hl
      obtain ⟨hb, h⟩ := cond_some h
      simp only [Bool.and_eq_true] at hb
      obtain ⟨⟨h1, h2⟩, h3⟩ := hb
      exact ⟨_, _, _, _, _, _, rfl, hl, h1, Nat.le_of_ble_eq_true h2, Nat.le_of_ble_eq_true h3, h⟩
    · cases h
  · cases h
theorem invokevirtual_some {x : Nat} (h : stepS P k q pc L S t m (.invokevirtual x) len = some r) : ∃ q' ps ml rk fr' lc' ps0 ml0 rk0 fr lc as S' y, pmth P x = some q' ∧ pinf P q' = some (ps, ml, rk, fr', lc') ∧ pinf P q = some (ps0, ml0, rk0, fr, lc) ∧ popA ps S [] = some (as, .inr (.inr 0) :: S') ∧
    fr' + 1 ≤ fr ∧ cats S' + (ml + 11) + lc' ≤ lc ∧ q' ≠ 0 ∧ (initL (vr 0 :: as) ml).length ≤ ml ∧ k q' 0 (initL (vr 0 :: as) ml) [] t m = some y ∧ k q (pc + len) L (pushR y.1 S') y.2.1 y.2.2 = some r := by
  simp only [stepS] at h
  split at h
  · rename_i q' hq'
    split at h
    · rename_i ps ml rk fr' lc' ps0 ml0 rk0 fr lc h1 h2
      split at h
      · rename_i as S' hp
        obtain ⟨hb, h⟩ := cond_some h
        simp only [Bool.and_eq_true] at hb
        obtain ⟨⟨⟨g1, g2⟩, g3⟩, g4⟩ := hb
        obtain ⟨y, h3, h4⟩ := Option.bind_eq_some_iff.mp h
        exact ⟨q', ps, ml, rk, fr', lc', ps0, ml0, rk0, fr, lc, as, S', y, hq', h1, h2, hp, Nat.le_of_ble_eq_true g1, Nat.le_of_ble_eq_true g2, fun e => by subst e; simp at g3, Nat.le_of_ble_eq_true g4, h3, h4⟩
      · cases h
    · cases h
  · cases h
theorem ireturn_some (h : stepS P k q pc L S t m .ireturn len = some r) : ∃ z S' ps ml rk fr lc, S = .inl z :: S' ∧ pinf P q = some (ps, ml, rk, fr, lc) ∧ ((rk = 1 ∧ r = (some (vi z), t, m)) ∨ (rk = 2 ∧ r = (some (vi (z % 2)), t, m))) := by
  simp only [stepS] at h
  split at h
  · split at h
    · rename_i hl; cases h; exact ⟨_, _, _, _, _, _, _, rfl, hl, Or.inl ⟨rfl, rfl⟩⟩
    · rename_i hl; cases h; exact ⟨_, _, _, _, _, _, _, rfl, hl, Or.inr ⟨rfl, rfl⟩⟩
    · cases h
  · cases h
theorem lreturn_some (h : stepS P k q pc L S t m .lreturn len = some r) : ∃ z S' ps ml fr lc, S = .inr (.inl z) :: S' ∧ pinf P q = some (ps, ml, 4, fr, lc) ∧ r = (some (vl z), t, m) := by
  simp only [stepS] at h
  split at h
  · split at h
    · rename_i hl; cases h; exact ⟨_, _, _, _, _, _, rfl, hl, rfl⟩
    · cases h
  · cases h
theorem return_some (h : stepS P k q pc L S t m .return_ len = some r) : ∃ ps ml fr lc, S = [] ∧ pinf P q = some (ps, ml, 0, fr, lc) ∧ r = (none, t, m) := by
  simp only [stepS] at h
  split at h
  · split at h
    · rename_i hl; cases h; exact ⟨_, _, _, _, rfl, hl, rfl⟩
    · cases h
  · cases h
end Inv
end Jvm.OwnMini
namespace Jvm.OwnMini
open Jvm Jvm.ClassFile Sem Op Lib Jvm.Free Jvm.Stand Jvm.LawKit Jvm.RoadKit
theorem kty_akind : ∀ {a : ArrayType} {kd : Nat}, kd = akind a → (kd = 1 ∨ kd = 2 ∨ kd = 3 ∨ kd = 4) → newarray.typeOf a = kty kd := by
  intro a kd h hk
  cases a <;> simp only [akind] at h <;> subst h <;> first | rfl | (rcases hk with q | q | q | q <;> cases q)
theorem idx32 {j : Int32} {n : Nat} (h0 : 0 ≤ j.toInt) (h1 : j.toInt < n) : ¬ (j < 0 ∨ n ≤ j.toNatClampNeg) := by
  simp only [Int32.lt_iff_toInt_lt, Int32.toNatClampNeg, Int32.reduceToInt]; omega
theorem clamp32 {j : Int32} (h0 : 0 ≤ j.toInt) : (j.toNatClampNeg : Int) = j.toInt := by
  simp only [Int32.toNatClampNeg]; omega
theorem EV.int {kd : Nat} {v : Value} {z : Int} (h : EV kd v z) (hk : kd ≠ 4) : ∃ x : Int32, v = .int x ∧ x.toInt = z := by
  rcases h with ⟨q, -⟩ | ⟨-, q⟩
  · exact absurd q hk
  · exact q
theorem EV.long {kd : Nat} {v : Value} {z : Int} (h : EV kd v z) (hk : kd = 4) : ∃ x : Int64, v = .long x ∧ x.toInt = z := by
  rcases h with ⟨-, q⟩ | ⟨q, -⟩
  · exact q
  · exact absurd hk q
theorem psum_mono (P : PT) {a b : Nat} (h : a ≤ b) : psum P a ≤ psum P b := by
  induction h with
  | refl => exact Nat.le_refl _
  | step _ ih => exact Nat.le_trans ih (Nat.le_add_right _ _)
set_option maxHeartbeats 4000000 in
theorem soundP {P : PT} {C : String} {fnm : FN} {fkd : FK} {nm : Nat → MethodName} {bys : Nat → ByteArray} {nA nf : Nat} {a0 : Array Value} {Z : State} (HT : TabP P C fnm fkd nm bys nA nf a0 Z) (l : Launch) : ∀ n, SoundAt P C fnm fkd bys nA Z l n
  | 0 => fun q pc L S t m r t' m' h => by cases h
  | n + 1 => by
    intro q pc L0 S t m r t' m' h ps ml rk fr lc hq p e R s mi args below meth c T locs cells slots A Ls St n0 X hx hZ hown hby hml hret hini hR hL0 hSt hsz hn0 hfr hlc hce hsl hroom
    have IH := soundP HT l n
    have HT' := HT
    obtain ⟨tcode, tfld, tfkd, -, -, tlay, tcst, tmth, tinf, tobi, ⟨tob1, tob2⟩, tins, tini, tpn, thn, tnm, tall⟩ := HT'
    replace h : stepP P (runP P n) q pc L0 S t m = some (r, t', m') := h
    unfold stepP at h
    cases hcd : pcode P q pc with
    | none => rw [hcd] at h; cases h
    | some il =>
      obtain ⟨i, len⟩ := il
      rw [hcd] at h
      replace h : stepI P (runP P n) q pc (mask (pliv P q pc) L0) S t m i len = some (r, t', m') := h
      have hL := hL0.mask (pliv P q pc)
      generalize mask (pliv P q pc) L0 = L at h hL
      obtain ⟨hdec, hchk⟩ := tcode q pc i len hcd
      have hd : decode c.code pc = .ok (i, len) := by rw [hby]; exact hdec
      have hcst : (∀ x z, pcst P x = some (.inl z) → ∃ v : Int32, (Jvm.Cond.constant C x v).before args s = true ∧ v.toInt = z) ∧ (∀ x z, pcst P x = some (.inr (.inl z)) → ∃ v : Int64, (Jvm.Cond.constantLong C x v).before args s = true ∧ v.toInt = z) :=
        ⟨fun x z hz => by obtain ⟨v, h1, h2⟩ := tcst.1 x z hz; exact ⟨v, mv hZ h1, h2⟩, fun x z hz => by obtain ⟨v, h1, h2⟩ := tcst.2 x z hz; exact ⟨v, mv hZ h1, h2⟩⟩
      -- going on from the same heap
      have go : ∀ {T1 : State} {pc' : Nat} {L' : OLs} {S' : List OV} {Ls' : Array Slot} {St' : List Value}, Stand p l e R s mi args below meth c T1 locs cells slots → T1.heap = T.heap → runP P n q pc' L' S' t m = some (r, t', m') → LR A ((t + 1) / 2) L' Ls' → SR A ((t + 1) / 2) S' St' → Ls'.size = ml →
          (∀ target, Steps p.tables e below (T1.setTop (mkF mi pc' Ls' St')) target → Steps p.tables e below (T.setTop (mkF mi pc Ls St)) target) →
          EndP P C fnm fkd Z nA p l e R s mi args below meth c n0 q T A t locs cells slots (mkF mi pc Ls St) r t' m' := fun X1 hh hrun hL1 hS1 hz1 st =>
        (IH q _ _ _ t m r t' m' hrun ps ml rk fr lc hq p e R s mi args below meth c _ locs cells slots A _ _ n0 X1 hx hZ hown hby hml hret hini (by rw [hh]; exact hR) hL1 hS1 hz1 (by rw [hh]; exact hn0) hfr hlc hce hsl hroom).still hh st
      -- going on from a heap in which the object's own cells were written
      have gw : ∀ {T1 : State} {t1 : Nat} {m1 : OMem} {pc' : Nat} {S' : List OV} {St' : List Value} {j sl : Nat} {v : Value}, Stand p l e R s mi args below meth c T1 (locs ++ [⟨A j, sl⟩]) cells slots → j ≤ (t + 1) / 2 → Wr T.heap T1.heap (A j) sl v → RepO P C fnm fkd Z T1.heap A n0 t1 m1 → t ≤ t1 → (t1 + 1) / 2 = (t + 1) / 2 → (q ≠ 0 → t1 = t) →
          runP P n q pc' L S' t1 m1 = some (r, t', m') → SR A ((t + 1) / 2) S' St' →
          (∀ target, Steps p.tables e below (T1.setTop (mkF mi pc' Ls St')) target → Steps p.tables e below (T.setTop (mkF mi pc Ls St)) target) →
          EndP P C fnm fkd Z nA p l e R s mi args below meth c n0 q T A t locs cells slots (mkF mi pc Ls St) r t' m' := fun {T1 t1 m1 pc' S' St' j sl v} X1 hj W hR1 ht1 et hqt hrun hS1 st => by
        refine EndP.trans (l1 := [⟨A j, sl⟩]) (IH q _ _ _ t1 m1 r t' m' hrun ps ml rk fr lc hq p e R s mi args below meth c T1 _ cells slots A Ls St' n0 X1 hx hZ hown hby hml hret hini hR1 (by rw [et]; exact hL) (by rw [et]; exact hS1) hsz (by rw [W.size]; exact hn0) hfr hlc hce hsl (fun q0 => by rw [et]; exact hroom q0)) (fun _ _ => rfl) ht1 (fun j h1 h2 => by omega) ?_ (by omega) (by rw [et]; exact Nat.le_refl _) (fun q0 => ⟨hqt q0, rfl, rfl⟩) (Sam.wr W hj) st
        intro y hy
        cases List.mem_singleton.mp hy
        by_cases e0 : j = 0
        · subst e0; exact hR.2.1
        · exact (hR.2.2.2.1 j (by omega) hj).1
      cases hsp : isSpec i with
      | false =>
        simp only [stepI, hsp, cond_false] at h
        obtain ⟨pc', L', S', Ls', St', h1, h2, h3, h4, h5⟩ := pstep_sound (cst := pcst P) (k := fun pc' L' S' => runP P n q pc' L' S' t m) X hx hown hcst hL hSt hd hchk h
        exact go X rfl h1 h2 h3 (h4.trans hsz) h5
      | true =>
      simp only [stepI, hsp, cond_true] at h
      clear hcd
      cases i
      case getfield x =>
        obtain rfl : len = 3 := by simpa [chk, ilen] using hchk
        obtain ⟨S', rfl, hgf⟩ := getfield_some h
        clear h
        obtain ⟨hb0, St', rfl, hS'⟩ := SR.r1 hSt
        rcases hgf with ⟨f, j, fin, hf, hj, h⟩ | ⟨f, kd, j, fin, hf, hkd, h⟩ | ⟨f, j, fin, hf, h⟩
        · obtain ⟨w, hk⟩ := tfld x _ _ _ _ hf
          obtain ⟨v, F, hv1, -⟩ := hR.2.2.1 f _ _ _ hk
          obtain ⟨T1, X1, e1, st⟩ := getF X hx hZ hown (host := "") (Or.inl w) Via.refl rfl F (g := mkF mi pc Ls (.ref (A 0) :: St')) rfl rfl hd
          obtain rfl := hv1 rfl hj
          exact go X1 e1 h hL (SR.cr (by omega) hS') hsz st
        · obtain ⟨w, hk⟩ := tfld x _ _ _ _ hf
          obtain ⟨v, F, -, hv⟩ := hR.2.2.1 f _ _ _ hk
          obtain ⟨T1, X1, e1, st⟩ := getF X hx hZ hown (host := "") (Or.inl w) Via.refl rfl F (g := mkF mi pc Ls (.ref (A 0) :: St')) rfl rfl hd
          obtain ⟨y, rfl, hy⟩ := (hv (by omega)).int (by omega)
          exact go X1 e1 h hL (SR.ci hy hS') hsz st
        · obtain ⟨w, hk⟩ := tfld x _ _ _ _ hf
          obtain ⟨v, F, -, hv⟩ := hR.2.2.1 f _ _ _ hk
          obtain ⟨T1, X1, e1, st⟩ := getF X hx hZ hown (host := "") (Or.inl w) Via.refl rfl F (g := mkF mi pc Ls (.ref (A 0) :: St')) rfl rfl hd
          obtain ⟨y, rfl, hy⟩ := (hv (by omega)).long rfl
          exact go X1 e1 h hL (SR.cj hy hS') hsz st
      case putfield x =>
        obtain rfl : len = 3 := by simpa [chk, ilen] using hchk
        have lays : ∀ {f : Int} {kd j : Nat} {fin : Bool}, fkd f = some (kd, j, fin) → (fin = false ∨ q = 0) → (Jvm.Cond.lays C C (fnm f).1 (fnm f).2).before a0 Z = true ∨ ((Jvm.Cond.laysFinal C C (fnm f).1 (fnm f).2).before a0 Z = true ∧ C = C ∧ meth.name = "<init>") := fun hk hfq => by
          rcases (tfkd _ _ _ _ hk).1 with ⟨-, q1⟩ | ⟨q0, q1⟩
          · exact Or.inl q1
          · rcases hfq with hfq | hfq
            · rw [hfq] at q0; cases q0
            · exact Or.inr ⟨q1, rfl, hini hfq⟩
        rcases putfield_some h with ⟨f, j, fin, S', hf, rfl, ht, hq0, h⟩ | ⟨f, kd, j, fin, z, S', hf, hkd, rfl, hfq, h⟩ | ⟨f, j, fin, z, S', hf, rfl, hfq, h⟩
        · obtain ⟨w, hk⟩ := tfld x _ _ _ _ hf
          obtain ⟨hbj, St1, rfl, hS1⟩ := SR.r1 hSt
          obtain ⟨hb0, St', rfl, hS'⟩ := SR.r1 hS1
          obtain ⟨v, F, -⟩ := hR.2.2.1 f _ _ _ hk
          obtain ⟨T1, h1, X1, e1, W, st⟩ := putFN X hx hZ hown w Via.refl rfl F hR.1 (lays hk (Or.inr hq0)) tins (tfkd _ _ _ _ hk).2.1 (v := .ref (A j)) (v' := .ref (A j)) rfl rfl (g := mkF mi pc Ls (.ref (A j) :: .ref (A 0) :: St')) rfl rfl hd
          subst e1
          exact gw X1 (by omega) W (hR.wrP HT hk ht W) (by omega) (by omega) (fun q0 => absurd hq0 q0) h hS' st
        · obtain ⟨w, hk⟩ := tfld x _ _ _ _ hf
          obtain ⟨y, St1, rfl, hy, hS1⟩ := SR.i1 hSt
          obtain ⟨hb0, St', rfl, hS'⟩ := SR.r1 hS1
          obtain ⟨v, F, -⟩ := hR.2.2.1 f _ _ _ hk
          rcases hkd with rfl | rfl
          · obtain ⟨T1, h1, X1, e1, W, st⟩ := putFN X hx hZ hown w Via.refl rfl F hR.1 (lays hk hfq) tins (tfkd _ _ _ _ hk).2.1 (v := .int y) (v' := .int y) rfl rfl (g := mkF mi pc Ls (.int y :: .ref (A 0) :: St')) rfl rfl hd
            subst e1
            exact gw X1 (by omega) W (hR.wrF HT hk (by omega) (Or.inr ⟨by omega, y, rfl, hy⟩) W) (Nat.le_refl _) rfl (fun _ => rfl) h hS' st
          · obtain ⟨T1, h1, X1, e1, W, st⟩ := putFN X hx hZ hown w Via.refl rfl F hR.1 (lays hk hfq) tins (tfkd _ _ _ _ hk).2.1 (v := .int y) (v' := .int (y &&& 1)) rfl (fits_nar_bool y) (g := mkF mi pc Ls (.int y :: .ref (A 0) :: St')) rfl rfl hd
            subst e1
            exact gw X1 (by omega) W (hR.wrF HT hk (by omega) (Or.inr ⟨by omega, y &&& 1, rfl, by rw [and1_eq, hy]; rfl⟩) W) (Nat.le_refl _) rfl (fun _ => rfl) h hS' st
        · obtain ⟨w, hk⟩ := tfld x _ _ _ _ hf
          obtain ⟨y, St1, rfl, hy, hS1⟩ := SR.l1 hSt
          obtain ⟨hb0, St', rfl, hS'⟩ := SR.r1 hS1
          obtain ⟨v, F, -⟩ := hR.2.2.1 f _ _ _ hk
          obtain ⟨T1, h1, X1, e1, W, st⟩ := putFN X hx hZ hown w Via.refl rfl F hR.1 (lays hk hfq) tins (tfkd _ _ _ _ hk).2.1 (v := .long y) (v' := .long y) rfl rfl (g := mkF mi pc Ls (.long y :: .ref (A 0) :: St')) rfl rfl hd
          subst e1
          exact gw X1 (by omega) W (hR.wrF HT hk (by omega) (Or.inl ⟨rfl, y, rfl, hy⟩) W) (Nat.le_refl _) rfl (fun _ => rfl) h hS' st
      case iaload =>
        obtain rfl : len = 1 := by simpa [chk, ilen] using hchk
        obtain ⟨i, j, S', kd, nn, rfl, hl, hkd, hj, hi0, hi1, h⟩ := ald_some h
        cases Nat.eq_of_beq_eq_true hkd
        obtain ⟨y, St1, rfl, rfl, hS1⟩ := SR.i1 hSt
        obtain ⟨hbj, St', rfl, hS'⟩ := SR.r1 hS1
        obtain ⟨-, kd', n', hl', cl, hA, hsz', hel⟩ := hR.2.2.2.1 j (tlay j _ _ hl).1 (by omega)
        cases hl.symm.trans hl'
        obtain ⟨v, hv, hev⟩ := hel y.toNatClampNeg (by have := clamp32 hi0; omega)
        obtain ⟨w, rfl, hw⟩ := hev.int (by omega)
        rw [clamp32 hi0] at hw
        exact go X rfl h hL (SR.ci hw hS') hsz (fun target hr => X.iaload hx hA.1 (State.isArrayOf_alike hZ.alike hA.2.1) hA.2.2 (idx32 hi0 (by omega)) hv (g := mkF mi pc Ls (.int y :: .ref (A j) :: St')) rfl rfl hd target hr)
      case laload =>
        obtain rfl : len = 1 := by simpa [chk, ilen] using hchk
        obtain ⟨i, j, S', kd, nn, rfl, hl, hkd, hj, hi0, hi1, h⟩ := ald_some h
        cases Nat.eq_of_beq_eq_true hkd
        obtain ⟨y, St1, rfl, rfl, hS1⟩ := SR.i1 hSt
        obtain ⟨hbj, St', rfl, hS'⟩ := SR.r1 hS1
        obtain ⟨-, kd', n', hl', cl, hA, hsz', hel⟩ := hR.2.2.2.1 j (tlay j _ _ hl).1 (by omega)
        cases hl.symm.trans hl'
        obtain ⟨v, hv, hev⟩ := hel y.toNatClampNeg (by have := clamp32 hi0; omega)
        obtain ⟨w, rfl, hw⟩ := hev.long rfl
        rw [clamp32 hi0] at hw
        exact go X rfl h hL (SR.cj hw hS') hsz (fun target hr => X.laload hx hA.1 (State.isArrayOf_alike hZ.alike hA.2.1) hA.2.2 (idx32 hi0 (by omega)) hv (g := mkF mi pc Ls (.int y :: .ref (A j) :: St')) rfl rfl hd target hr)
      case baload =>
        obtain rfl : len = 1 := by simpa [chk, ilen] using hchk
        obtain ⟨i, j, S', kd, nn, rfl, hl, hkd, hj, hi0, hi1, h⟩ := ald_some h
        obtain ⟨y, St1, rfl, rfl, hS1⟩ := SR.i1 hSt
        obtain ⟨hbj, St', rfl, hS'⟩ := SR.r1 hS1
        obtain ⟨-, kd', n', hl', cl, hA, hsz', hel⟩ := hR.2.2.2.1 j (tlay j _ _ hl).1 (by omega)
        cases hl.symm.trans hl'
        have hkd : kd = 2 ∨ kd = 3 := by
          rw [Bool.or_eq_true] at hkd
          exact hkd.imp Nat.eq_of_beq_eq_true Nat.eq_of_beq_eq_true
        obtain ⟨v, hv, hev⟩ := hel y.toNatClampNeg (by have := clamp32 hi0; omega)
        obtain ⟨w, rfl, hw⟩ := hev.int (by omega)
        rw [clamp32 hi0] at hw
        rcases hkd with rfl | rfl
        · exact go X rfl h hL (SR.ci hw hS') hsz (fun target hr => X.baloadBooleans hx hA.1 (State.isArrayOf_alike hZ.alike hA.2.1) hA.2.2 (idx32 hi0 (by omega)) hv (g := mkF mi pc Ls (.int y :: .ref (A j) :: St')) rfl rfl hd target hr)
        · exact go X rfl h hL (SR.ci hw hS') hsz (fun target hr => X.baloadBytes hx hA.1 (State.isArrayOf_alike hZ.alike hA.2.1) hA.2.2 (idx32 hi0 (by omega)) hv (g := mkF mi pc Ls (.int y :: .ref (A j) :: St')) rfl rfl hd target hr)
      case iastore =>
        obtain rfl : len = 1 := by simpa [chk, ilen] using hchk
        obtain ⟨z, i, j, S', kd, nn, rfl, hl, hkd, hj, hi0, hi1, h⟩ := asi_some h
        cases Nat.eq_of_beq_eq_true hkd
        obtain ⟨zz, y, St1, rfl, hzz, rfl, hS1⟩ := SR.i2 hSt
        obtain ⟨hbj, St', rfl, hS'⟩ := SR.r1 hS1
        have h1j := (tlay j _ _ hl).1
        obtain ⟨-, kd', n', hl', cl, hA, hsz', hel⟩ := hR.2.2.2.1 j h1j (by omega)
        cases hl.symm.trans hl'
        obtain ⟨T1, h1, X1, e1, W, st⟩ := stI X hx hZ rfl hA (idx32 hi0 (by omega)) (x := zz) (g := mkF mi pc Ls (.int zz :: .int y :: .ref (A j) :: St')) rfl rfl hd
        subst e1
        have hR1 := hR.wrA h1j (by omega) hl (Or.inr ⟨by omega, zz, rfl, hzz⟩) W
        rw [clamp32 hi0] at hR1
        exact gw X1 (by omega) W hR1 (Nat.le_refl _) rfl (fun _ => rfl) h hS' st
      case lastore =>
        obtain rfl : len = 1 := by simpa [chk, ilen] using hchk
        obtain ⟨z, i, j, S', kd, nn, rfl, hl, hkd, hj, hi0, hi1, h⟩ := asl_some h
        cases Nat.eq_of_beq_eq_true hkd
        obtain ⟨zz, St0, rfl, hzz, hS0⟩ := SR.l1 hSt
        obtain ⟨y, St1, rfl, rfl, hS1⟩ := SR.i1 hS0
        obtain ⟨hbj, St', rfl, hS'⟩ := SR.r1 hS1
        have h1j := (tlay j _ _ hl).1
        obtain ⟨-, kd', n', hl', cl, hA, hsz', hel⟩ := hR.2.2.2.1 j h1j (by omega)
        cases hl.symm.trans hl'
        obtain ⟨T1, h1, X1, e1, W, st⟩ := stJ X hx hZ rfl hA (idx32 hi0 (by omega)) (x := zz) (g := mkF mi pc Ls (.long zz :: .int y :: .ref (A j) :: St')) rfl rfl hd
        subst e1
        have hR1 := hR.wrA h1j (by omega) hl (Or.inl ⟨rfl, zz, rfl, hzz⟩) W
        rw [clamp32 hi0] at hR1
        exact gw X1 (by omega) W hR1 (Nat.le_refl _) rfl (fun _ => rfl) h hS' st
      case bastore =>
        obtain rfl : len = 1 := by simpa [chk, ilen] using hchk
        obtain ⟨z, i, j, S', kd, nn, rfl, hl, hkd, hj, hi0, hi1, h⟩ := asi_some h
        obtain ⟨zz, y, St1, rfl, hzz, rfl, hS1⟩ := SR.i2 hSt
        obtain ⟨hbj, St', rfl, hS'⟩ := SR.r1 hS1
        have h1j := (tlay j _ _ hl).1
        obtain ⟨-, kd', n', hl', cl, hA, hsz', hel⟩ := hR.2.2.2.1 j h1j (by omega)
        cases hl.symm.trans hl'
        have hkd : kd = 2 ∨ kd = 3 := by
          rw [Bool.or_eq_true] at hkd
          exact hkd.imp Nat.eq_of_beq_eq_true Nat.eq_of_beq_eq_true
        rcases hkd with rfl | rfl
        · obtain ⟨T1, h1, X1, e1, W, st⟩ := stZ X hx hZ rfl hA (idx32 hi0 (by omega)) (x := zz) (g := mkF mi pc Ls (.int zz :: .int y :: .ref (A j) :: St')) rfl rfl hd
          subst e1
          have hR1 := hR.wrA (z := z % 2) h1j (by omega) hl (Or.inr ⟨by omega, zz &&& 1, rfl, by rw [and1_eq, hzz]⟩) W
          rw [clamp32 hi0] at hR1
          exact gw X1 (by omega) W hR1 (Nat.le_refl _) rfl (fun _ => rfl) h hS' st
        · obtain ⟨T1, h1, X1, e1, W, st⟩ := stB X hx hZ rfl hA (idx32 hi0 (by omega)) (x := zz) (g := mkF mi pc Ls (.int zz :: .int y :: .ref (A j) :: St')) rfl rfl hd
          subst e1
          have hR1 := hR.wrA (z := b8 z) h1j (by omega) hl (Or.inr ⟨by omega, zz.toInt8.toInt32, rfl, by rw [b8_eq, hzz]⟩) W
          rw [clamp32 hi0] at hR1
          exact gw X1 (by omega) W hR1 (Nat.le_refl _) rfl (fun _ => rfl) h hS' st
      case arraylength =>
        obtain rfl : len = 1 := by simpa [chk, ilen] using hchk
        obtain ⟨j, S', kd, nn, rfl, hl, hj, h⟩ := arraylength_some h
        obtain ⟨hbj, St', rfl, hS'⟩ := SR.r1 hSt
        obtain ⟨t1, t2, t3, t4, -⟩ := tlay j _ _ hl
        obtain ⟨-, kd', n', hl', cl, hA, hsz', hel⟩ := hR.2.2.2.1 j t1 (by omega)
        cases hl.symm.trans hl'
        exact go X rfl h hL (SR.ci (by rw [len_toInt (by omega)]; exact hsz') hS') hsz (fun target hr => X.arraylength hx hA.1 (State.isArrayOf_alike hZ.alike hA.2.1) (g := mkF mi pc Ls (.ref (A j) :: St')) rfl rfl hd target hr)
      case newarray a =>
        obtain rfl : len = 2 := by simpa [chk, ilen] using hchk
        obtain ⟨S', kd, nn, rfl, hl, ht, hka, hq0, h⟩ := newarray_some h
        obtain ⟨y, St', rfl, hy, hS'⟩ := SR.i1 hSt
        obtain ⟨t1, t2, t3, t4, t5, t6⟩ := tlay _ _ _ hl
        obtain ⟨r1, r2⟩ := hroom hq0
        have hty := kty_akind hka t5
        have e1 : (t + 1) / 2 = t / 2 := by omega
        rw [e1] at r1 r2
        have e2 : (t + 1 + 1) / 2 = t / 2 + 1 := by omega
        have hcl : (y.toNatClampNeg : Int) = nn := by rw [clamp32 (by omega)]; exact hy
        have es : psum P (t / 2 + 1) = psum P (t / 2) + nn.toNat := by simp only [psum, hl]
        have em := psum_mono P t2
        obtain ⟨T1, h1, cA, X1, eh, E, hA, st⟩ := newP X hx hZ (aty := a) (by rw [hty]; exact t6) rfl (g := mkF mi pc Ls (.int y :: St')) rfl hd rfl (by rw [Int32.lt_iff_toInt_lt]; simp only [Int32.reduceToInt]; omega) (cap := y.toNatClampNeg) (Nat.le_refl _) (by omega) (by omega) (by omega)
        subst eh
        rw [hty] at hA
        have hR1 := hR.new ht hn0 hl t5 E hy t3 hA
        have hAg : ∀ j, j ≤ (t + 1) / 2 → updA A (t / 2 + 1) T.heap.size j = A j := fun j hj => updA_ne (by omega)
        refine EndP.trans (l1 := []) (IH q _ _ _ (t + 1) m r t' m' h ps ml rk fr lc hq p e R s mi args below meth c T1 _ (cells + 1) (slots + y.toNatClampNeg) (updA A (t / 2 + 1) T.heap.size) Ls (.ref T.heap.size :: St') n0 (by rw [List.append_nil]; exact X1) hx hZ hown hby hml hret hini hR1 (hL.mono hAg (by omega)) ⟨⟨by omega, by rw [updA_eq]⟩, hS'.mono hAg (by omega)⟩ hsz (Nat.le_trans hn0 E.1) hfr hlc (by omega) (by omega) (fun _ => ⟨by rw [e2]; omega, by rw [e2, es]; omega⟩)) hAg (by omega) (fun j h1 h2 => ?_) (Fr.nil _) (by omega) (by rw [e2, es, e1]; omega) (fun q0 => absurd hq0 q0) (Sam.ext E _) st
        have : j = t / 2 + 1 := by omega
        subst this
        rw [updA_eq]; exact Nat.le_refl _
      case invokespecial x =>
        obtain rfl : len = 3 := by simpa [chk, ilen] using hchk
        obtain ⟨S', ps', ml', rk', fr', lc', rfl, hq', hob, h1, h2, h⟩ := invokespecial_some h
        cases hq.symm.trans hq'
        obtain ⟨hb0, St', rfl, hS'⟩ := SR.r1 hSt
        obtain ⟨T1, X1, e1, st⟩ := initO X hx hZ hown (tobi x hob) tob1 tob2 rfl (g := mkF mi pc Ls (.ref (A 0) :: St')) rfl (by rw [hml]; exact hsz) rfl hd (by omega) (W := cats S') (by show 2 * 0 + _ ≤ _; rw [hS'.catsum]; omega) (by omega)
        exact go X1 e1 h hL hS' hsz st
      case invokevirtual x =>
        obtain rfl : len = 3 := by simpa [chk, ilen] using hchk
        obtain ⟨q', ps', ml', rk', fr', lc', ps0, ml0, rk0, fr0, lc0, as, S', y, hm', hi', hq0, hpop, hf1, hl1, hq'0, hlen, hcall, hcont⟩ := invokevirtual_some h
        clear h
        cases hq.symm.trans hq0
        obtain ⟨y1, t1, m1⟩ := y
        obtain ⟨B, St1, hB, hS1, rfl, hBl⟩ := popA_rel hpop hSt
        obtain ⟨hb0, St', rfl, hS'⟩ := SR.r1 hS1
        have hargs : SR A ((t + 1) / 2) (vr 0 :: as) (.ref (A 0) :: B) := ⟨⟨by omega, rfl⟩, by simpa using hB A ((t + 1) / 2) [] trivial⟩
        obtain ⟨icls, iinst, icode, ipv, params, ipd, ipl⟩ := tinf q' _ _ _ _ _ hi'
        have hM := metP (l := l) (cl := 0) (sl := 0) HT IH hi' hcall hlen hn0 hR hargs (fun q0 => absurd q0 hq'0)
        have hBk := backOf (R := R) (p := p) (e := e) (below := below) (s := s) (args := args) (len := 3) (W := cats S') (rm := { frames := fr', cells := 0, slots := 0, locals := lc' }) (Q := QP P C fnm fkd Z n0 q' t A T.heap y1 t1 m1) hM hZ icode (by rw [icls]; exact tini) (by show fr' + 1 ≤ R.frames; omega) (by show cats S' + (ml' + 11) + lc' ≤ R.locals; omega)
        have hyn : (nm q').cls ≠ "java/lang/invoke/MethodHandle" ∧ (nm q').cls ≠ "java/lang/invoke/VarHandle" := by rw [icls]; exact thn
        have fin : ∀ {T1 : State} {L1 : List Loc} {v : Option Value}, Stand p l e R s mi args below meth c T1 (locs ++ L1) cells slots → QP P C fnm fkd Z n0 q' t A T.heap y1 t1 m1 v T1.heap L1 →
            (∀ target, Steps p.tables e below (T1.setTop (mkF mi (pc + 3) Ls (v.toList ++ St'))) target → Steps p.tables e below (T.setTop (mkF mi pc Ls (B.reverse ++ .ref (A 0) :: St'))) target) →
            EndP P C fnm fkd Z nA p l e R s mi args below meth c n0 q T A t locs cells slots (mkF mi pc Ls (B.reverse ++ .ref (A 0) :: St')) r t' m' := fun {T1 L1 v} X1 hQ st => by
          obtain ⟨A', g1, g2, g3, g4, g5, g6, g7, g8⟩ := hQ
          obtain rfl := g8 hq'0
          exact EndP.trans (IH q _ _ _ t1 m1 r t' m' hcont ps ml rk fr lc hq p e R s mi args below meth c T1 _ cells slots A' Ls _ n0 X1 hx hZ hown hby hml hret hini g1 (hL.mono g2 (Nat.le_refl _)) (g7.push (hS'.mono g2 (Nat.le_refl _))) hsz (Nat.le_trans hn0 g6.1) hfr hlc hce hsl hroom) g2 (Nat.le_refl _) g4 g5 (Nat.le_refl _) (Nat.le_refl _) (fun _ => ⟨rfl, rfl, rfl⟩) g6 st
        obtain ⟨cB, kB, i1, i2, i3⟩ := isOf hZ rfl hR.1
        have hlenA : ∀ sig, parseMethodDescriptor (nm q').desc = some sig → B.length = sig.parameters.length := lenOf ipd (by rw [hBl, ipl])
        rcases ipv hq'0 with hpv | ⟨hdc, hsel⟩
        · obtain ⟨cc, hcc, hcv⟩ := hR.1.cell
          have hPr : s.PrivateAt (nm q') := Jvm.Cond.privateMethod_at (mvP (args := args) hZ hpv)
          obtain ⟨c2, k2, j1, j2, j3, j4, -⟩ := Jvm.Cond.instantiable_spec (mv (args := args) hZ tins)
          have hsel : (Jvm.Cond.selects (nm q').cls (nm q') (nm q')).before args s = true := Jvm.Stand.selects_self_of_private (by rw [icls]; exact j1) j2 (by simp only [Bool.or_eq_false_iff] at j4; exact j4.1) hPr (mv hZ iinst) hyn
          obtain ⟨v, vm1, ⟨T1, L1, k1, n1⟩, -, X1, ⟨Lc, hQ, l1, c1, s1⟩, st⟩ := X.privateBack hx hown (mv hZ (tmth x _ hm')) (mv hZ iinst) hsel hPr (mv hZ icode) hyn hBk (g := mkF mi pc Ls (B.reverse ++ .ref (A 0) :: St')) rfl (by rw [hml]; exact hsz) (Steps.refl _) (a := A 0) hcc hcv (argsL := B) (rest := St') hlenA rfl (by show 2 * 0 + _ ≤ _; rw [hS'.catsum]; omega) hd (fun _ _ => ⟨rfl, rfl, hce, hsl⟩)
          dsimp only [Pt.U, Pt.locs, Pt.cells, Pt.slots] at X1 l1 c1 s1 st hQ
          subst l1 c1 s1
          exact fin X1 hQ (fun target hr => st.trans hr)
        · obtain ⟨v, vm1, ⟨T1, L1, k1, n1⟩, -, X1, ⟨Lc, hQ, l1, c1, s1⟩, st⟩ := X.virtualBack hx (C := C) (y := nm q') (z := nm q') hown (mv hZ (tmth x _ hm')) (mv hZ hdc) (notFace_of_selects (args := args) (mv hZ hsel)) (mv hZ hsel) (mv hZ iinst) hyn hBk i1 i3 (g := mkF mi pc Ls (B.reverse ++ .ref (A 0) :: St')) rfl (by rw [hml]; exact hsz) (Steps.refl _) (argsL := B) (rest := St') hlenA rfl (by show 2 * 0 + _ ≤ _; rw [hS'.catsum]; omega) hd (fun _ _ => ⟨rfl, rfl, hce, hsl⟩)
          dsimp only [Pt.U, Pt.locs, Pt.cells, Pt.slots] at X1 l1 c1 s1 st hQ
          subst l1 c1 s1
          exact fin X1 hQ (fun target hr => st.trans hr)
      case ireturn =>
        obtain rfl : len = 1 := by simpa [chk, ilen] using hchk
        obtain ⟨z, S', ps', ml', rk', fr', lc', rfl, hq', hcase⟩ := ireturn_some h
        cases hq.symm.trans hq'
        obtain ⟨y, St', rfl, hy, hS'⟩ := SR.i1 hSt
        rcases hcase with ⟨rfl, hr⟩ | ⟨rfl, hr⟩
        · cases hr
          exact ⟨some (.int y), T, A, [], cells, slots, by rw [List.append_nil]; exact X, hR, fun _ _ => rfl, Nat.le_refl _, fun j h1 h2 => by omega, Fr.nil _, Nat.le_refl _, Nat.le_refl _, fun _ => ⟨rfl, rfl, rfl⟩, Sam.refl _ _ _, ⟨y, rfl, hy⟩, (fun q => by rw [hret] at q; cases q), fun fs hfs => retI' X hx hret hd hfs⟩
        · cases hr
          exact ⟨some (.int (y &&& 1)), T, A, [], cells, slots, by rw [List.append_nil]; exact X, hR, fun _ _ => rfl, Nat.le_refl _, fun j h1 h2 => by omega, Fr.nil _, Nat.le_refl _, Nat.le_refl _, fun _ => ⟨rfl, rfl, rfl⟩, Sam.refl _ _ _, ⟨_, rfl, by rw [and1_eq, hy]⟩, (fun q => by rw [hret] at q; cases q), fun fs hfs => retN X hx (t := .boolean) hret (by simp) hd hfs⟩
      case lreturn =>
        obtain rfl : len = 1 := by simpa [chk, ilen] using hchk
        obtain ⟨z, S', ps', ml', fr', lc', rfl, hq', hr⟩ := lreturn_some h
        cases hq.symm.trans hq'
        cases hr
        obtain ⟨y, St', rfl, hy, hS'⟩ := SR.l1 hSt
        exact ⟨some (.long y), T, A, [], cells, slots, by rw [List.append_nil]; exact X, hR, fun _ _ => rfl, Nat.le_refl _, fun j h1 h2 => by omega, Fr.nil _, Nat.le_refl _, Nat.le_refl _, fun _ => ⟨rfl, rfl, rfl⟩, Sam.refl _ _ _, ⟨y, rfl, hy⟩, (fun q => by rw [hret] at q; cases q), fun fs hfs => retOut X hx hret rfl (Or.inr (Or.inl ⟨rfl, rfl, y, rfl⟩)) hd hfs⟩
      case return_ =>
        obtain rfl : len = 1 := by simpa [chk, ilen] using hchk
        obtain ⟨ps', ml', fr', lc', rfl, hq', hr⟩ := return_some h
        cases hq.symm.trans hq'
        cases hr
        cases St with
        | cons _ _ => exact hSt.elim
        | nil => exact ⟨none, T, A, [], cells, slots, by rw [List.append_nil]; exact X, hR, fun _ _ => rfl, Nat.le_refl _, fun j h1 h2 => by omega, Fr.nil _, Nat.le_refl _, Nat.le_refl _, fun _ => ⟨rfl, rfl, rfl⟩, Sam.refl _ _ _, rfl, fun _ => rfl, fun fs hfs => X.returnOut hx hret hd hfs⟩
      all_goals cases hsp
end Jvm.OwnMini
namespace Jvm.OwnMini
open Jvm Jvm.ClassFile Sem Op Lib Jvm.Free Jvm.Stand Jvm.LawKit Jvm.RoadKit
/-! The law's own methods: the objects that it has made (reference k + 1: the k-th), the script (reference 0). -/
abbrev OWd := List (Nat × OMem)
abbrev RTL := Option (Option OV × OWd)
/-- code; constants; by the pool's index: the project's method, is it the maker, the law's own static method, is it the project's class; by the law's method: parameters from the last (0 int, 1 long, 2 reference), locals, kind of the result, frames, words; live variables -/
abbrev LT := CodeT × (Nat → Option OV) × (Nat → Option Nat) × (Nat → Bool) × (Nat → Option Nat) × (Nat → Bool) × (Nat → Option (List Nat × Nat × Nat × Nat × Nat)) × LivT
abbrev lcode (Q : LT) : CodeT := Q.1
abbrev lcst (Q : LT) : Nat → Option OV := Q.2.1
abbrev lvm (Q : LT) : Nat → Option Nat := Q.2.2.1
abbrev lmk (Q : LT) : Nat → Bool := Q.2.2.2.1
abbrev lsm (Q : LT) : Nat → Option Nat := Q.2.2.2.2.1
abbrev lcl (Q : LT) : Nat → Bool := Q.2.2.2.2.2.1
abbrev linf (Q : LT) : Nat → Option (List Nat × Nat × Nat × Nat × Nat) := Q.2.2.2.2.2.2.1
abbrev lliv (Q : LT) : LivT := Q.2.2.2.2.2.2.2
/-- the script: is there one, its length, its cells -/
abbrev ScT := Bool × Int × (Int → Int)
def wget : OWd → Nat → Option (Nat × OMem)
  | [], _ => none
  | o :: _, 0 => some o
  | _ :: W, n + 1 => wget W n
def wput : OWd → Nat → Nat × OMem → OWd
  | [], _, _ => []
  | _ :: W, 0, x => x :: W
  | o :: W, n + 1, x => o :: wput W n x
def z0 : OMem := fun _ _ => 0
def popB : List Nat → List OV → List OV → Option (List OV × List OV)
  | [], S, acc => some (acc, S)
  | 0 :: ts, .inl z :: S, acc => popB ts S (vi z :: acc)
  | 1 :: ts, .inr (.inl z) :: S, acc => popB ts S (vl z :: acc)
  | 2 :: ts, .inr (.inr z) :: S, acc => popB ts S (vr z :: acc)
  | _, _, _ => none
def isSpecL : Instr → Bool
  | .new _ | .arraylength | .iaload | .invokespecial _ | .invokevirtual _ | .invokestatic _ | .ireturn | .lreturn | .return_ => true
  | _ => false
def stepLS (P : PT) (Q : LT) (T mo : Nat) (sc : ScT) (kP : Nat → Nat → OLs → List OV → Nat → OMem → RT) (k : Nat → Nat → OLs → List OV → OWd → RTL) (q pc : Nat) (L : OLs) (S : List OV) (W : OWd) (i : Instr) (len : Nat) : RTL :=
  match i with
  | .new x => cond (lcl Q x && Nat.beq q 0 && Nat.blt W.length mo) (k q (pc + len) L (vr (W.length + 1) :: S) (W ++ [(0, z0)])) none
  | .arraylength =>
    match S with
    | .inr (.inr 0) :: S' => cond sc.1 (k q (pc + len) L (vi sc.2.1 :: S') W) none
    | _ => none
  | .iaload =>
    match S with
    | .inl i :: .inr (.inr 0) :: S' => cond sc.1 (if 0 ≤ i ∧ i < sc.2.1 then k q (pc + len) L (vi (sc.2.2 i) :: S') W else none) none
    | _ => none
  | .invokespecial x =>
    match pinf P 0, linf Q q with
    | some (ps, ml, _, fr', lc'), some (_, _, _, fr, lc) =>
      match popA ps S [] with
      | some (as, .inr (.inr (o + 1)) :: S') =>
        match wget W o with
        | some (0, m) =>
          cond (lmk Q x && Nat.beq q 0 && Nat.ble (fr' + 1) fr && Nat.ble (cats S' + (ml + 11) + lc') lc && Nat.ble (initL (vr 0 :: as) ml).length ml)
            ((kP 0 0 (initL (vr 0 :: as) ml) [] 0 m).bind fun y => cond (Nat.beq y.2.1 T) (k q (pc + len) L (pushR y.1 S') (wput W o y.2)) none) none
        | _ => none
      | _ => none
    | _, _ => none
  | .invokevirtual x =>
    match lvm Q x with
    | some q' =>
      match pinf P q', linf Q q with
      | some (ps, ml, _, fr', lc'), some (_, _, _, fr, lc) =>
        match popA ps S [] with
        | some (as, .inr (.inr (o + 1)) :: S') =>
          match wget W o with
          | some (t, m) =>
            cond (Nat.ble (fr' + 1) fr && Nat.ble (cats S' + (ml + 11) + lc') lc && !(Nat.beq q' 0) && Nat.ble (initL (vr 0 :: as) ml).length ml)
              ((kP q' 0 (initL (vr 0 :: as) ml) [] t m).bind fun y => k q (pc + len) L (pushR y.1 S') (wput W o y.2)) none
          | none => none
        | _ => none
      | _, _ => none
    | none => none
  | .invokestatic x =>
    match lsm Q x with
    | some q' =>
      match linf Q q', linf Q q with
      | some (ps, ml, _, fr', lc'), some (_, _, _, fr, lc) =>
        match popB ps S [] with
        | some (as, S') =>
          cond (Nat.ble (fr' + 1) fr && Nat.ble (cats S' + (ml + 11) + lc') lc && !(Nat.beq q' 0) && Nat.ble (initL as ml).length ml)
            ((k q' 0 (initL as ml) [] W).bind fun y => k q (pc + len) L (pushR y.1 S') y.2) none
        | none => none
      | _, _ => none
    | none => none
  | .ireturn =>
    match S with
    | .inl z :: _ =>
      match linf Q q with
      | some (_, _, 1, _) => some (some (vi z), W)
      | some (_, _, 2, _) => some (some (vi (z % 2)), W)
      | _ => none
    | _ => none
  | .lreturn =>
    match S with
    | .inr (.inl z) :: _ =>
      match linf Q q with
      | some (_, _, 4, _) => some (some (vl z), W)
      | _ => none
    | _ => none
  | .return_ =>
    match S with
    | [] =>
      match linf Q q with
      | some (_, _, 0, _) => some (none, W)
      | _ => none
    | _ => none
  | _ => none
def stepLI (P : PT) (Q : LT) (T mo : Nat) (sc : ScT) (kP : Nat → Nat → OLs → List OV → Nat → OMem → RT) (k : Nat → Nat → OLs → List OV → OWd → RTL) (q pc : Nat) (L : OLs) (S : List OV) (W : OWd) (i : Instr) (len : Nat) : RTL :=
  cond (isSpecL i) (stepLS P Q T mo sc kP k q pc L S W i len) (pstep (lcst Q) i pc len L S fun pc' L' S' => k q pc' L' S' W)
def stepL (P : PT) (Q : LT) (T mo : Nat) (sc : ScT) (kP : Nat → Nat → OLs → List OV → Nat → OMem → RT) (k : Nat → Nat → OLs → List OV → OWd → RTL) (q pc : Nat) (L : OLs) (S : List OV) (W : OWd) : RTL :=
  match lcode Q q pc with
  | some (i, len) => stepLI P Q T mo sc kP k q pc (mask (lliv Q q pc) L) S W i len
  | none => none
def runL (P : PT) (Q : LT) (T mo : Nat) (sc : ScT) : Nat → Nat → Nat → OLs → List OV → OWd → RTL
  | 0 => fun _ _ _ _ _ => none
  | n + 1 => stepL P Q T mo sc (runP P n) (runL P Q T mo sc n)
end Jvm.OwnMini
namespace Jvm.OwnMini
open Jvm Jvm.ClassFile Sem Op Lib Jvm.Free Jvm.Stand Jvm.LawKit Jvm.RoadKit
/-! The law's objects and script in the JVM's heap. -/
def ScR (Z : State) (h : Heap) (n0 : Nat) (a : Addr) (sc : ScT) : Prop := sc.1 = true → a < n0 ∧ ∃ c : Cell, Arr Z h a c .int ∧ (c.slots.size : Int) = sc.2.1 ∧ sc.2.1 < 2147483648 ∧ ∀ i : Nat, i < c.slots.size → ∃ x : Int32, c.slots[i]? = some (.int x) ∧ x.toInt = sc.2.2 i
def RepW (P : PT) (C : String) (fnm : FN) (fkd : FK) (Z : State) (sc : ScT) (h : Heap) (A : Nat → Addr) (AO : Nat → Nat → Addr) (n0 : Nat) (W : OWd) : Prop :=
  (∀ k t m, wget W k = some (t, m) → RepO P C fnm fkd Z h (AO k) n0 t m ∧ AO k 0 = A (k + 1)) ∧
  (∀ k k' t m t' m' j j', wget W k = some (t, m) → wget W k' = some (t', m') → k ≠ k' → j ≤ (t + 1) / 2 → j' ≤ (t' + 1) / 2 → AO k j ≠ AO k' j') ∧ ScR Z h n0 (A 0) sc
def cW (a b : Nat) : OWd → Nat
  | [] => 0
  | (0, _) :: W => a + cW a b W
  | (_ + 1, _) :: W => (a + b) + cW a b W
def ts (W : OWd) : List Nat := W.map fun o => o.1
theorem cW_ts {a b : Nat} : ∀ {W W' : OWd}, ts W = ts W' → cW a b W = cW a b W'
  | [], [], _ => rfl
  | [], _ :: _, h => by simp [ts] at h
  | _ :: _, [], h => by simp [ts] at h
  | (t, m) :: W, (t', m') :: W', h => by
    simp only [ts, List.map_cons, List.cons.injEq] at h
    obtain ⟨rfl, h⟩ := h
    have := cW_ts (a := a) (b := b) (W := W) (W' := W') h
    cases t <;> simp only [cW, this]
theorem ts_len {W W' : OWd} (h : ts W = ts W') : W.length = W'.length := by
  have := congrArg List.length h
  simpa [ts] using this
theorem cW_le (a b : Nat) : ∀ W : OWd, cW a b W ≤ W.length * (a + b)
  | [] => by simp [cW]
  | (0, _) :: W => by
    have := cW_le a b W
    simp only [cW, List.length_cons, Nat.add_mul]; omega
  | (_ + 1, _) :: W => by
    have := cW_le a b W
    simp only [cW, List.length_cons, Nat.add_mul]; omega
theorem cW_append (a b : Nat) (m : OMem) : ∀ W : OWd, cW a b (W ++ [(0, m)]) = cW a b W + a
  | [] => by simp [cW]
  | (0, _) :: W => by simp only [List.cons_append, cW, cW_append a b m W]; omega
  | (_ + 1, _) :: W => by simp only [List.cons_append, cW, cW_append a b m W]; omega
theorem wget_lt : ∀ {W : OWd} {k : Nat} {o : Nat × OMem}, wget W k = some o → k < W.length
  | [], _, _, h => by cases h
  | _ :: _, 0, _, _ => by simp
  | _ :: W, k + 1, _, h => by
    have := wget_lt (W := W) (k := k) h
    simp only [List.length_cons]; omega
theorem wput_len : ∀ (W : OWd) (k : Nat) (x : Nat × OMem), (wput W k x).length = W.length
  | [], _, _ => rfl
  | _ :: _, 0, _ => rfl
  | _ :: W, k + 1, x => by simp [wput, wput_len W k x]
theorem wget_wput : ∀ {W : OWd} {k j : Nat} {x : Nat × OMem}, k < W.length → wget (wput W k x) j = if j = k then some x else wget W j
  | [], k, j, x, h => by simp at h
  | o :: W, 0, 0, x, h => by simp [wput, wget]
  | o :: W, 0, j + 1, x, h => by simp [wput, wget]
  | o :: W, k + 1, 0, x, h => by simp [wput, wget]
  | o :: W, k + 1, j + 1, x, h => by
    have := wget_wput (W := W) (k := k) (j := j) (x := x) (by simpa using h)
    simp only [wput, wget, this, Nat.add_right_cancel_iff]
theorem ts_wput : ∀ {W : OWd} {k t : Nat} {m m' : OMem}, wget W k = some (t, m) → ts (wput W k (t, m')) = ts W
  | [], _, _, _, _, h => by cases h
  | (t, m) :: W, 0, _, _, _, h => by cases h; rfl
  | o :: W, k + 1, t, m, m', h => by
    have := ts_wput (W := W) (k := k) (t := t) (m := m) (m' := m') h
    simp only [ts, wput, List.map_cons, List.cons.injEq, true_and]
    exact this
theorem cW_made {a b : Nat} : ∀ {W : OWd} {k t : Nat} {m m' : OMem}, wget W k = some (0, m) → cW a b (wput W k (t + 1, m')) = cW a b W + b
  | [], _, _, _, _, h => by cases h
  | (t0, m) :: W, 0, _, _, _, h => by cases h; simp only [wput, cW]; omega
  | (0, m0) :: W, k + 1, t, m, m', h => by
    have := cW_made (a := a) (b := b) (W := W) (k := k) (t := t) (m := m) (m' := m') h
    simp only [wput, cW, this]; omega
  | (_ + 1, m0) :: W, k + 1, t, m, m', h => by
    have := cW_made (a := a) (b := b) (W := W) (k := k) (t := t) (m := m) (m' := m') h
    simp only [wput, cW, this]; omega
theorem cW_raw {a b : Nat} : ∀ {W : OWd} {k : Nat} {m : OMem}, wget W k = some (0, m) → cW a b W + b ≤ W.length * (a + b)
  | [], _, _, h => by cases h
  | (t0, m) :: W, 0, _, h => by
    cases h
    have := cW_le a b W
    simp only [cW, List.length_cons, Nat.add_mul]; omega
  | (0, m0) :: W, k + 1, m, h => by
    have := cW_raw (a := a) (b := b) (W := W) (k := k) (m := m) h
    simp only [cW, List.length_cons, Nat.add_mul] at *; omega
  | (_ + 1, m0) :: W, k + 1, m, h => by
    have := cW_raw (a := a) (b := b) (W := W) (k := k) (m := m) h
    simp only [cW, List.length_cons, Nat.add_mul] at *; omega
theorem wget_append : ∀ {W : OWd} {k : Nat} {x o : Nat × OMem}, wget (W ++ [x]) k = some o → (wget W k = some o ∧ k < W.length) ∨ (k = W.length ∧ o = x)
  | [], 0, x, o, h => by cases h; exact Or.inr ⟨rfl, rfl⟩
  | [], k + 1, x, o, h => by cases h
  | w :: W, 0, x, o, h => Or.inl ⟨h, by simp⟩
  | w :: W, k + 1, x, o, h => by
    rcases wget_append (W := W) (k := k) h with ⟨h1, h2⟩ | ⟨h1, h2⟩
    · exact Or.inl ⟨h1, by simpa using h2⟩
    · exact Or.inr ⟨by simpa using h1, h2⟩
section W
variable {P : PT} {C : String} {fnm : FN} {fkd : FK} {Z : State} {sc : ScT} {h h' : Heap} {A : Nat → Addr} {AO : Nat → Nat → Addr} {n0 : Nat} {W : OWd}
theorem RepW.same (hR : RepW P C fnm fkd Z sc h A AO n0 W) (e : h' = h) : RepW P C fnm fkd Z sc h' A AO n0 W := by rw [e]; exact hR
/-- an object's method has run -/
theorem RepW.ran (hR : RepW P C fnm fkd Z sc h A AO n0 W) {o t t' : Nat} {m m' : OMem} (ho : wget W o = some (t, m)) {A' : Nat → Addr} (hR' : RepO P C fnm fkd Z h' A' n0 t' m') (hA : ∀ j, j ≤ (t + 1) / 2 → A' j = AO o j) (hn : ∀ j, (t + 1) / 2 < j → j ≤ (t' + 1) / 2 → h.size ≤ A' j)
    (hS : Sam h h' (AO o) ((t + 1) / 2)) : RepW P C fnm fkd Z sc h' A (fun k => if k = o then A' else AO k) n0 (wput W o (t', m')) := by
  have hlt := wget_lt ho
  obtain ⟨r1, r2, r3⟩ := hR
  have other : ∀ {k tk mk}, wget W k = some (tk, mk) → k ≠ o → ∀ j j', j ≤ (tk + 1) / 2 → j' ≤ (t' + 1) / 2 → AO k j ≠ A' j' := fun {k tk mk} hk hne j j' hj hj' => by
    by_cases hb : j' ≤ (t + 1) / 2
    · rw [hA j' hb]; exact r2 k o _ _ _ _ j j' hk ho hne hj hb
    · have h1 := hn j' (by omega) hj'
      have h2 := (r1 k _ _ hk).1.lt hj
      exact Nat.ne_of_lt (Nat.lt_of_lt_of_le h2 h1)
  refine ⟨fun k tk mk hk => ?_, fun k k' tk mk tk' mk' j j' hk hk' hne hj hj' => ?_, fun hs => ?_⟩
  · rw [wget_wput hlt] at hk
    by_cases e : k = o
    · subst e
      rw [if_pos rfl] at hk
      cases hk
      simp only [if_true]
      exact ⟨hR', by rw [hA 0 (by omega)]; exact (r1 _ _ _ ho).2⟩
    · rw [if_neg e] at hk
      simp only [if_neg e]
      obtain ⟨q1, q2⟩ := r1 k _ _ hk
      refine ⟨q1.keep fun a c hc ⟨j, hj, ea⟩ => hS.2 a c hc fun j' hj' => ?_, q2⟩
      rw [ea]
      exact r2 k o _ _ _ _ j j' hk ho e hj hj'
  · rw [wget_wput hlt] at hk hk'
    by_cases e : k = o
    · by_cases e' : k' = o
      · exact absurd (e.trans e'.symm) hne
      · subst e
        rw [if_pos rfl] at hk
        cases hk
        rw [if_neg e'] at hk'
        simp only [if_true, if_neg e']
        exact Ne.symm (other hk' e' j' j hj' hj)
    · rw [if_neg e] at hk
      by_cases e' : k' = o
      · subst e'
        rw [if_pos rfl] at hk'
        cases hk'
        simp only [if_true, if_neg e]
        exact other hk e j j' hj hj'
      · rw [if_neg e'] at hk'
        simp only [if_neg e, if_neg e']
        exact r2 k k' _ _ _ _ j j' hk hk' hne hj hj'
  · obtain ⟨g1, c, g2, g3⟩ := r3 hs
    refine ⟨g1, c, ⟨hS.2 _ _ g2.1 fun j hj ea => ?_, g2.2⟩, g3⟩
    have : n0 ≤ AO o j := by
      by_cases e0 : j = 0
      · subst e0; exact (r1 _ _ _ ho).1.2.1
      · exact ((r1 _ _ _ ho).1.2.2.2.1 j (by omega) hj).1
    exact absurd (ea ▸ g1) (Nat.not_lt.mpr this)
theorem RepW.lt (hR : RepW P C fnm fkd Z sc h A AO n0 W) {k : Nat} (hk : 1 ≤ k) (hk' : k ≤ W.length) : ∃ t m, wget W (k - 1) = some (t, m) := by
  clear hR
  induction W generalizing k with
  | nil => simp at hk'; omega
  | cons o W ih =>
    obtain ⟨t, m⟩ := o
    by_cases e : k = 1
    · subst e; exact ⟨t, m, rfl⟩
    · obtain ⟨t', m', q⟩ := ih (k := k - 1) (by omega) (by simp at hk'; omega)
      refine ⟨t', m', ?_⟩
      have : k - 1 = (k - 1 - 1) + 1 := by omega
      rw [this]; exact q
/-- an object has been made -/
theorem RepW.made {nm : Nat → MethodName} {bys : Nat → ByteArray} {nA nf : Nat} {a0 : Array Value} (HT : TabP P C fnm fkd nm bys nA nf a0 Z) (hR : RepW P C fnm fkd Z sc h A AO n0 W) (hn0 : n0 ≤ h.size) (E : Ext h h') (X : Exa Z h' h.size C)
    (D : ∀ {O nm d : String} {ty : FieldType}, Laid Z a0 C O nm d → parseFieldDescriptor d = some ty → Fld Z h' h.size O nm d (defaultValue ty)) :
    RepW P C fnm fkd Z sc h' (updA A (W.length + 1) h.size) (fun k => if k = W.length then (fun _ => h.size) else AO k) n0 (W ++ [(0, z0)]) := by
  have old : ∀ {k t m}, wget W k = some (t, m) → ∀ j, j ≤ (t + 1) / 2 → AO k j < h.size := fun {k t m} hk j hj => (hR.1 k _ _ hk).1.lt hj
  obtain ⟨r1, r2, r3⟩ := hR
  have HT' := HT
  obtain ⟨-, -, tfkd, -⟩ := HT'
  refine ⟨fun k t m hk => ?_, fun k k' t m t' m' j j' hk hk' hne hj hj' => ?_, fun hs => ?_⟩
  · rcases wget_append hk with ⟨h1, h2⟩ | ⟨h1, h2⟩
    · have e : k ≠ W.length := by omega
      simp only [if_neg e]
      rw [updA_ne (by omega)]
      exact ⟨(r1 k _ _ h1).1.ext E, (r1 k _ _ h1).2⟩
    · subst h1
      cases h2
      simp only [if_true]
      refine ⟨⟨X, hn0, fun f kd j fin hf => ?_, fun j h1 h2 => by omega, fun j j' h1 h2 _ => by omega, fun j _ i => rfl⟩, by rw [updA_eq]⟩
      obtain ⟨t1, t2, t3, t4⟩ := tfkd f _ _ _ hf
      have F := D (HT.laid hf) t2
      refine ⟨_, F, fun e1 e2 => ?_, fun e1 => ?_⟩
      · have := t3 e1; omega
      · have : kd = 1 ∨ kd = 2 ∨ kd = 3 ∨ kd = 4 := by omega
        rcases this with rfl | rfl | rfl | rfl
        · exact Or.inr ⟨by decide, 0, rfl, rfl⟩
        · exact Or.inr ⟨by decide, 0, rfl, rfl⟩
        · exact Or.inr ⟨by decide, 0, rfl, rfl⟩
        · exact Or.inl ⟨rfl, 0, rfl, rfl⟩
  · rcases wget_append hk with ⟨h1, h2⟩ | ⟨h1, h2⟩
    · rcases wget_append hk' with ⟨h3, h4⟩ | ⟨h3, h4⟩
      · have e : k ≠ W.length := by omega
        have e' : k' ≠ W.length := by omega
        simp only [if_neg e, if_neg e']
        exact r2 k k' _ _ _ _ j j' h1 h3 hne hj hj'
      · have e : k ≠ W.length := by omega
        subst h3
        simp only [if_neg e, if_true]
        exact Nat.ne_of_lt (old h1 j hj)
    · rcases wget_append hk' with ⟨h3, h4⟩ | ⟨h3, h4⟩
      · have e' : k' ≠ W.length := by omega
        subst h1
        simp only [if_neg e', if_true]
        exact Nat.ne_of_gt (old h3 j' hj')
      · omega
  · rw [updA_ne (by omega)]
    obtain ⟨g1, c, g2, g3⟩ := r3 hs
    exact ⟨g1, c, g2.ext E, g3⟩
end W
theorem popB_rel {A : Nat → Addr} {b : Nat} : ∀ {ks : List Nat} {S : List OV} {acc as : List OV} {S' : List OV} {St : List Value} {X : List Value}, popB ks S acc = some (as, S') → SR A b S St → SR A b acc X →
    ∃ B St', SR A b as (B ++ X) ∧ SR A b S' St' ∧ St = B.reverse ++ St' ∧ B.length = ks.length
  | [], S, acc, as, S', St, X, h, hS, hX => by
    cases h
    exact ⟨[], St, hX, hS, rfl, rfl⟩
  | 0 :: ts, .inl z :: S, acc, as, S', St, X, h, hS, hX => by
    obtain ⟨y, St1, rfl, hy, hS1⟩ := SR.i1 hS
    obtain ⟨B, St', q1, q2, q3, q4⟩ := popB_rel (ks := ts) (X := .int y :: X) h hS1 ⟨⟨y, rfl, hy⟩, hX⟩
    exact ⟨B ++ [.int y], St', by simpa using q1, q2, by simp [q3], by simp [q4]⟩
  | 1 :: ts, .inr (.inl z) :: S, acc, as, S', St, X, h, hS, hX => by
    obtain ⟨y, St1, rfl, hy, hS1⟩ := SR.l1 hS
    obtain ⟨B, St', q1, q2, q3, q4⟩ := popB_rel (ks := ts) (X := .long y :: X) h hS1 ⟨⟨y, rfl, hy⟩, hX⟩
    exact ⟨B ++ [.long y], St', by simpa using q1, q2, by simp [q3], by simp [q4]⟩
  | 2 :: ts, .inr (.inr z) :: S, acc, as, S', St, X, h, hS, hX => by
    obtain ⟨hb, St1, rfl, hS1⟩ := SR.r1 hS
    obtain ⟨B, St', q1, q2, q3, q4⟩ := popB_rel (ks := ts) (X := .ref (A z) :: X) h hS1 ⟨⟨hb, rfl⟩, hX⟩
    exact ⟨B ++ [.ref (A z)], St', by simpa using q1, q2, by simp [q3], by simp [q4]⟩
def TabL (P : PT) (Q : LT) (C own : String) (nm lnm : Nat → MethodName) (lbys : Nat → ByteArray) (a0 : Array Value) (Z : State) : Prop :=
  (∀ q pc i len, lcode Q q pc = some (i, len) → decode (lbys q) pc = .ok (i, len) ∧ chk pc i len = true) ∧
  ((∀ x z, lcst Q x = some (.inl z) → ∃ v : Int32, (Jvm.Cond.constant own x v).before a0 Z = true ∧ v.toInt = z) ∧ (∀ x z, lcst Q x = some (.inr (.inl z)) → ∃ v : Int64, (Jvm.Cond.constantLong own x v).before a0 Z = true ∧ v.toInt = z)) ∧
  (∀ x q, lvm Q x = some q → (Jvm.Cond.methodLink own x (nm q)).before a0 Z = true ∧ (Jvm.Cond.declares (nm q)).before a0 Z = true ∧ (Jvm.Cond.selects C (nm q) (nm q)).before a0 Z = true) ∧
  (∀ x, lmk Q x = true → (Jvm.Cond.methodLink own x (nm 0)).before a0 Z = true) ∧
  (∀ x q, lsm Q x = some q → (Jvm.Cond.methodLink own x (lnm q)).before a0 Z = true) ∧
  (∀ x, lcl Q x = true → (Jvm.Cond.classLink own x C).before a0 Z = true) ∧
  (∀ q ps ml rk fr lc, linf Q q = some (ps, ml, rk, fr, lc) → q ≠ 0 → (lnm q).cls = own ∧ (Jvm.Cond.static (lnm q)).before a0 Z = true ∧ (Jvm.Cond.initialized own).before a0 Z = true ∧ (Jvm.Cond.code (lnm q) (lbys q) ml (rty rk)).before a0 Z = true ∧ ∃ params, parseMethodDescriptor (lnm q).desc = some ⟨params, rty rk⟩ ∧ params.length = ps.length) ∧
  plainName own = true ∧ (own ≠ "java/lang/invoke/MethodHandle" ∧ own ≠ "java/lang/invoke/VarHandle")
end Jvm.OwnMini
namespace Jvm.OwnMini
open Jvm Jvm.ClassFile Sem Op Lib Jvm.Free Jvm.Stand Jvm.LawKit Jvm.RoadKit
section InvL
variable {P : PT} {Q : LT} {TT mo : Nat} {sc : ScT} {kP : Nat → Nat → OLs → List OV → Nat → OMem → RT} {k : Nat → Nat → OLs → List OV → OWd → RTL} {q pc len : Nat} {L : OLs} {S : List OV} {W : OWd} {r : Option OV × OWd}
theorem new_someL {x : Nat} (h : stepLS P Q TT mo sc kP k q pc L S W (.new x) len = some r) : lcl Q x = true ∧ q = 0 ∧ W.length < mo ∧ k q (pc + len) L (vr (W.length + 1) :: S) (W ++ [(0, z0)]) = some r := by
  simp only [stepLS] at h
  obtain ⟨hb, h⟩ := cond_some h
  simp only [Bool.and_eq_true] at hb
  exact ⟨hb.1.1, Nat.eq_of_beq_eq_true hb.1.2, by simpa [Nat.blt_eq] using hb.2, h⟩
theorem length_someL (h : stepLS P Q TT mo sc kP k q pc L S W .arraylength len = some r) : ∃ S', S = .inr (.inr 0) :: S' ∧ sc.1 = true ∧ k q (pc + len) L (vi sc.2.1 :: S') W = some r := by
  simp only [stepLS] at h
  split at h
  · obtain ⟨hb, h⟩ := cond_some h
    exact ⟨_, rfl, hb, h⟩
  · cases h
theorem iaload_someL (h : stepLS P Q TT mo sc kP k q pc L S W .iaload len = some r) : ∃ i S', S = .inl i :: .inr (.inr 0) :: S' ∧ sc.1 = true ∧ 0 ≤ i ∧ i < sc.2.1 ∧ k q (pc + len) L (vi (sc.2.2 i) :: S') W = some r := by
  simp only [stepLS] at h
  split at h
  · obtain ⟨hb, h⟩ := cond_some h
    split at h
    · rename_i hc
      exact ⟨_, _, rfl, hb, hc.1, hc.2, h⟩
    · cases h
  · cases h
theorem special_someL {x : Nat} (h : stepLS P Q TT mo sc kP k q pc L S W (.invokespecial x) len = some r) : ∃ ps ml rk fr' lc' ps0 ml0 rk0 fr lc as o S' m y, pinf P 0 = some (ps, ml, rk, fr', lc') ∧ linf Q q = some (ps0, ml0, rk0, fr, lc) ∧ popA ps S [] = some (as, .inr (.inr (o + 1)) :: S') ∧ wget W o = some (0, m) ∧
    lmk Q x = true ∧ q = 0 ∧ fr' + 1 ≤ fr ∧ cats S' + (ml + 11) + lc' ≤ lc ∧ (initL (vr 0 :: as) ml).length ≤ ml ∧ kP 0 0 (initL (vr 0 :: as) ml) [] 0 m = some y ∧ y.2.1 = TT ∧ k q (pc + len) L (pushR y.1 S') (wput W o y.2) = some r := by
  simp only [stepLS] at h
  split at h
  · rename_i ps ml rk fr' lc' ps0 ml0 rk0 fr lc h1 h2
    split at h
    · rename_i as o S' hp
      split at h
      · rename_i m hw
        obtain ⟨hb, h⟩ := cond_some h
        simp only [Bool.and_eq_true] at hb
        obtain ⟨⟨⟨⟨g1, g2⟩, g3⟩, g4⟩, g5⟩ := hb
        obtain ⟨y, h3, h4⟩ := Option.bind_eq_some_iff.mp h
        obtain ⟨hb', h4⟩ := cond_some h4
        exact ⟨ps, ml, rk, fr', lc', ps0, ml0, rk0, fr, lc, as, o, S', m, y, h1, h2, hp, hw, g1, Nat.eq_of_beq_eq_true g2, Nat.le_of_ble_eq_true g3, Nat.le_of_ble_eq_true g4, Nat.le_of_ble_eq_true g5, h3, Nat.eq_of_beq_eq_true hb', h4⟩
      · cases h
    · cases h
  · cases h
theorem virtual_someL {x : Nat} (h : stepLS P Q TT mo sc kP k q pc L S W (.invokevirtual x) len = some r) : ∃ q' ps ml rk fr' lc' ps0 ml0 rk0 fr lc as o S' t m y, lvm Q x = some q' ∧ pinf P q' = some (ps, ml, rk, fr', lc') ∧ linf Q q = some (ps0, ml0, rk0, fr, lc) ∧ popA ps S [] = some (as, .inr (.inr (o + 1)) :: S') ∧ wget W o = some (t, m) ∧
    fr' + 1 ≤ fr ∧ cats S' + (ml + 11) + lc' ≤ lc ∧ q' ≠ 0 ∧ (initL (vr 0 :: as) ml).length ≤ ml ∧ kP q' 0 (initL (vr 0 :: as) ml) [] t m = some y ∧ k q (pc + len) L (pushR y.1 S') (wput W o y.2) = some r := by
  simp only [stepLS] at h
  split at h
  · rename_i q' hq'
    split at h
    · rename_i ps ml rk fr' lc' ps0 ml0 rk0 fr lc h1 h2
      split at h
      · rename_i as o S' hp
        split at h
        · rename_i t m hw
          obtain ⟨hb, h⟩ := cond_some h
          simp only [Bool.and_eq_true] at hb
          obtain ⟨⟨⟨g1, g2⟩, g3⟩, g4⟩ := hb
          obtain ⟨y, h3, h4⟩ := Option.bind_eq_some_iff.mp h
          exact ⟨q', ps, ml, rk, fr', lc', ps0, ml0, rk0, fr, lc, as, o, S', t, m, y, hq', h1, h2, hp, hw, Nat.le_of_ble_eq_true g1, Nat.le_of_ble_eq_true g2, (fun e => by subst e; simp at g3), Nat.le_of_ble_eq_true g4, h3, h4⟩
        · cases h
      · cases h
    · cases h
  · cases h
theorem static_someL {x : Nat} (h : stepLS P Q TT mo sc kP k q pc L S W (.invokestatic x) len = some r) : ∃ q' ps ml rk fr' lc' ps0 ml0 rk0 fr lc as S' y, lsm Q x = some q' ∧ linf Q q' = some (ps, ml, rk, fr', lc') ∧ linf Q q = some (ps0, ml0, rk0, fr, lc) ∧ popB ps S [] = some (as, S') ∧
    fr' + 1 ≤ fr ∧ cats S' + (ml + 11) + lc' ≤ lc ∧ q' ≠ 0 ∧ (initL as ml).length ≤ ml ∧ k q' 0 (initL as ml) [] W = some y ∧ k q (pc + len) L (pushR y.1 S') y.2 = some r := by
  simp only [stepLS] at h
  split at h
  · rename_i q' hq'
    split at h
    · rename_i ps ml rk fr' lc' ps0 ml0 rk0 fr lc h1 h2
      split at h
      · rename_i as S' hp
        obtain ⟨hb, h⟩ := cond_some h
        simp only [Bool.and_eq_true] at hb
        obtain ⟨⟨⟨g1, g2⟩, g3⟩, g4⟩ := hb
        obtain ⟨y, h3, h4⟩ := Option.bind_eq_some_iff.mp h
        exact ⟨q', ps, ml, rk, fr', lc', ps0, ml0, rk0, fr, lc, as, S', y, hq', h1, h2, hp, Nat.le_of_ble_eq_true g1, Nat.le_of_ble_eq_true g2, (fun e => by subst e; simp at g3), Nat.le_of_ble_eq_true g4, h3, h4⟩
      · cases h
    · cases h
  · cases h
theorem ireturn_someL (h : stepLS P Q TT mo sc kP k q pc L S W .ireturn len = some r) : ∃ z S' ps ml rk fr lc, S = .inl z :: S' ∧ linf Q q = some (ps, ml, rk, fr, lc) ∧ ((rk = 1 ∧ r = (some (vi z), W)) ∨ (rk = 2 ∧ r = (some (vi (z % 2)), W))) := by
  simp only [stepLS] at h
  split at h
  · split at h
    · rename_i hl; cases h; exact ⟨_, _, _, _, _, _, _, rfl, hl, Or.inl ⟨rfl, rfl⟩⟩
    · rename_i hl; cases h; exact ⟨_, _, _, _, _, _, _, rfl, hl, Or.inr ⟨rfl, rfl⟩⟩
    · cases h
  · cases h
theorem lreturn_someL (h : stepLS P Q TT mo sc kP k q pc L S W .lreturn len = some r) : ∃ z S' ps ml fr lc, S = .inr (.inl z) :: S' ∧ linf Q q = some (ps, ml, 4, fr, lc) ∧ r = (some (vl z), W) := by
  simp only [stepLS] at h
  split at h
  · split at h
    · rename_i hl; cases h; exact ⟨_, _, _, _, _, _, rfl, hl, rfl⟩
    · cases h
  · cases h
theorem return_someL (h : stepLS P Q TT mo sc kP k q pc L S W .return_ len = some r) : ∃ ps ml fr lc, S = [] ∧ linf Q q = some (ps, ml, 0, fr, lc) ∧ r = (none, W) := by
  simp only [stepLS] at h
  split at h
  · split at h
    · rename_i hl; cases h; exact ⟨_, _, _, _, rfl, hl, rfl⟩
    · cases h
  · cases h
end InvL
def EndL (P : PT) (C : String) (fnm : FN) (fkd : FK) (Z : State) (sc : ScT) (nA nf mo : Nat) (p : Program) (l : Launch) (e : Env) (R : Room) (s : State) (mi : MethodId) (args : Array Value) (below : List Frame) (meth : Method) (c : Code) (n0 q : Nat)
    (T : State) (A : Nat → Addr) (W : OWd) (locs : List Loc) (cells slots : Nat) (f0 : JFrame) (r : Option OV) (W' : OWd) : Prop :=
  ∃ (v : Option Value) (T' : State) (A' : Nat → Addr) (AO' : Nat → Nat → Addr) (lw : List Loc) (cells' slots' : Nat),
    Stand p l e R s mi args below meth c T' (locs ++ lw) cells' slots' ∧ RepW P C fnm fkd Z sc T'.heap A' AO' n0 W' ∧ (∀ k, k ≤ W.length → A' k = A k) ∧ W.length ≤ W'.length ∧ T.heap.size ≤ T'.heap.size ∧ Fr n0 lw ∧
    (q = 0 → cells' ≤ cW 1 nA W' ∧ slots' ≤ cW nf (psum P nA) W' ∧ W'.length ≤ mo) ∧ (q ≠ 0 → OwnMini.ts W' = OwnMini.ts W ∧ cells' = cells ∧ slots' = slots) ∧ RVl r v ∧ (meth.sig.returnType = none → v = none) ∧
    ∀ fs, (∀ (f : JFrame) (acts : List Action), f.method = mi → f.locked = none → f.entered = [] → (doReturn e (T'.setTop f) acts v).1 = T'.setFrames fs) → Steps p.tables e below (T.setTop f0) (T'.setFrames fs)
section SoundL
variable {P : PT} {Q : LT} {C own : String} {fnm : FN} {fkd : FK} {nm lnm : Nat → MethodName} {bys lbys : Nat → ByteArray} {nA nf mo : Nat} {a0 : Array Value} {Z : State} {sc : ScT}
variable {p : Program} {l : Launch} {e : Env} {R : Room} {s : State} {mi : MethodId} {args : Array Value} {below : List Frame} {meth : Method} {c : Code} {n0 q : Nat}
theorem EndL.trans {T T1 : State} {A A1 : Nat → Addr} {W W1 : OWd} {locs l1 : List Loc} {cells slots cells1 slots1 : Nat} {f0 f1 : JFrame} {r : Option OV} {W' : OWd}
    (E : EndL P C fnm fkd Z sc nA nf mo p l e R s mi args below meth c n0 q T1 A1 W1 (locs ++ l1) cells1 slots1 f1 r W') (hA : ∀ k, k ≤ W.length → A1 k = A k) (hW : W.length ≤ W1.length) (hh : T.heap.size ≤ T1.heap.size) (hF : Fr n0 l1) (hq : q ≠ 0 → OwnMini.ts W1 = OwnMini.ts W ∧ cells1 = cells ∧ slots1 = slots)
    (st : ∀ target, Steps p.tables e below (T1.setTop f1) target → Steps p.tables e below (T.setTop f0) target) : EndL P C fnm fkd Z sc nA nf mo p l e R s mi args below meth c n0 q T A W locs cells slots f0 r W' := by
  obtain ⟨v, T', A', AO', lw, cells', slots', h1, h2, h3, h4, h5, h6, h7, h8, h9, h10, h11⟩ := E
  refine ⟨v, T', A', AO', l1 ++ lw, cells', slots', by rw [← List.append_assoc]; exact h1, h2, fun k hk => (h3 k (by omega)).trans (hA k hk), by omega, by omega, hF.app h6, h7, fun hq' => ?_, h9, h10, fun fs hfs => st _ (h11 fs hfs)⟩
  obtain ⟨a1, a2, a3⟩ := hq hq'
  obtain ⟨b1, b2, b3⟩ := h8 hq'
  exact ⟨b1.trans a1, b2.trans a2, b3.trans a3⟩
def SoundAtL (P : PT) (Q : LT) (C own : String) (fnm : FN) (fkd : FK) (lbys : Nat → ByteArray) (nA nf mo : Nat) (Z : State) (sc : ScT) (l : Launch) (n : Nat) : Prop :=
  ∀ q pc L S W r W', runL P Q (2 * nA) mo sc n q pc L S W = some (r, W') → ∀ ps ml rk fr lc, linf Q q = some (ps, ml, rk, fr, lc) →
  ∀ (p : Program) (e : Env) (R : Room) (s : State) (mi : MethodId) (args : Array Value) (below : List Frame) (meth : Method) (c : Code) (T : State) (locs : List Loc) (cells slots : Nat) (A : Nat → Addr) (AO : Nat → Nat → Addr) (Ls : Array Slot) (St : List Value) (n0 : Nat),
    Stand p l e R s mi args below meth c T locs cells slots → p.tables.exec = Jvm.exec → Z.Warmed39 s.vm → s.vm.findClass own = some mi.cls → c.code = lbys q → c.maxLocals = ml → meth.sig.returnType = rty rk →
    RepW P C fnm fkd Z sc T.heap A AO n0 W → LR A W.length L Ls → SR A W.length S St → Ls.size = ml → n0 ≤ T.heap.size → fr ≤ R.frames → lc ≤ R.locals → cells ≤ R.cells → slots ≤ R.slots → W.length ≤ mo →
    (q = 0 → cells ≤ cW 1 nA W ∧ slots ≤ cW nf (psum P nA) W ∧ mo * (1 + nA) ≤ R.cells ∧ mo * (nf + psum P nA) ≤ R.slots) →
    EndL P C fnm fkd Z sc nA nf mo p l e R s mi args below meth c n0 q T A W locs cells slots (mkF mi pc Ls St) r W'
def QL (P : PT) (C : String) (fnm : FN) (fkd : FK) (Z : State) (sc : ScT) (n0 : Nat) (W : OWd) (A : Nat → Addr) (h : Heap) (r : Option OV) (W' : OWd) (v : Option Value) (h' : Heap) (L : List Loc) : Prop :=
  ∃ A' AO', RepW P C fnm fkd Z sc h' A' AO' n0 W' ∧ (∀ k, k ≤ W.length → A' k = A k) ∧ h.size ≤ h'.size ∧ Fr n0 L ∧ OwnMini.ts W' = OwnMini.ts W ∧ RVl r v
theorem metL (HL : TabL P Q C own nm lnm lbys a0 Z) {n : Nat} (hS : SoundAtL P Q C own fnm fkd lbys nA nf mo Z sc l n) {ps : List Nat} {ml rk fr lc : Nat} (hq : linf Q q = some (ps, ml, rk, fr, lc)) (hq0 : q ≠ 0) {as : List OV} {W : OWd} {r : Option OV} {W' : OWd}
    (hrun : runL P Q (2 * nA) mo sc n q 0 (initL as ml) [] W = some (r, W')) (hsz : (initL as ml).length ≤ ml) {A : Nat → Addr} {AO : Nat → Nat → Addr} {h : Heap} (hn0 : n0 ≤ h.size) (hR : RepW P C fnm fkd Z sc h A AO n0 W) (hmo : W.length ≤ mo) {vals : List Value} (hv : SR A W.length as vals) :
    MetFree l (lnm q) (head1 [Jvm.Cond.code (lnm q) (lbys q) ml (rty rk)] ({ frames := fr, cells := 0, slots := 0, locals := lc } : Room)) (fun a U => a = vals.toArray ∧ Z.Warmed39 U.vm ∧ U.heap = h) (fun _ _ _ _ _ => True)
      (fun _ U o U' => ∃ v L, o = .returned v ∧ QL P C fnm fkd Z sc n0 W A h r W' v U'.heap L ∧ FrameEnd U o U' L 0 0) := by
  have HL' := HL
  obtain ⟨-, -, -, -, -, -, hinf, hpn, -⟩ := HL'
  obtain ⟨hcls, -⟩ := hinf q ps ml rk fr lc hq hq0
  refine MetFree.of_bodySF (plainFor_of_name (by rw [hcls]; exact hpn)) hisR ?_
  intro p e s m' args below meth c s₁ Bd hml0 hP hK
  obtain ⟨rfl, hZ, hh⟩ := hP
  have X0 := Stand.of_body Bd
  have e0 : s₁.heap = h := by rw [← hh, Bd.state]; rfl
  have hown : s.vm.findClass own = some m'.cls := by rw [← hcls]; exact findClass_of_methodNamed Bd.named
  have hL := entry_rel (n := ml) hv
  have hz : (argsToLocals vals.toArray ml).size = ml := by
    rw [← hL.1]
    refine Nat.le_antisymm hsz ?_
    simp only [initL, List.length_append, List.length_replicate]; omega
  obtain ⟨v, T', A', AO', lw, cells', slots', h1, h2, h3, h4, h5, h6, h7, h8, h9, h10, h11⟩ := hS q 0 _ [] W r W' hrun ps ml rk fr lc hq p e _ s m' _ below meth c s₁ [] 0 0 A AO (argsToLocals vals.toArray ml) [] n0 X0 Bd.exec hZ hown Bd.bytes hml0 Bd.returns
    (by rw [e0]; exact hR) hL trivial hz (by rw [e0]; exact hn0) (Nat.le_refl _) (Nat.le_refl _) (Nat.zero_le _) (Nat.zero_le _) hmo (fun q0 => absurd q0 hq0)
  rw [e0] at h5
  obtain ⟨b1, b2, b3⟩ := h8 hq0
  obtain ⟨fs, hr, hrun', hended, hW, hsame⟩ := h1.leave (v := v) h10
  exact ⟨_, _, h11 fs hr, hrun', hended, v, _, rfl, ⟨A', AO', h2, h3, h5, h6, b1, h9⟩, ⟨_, rfl⟩, hW, hsame.mono (by omega) (by omega)⟩
end SoundL
set_option maxHeartbeats 4000000 in
theorem soundL {P : PT} {Q : LT} {C own : String} {fnm : FN} {fkd : FK} {nm lnm : Nat → MethodName} {bys lbys : Nat → ByteArray} {nA nf mo : Nat} {a0 : Array Value} {Z : State} {sc : ScT} (HT : TabP P C fnm fkd nm bys nA nf a0 Z) (HL : TabL P Q C own nm lnm lbys a0 Z) (hA1 : 1 ≤ nA) (l : Launch) : ∀ n, SoundAtL P Q C own fnm fkd lbys nA nf mo Z sc l n
  | 0 => fun q pc L S W r W' h => by cases h
  | n + 1 => by
    intro q pc L0 S W r W' h ps ml rk fr lc hq p e R s mi args below meth c T locs cells slots A AO Ls St n0 X hx hZ hown hby hml hret hR hL0 hSt hsz hn0 hfr hlc hce hsl hmo hroom
    have IH := soundL (mo := mo) (sc := sc) HT HL hA1 l n
    have IP := soundP HT l n
    have HT' := HT
    obtain ⟨-, -, -, -, -, -, -, -, tinf, -, -, tins, tini, -, thn, tnm, trk⟩ := HT'
    have HL' := HL
    obtain ⟨lcod, lcs, lv, lm, ls, lc', lin, lpn, lhn⟩ := HL'
    replace h : stepL P Q (2 * nA) mo sc (runP P n) (runL P Q (2 * nA) mo sc n) q pc L0 S W = some (r, W') := h
    unfold stepL at h
    cases hcd : lcode Q q pc with
    | none => rw [hcd] at h; cases h
    | some il =>
      obtain ⟨i, len⟩ := il
      rw [hcd] at h
      replace h : stepLI P Q (2 * nA) mo sc (runP P n) (runL P Q (2 * nA) mo sc n) q pc (mask (lliv Q q pc) L0) S W i len = some (r, W') := h
      have hL := hL0.mask (lliv Q q pc)
      generalize mask (lliv Q q pc) L0 = L at h hL
      obtain ⟨hdec, hchk⟩ := lcod q pc i len hcd
      have hd : decode c.code pc = .ok (i, len) := by rw [hby]; exact hdec
      have hcst : (∀ x z, lcst Q x = some (.inl z) → ∃ v : Int32, (Jvm.Cond.constant own x v).before args s = true ∧ v.toInt = z) ∧ (∀ x z, lcst Q x = some (.inr (.inl z)) → ∃ v : Int64, (Jvm.Cond.constantLong own x v).before args s = true ∧ v.toInt = z) :=
        ⟨fun x z hz => by obtain ⟨v, h1, h2⟩ := lcs.1 x z hz; exact ⟨v, mv hZ h1, h2⟩, fun x z hz => by obtain ⟨v, h1, h2⟩ := lcs.2 x z hz; exact ⟨v, mv hZ h1, h2⟩⟩
      have go : ∀ {pc' : Nat} {L' : OLs} {S' : List OV} {Ls' : Array Slot} {St' : List Value}, runL P Q (2 * nA) mo sc n q pc' L' S' W = some (r, W') → LR A W.length L' Ls' → SR A W.length S' St' → Ls'.size = ml →
          (∀ target, Steps p.tables e below (T.setTop (mkF mi pc' Ls' St')) target → Steps p.tables e below (T.setTop (mkF mi pc Ls St)) target) →
          EndL P C fnm fkd Z sc nA nf mo p l e R s mi args below meth c n0 q T A W locs cells slots (mkF mi pc Ls St) r W' := fun hrun hL1 hS1 hz1 st =>
        EndL.trans (l1 := []) (IH q _ _ _ W r W' hrun ps ml rk fr lc hq p e R s mi args below meth c T _ cells slots A AO _ _ n0 (by rw [List.append_nil]; exact X) hx hZ hown hby hml hret hR hL1 hS1 hz1 hn0 hfr hlc hce hsl hmo hroom) (fun _ _ => rfl) (Nat.le_refl _) (Nat.le_refl _) (Fr.nil _) (fun _ => ⟨rfl, rfl, rfl⟩) st
      -- going on behind an object's method
      have gv : ∀ {T1 : State} {L1 : List Loc} {v : Option Value} {y1 : Option OV} {o t t1 : Nat} {m m1 : OMem} {S' : List OV} {St' : List Value} {cells1 slots1 : Nat}, wget W o = some (t, m) → Stand p l e R s mi args below meth c T1 (locs ++ L1) cells1 slots1 →
          (∃ A', RepO P C fnm fkd Z T1.heap A' n0 t1 m1 ∧ (∀ j, j ≤ (t + 1) / 2 → A' j = AO o j) ∧ t ≤ t1 ∧ (∀ j, (t + 1) / 2 < j → j ≤ (t1 + 1) / 2 → T.heap.size ≤ A' j) ∧ Fr n0 L1 ∧ Sam T.heap T1.heap (AO o) ((t + 1) / 2) ∧ RVl y1 v) → SR A W.length S' St' → runL P Q (2 * nA) mo sc n q (pc + 3) L (pushR y1 S') (wput W o (t1, m1)) = some (r, W') →
          cells1 ≤ R.cells → slots1 ≤ R.slots → (q = 0 → cells1 ≤ cW 1 nA (wput W o (t1, m1)) ∧ slots1 ≤ cW nf (psum P nA) (wput W o (t1, m1))) → (q ≠ 0 → t1 = t ∧ cells1 = cells ∧ slots1 = slots) →
          (∀ target, Steps p.tables e below (T1.setTop (mkF mi (pc + 3) Ls (v.toList ++ St'))) target → Steps p.tables e below (T.setTop (mkF mi pc Ls St)) target) →
          EndL P C fnm fkd Z sc nA nf mo p l e R s mi args below meth c n0 q T A W locs cells slots (mkF mi pc Ls St) r W' := fun {T1 L1 v y1 o t t1 m m1 S' St' cells1 slots1} ho X1 hQ hS1 hrun hc1 hs1 h0 h1 st => by
        obtain ⟨A', g1, g2, g3, g4, g5, g6, g7⟩ := hQ
        have hR1 := hR.ran ho g1 g2 g4 g6
        have hlen := wput_len W o (t1, m1)
        refine EndL.trans (l1 := L1) (IH q _ _ _ _ r W' hrun ps ml rk fr lc hq p e R s mi args below meth c T1 _ cells1 slots1 A _ Ls _ n0 X1 hx hZ hown hby hml hret hR1 (by rw [hlen]; exact hL) (by rw [hlen]; exact g7.push hS1) hsz (Nat.le_trans hn0 g6.1) hfr hlc hc1 hs1 (by rw [hlen]; exact hmo) (fun q0 => ⟨(h0 q0).1, (h0 q0).2, (hroom q0).2.2.1, (hroom q0).2.2.2⟩)) (fun _ _ => rfl) (by rw [hlen]; exact Nat.le_refl _) g6.1 g5 (fun q0 => ?_) st
        obtain ⟨e1, e2, e3⟩ := h1 q0
        subst e1
        exact ⟨ts_wput ho, e2, e3⟩
      cases hsp : isSpecL i with
      | false =>
        simp only [stepLI, hsp, cond_false] at h
        obtain ⟨pc', L', S', Ls', St', h1, h2, h3, h4, h5⟩ := pstep_sound (cst := lcst Q) (k := fun pc' L' S' => runL P Q (2 * nA) mo sc n q pc' L' S' W) X hx hown hcst hL hSt hd hchk h
        exact go h1 h2 h3 (h4.trans hsz) h5
      | true =>
      simp only [stepLI, hsp, cond_true] at h
      clear hcd
      cases i
      case new x =>
        obtain rfl : len = 3 := by simpa [chk, ilen] using hchk
        obtain ⟨hcl, hq0, hlt, h⟩ := new_someL h
        obtain ⟨b1, b2, b3, b4⟩ := hroom hq0
        have d1 := cW_le 1 nA W
        have d2 := cW_le nf (psum P nA) W
        have d3 : (W.length + 1) * (1 + nA) ≤ mo * (1 + nA) := Nat.mul_le_mul_right _ hlt
        have d4 : (W.length + 1) * (nf + psum P nA) ≤ mo * (nf + psum P nA) := Nat.mul_le_mul_right _ hlt
        rw [Nat.add_mul] at d3 d4
        obtain ⟨T1, h1, X1, e1, E, Ex, D, -, st⟩ := newO X hx hZ hown (lc' x hcl) tins tini rfl (g := mkF mi pc Ls St) rfl hd (by omega) (by omega)
        subst e1
        have hR1 := hR.made HT hn0 E Ex D
        have hAg : ∀ k, k ≤ W.length → updA A (W.length + 1) T.heap.size k = A k := fun k hk => updA_ne (by omega)
        have hln : (W ++ [((0 : Nat), z0)]).length = W.length + 1 := by simp
        refine EndL.trans (l1 := []) (IH q _ _ _ _ r W' h ps ml rk fr lc hq p e R s mi args below meth c T1 _ (cells + 1) (slots + nf) _ _ Ls (.ref T.heap.size :: St) n0 (by rw [List.append_nil]; exact X1) hx hZ hown hby hml hret hR1 (by rw [hln]; exact hL.mono hAg (by omega)) (by rw [hln]; exact ⟨⟨Nat.le_refl _, by rw [updA_eq]⟩, hSt.mono hAg (by omega)⟩) hsz (Nat.le_trans hn0 E.1) hfr hlc (by omega) (by omega) (by rw [hln]; omega) (fun _ => ⟨by rw [cW_append]; omega, by rw [cW_append]; omega, b3, b4⟩)) hAg (by rw [hln]; omega) E.1 (Fr.nil _) (fun q0 => absurd hq0 q0) st
      case arraylength =>
        obtain rfl : len = 1 := by simpa [chk, ilen] using hchk
        obtain ⟨S', rfl, hs, h⟩ := length_someL h
        obtain ⟨hb0, St', rfl, hS'⟩ := SR.r1 hSt
        obtain ⟨g1, cl, g2, g3, g4, g5⟩ := hR.2.2 hs
        exact go h hL (SR.ci (by rw [len_toInt (by omega)]; exact g3) hS') hsz (fun target hr => X.arraylength hx g2.1 (State.isArrayOf_alike hZ.alike g2.2.1) (g := mkF mi pc Ls (.ref (A 0) :: St')) rfl rfl hd target hr)
      case iaload =>
        obtain rfl : len = 1 := by simpa [chk, ilen] using hchk
        obtain ⟨i, S', rfl, hs, hi0, hi1, h⟩ := iaload_someL h
        obtain ⟨y, St1, rfl, rfl, hS1⟩ := SR.i1 hSt
        obtain ⟨hb0, St', rfl, hS'⟩ := SR.r1 hS1
        obtain ⟨g1, cl, g2, g3, g4, g5⟩ := hR.2.2 hs
        obtain ⟨w, hv, hw⟩ := g5 y.toNatClampNeg (by have := clamp32 hi0; omega)
        rw [clamp32 hi0] at hw
        exact go h hL (SR.ci hw hS') hsz (fun target hr => X.iaload hx g2.1 (State.isArrayOf_alike hZ.alike g2.2.1) g2.2.2 (idx32 hi0 (by omega)) hv (g := mkF mi pc Ls (.int y :: .ref (A 0) :: St')) rfl rfl hd target hr)
      case invokespecial x =>
        obtain rfl : len = 3 := by simpa [chk, ilen] using hchk
        obtain ⟨ps', ml', rk', fr', lc'', ps0, ml0, rk0, fr0, lc0, as, o, S', m, y, hi', hq1, hpop, ho, hmk, hq0, hf1, hl1, hlen, hcall, hyT, hcont⟩ := special_someL h
        clear h
        cases hq.symm.trans hq1
        obtain ⟨y1, t1, m1⟩ := y
        have hyT : t1 = 2 * nA := hyT
        obtain ⟨B, St1, hB, hS1, rfl, hBl⟩ := popA_rel hpop hSt
        obtain ⟨hb0, St', rfl, hS'⟩ := SR.r1 hS1
        obtain ⟨hRo, hA0⟩ := hR.1 o _ _ ho
        obtain ⟨b1, b2, b3, b4⟩ := hroom hq0
        have d1 := cW_raw (a := 1) (b := nA) ho
        have d2 := cW_raw (a := nf) (b := psum P nA) ho
        have d3 : W.length * (1 + nA) ≤ mo * (1 + nA) := Nat.mul_le_mul_right _ hmo
        have d4 : W.length * (nf + psum P nA) ≤ mo * (nf + psum P nA) := Nat.mul_le_mul_right _ hmo
        have hargs : SR (AO o) ((0 + 1) / 2) (vr 0 :: as) (.ref (A (o + 1)) :: B) := ⟨⟨by omega, by rw [hA0]⟩, by simpa using hB (AO o) ((0 + 1) / 2) [] trivial⟩
        obtain ⟨icls, iinst, icode, -, params, ipd, ipl⟩ := tinf 0 _ _ _ _ _ hi'
        have hM := metP (l := l) (cl := nA) (sl := psum P nA) HT IP hi' hcall hlen hn0 hRo hargs (fun _ => ⟨by omega, by omega⟩)
        have hBk := backOf (R := R) (p := p) (e := e) (below := below) (s := s) (args := args) (len := 3) (W := cats S') (rm := { frames := fr', cells := nA, slots := psum P nA, locals := lc'' }) (Q := QP P C fnm fkd Z n0 0 0 (AO o) T.heap y1 t1 m1) hM hZ icode (by rw [icls]; exact tini) (by show fr' + 1 ≤ R.frames; omega) (by show cats S' + (ml' + 11) + lc'' ≤ R.locals; omega)
        have hyn : (nm 0).cls ≠ "java/lang/invoke/MethodHandle" ∧ (nm 0).cls ≠ "java/lang/invoke/VarHandle" := by rw [icls]; exact thn
        have hlenA : ∀ sig, parseMethodDescriptor (nm 0).desc = some sig → B.length = sig.parameters.length := lenOf ipd (by rw [hBl, ipl])
        have hrk : rty rk' = none := by rw [trk _ _ _ _ _ hi']; rfl
        rw [hrk] at icode
        obtain ⟨v, vm1, ⟨T1, L1, k1, n1⟩, -, X1, ⟨Lc, hQ, l1, c1, s1⟩, st⟩ := X.specialBack hx tnm hown (mv hZ (lm x hmk)) (mv hZ iinst) (mv hZ icode) hyn hBk (g := mkF mi pc Ls (B.reverse ++ .ref (A (o + 1)) :: St')) rfl (by rw [hml]; exact hsz) (Steps.refl _) (a := A (o + 1)) (argsL := B) (rest := St') hlenA rfl (by show 2 * 0 + _ ≤ _; rw [hS'.catsum]; omega) hd (fun _ _ => ⟨rfl, rfl, by show cells + nA ≤ _; omega, by show slots + psum P nA ≤ _; omega⟩)
        dsimp only [Pt.U, Pt.locs, Pt.cells, Pt.slots] at X1 l1 c1 s1 st hQ
        subst l1 c1 s1
        obtain ⟨A', g1, g2, g3, g4, g5, g6, g7, g8⟩ := hQ
        subst hyT
        have e2 : 2 * nA = (2 * nA - 1) + 1 := by omega
        have w1 : cW 1 nA (wput W o (2 * nA, m1)) = cW 1 nA W + nA := by rw [e2]; exact cW_made ho
        have w2 : cW nf (psum P nA) (wput W o (2 * nA, m1)) = cW nf (psum P nA) W + psum P nA := by rw [e2]; exact cW_made ho
        exact gv ho X1 ⟨A', g1, g2, g3, g4, g5, g6, g7⟩ hS' hcont (by omega) (by omega) (fun _ => ⟨by omega, by omega⟩) (fun q0 => absurd hq0 q0) (fun target hr => st.trans hr)
      case invokevirtual x =>
        obtain rfl : len = 3 := by simpa [chk, ilen] using hchk
        obtain ⟨q', ps', ml', rk', fr', lc'', ps0, ml0, rk0, fr0, lc0, as, o, S', t, m, y, hx', hi', hq1, hpop, ho, hf1, hl1, hq'0, hlen, hcall, hcont⟩ := virtual_someL h
        clear h
        cases hq.symm.trans hq1
        obtain ⟨y1, t1, m1⟩ := y
        obtain ⟨B, St1, hB, hS1, rfl, hBl⟩ := popA_rel hpop hSt
        obtain ⟨hb0, St', rfl, hS'⟩ := SR.r1 hS1
        obtain ⟨hRo, hA0⟩ := hR.1 o _ _ ho
        have hargs : SR (AO o) ((t + 1) / 2) (vr 0 :: as) (.ref (A (o + 1)) :: B) := ⟨⟨by omega, by rw [hA0]⟩, by simpa using hB (AO o) ((t + 1) / 2) [] trivial⟩
        obtain ⟨icls, iinst, icode, -, params, ipd, ipl⟩ := tinf q' _ _ _ _ _ hi'
        obtain ⟨vl1, vl2, vl3⟩ := lv x _ hx'
        have hM := metP (l := l) (cl := 0) (sl := 0) HT IP hi' hcall hlen hn0 hRo hargs (fun q0 => absurd q0 hq'0)
        have hBk := backOf (R := R) (p := p) (e := e) (below := below) (s := s) (args := args) (len := 3) (W := cats S') (rm := { frames := fr', cells := 0, slots := 0, locals := lc'' }) (Q := QP P C fnm fkd Z n0 q' t (AO o) T.heap y1 t1 m1) hM hZ icode (by rw [icls]; exact tini) (by show fr' + 1 ≤ R.frames; omega) (by show cats S' + (ml' + 11) + lc'' ≤ R.locals; omega)
        have hyn : (nm q').cls ≠ "java/lang/invoke/MethodHandle" ∧ (nm q').cls ≠ "java/lang/invoke/VarHandle" := by rw [icls]; exact thn
        have hlenA : ∀ sig, parseMethodDescriptor (nm q').desc = some sig → B.length = sig.parameters.length := lenOf ipd (by rw [hBl, ipl])
        obtain ⟨cB, kB, i1, i2, i3⟩ := isOf (T := T) hZ rfl hRo.1
        rw [hA0] at i3
        obtain ⟨v, vm1, ⟨T1, L1, k1, n1⟩, -, X1, ⟨Lc, hQ, l1, c1, s1⟩, st⟩ := X.virtualBack hx (C := C) (y := nm q') (z := nm q') hown (mv hZ vl1) (mv hZ vl2) (notFace_of_selects (args := args) (mv hZ vl3)) (mv hZ vl3) (mv hZ iinst) hyn hBk i1 i3 (g := mkF mi pc Ls (B.reverse ++ .ref (A (o + 1)) :: St')) rfl (by rw [hml]; exact hsz) (Steps.refl _) (argsL := B) (rest := St') hlenA rfl (by show 2 * 0 + _ ≤ _; rw [hS'.catsum]; omega) hd (fun _ _ => ⟨rfl, rfl, hce, hsl⟩)
        dsimp only [Pt.U, Pt.locs, Pt.cells, Pt.slots] at X1 l1 c1 s1 st hQ
        subst l1 c1 s1
        obtain ⟨A', g1, g2, g3, g4, g5, g6, g7, g8⟩ := hQ
        obtain rfl := g8 hq'0
        have w1 := cW_ts (a := 1) (b := nA) (ts_wput (m' := m1) ho)
        have w2 := cW_ts (a := nf) (b := psum P nA) (ts_wput (m' := m1) ho)
        exact gv ho X1 ⟨A', g1, g2, g3, g4, g5, g6, g7⟩ hS' hcont hce hsl (fun q0 => ⟨by rw [w1]; exact (hroom q0).1, by rw [w2]; exact (hroom q0).2.1⟩) (fun _ => ⟨rfl, rfl, rfl⟩) (fun target hr => st.trans hr)
      case invokestatic x =>
        obtain rfl : len = 3 := by simpa [chk, ilen] using hchk
        obtain ⟨q', ps', ml', rk', fr', lc'', ps0, ml0, rk0, fr0, lc0, as, S', y, hx', hi', hq1, hpop, hf1, hl1, hq'0, hlen, hcall, hcont⟩ := static_someL h
        clear h
        cases hq.symm.trans hq1
        obtain ⟨y1, W1⟩ := y
        obtain ⟨B, St', hB, hS', rfl, hBl⟩ := popB_rel (X := []) hpop hSt trivial
        rw [List.append_nil] at hB
        obtain ⟨icls, istat, iini, icode, params, ipd, ipl⟩ := lin q' _ _ _ _ _ hi' hq'0
        have hM := metL (l := l) HL IH hi' hq'0 hcall hlen hn0 hR hmo hB
        have hBk := backOf (R := R) (p := p) (e := e) (below := below) (s := s) (args := args) (len := 3) (W := cats S') (rm := { frames := fr', cells := 0, slots := 0, locals := lc'' }) (Q := QL P C fnm fkd Z sc n0 W A T.heap y1 W1) hM hZ icode (by rw [icls]; exact iini) (by show fr' + 1 ≤ R.frames; omega) (by show cats S' + (ml' + 11) + lc'' ≤ R.locals; omega)
        have hyn : (lnm q').cls ≠ "java/lang/invoke/MethodHandle" ∧ (lnm q').cls ≠ "java/lang/invoke/VarHandle" := by rw [icls]; exact lhn
        have hlenA : ∀ sig, parseMethodDescriptor (lnm q').desc = some sig → B.length = sig.parameters.length := lenOf ipd (by rw [hBl, ipl])
        obtain ⟨v, vm1, ⟨T1, L1, k1, n1⟩, -, X1, ⟨Lc, hQ, l1, c1, s1⟩, st⟩ := Jvm.LawKit.callS X hx hown (mv hZ (ls x _ hx')) (mv hZ istat) (mv hZ (by rw [icls]; exact iini)) (mv hZ icode) hyn hBk (g := mkF mi pc Ls (B.reverse ++ St')) rfl (by rw [hml]; exact hsz) (argsL := B) (rest := St') hlenA rfl (by show 2 * 0 + _ ≤ _; rw [hS'.catsum]; omega) hd (fun _ _ => ⟨rfl, rfl, hce, hsl⟩)
        dsimp only [Pt.U, Pt.locs, Pt.cells, Pt.slots] at X1 l1 c1 s1 st hQ
        subst l1 c1 s1
        obtain ⟨A', AO', g1, g2, g3, g4, g5, g6⟩ := hQ
        have w1 := cW_ts (a := 1) (b := nA) g5
        have w2 := cW_ts (a := nf) (b := psum P nA) g5
        have wl := ts_len g5
        exact EndL.trans (l1 := Lc) (IH q _ _ _ W1 r W' hcont ps ml rk fr lc hq p e R s mi args below meth c T1 _ _ _ A' AO' Ls _ n0 X1 hx hZ hown hby hml hret g1 (by rw [wl]; exact hL.mono g2 (Nat.le_refl _)) (by rw [wl]; exact g6.push (hS'.mono g2 (Nat.le_refl _))) hsz (Nat.le_trans hn0 g3) hfr hlc hce hsl (by rw [wl]; exact hmo) (fun q0 => ⟨by rw [w1]; exact (hroom q0).1, by rw [w2]; exact (hroom q0).2.1, (hroom q0).2.2.1, (hroom q0).2.2.2⟩)) g2 (by rw [wl]; exact Nat.le_refl _) g3 g4 (fun _ => ⟨g5, rfl, rfl⟩) st
      case ireturn =>
        obtain rfl : len = 1 := by simpa [chk, ilen] using hchk
        obtain ⟨z, S', ps', ml', rk', fr', lc'', rfl, hq', hcase⟩ := ireturn_someL h
        cases hq.symm.trans hq'
        obtain ⟨y, St', rfl, hy, hS'⟩ := SR.i1 hSt
        rcases hcase with ⟨rfl, hr⟩ | ⟨rfl, hr⟩
        · cases hr
          exact ⟨some (.int y), T, A, AO, [], cells, slots, by rw [List.append_nil]; exact X, hR, fun _ _ => rfl, Nat.le_refl _, Nat.le_refl _, Fr.nil _, fun q0 => ⟨(hroom q0).1, (hroom q0).2.1, hmo⟩, fun _ => ⟨rfl, rfl, rfl⟩, ⟨y, rfl, hy⟩, (fun q => by rw [hret] at q; cases q), fun fs hfs => retI' X hx hret hd hfs⟩
        · cases hr
          exact ⟨some (.int (y &&& 1)), T, A, AO, [], cells, slots, by rw [List.append_nil]; exact X, hR, fun _ _ => rfl, Nat.le_refl _, Nat.le_refl _, Fr.nil _, fun q0 => ⟨(hroom q0).1, (hroom q0).2.1, hmo⟩, fun _ => ⟨rfl, rfl, rfl⟩, ⟨_, rfl, by rw [and1_eq, hy]⟩, (fun q => by rw [hret] at q; cases q), fun fs hfs => retN X hx (t := .boolean) hret (by simp) hd hfs⟩
      case lreturn =>
        obtain rfl : len = 1 := by simpa [chk, ilen] using hchk
        obtain ⟨z, S', ps', ml', fr', lc'', rfl, hq', hr⟩ := lreturn_someL h
        cases hq.symm.trans hq'
        cases hr
        obtain ⟨y, St', rfl, hy, hS'⟩ := SR.l1 hSt
        exact ⟨some (.long y), T, A, AO, [], cells, slots, by rw [List.append_nil]; exact X, hR, fun _ _ => rfl, Nat.le_refl _, Nat.le_refl _, Fr.nil _, fun q0 => ⟨(hroom q0).1, (hroom q0).2.1, hmo⟩, fun _ => ⟨rfl, rfl, rfl⟩, ⟨y, rfl, hy⟩, (fun q => by rw [hret] at q; cases q), fun fs hfs => retOut X hx hret rfl (Or.inr (Or.inl ⟨rfl, rfl, y, rfl⟩)) hd hfs⟩
      case return_ =>
        obtain rfl : len = 1 := by simpa [chk, ilen] using hchk
        obtain ⟨ps', ml', fr', lc'', rfl, hq', hr⟩ := return_someL h
        cases hq.symm.trans hq'
        cases hr
        cases St with
        | cons _ _ => exact hSt.elim
        | nil => exact ⟨none, T, A, AO, [], cells, slots, by rw [List.append_nil]; exact X, hR, fun _ _ => rfl, Nat.le_refl _, Nat.le_refl _, Fr.nil _, fun q0 => ⟨(hroom q0).1, (hroom q0).2.1, hmo⟩, fun _ => ⟨rfl, rfl, rfl⟩, rfl, fun _ => rfl, fun fs hfs => X.returnOut hx hret hd hfs⟩
      all_goals cases hsp
end Jvm.OwnMini
namespace Jvm.OwnMini
/-! A plain function's outcome, followed by what the machine does from there, is what the machine does. -/
def Sim {α ρ : Type} (o : Option α) (K : α → Nat → Option ρ) (F : Nat → Option ρ) : Prop := ∀ a, o = some a → ∀ r, (∃ n, K a n = some r) → ∃ n, F n = some r
def Mono {ρ : Type} (F : Nat → Option ρ) : Prop := ∀ n r, F n = some r → F (n + 1) = some r
theorem Mono.le {ρ : Type} {F : Nat → Option ρ} (h : Mono F) {n k : Nat} (hk : n ≤ k) {r : ρ} (hn : F n = some r) : F k = some r := by
  induction hk with
  | refl => exact hn
  | step _ ih => exact h _ _ ih
section
variable {α β ρ ρ1 σ ε : Type} {K : α → Nat → Option ρ} {F : Nat → Option ρ}
theorem Sim.pur (a : α) (K : α → Nat → Option ρ) : Sim (some a) K (K a) := fun b h r hr => by cases h; exact hr
theorem Sim.non : Sim none K F := fun b h => by cases h
theorem Sim.shift (k : Nat) {o : Option α} {G : Nat → Option ρ} (h : ∀ n, F (n + k) = G n) (s : Sim o K G) : Sim o K F := fun a ha r hr => by
  obtain ⟨n, hn⟩ := s a ha r hr
  exact ⟨n + k, (h n).trans hn⟩
theorem Sim.ite {c : Prop} [Decidable c] {x y : Option α} {F G : Nat → Option ρ} (h1 : c → Sim x K F) (h2 : ¬ c → Sim y K G) : Sim (if c then x else y) K (fun n => if c then F n else G n) := by
  by_cases h : c
  · simp only [if_pos h]; exact h1 h
  · simp only [if_neg h]; exact h2 h
theorem Sim.grd {c : Prop} [Decidable c] {x : Option α} {F : Nat → Option ρ} (h1 : c → Sim x K F) : Sim (if c then x else none) K (fun n => if c then F n else none) := Sim.ite h1 (fun _ => Sim.non)
theorem Sim.dv {c : Prop} [Decidable c] {x : Option α} {F : Nat → Option ρ} (h1 : ¬ c → Sim x K F) : Sim (if c then none else x) K (fun n => if c then none else F n) := Sim.ite (fun _ => Sim.non) h1
theorem Sim.bind {f : Option β} {g : β → Option α} {K1 : β → Nat → Option ρ} (h1 : Sim f K1 F) (h2 : ∀ b, Sim (g b) K (K1 b)) : Sim (f.bind g) K F := fun a ha r hr => by
  cases f with
  | none => cases ha
  | some b => exact h1 b rfl r (h2 b a ha r hr)
theorem Sim.jmp {o : Option α} {G : Nat → Option ρ} (s : Sim o K G) (h0 : G 0 = none) (h : ∀ n, F (n + 1) = G (n + 1)) : Sim o K F := fun a ha r hr => by
  obtain ⟨n, hn⟩ := s a ha r hr
  cases n with
  | zero => rw [h0] at hn; cases hn
  | succ n => exact ⟨n + 1, (h n).trans hn⟩
theorem Sim.leaf {a : α} (h0 : K a 0 = none) (h : ∀ n, F (n + 1) = K a (n + 1)) : Sim (some a) K F := Sim.jmp (Sim.pur a K) h0 h
theorem Sim.call {f : Option β} {g : β → Option α} {K1 : β → Nat → Option ρ1} {F1 : Nat → Option ρ1} {F2 : ρ1 → Nat → Option ρ} {v : β → ρ1} (h1 : Sim f K1 F1) (hK : ∀ b n, K1 b n = some (v b)) (m1 : Mono F1) (m2 : ∀ y, Mono (F2 y)) (h2 : ∀ b, Sim (g b) K (F2 (v b))) :
    Sim (f.bind g) K (fun n => (F1 n).bind fun y => F2 y n) := fun a ha r hr => by
  cases f with
  | none => cases ha
  | some b =>
    obtain ⟨n1, hn1⟩ := h1 b rfl (v b) ⟨0, hK b 0⟩
    obtain ⟨n2, hn2⟩ := h2 b a ha r hr
    refine ⟨max n1 n2, ?_⟩
    show (F1 (max n1 n2)).bind _ = _
    rw [m1.le (Nat.le_max_left _ _) hn1]
    exact (m2 _).le (Nat.le_max_right _ _) hn2
/-- a loop: its body says: once more, or out -/
def lp (body : σ → Option (σ ⊕ ε)) : Nat → σ → Option ε
  | 0, _ => none
  | n + 1, s => match body s with
    | none => none
    | some (.inl s') => lp body n s'
    | some (.inr e) => some e
theorem Sim.lp {body : σ → Option (σ ⊕ ε)} {H : σ → Nat → Option ρ} {X : ε → Nat → Option ρ} (hb : ∀ s, Sim (body s) (Sum.elim H X) (H s)) : ∀ N s, Sim (OwnMini.lp body N s) X (H s)
  | 0, s => Sim.non
  | N + 1, s => fun a ha r hr => by
    unfold OwnMini.lp at ha
    cases hbs : body s with
    | none => rw [hbs] at ha; cases ha
    | some x =>
      rw [hbs] at ha
      cases x with
      | inl s' => exact hb s _ hbs r (Sim.lp hb N s' a ha r hr)
      | inr e => cases ha; exact hb s _ hbs r hr
end
/-- more turns than any loop here makes -/
def NN : Nat := 4611686018427387904
end Jvm.OwnMini
namespace Jvm.OwnMini
open Jvm Jvm.ClassFile Sem Op Lib Jvm.Free Jvm.Stand Jvm.LawKit Jvm.RoadKit
/-! More fuel never changes an answer. -/
theorem br_mono {β : Type} {c : ClassFile.Cond} {a b : Int} {x y x' y' : Option β} {r : β} (h1 : x = some r → x' = some r) (h2 : y = some r → y' = some r) (h : br c a b x y = some r) : br c a b x' y' = some r := by
  cases c <;> simp only [br] at h ⊢ <;> split at h <;> rename_i q <;> first | (rw [if_pos q]; first | exact h1 h | exact h2 h) | (rw [if_neg q]; first | exact h1 h | exact h2 h)
theorem tsw_mono {β : Type} (a : Int) : ∀ (lo : Int) (os : List Int) {f f' : Int → Option β} {d d' : Option β} {r : β}, (∀ o, f o = some r → f' o = some r) → (d = some r → d' = some r) → tsw a lo os f d = some r → tsw a lo os f' d' = some r
  | lo, [], f, f', d, d', r, h1, h2, h => h2 h
  | lo, o :: os, f, f', d, d', r, h1, h2, h => by
    unfold tsw at h ⊢
    split at h
    · rename_i q; rw [if_pos q]; exact h1 o h
    · rename_i q; rw [if_neg q]; exact tsw_mono a _ os h1 h2 h
set_option maxHeartbeats 4000000 in
theorem pstep_mono {β : Type} {cst : Nat → Option OV} {i : Instr} {pc len : Nat} {L : OLs} {S : List OV} {k k' : Nat → OLs → List OV → Option β} (hk : ∀ a b c r, k a b c = some r → k' a b c = some r) {r : β} (h : pstep cst i pc len L S k = some r) : pstep cst i pc len L S k' = some r := by
  cases i
  case iconst z =>
    exact hk _ _ _ _ h
  case bipush z =>
    exact hk _ _ _ _ h
  case sipush z =>
    exact hk _ _ _ _ h
  case lconst z =>
    exact hk _ _ _ _ h
  case ldc x =>
    simp only [pstep] at h ⊢
    cases hq : cst x with
    | none => rw [hq] at h; cases h
    | some v =>
      rw [hq] at h
      rcases v with z | z | z
      · exact hk _ _ _ _ h
      · cases h
      · cases h
  case ldc_w x =>
    simp only [pstep] at h ⊢
    cases hq : cst x with
    | none => rw [hq] at h; cases h
    | some v =>
      rw [hq] at h
      rcases v with z | z | z
      · exact hk _ _ _ _ h
      · cases h
      · cases h
  case ldc2_w x =>
    simp only [pstep] at h ⊢
    cases hq : cst x with
    | none => rw [hq] at h; cases h
    | some v =>
      rw [hq] at h
      rcases v with z | z | z
      · cases h
      · exact hk _ _ _ _ h
      · cases h
  case iload x =>
    obtain ⟨z, hg, h⟩ := gi_some h
    simp only [pstep, gi, hg]
    exact hk _ _ _ _ h
  case iload_n x =>
    obtain ⟨z, hg, h⟩ := gi_some h
    simp only [pstep, gi, hg]
    exact hk _ _ _ _ h
  case lload x =>
    obtain ⟨z, hg, h⟩ := gl_some h
    simp only [pstep, gl, hg]
    exact hk _ _ _ _ h
  case lload_n x =>
    obtain ⟨z, hg, h⟩ := gl_some h
    simp only [pstep, gl, hg]
    exact hk _ _ _ _ h
  case aload x =>
    obtain ⟨z, hg, h⟩ := gr_some h
    simp only [pstep, gr, hg]
    exact hk _ _ _ _ h
  case aload_n x =>
    obtain ⟨z, hg, h⟩ := gr_some h
    simp only [pstep, gr, hg]
    exact hk _ _ _ _ h
  case istore x =>
    obtain ⟨z, S', rfl, h⟩ := pi1_some h
    obtain ⟨h0, h⟩ := inL_some h
    simp only [pstep, pi1, inL, if_pos h0]
    exact hk _ _ _ _ h
  case istore_n x =>
    obtain ⟨z, S', rfl, h⟩ := pi1_some h
    obtain ⟨h0, h⟩ := inL_some h
    simp only [pstep, pi1, inL, if_pos h0]
    exact hk _ _ _ _ h
  case lstore x =>
    obtain ⟨z, S', rfl, h⟩ := pl1_some h
    obtain ⟨h0, h⟩ := inL_some h
    simp only [pstep, pl1, inL, if_pos h0]
    exact hk _ _ _ _ h
  case lstore_n x =>
    obtain ⟨z, S', rfl, h⟩ := pl1_some h
    obtain ⟨h0, h⟩ := inL_some h
    simp only [pstep, pl1, inL, if_pos h0]
    exact hk _ _ _ _ h
  case astore x =>
    obtain ⟨z, S', rfl, h⟩ := pr1_some h
    obtain ⟨h0, h⟩ := inL_some h
    simp only [pstep, pr1, inL, if_pos h0]
    exact hk _ _ _ _ h
  case astore_n x =>
    obtain ⟨z, S', rfl, h⟩ := pr1_some h
    obtain ⟨h0, h⟩ := inL_some h
    simp only [pstep, pr1, inL, if_pos h0]
    exact hk _ _ _ _ h
  case iinc x z =>
    obtain ⟨a, hg, h⟩ := gi_some h
    obtain ⟨h0, h⟩ := inL_some h
    simp only [pstep, gi, hg, inL, if_pos h0]
    exact hk _ _ _ _ h
  case iadd =>
    obtain ⟨a, b', S', rfl, h⟩ := pi2_some h
    exact hk _ _ _ _ h
  case isub =>
    obtain ⟨a, b', S', rfl, h⟩ := pi2_some h
    exact hk _ _ _ _ h
  case imul =>
    obtain ⟨a, b', S', rfl, h⟩ := pi2_some h
    exact hk _ _ _ _ h
  case iand =>
    obtain ⟨a, b', S', rfl, h⟩ := pi2_some h
    exact hk _ _ _ _ h
  case ior =>
    obtain ⟨a, b', S', rfl, h⟩ := pi2_some h
    exact hk _ _ _ _ h
  case ixor =>
    obtain ⟨a, b', S', rfl, h⟩ := pi2_some h
    exact hk _ _ _ _ h
  case ishl =>
    obtain ⟨a, b', S', rfl, h⟩ := pi2_some h
    exact hk _ _ _ _ h
  case ishr =>
    obtain ⟨a, b', S', rfl, h⟩ := pi2_some h
    exact hk _ _ _ _ h
  case iushr =>
    obtain ⟨a, b', S', rfl, h⟩ := pi2_some h
    exact hk _ _ _ _ h
  case ladd =>
    obtain ⟨a, b', S', rfl, h⟩ := pl2_some h
    exact hk _ _ _ _ h
  case lsub =>
    obtain ⟨a, b', S', rfl, h⟩ := pl2_some h
    exact hk _ _ _ _ h
  case lmul =>
    obtain ⟨a, b', S', rfl, h⟩ := pl2_some h
    exact hk _ _ _ _ h
  case land =>
    obtain ⟨a, b', S', rfl, h⟩ := pl2_some h
    exact hk _ _ _ _ h
  case lor =>
    obtain ⟨a, b', S', rfl, h⟩ := pl2_some h
    exact hk _ _ _ _ h
  case lxor =>
    obtain ⟨a, b', S', rfl, h⟩ := pl2_some h
    exact hk _ _ _ _ h
  case lcmp =>
    obtain ⟨a, b', S', rfl, h⟩ := pl2_some h
    exact hk _ _ _ _ h
  case lshl =>
    obtain ⟨a, b', S', rfl, h⟩ := pli_some h
    exact hk _ _ _ _ h
  case lshr =>
    obtain ⟨a, b', S', rfl, h⟩ := pli_some h
    exact hk _ _ _ _ h
  case lushr =>
    obtain ⟨a, b', S', rfl, h⟩ := pli_some h
    exact hk _ _ _ _ h
  case idiv =>
    obtain ⟨a, b', S', rfl, h⟩ := pi2_some h
    simp only [pstep, pi2] at h ⊢
    by_cases hz : b' = 0
    · rw [if_pos hz] at h; cases h
    · rw [if_neg hz] at h ⊢; exact hk _ _ _ _ h
  case irem =>
    obtain ⟨a, b', S', rfl, h⟩ := pi2_some h
    simp only [pstep, pi2] at h ⊢
    by_cases hz : b' = 0
    · rw [if_pos hz] at h; cases h
    · rw [if_neg hz] at h ⊢; exact hk _ _ _ _ h
  case ldiv =>
    obtain ⟨a, b', S', rfl, h⟩ := pl2_some h
    simp only [pstep, pl2] at h ⊢
    by_cases hz : b' = 0
    · rw [if_pos hz] at h; cases h
    · rw [if_neg hz] at h ⊢; exact hk _ _ _ _ h
  case lrem =>
    obtain ⟨a, b', S', rfl, h⟩ := pl2_some h
    simp only [pstep, pl2] at h ⊢
    by_cases hz : b' = 0
    · rw [if_pos hz] at h; cases h
    · rw [if_neg hz] at h ⊢; exact hk _ _ _ _ h
  case ineg =>
    obtain ⟨a, S', rfl, h⟩ := pi1_some h
    exact hk _ _ _ _ h
  case i2l =>
    obtain ⟨a, S', rfl, h⟩ := pi1_some h
    exact hk _ _ _ _ h
  case i2b =>
    obtain ⟨a, S', rfl, h⟩ := pi1_some h
    exact hk _ _ _ _ h
  case lneg =>
    obtain ⟨a, S', rfl, h⟩ := pl1_some h
    exact hk _ _ _ _ h
  case l2i =>
    obtain ⟨a, S', rfl, h⟩ := pl1_some h
    exact hk _ _ _ _ h
  case goto o =>
    exact hk _ _ _ _ h
  case if_icmp c o =>
    obtain ⟨a, b', S', rfl, h⟩ := pi2_some h
    exact br_mono (hk _ _ _ _) (hk _ _ _ _) h
  case ifCond c o =>
    obtain ⟨a, S', rfl, h⟩ := pi1_some h
    exact br_mono (hk _ _ _ _) (hk _ _ _ _) h
  case tableswitch d lo hi os =>
    obtain ⟨a, S', rfl, h⟩ := pi1_some h
    exact tsw_mono _ _ _ (fun o => hk _ _ _ _) (hk _ _ _ _) h
  case dup =>
    obtain ⟨v, S', rfl, hv, h⟩ := dup_some h
    rcases v with z | z | z
    · exact hk _ _ _ _ h
    · cases hv
    · exact hk _ _ _ _ h
  case pop =>
    obtain ⟨v, S', rfl, hv, h⟩ := pop_some h
    rcases v with z | z | z
    · exact hk _ _ _ _ h
    · cases hv
    · exact hk _ _ _ _ h
  case dup2 =>
    rcases dup2_some h with ⟨z, S', rfl, h⟩ | ⟨u, v, S', rfl, hu, hv, h⟩
    · exact hk _ _ _ _ h
    · rcases u with z | z | z
      · rcases v with y | y | y
        · exact hk _ _ _ _ h
        · cases hv
        · exact hk _ _ _ _ h
      · cases hu
      · rcases v with y | y | y
        · exact hk _ _ _ _ h
        · cases hv
        · exact hk _ _ _ _ h
  all_goals cases h
theorem cond_mono {α : Type} {b : Bool} {x x' : Option α} {r : α} (h1 : x = some r → x' = some r) (h : cond b x none = some r) : cond b x' none = some r := by
  cases b
  · cases h
  · exact h1 h
theorem ite_mono {α : Type} {c : Prop} [Decidable c] {x x' : Option α} {r : α} (h1 : x = some r → x' = some r) (h : (if c then x else none) = some r) : (if c then x' else none) = some r := by
  by_cases q : c
  · rw [if_pos q] at h ⊢; exact h1 h
  · rw [if_neg q] at h; cases h
theorem bind_mono {α β : Type} {x x' : Option α} {f f' : α → Option β} {r : β} (h1 : ∀ a, x = some a → x' = some a) (h2 : ∀ a, f a = some r → f' a = some r) (h : x.bind f = some r) : x'.bind f' = some r := by
  obtain ⟨a, q1, q2⟩ := Option.bind_eq_some_iff.mp h
  rw [h1 a q1]; exact h2 a q2
theorem ald_mono {P : PT} {kd : Nat → Bool} {S : List OV} {t : Nat} {f f' : Nat → Int → List OV → RT} {r : Option OV × Nat × OMem} (hf : ∀ a b c, f a b c = some r → f' a b c = some r) (h : ald P kd S t f = some r) : ald P kd S t f' = some r := by
  unfold ald at h ⊢
  split at h
  · split at h
    · rename_i hl
      try simp only [hl]
      exact cond_mono (ite_mono (hf _ _ _)) h
    · cases h
  · cases h
theorem asi_mono {P : PT} {kd : Nat → Bool} {S : List OV} {t : Nat} {f f' : Nat → Nat → Int → Int → List OV → RT} {r : Option OV × Nat × OMem} (hf : ∀ a b c d e, f a b c d e = some r → f' a b c d e = some r) (h : asi P kd S t f = some r) : asi P kd S t f' = some r := by
  unfold asi at h ⊢
  split at h
  · split at h
    · rename_i hl
      try simp only [hl]
      exact cond_mono (ite_mono (hf _ _ _ _ _)) h
    · cases h
  · cases h
theorem asl_mono {P : PT} {kd : Nat → Bool} {S : List OV} {t : Nat} {f f' : Nat → Int → Int → List OV → RT} {r : Option OV × Nat × OMem} (hf : ∀ a b c d, f a b c d = some r → f' a b c d = some r) (h : asl P kd S t f = some r) : asl P kd S t f' = some r := by
  unfold asl at h ⊢
  split at h
  · split at h
    · rename_i hl
      try simp only [hl]
      exact cond_mono (ite_mono (hf _ _ _ _)) h
    · cases h
  · cases h
set_option maxHeartbeats 4000000 in
theorem stepI_mono {P : PT} {k k' : Nat → Nat → OLs → List OV → Nat → OMem → RT} (hk : ∀ a b c d e f r, k a b c d e f = some r → k' a b c d e f = some r) {q pc len t : Nat} {L : OLs} {S : List OV} {m : OMem} {i : Instr} {r : Option OV × Nat × OMem} (h : stepI P k q pc L S t m i len = some r) : stepI P k' q pc L S t m i len = some r := by
  cases hsp : isSpec i with
  | false =>
    simp only [stepI, hsp, cond_false] at h ⊢
    exact pstep_mono (fun _ _ _ _ => hk _ _ _ _ _ _ _) h
  | true =>
  simp only [stepI, hsp, cond_true] at h ⊢
  cases i
  case getfield x =>
    simp only [stepS] at h ⊢
    split at h
    · split at h
      · rename_i hf; (try simp only [hf]); exact cond_mono (hk _ _ _ _ _ _ _) h
      · rename_i hf; (try simp only [hf]); exact hk _ _ _ _ _ _ _ h
      · rename_i hf; (try simp only [hf]); exact hk _ _ _ _ _ _ _ h
      · rename_i hf; (try simp only [hf]); exact hk _ _ _ _ _ _ _ h
      · cases h
    · cases h
  case putfield x =>
    simp only [stepS] at h ⊢
    split at h
    · rename_i hf
      split at h
      · (try simp only [hf]); exact cond_mono (hk _ _ _ _ _ _ _) h
      · cases h
    · rename_i hf
      split at h
      · (try simp only [hf]); exact cond_mono (hk _ _ _ _ _ _ _) h
      · cases h
    · rename_i hf
      split at h
      · (try simp only [hf]); exact cond_mono (hk _ _ _ _ _ _ _) h
      · cases h
    · rename_i hf
      split at h
      · (try simp only [hf]); exact cond_mono (hk _ _ _ _ _ _ _) h
      · cases h
    · cases h
  case iaload => exact ald_mono (fun _ _ _ => hk _ _ _ _ _ _ _) h
  case baload => exact ald_mono (fun _ _ _ => hk _ _ _ _ _ _ _) h
  case laload => exact ald_mono (fun _ _ _ => hk _ _ _ _ _ _ _) h
  case iastore => exact asi_mono (fun _ _ _ _ _ => hk _ _ _ _ _ _ _) h
  case bastore => exact asi_mono (fun _ _ _ _ _ => hk _ _ _ _ _ _ _) h
  case lastore => exact asl_mono (fun _ _ _ _ => hk _ _ _ _ _ _ _) h
  case arraylength =>
    simp only [stepS] at h ⊢
    split at h
    · split at h
      · rename_i hf; (try simp only [hf]); exact cond_mono (hk _ _ _ _ _ _ _) h
      · cases h
    · cases h
  case newarray a =>
    simp only [stepS] at h ⊢
    split at h
    · split at h
      · rename_i hf; (try simp only [hf]); exact cond_mono (ite_mono (hk _ _ _ _ _ _ _)) h
      · cases h
    · cases h
  case invokespecial x =>
    simp only [stepS] at h ⊢
    split at h
    · split at h
      · rename_i hf; (try simp only [hf]); exact cond_mono (hk _ _ _ _ _ _ _) h
      · cases h
    · cases h
  case invokevirtual x =>
    simp only [stepS] at h ⊢
    split at h
    · rename_i h0
      split at h
      · rename_i h1 h2
        split at h
        · rename_i h3
          try simp only [h0, h1, h2, h3]
          exact cond_mono (bind_mono (fun _ => hk _ _ _ _ _ _ _) (fun _ => hk _ _ _ _ _ _ _)) h
        · cases h
      · cases h
    · cases h
  case ireturn => exact h
  case lreturn => exact h
  case return_ => exact h
  all_goals cases hsp
theorem runP_mono {P : PT} (q pc : Nat) (L : OLs) (S : List OV) (t : Nat) (m : OMem) : Mono (fun n => runP P n q pc L S t m) := by
  intro n
  show ∀ r, runP P n q pc L S t m = some r → runP P (n + 1) q pc L S t m = some r
  induction n generalizing q pc L S t m with
  | zero => intro r h; cases h
  | succ n ih =>
    intro r h
    have h : stepP P (runP P n) q pc L S t m = some r := h
    show stepP P (runP P (n + 1)) q pc L S t m = some r
    unfold stepP at h ⊢
    split at h
    · rename_i hc
      try simp only [hc]
      exact stepI_mono (fun a b c d e f => ih a b c d e f) h
    · cases h
set_option maxHeartbeats 4000000 in
theorem stepLI_mono {P : PT} {Q : LT} {T mo : Nat} {sc : ScT} {kP kP' : Nat → Nat → OLs → List OV → Nat → OMem → RT} {k k' : Nat → Nat → OLs → List OV → OWd → RTL} (hp : ∀ a b c d e f r, kP a b c d e f = some r → kP' a b c d e f = some r) (hk : ∀ a b c d e r, k a b c d e = some r → k' a b c d e = some r) {q pc len : Nat} {L : OLs} {S : List OV} {W : OWd} {i : Instr} {r : Option OV × OWd}
    (h : stepLI P Q T mo sc kP k q pc L S W i len = some r) : stepLI P Q T mo sc kP' k' q pc L S W i len = some r := by
  cases hsp : isSpecL i with
  | false =>
    simp only [stepLI, hsp, cond_false] at h ⊢
    exact pstep_mono (fun _ _ _ _ => hk _ _ _ _ _ _) h
  | true =>
  simp only [stepLI, hsp, cond_true] at h ⊢
  cases i
  case new x => exact cond_mono (hk _ _ _ _ _ _) h
  case arraylength =>
    simp only [stepLS] at h ⊢
    split at h
    · exact cond_mono (hk _ _ _ _ _ _) h
    · cases h
  case iaload =>
    simp only [stepLS] at h ⊢
    split at h
    · exact cond_mono (ite_mono (hk _ _ _ _ _ _)) h
    · cases h
  case invokespecial x =>
    simp only [stepLS] at h ⊢
    split at h
    · rename_i h1 h2
      split at h
      · rename_i h3
        split at h
        · rename_i h4
          try simp only [h1, h2, h3, h4]
          exact cond_mono (bind_mono (fun _ => hp _ _ _ _ _ _ _) (fun _ => cond_mono (hk _ _ _ _ _ _))) h
        · cases h
      · cases h
    · cases h
  case invokevirtual x =>
    simp only [stepLS] at h ⊢
    split at h
    · rename_i h0
      split at h
      · rename_i h1 h2
        split at h
        · rename_i h3
          split at h
          · rename_i h4
            try simp only [h0, h1, h2, h3, h4]
            exact cond_mono (bind_mono (fun _ => hp _ _ _ _ _ _ _) (fun _ => hk _ _ _ _ _ _)) h
          · cases h
        · cases h
      · cases h
    · cases h
  case invokestatic x =>
    simp only [stepLS] at h ⊢
    split at h
    · rename_i h0
      split at h
      · rename_i h1 h2
        split at h
        · rename_i h3
          try simp only [h0, h1, h2, h3]
          exact cond_mono (bind_mono (fun _ => hk _ _ _ _ _ _) (fun _ => hk _ _ _ _ _ _)) h
        · cases h
      · cases h
    · cases h
  case ireturn => exact h
  case lreturn => exact h
  case return_ => exact h
  all_goals cases hsp
theorem runL_mono {P : PT} {Q : LT} {T mo : Nat} {sc : ScT} (q pc : Nat) (L : OLs) (S : List OV) (W : OWd) : Mono (fun n => runL P Q T mo sc n q pc L S W) := by
  intro n
  show ∀ r, runL P Q T mo sc n q pc L S W = some r → runL P Q T mo sc (n + 1) q pc L S W = some r
  induction n generalizing q pc L S W with
  | zero => intro r h; cases h
  | succ n ih =>
    intro r h
    have h : stepL P Q T mo sc (runP P n) (runL P Q T mo sc n) q pc L S W = some r := h
    show stepL P Q T mo sc (runP P (n + 1)) (runL P Q T mo sc (n + 1)) q pc L S W = some r
    unfold stepL at h ⊢
    split at h
    · rename_i hc
      try simp only [hc]
      exact stepLI_mono (fun a b c d e f => runP_mono a b c d e f n) (fun a b c d e => ih a b c d e) h
    · cases h
theorem cond_Mono {α : Type} {b : Bool} {F : Nat → Option α} (h : Mono F) : Mono (fun n => cond b (F n) none) := fun n r hn => by
  cases b
  · cases hn
  · exact h n r hn
end Jvm.OwnMini
namespace Jvm.OwnMini
open Jvm Jvm.ClassFile Sem Op Lib Jvm.Free Jvm.Stand Jvm.LawKit Jvm.RoadKit
/-! Statements on all entries of a table, from its finite list. -/
def AllL {α : Type} (Q : Nat → α → Prop) : List (Nat × α) → Prop
  | [] => True
  | x :: L => Q x.1 x.2 ∧ AllL Q L
def AllN (Q : Nat → Prop) : Nat → Prop
  | 0 => True
  | n + 1 => AllN Q n ∧ Q n
theorem allN {Q : Nat → Prop} : ∀ {N : Nat}, AllN Q N → ∀ q, q < N → Q q
  | 0, _, q, h => by omega
  | N + 1, ⟨h1, h2⟩, q, h => by
    by_cases e : q = N
    · subst e; exact h2
    · exact allN h1 q (by omega)
theorem cond_ge {α : Type} {N x : Nat} {y : Option α} (h : N ≤ x) : cond (Nat.blt x N) y none = none := by
  have : Nat.blt x N = false := by
    cases hb : Nat.blt x N with
    | false => rfl
    | true => exact absurd (Nat.le_of_ble_eq_true hb) (by omega)
  rw [this]; rfl
theorem allL_mem {α : Type} {Q : Nat → α → Prop} : ∀ {L : List (Nat × α)}, AllL Q L → ∀ x e, (x, e) ∈ L → Q x e
  | [], _, x, e, h => by cases h
  | y :: L, ⟨h1, h2⟩, x, e, h => by
    cases h with
    | head => exact h1
    | tail _ h => exact allL_mem h2 x e h
theorem tab_all {α : Type} [DecidableEq α] {f : Nat → Option α} (N : Nat) (L : List (Nat × α)) (hN : ∀ x, N ≤ x → f x = none) (h : ((List.range N).all fun x => match f x with | none => true | some e => L.any fun y => decide (y = (x, e))) = true) {Q : Nat → α → Prop} (hQ : AllL Q L) : ∀ x e, f x = some e → Q x e := by
  intro x e hx
  by_cases hlt : x < N
  · have h1 := List.all_eq_true.mp h x (List.mem_range.mpr hlt)
    rw [hx] at h1
    obtain ⟨y, hy, h2⟩ := List.any_eq_true.mp h1
    have h3 := of_decide_eq_true h2
    subst h3
    exact allL_mem hQ x e hy
  · rw [hN x (by omega)] at hx; cases hx
theorem code_all {f : Nat → Option (Instr × Nat)} {bytes : ByteArray} (N : Nat) (hN : ∀ x, N ≤ x → f x = none) (h : ((List.range N).all fun pc => match f pc with | none => true | some (i, len) => decide (decode bytes pc = .ok (i, len)) && chk pc i len) = true) : ∀ pc i len, f pc = some (i, len) → decode bytes pc = .ok (i, len) ∧ chk pc i len = true := by
  intro pc i len hx
  by_cases hlt : pc < N
  · have h1 := List.all_eq_true.mp h pc (List.mem_range.mpr hlt)
    rw [hx] at h1
    simp only [Bool.and_eq_true, decide_eq_true_eq] at h1
    exact h1
  · rw [hN pc (by omega)] at hx; cases hx
/-- the fields by their numbers -/
def fkdOf (f : Nat → Option (Nat × Nat × Bool)) : FK := fun z => match z with
  | .ofNat n => f n
  | .negSucc _ => none
def fnmOf (f : Nat → String × String) : FN := fun z => f z.toNat
theorem names_all {f : Nat → Option (Nat × Nat × Bool)} {g : Nat → String × String} (N : Nat) (hN : ∀ x, N ≤ x → f x = none) (h : ((List.range N).all fun n => (List.range N).all fun n' => Nat.beq n n' || (match f n, f n' with | some _, some _ => decide ((g n).1 ≠ (g n').1) | _, _ => true)) = true) :
    ∀ z z' x x', fkdOf f z = some x → fkdOf f z' = some x' → z ≠ z' → (fnmOf g z).1 ≠ (fnmOf g z').1 := by
  intro z z' x x' h1 h2 hne
  match z, z', h1, h2 with
  | .ofNat n, .ofNat n', h1, h2 =>
    have h1 : f n = some x := h1
    have h2 : f n' = some x' := h2
    have l1 : n < N := Nat.lt_of_not_le fun q => by rw [hN n q] at h1; cases h1
    have l2 : n' < N := Nat.lt_of_not_le fun q => by rw [hN n' q] at h2; cases h2
    have q := List.all_eq_true.mp (List.all_eq_true.mp h n (List.mem_range.mpr l1)) n' (List.mem_range.mpr l2)
    rw [h1, h2] at q
    simp only [Bool.or_eq_true, decide_eq_true_eq] at q
    rcases q with q | q
    · exact absurd (congrArg Int.ofNat (Nat.eq_of_beq_eq_true q)) hne
    · exact q
theorem ptrs_all {f : Nat → Option (Nat × Nat × Bool)} (N : Nat) (hN : ∀ x, N ≤ x → f x = none) (h : ((List.range N).all fun n => (List.range N).all fun n' => Nat.beq n n' || (match f n, f n' with | some (0, j, _), some (0, j', _) => decide (j ≠ j') | _, _ => true)) = true) :
    ∀ z z' j b b', fkdOf f z = some (0, j, b) → fkdOf f z' = some (0, j, b') → z = z' := by
  intro z z' j b b' h1 h2
  match z, z', h1, h2 with
  | .ofNat n, .ofNat n', h1, h2 =>
    have h1 : f n = some (0, j, b) := h1
    have h2 : f n' = some (0, j, b') := h2
    have l1 : n < N := Nat.lt_of_not_le fun q => by rw [hN n q] at h1; cases h1
    have l2 : n' < N := Nat.lt_of_not_le fun q => by rw [hN n' q] at h2; cases h2
    have q := List.all_eq_true.mp (List.all_eq_true.mp h n (List.mem_range.mpr l1)) n' (List.mem_range.mpr l2)
    rw [h1, h2] at q
    simp only [Bool.or_eq_true, decide_eq_true_eq] at q
    rcases q with q | q
    · rw [Nat.eq_of_beq_eq_true q]
    · exact absurd rfl q
theorem fkd_all {f : Nat → Option (Nat × Nat × Bool)} {Q : Int → Nat → Nat → Bool → Prop} (h : ∀ n e, f n = some e → Q (Int.ofNat n) e.1 e.2.1 e.2.2) : ∀ z kd j b, fkdOf f z = some (kd, j, b) → Q z kd j b := by
  intro z kd j b hz
  match z, hz with
  | .ofNat n, hz => exact h n _ hz
/-- the law, from the case's start -/
theorem lawMet {P : PT} {Q : LT} {C own : String} {fnm : FN} {fkd : FK} {nm lnm : Nat → MethodName} {bys lbys : Nat → ByteArray} {nA nf mo : Nat} {a0 : Array Value} {Z : State} {sc : ScT} (HT : TabP P C fnm fkd nm bys nA nf a0 Z) (HL : TabL P Q C own nm lnm lbys a0 Z) (hA1 : 1 ≤ nA) (l : Launch)
    {x : MethodName} (hxc : x.cls = own) {ps : List Nat} {ml fr lc : Nat} (hq : linf Q 0 = some (ps, ml, 2, fr, lc)) {n : Nat} {as : List OV} {W' : OWd} (hrun : runL P Q (2 * nA) mo sc n 0 0 (initL as ml) [] [] = some (some (vi 1), W')) (hsz : (initL as ml).length ≤ ml)
    (ws : List Jvm.Cond) {rm : Room} (hfr : fr ≤ rm.frames) (hlc : lc ≤ rm.locals) (hce : mo * (1 + nA) ≤ rm.cells) (hsl : mo * (nf + psum P nA) ≤ rm.slots) {h : Heap} {n0 : Nat} (hn0 : n0 ≤ h.size) {A : Nat → Addr} (hs : ScR Z h n0 (A 0) sc) {vals : List Value} (hv : SR A 0 as vals) :
    MetFree l x (head1 (Jvm.Cond.code x (lbys 0) ml (some .boolean) :: ws) rm) (fun a U => a = vals.toArray ∧ Z.Warmed39 U.vm ∧ U.heap = h) (fun _ _ _ _ _ => True) (fun _ U o U' => ∃ L, o = .returned (some (.int 1)) ∧ Fr n0 L ∧ FrameEnd U o U' L rm.cells rm.slots) := by
  have HL' := HL
  obtain ⟨-, -, -, -, -, -, -, hpn, -⟩ := HL'
  refine MetFree.of_bodySF (plainFor_of_name (by rw [hxc]; exact hpn)) hisR ?_
  intro p e s m' args below meth c s₁ Bd hml0 hP hK
  obtain ⟨rfl, hZ, hh⟩ := hP
  have X0 := Stand.of_body Bd
  have e0 : s₁.heap = h := by rw [← hh, Bd.state]; rfl
  have hown : s.vm.findClass own = some m'.cls := by rw [← hxc]; exact findClass_of_methodNamed Bd.named
  have hL := entry_rel (n := ml) hv
  have hz : (argsToLocals vals.toArray ml).size = ml := by
    rw [← hL.1]
    refine Nat.le_antisymm hsz ?_
    simp only [initL, List.length_append, List.length_replicate]; omega
  have hRW : RepW P C fnm fkd Z sc s₁.heap A (fun _ _ => 0) n0 [] := by
    rw [e0]
    exact ⟨fun k t m q => (by cases q), fun k k' t m t' m2 j j' q => (by cases q), hs⟩
  obtain ⟨v, T', A', AO', lw, cells', slots', h1, h2, h3, h4, h5, h6, h7, h8, h9, h10, h11⟩ := soundL HT HL hA1 l n 0 0 _ [] [] _ W' hrun ps ml 2 fr lc hq p e _ s m' _ below meth c s₁ [] 0 0 A (fun _ _ => 0) (argsToLocals vals.toArray ml) [] n0 X0 Bd.exec hZ hown Bd.bytes hml0 Bd.returns
    hRW hL trivial hz (by rw [e0]; exact hn0) hfr hlc (Nat.zero_le _) (Nat.zero_le _) (Nat.zero_le _) (fun _ => ⟨Nat.zero_le _, Nat.zero_le _, hce, hsl⟩)
  obtain ⟨b1, b2, b3⟩ := h7 rfl
  obtain ⟨y, rfl, hy⟩ := h9
  obtain rfl : y = 1 := Int32.toInt_inj.mp hy
  obtain ⟨fs, hr, hrun', hended, hW, hsame⟩ := h1.leave (v := some (.int 1)) h10
  have d1 := cW_le 1 nA W'
  have d2 := cW_le nf (psum P nA) W'
  have d3 : W'.length * (1 + nA) ≤ mo * (1 + nA) := Nat.mul_le_mul_right _ b3
  have d4 : W'.length * (nf + psum P nA) ≤ mo * (nf + psum P nA) := Nat.mul_le_mul_right _ b3
  exact ⟨_, _, h11 fs hr, hrun', hended, lw, rfl, h6, ⟨_, rfl⟩, hW, hsame.mono (by omega) (by omega)⟩
end Jvm.OwnMini
namespace Jvm.OwnMini
/-! Reasoning on the plain functions. -/
def Ok {α : Type} (o : Option α) (Q : α → Prop) : Prop := ∃ a, o = some a ∧ Q a
section
variable {α β σ ε : Type} {Q : α → Prop}
theorem Ok.ret {a : α} (h : Q a) : Ok (some a) Q := ⟨a, rfl, h⟩
theorem Ok.mono {o : Option α} {P : α → Prop} (h : Ok o P) (h2 : ∀ a, P a → Q a) : Ok o Q := by
  obtain ⟨a, e, q⟩ := h; exact ⟨a, e, h2 a q⟩
theorem Ok.bind {f : Option β} {g : β → Option α} {P : β → Prop} (h : Ok f P) (h2 : ∀ b, P b → Ok (g b) Q) : Ok (f.bind g) Q := by
  obtain ⟨a, e, q⟩ := h
  obtain ⟨c, e2, q2⟩ := h2 a q
  exact ⟨c, by rw [e]; exact e2, q2⟩
theorem Ok.bindE {f : Option β} {g : β → Option α} {b : β} (h : f = some b) (h2 : Ok (g b) Q) : Ok (f.bind g) Q := by
  rw [h]; exact h2
theorem Ok.ite {c : Prop} [Decidable c] {x y : Option α} (h1 : c → Ok x Q) (h2 : ¬ c → Ok y Q) : Ok (if c then x else y) Q := by
  by_cases h : c
  · rw [if_pos h]; exact h1 h
  · rw [if_neg h]; exact h2 h
theorem Ok.pos {c : Prop} [Decidable c] {x y : Option α} (h : c) (h1 : Ok x Q) : Ok (if c then x else y) Q := by rw [if_pos h]; exact h1
theorem Ok.neg {c : Prop} [Decidable c] {x y : Option α} (h : ¬ c) (h1 : Ok y Q) : Ok (if c then x else y) Q := by rw [if_neg h]; exact h1
theorem Ok.lp {body : σ → Option (σ ⊕ ε)} {I : σ → Prop} {μ : σ → Nat} {Qx : ε → Prop} (h : ∀ s, I s → Ok (body s) (fun x => match x with | .inl s' => I s' ∧ μ s' < μ s | .inr e => Qx e)) : ∀ (n : Nat) (s : σ), I s → μ s < n → Ok (OwnMini.lp body n s) Qx
  | 0, s, _, hn => by omega
  | n + 1, s, hI, hn => by
    obtain ⟨x, e, q⟩ := h s hI
    unfold OwnMini.lp
    rw [e]
    cases x with
    | inl s' => exact Ok.lp h n s' q.1 (by have := q.2; omega)
    | inr e' => exact ⟨e', rfl, q⟩
/-- one turn by hand -/
theorem lp_more {body : σ → Option (σ ⊕ ε)} {n : Nat} {s s' : σ} (h : body s = some (.inl s')) : lp body (n + 1) s = lp body n s' := by
  show (match body s with | none => none | some (.inl s') => lp body n s' | some (.inr e) => some e) = _
  rw [h]
theorem lp_out {body : σ → Option (σ ⊕ ε)} {n : Nat} {s : σ} {e : ε} (h : body s = some (.inr e)) : lp body (n + 1) s = some e := by
  show (match body s with | none => none | some (.inl s') => lp body n s' | some (.inr e) => some e) = _
  rw [h]
end
theorem NN_eq : NN = 4611686018427387904 := rfl
theorem w32_id {z : Int} (h : -2147483648 ≤ z ∧ z < 2147483648) : w32 z = z := by unfold w32; omega
theorem w64_id {z : Int} (h : -9223372036854775808 ≤ z ∧ z < 9223372036854775808) : w64 z = z := by unfold w64; omega
theorem sto_at (m : OMem) (k : Nat) (i z : Int) : sto m k i z k i = z := by simp [sto]
theorem sto_k (m : OMem) {k k' : Nat} (i z i' : Int) (h : k' ≠ k) : sto m k i z k' i' = m k' i' := by simp [sto, h]
theorem sto_i (m : OMem) (k k' : Nat) {i i' : Int} (z : Int) (h : i' ≠ i) : sto m k i z k' i' = m k' i' := by simp [sto, h]
end Jvm.OwnMini
namespace Jvm.OwnMini
section
variable {α β σ ε : Type} {Q : α → Prop}
theorem Ok.bind' {f : Option β} {g : β → Option α} (h : Ok f (fun b => Ok (g b) Q)) : Ok (f.bind g) Q := Ok.bind h (fun _ h => h)
theorem Ok.grd {c : Prop} [Decidable c] {x : Option α} (h : c) (h1 : Ok x Q) : Ok (if c then x else none) Q := Ok.pos h h1
theorem Ok.lp1 {body : σ → Option (σ ⊕ α)} {n : Nat} {s : σ} (h : Ok (body s) (fun x => match x with | .inl s' => Ok (OwnMini.lp body n s') Q | .inr e => Q e)) : Ok (OwnMini.lp body (n + 1) s) Q := by
  obtain ⟨x, e, q⟩ := h
  unfold OwnMini.lp
  rw [e]
  cases x with
  | inl s' => exact q
  | inr e' => exact ⟨e', rfl, q⟩
theorem Ok.lpNN {body : σ → Option (σ ⊕ α)} {s : σ} (h : Ok (body s) (fun x => match x with | .inl s' => Ok (OwnMini.lp body 4611686018427387903 s') Q | .inr e => Q e)) : Ok (OwnMini.lp body NN s) Q := Ok.lp1 (n := 4611686018427387903) h
theorem Ok.loop {body : σ → Option (σ ⊕ α)} {s : σ} (I : σ → Prop) (μ : σ → Nat) (hI : I s) (hμ : μ s < 4611686018427387904) (h : ∀ s, I s → Ok (body s) (fun x => match x with | .inl s' => I s' ∧ μ s' < μ s | .inr e => Q e)) : Ok (OwnMini.lp body NN s) Q :=
  Ok.lp (Qx := Q) (fun s hs => by obtain ⟨x, e, q⟩ := h s hs; exact ⟨x, e, by cases x <;> exact q⟩) NN s hI hμ
end
theorem Ok.law {o : Option (Int × OWd)} (h : Ok o (fun r => r.1 = 1)) : ∃ W, o = some (1, W) := by
  obtain ⟨⟨a, W⟩, e, q⟩ := h
  cases q
  exact ⟨W, e⟩
theorem w32_rng (z : Int) : -2147483648 ≤ w32 z ∧ w32 z < 2147483648 := by unfold w32; omega
theorem z0_at (k : Nat) (i : Int) : z0 k i = 0 := rfl
end Jvm.OwnMini
namespace Jvm.OwnMini
open Jvm.Kit
/-! Masks and shifts in plain integers. -/
theorem ofInt32_toInt (z : Int) : (Int32.ofInt z).toInt = w32 z := by
  rw [Int32.toInt_ofInt]; unfold w32; simp only [Int.bmod, Int32.size]; split <;> omega
theorem ofInt64_toInt (z : Int) : (Int64.ofInt z).toInt = w64 z := by
  rw [Int64.toInt_ofInt]; unfold w64; simp only [Int.bmod, Int64.size]; split <;> omega
theorem and32_1 (z : Int) : and32 z 1 = z % 2 := by
  unfold and32; rw [i32_mask _ _ (k := 1) (by decide) (by decide), ofInt32_toInt]; unfold w32; omega
theorem and32_3 (z : Int) : and32 z 3 = z % 4 := by
  unfold and32; rw [i32_mask _ _ (k := 2) (by decide) (by decide), ofInt32_toInt]; unfold w32; omega
theorem and32_7 (z : Int) : and32 z 7 = z % 8 := by
  unfold and32; rw [i32_mask _ _ (k := 3) (by decide) (by decide), ofInt32_toInt]; unfold w32; omega
theorem and32_15 (z : Int) : and32 z 15 = z % 16 := by
  unfold and32; rw [i32_mask _ _ (k := 4) (by decide) (by decide), ofInt32_toInt]; unfold w32; omega
theorem and32_31 (z : Int) : and32 z 31 = z % 32 := by
  unfold and32; rw [i32_mask _ _ (k := 5) (by decide) (by decide), ofInt32_toInt]; unfold w32; omega
theorem and32_63 (z : Int) : and32 z 63 = z % 64 := by
  unfold and32; rw [i32_mask _ _ (k := 6) (by decide) (by decide), ofInt32_toInt]; unfold w32; omega
theorem and32_127 (z : Int) : and32 z 127 = z % 128 := by
  unfold and32; rw [i32_mask _ _ (k := 7) (by decide) (by decide), ofInt32_toInt]; unfold w32; omega
theorem and32_255 (z : Int) : and32 z 255 = z % 256 := by
  unfold and32; rw [i32_mask _ _ (k := 8) (by decide) (by decide), ofInt32_toInt]; unfold w32; omega
theorem and32_511 (z : Int) : and32 z 511 = z % 512 := by
  unfold and32; rw [i32_mask _ _ (k := 9) (by decide) (by decide), ofInt32_toInt]; unfold w32; omega
theorem and32_1023 (z : Int) : and32 z 1023 = z % 1024 := by
  unfold and32; rw [i32_mask _ _ (k := 10) (by decide) (by decide), ofInt32_toInt]; unfold w32; omega
theorem and32_max (z : Int) : and32 z 2147483647 = z % 2147483648 := by
  unfold and32; rw [i32_mask _ _ (k := 31) (by decide) (by decide), ofInt32_toInt]; unfold w32; omega
theorem div32_nn {a b : Int} (ha : 0 ≤ a) (ha2 : a < 2147483648) (hb : 0 < b) : div32 a b = a / b := by
  unfold div32
  rw [Int.tdiv_eq_ediv_of_nonneg ha]
  have h1 : 0 ≤ a / b := Int.ediv_nonneg ha (by omega)
  have h2 : a / b ≤ a := Int.ediv_le_self b ha
  exact w32_id (by omega)
theorem rem32_nn {a b : Int} (ha : 0 ≤ a) : rem32 a b = a % b := by
  unfold rem32
  exact Int.tmod_eq_emod_of_nonneg ha
end Jvm.OwnMini
namespace Jvm.OwnMini
open Jvm.Kit
theorem shl1_dec : ∀ k : Fin 31, (shl32 1 (k.val : Int)) = ((2 ^ k.val : Nat) : Int) := by decide +kernel
theorem shl1_eq (k : Int) (h : 0 ≤ k ∧ k ≤ 30) : shl32 1 k = ((2 ^ k.toNat : Nat) : Int) := by
  have := shl1_dec ⟨k.toNat, by omega⟩
  simp only [Int.toNat_of_nonneg h.1] at this
  exact this
theorem shl1_rng (k : Int) (h : 0 ≤ k ∧ k ≤ 10) : 1 ≤ shl32 1 k ∧ shl32 1 k ≤ 1024 := by
  have : ∀ j : Fin 11, 1 ≤ shl32 1 (j.val : Int) ∧ shl32 1 (j.val : Int) ≤ 1024 := by decide +kernel
  have := this ⟨k.toNat, by omega⟩
  simp only [Int.toNat_of_nonneg h.1] at this
  exact this
theorem and32_nn {a : Int} (b : Int) (h : 0 ≤ a) (h2 : a < 2147483648) : 0 ≤ and32 a b ∧ and32 a b ≤ a := by
  have ha : (Int32.ofInt a).toInt = a := by rw [ofInt32_toInt, w32_id (by omega)]
  have h0 : 0 ≤ Int32.ofInt a := by rw [Int32.le_iff_toInt_le, ha]; exact h
  have g := i32_and_bounds (Int32.ofInt b) h0
  rw [Int32.le_iff_toInt_le, Int32.le_iff_toInt_le, ha, Int32.and_comm] at g
  exact g
end Jvm.OwnMini
namespace Jvm.OwnMini
theorem and32_0 (b : Int) : and32 0 b = 0 := by unfold and32; simp
theorem or32_shl (a b : Int) : or32 0 (shl32 a b) = shl32 a b := by unfold or32 shl32; rw [Int32.ofInt_toInt]; simp
theorem and32_not (b : Int) : and32 b (xor32 b (-1)) = 0 := by
  unfold and32 xor32
  rw [Int32.ofInt_toInt]
  have : Int32.ofInt b &&& (Int32.ofInt b ^^^ Int32.ofInt (-1)) = 0 := by
    rw [← Int32.toBitVec_inj]
    simp only [Int32.toBitVec_and, Int32.toBitVec_xor]
    rw [show (Int32.ofInt (-1)).toBitVec = BitVec.allOnes 32 from by decide, show (0 : Int32).toBitVec = 0#32 from by decide]
    rw [BitVec.xor_allOnes, BitVec.and_not_self]; rfl
  rw [this]; rfl
end Jvm.OwnMini
namespace Jvm.OwnMini
open Jvm Jvm.ClassFile Sem Op Lib Jvm.Free Jvm.Stand Jvm.LawKit Jvm.RoadKit
/-! The script: its length and its numbers. -/
theorem own_len {Z : State} {args : Array Value} {t : Term} {n : Int32} {a : Addr} {cl : Cell} {ty : FieldType} (h : (Jvm.Cond.le (.length t) (.int n)).value args Z none Z [] = some true) (ea : t.eval args Z none [] Z = some (.ref a)) (A : Arr Z Z.heap a cl ty) : cl.slots.size < 2 ^ 31 ∧ (cl.slots.size : Int) ≤ n.toInt := by
  obtain ⟨x, y, e1, -, -, -⟩ := cmp_v (Or.inr (Or.inr h))
  obtain ⟨b, c, f1, f2, f3, rfl⟩ := Jvm.Lib.length_spec e1
  cases ea.symm.trans f1
  cases f2.symm.trans (Arr.fin (Vm.Alike.refl _) A)
  have g := gotT (Jvm.Cond.le_ints e1 rfl) h
  rw [Int32.le_iff_toInt_le, len_toInt f3] at g
  exact ⟨f3, g⟩
def own_sc (c : Cell) (i : Int) : Int := match c.slots[i.toNat]? with | some (.int x) => x.toInt | _ => 0
theorem own_sc_rng (c : Cell) (i : Int) : -2147483648 ≤ own_sc c i ∧ own_sc c i < 2147483648 := by
  unfold own_sc
  split
  · rename_i x _
    have h1 := x.le_toInt
    have h2 := x.toInt_lt
    omega
  · omega
theorem own_sc_at {c : Cell} {i : Nat} {x : Int32} (h : c.slots[i]? = some (.int x)) : own_sc c (i : Int) = x.toInt := by
  unfold own_sc
  rw [Int.toNat_natCast, h]
theorem own_elem {Z : State} {a : Addr} {cl : Cell} (hf : Fit Z) (A : Arr Z Z.heap a cl .int) {i : Nat} (hi : i < cl.slots.size) (q : cl.slots.size < 2 ^ 31) : ∃ x : Int32, cl.slots[i]? = some (.int x) := by
  have e1 : (i.toInt32).toInt = i := len_toInt (by omega)
  have e2 : (i.toInt32).toNatClampNeg = i := by simp only [Int32.toNatClampNeg, e1]; rfl
  have hj : ¬ (i.toInt32 < 0 ∨ cl.slots.size ≤ (i.toInt32).toNatClampNeg) := by
    rw [e2]
    rintro (h | h)
    · rw [Int32.lt_iff_toInt_lt, e1] at h
      have : (0 : Int32).toInt = 0 := rfl
      omega
    · omega
  obtain ⟨v, h1, h2⟩ := elem_fit hf A hj
  obtain ⟨x, rfl⟩ := fit_I h2 (by simp)
  rw [e2] at h1
  exact ⟨x, h1⟩
end Jvm.OwnMini

namespace Jvm.Pilot.@@N@@
open Jvm Jvm.ClassFile Sem Op Lib Jvm.Free Jvm.Stand Jvm.LawKit Jvm.RoadKit Bundle Jvm.Pilot.@@N@@.Jvm.D Jvm.OwnMini
def cd_0 : Nat → Option (Instr × Nat) := fun pc => cond (Nat.blt pc 471) (cond (Nat.blt pc 253) (cond (Nat.blt pc 134) (cond (Nat.blt pc 67) (cond (Nat.blt pc 31) (cond (Nat.blt pc 13) (cond (Nat.blt pc 5) (cond (Nat.blt pc 1) (cond (Nat.beq pc 0) (some (.aload_n 0, 1)) none) (cond (Nat.blt pc 4) (cond (Nat.beq pc 1) (some (.invokespecial 1, 3)) none) (cond (Nat.beq pc 4) (some (.aload_n 0, 1)) none))) (cond (Nat.blt pc 9) (cond (Nat.blt pc 6) (cond (Nat.beq pc 5) (some (.iconst (-1), 1)) none) (cond (Nat.beq pc 6) (some (.putfield 7, 3)) none)) (cond (Nat.blt pc 10) (cond (Nat.beq pc 9) (some (.aload_n 0, 1)) none) (cond (Nat.beq pc 10) (some (.sipush 256, 3)) none)))) (cond (Nat.blt pc 22) (cond (Nat.blt pc 18) (cond (Nat.blt pc 15) (cond (Nat.beq pc 13) (some (.newarray .int, 2)) none) (cond (Nat.beq pc 15) (some (.putfield 13, 3)) none)) (cond (Nat.blt pc 19) (cond (Nat.beq pc 18) (some (.aload_n 0, 1)) none) (cond (Nat.beq pc 19) (some (.sipush 256, 3)) none))) (cond (Nat.blt pc 27) (cond (Nat.blt pc 24) (cond (Nat.beq pc 22) (some (.newarray .int, 2)) none) (cond (Nat.beq pc 24) (some (.putfield 17, 3)) none)) (cond (Nat.blt pc 28) (cond (Nat.beq pc 27) (some (.aload_n 0, 1)) none) (cond (Nat.beq pc 28) (some (.sipush 256, 3)) none))))) (cond (Nat.blt pc 49) (cond (Nat.blt pc 40) (cond (Nat.blt pc 36) (cond (Nat.blt pc 33) (cond (Nat.beq pc 31) (some (.newarray .int, 2)) none) (cond (Nat.beq pc 33) (some (.putfield 20, 3)) none)) (cond (Nat.blt pc 37) (cond (Nat.beq pc 36) (some (.aload_n 0, 1)) none) (cond (Nat.beq pc 37) (some (.sipush 256, 3)) none))) (cond (Nat.blt pc 45) (cond (Nat.blt pc 42) (cond (Nat.beq pc 40) (some (.newarray .int, 2)) none) (cond (Nat.beq pc 42) (some (.putfield 23, 3)) none)) (cond (Nat.blt pc 46) (cond (Nat.beq pc 45) (some (.aload_n 0, 1)) none) (cond (Nat.beq pc 46) (some (.sipush 256, 3)) none)))) (cond (Nat.blt pc 58) (cond (Nat.blt pc 54) (cond (Nat.blt pc 51) (cond (Nat.beq pc 49) (some (.newarray .int, 2)) none) (cond (Nat.beq pc 51) (some (.putfield 26, 3)) none)) (cond (Nat.blt pc 55) (cond (Nat.beq pc 54) (some (.aload_n 0, 1)) none) (cond (Nat.beq pc 55) (some (.sipush 256, 3)) none))) (cond (Nat.blt pc 63) (cond (Nat.blt pc 60) (cond (Nat.beq pc 58) (some (.newarray .int, 2)) none) (cond (Nat.beq pc 60) (some (.putfield 29, 3)) none)) (cond (Nat.blt pc 64) (cond (Nat.beq pc 63) (some (.aload_n 0, 1)) none) (cond (Nat.beq pc 64) (some (.sipush 256, 3)) none)))))) (cond (Nat.blt pc 100) (cond (Nat.blt pc 82) (cond (Nat.blt pc 73) (cond (Nat.blt pc 69) (cond (Nat.beq pc 67) (some (.newarray .int, 2)) none) (cond (Nat.blt pc 72) (cond (Nat.beq pc 69) (some (.putfield 32, 3)) none) (cond (Nat.beq pc 72) (some (.aload_n 0, 1)) none))) (cond (Nat.blt pc 78) (cond (Nat.blt pc 76) (cond (Nat.beq pc 73) (some (.sipush 256, 3)) none) (cond (Nat.beq pc 76) (some (.newarray .int, 2)) none)) (cond (Nat.blt pc 81) (cond (Nat.beq pc 78) (some (.putfield 35, 3)) none) (cond (Nat.beq pc 81) (some (.aload_n 0, 1)) none)))) (cond (Nat.blt pc 91) (cond (Nat.blt pc 87) (cond (Nat.blt pc 85) (cond (Nat.beq pc 82) (some (.sipush 256, 3)) none) (cond (Nat.beq pc 85) (some (.newarray .boolean, 2)) none)) (cond (Nat.blt pc 90) (cond (Nat.beq pc 87) (some (.putfield 38, 3)) none) (cond (Nat.beq pc 90) (some (.aload_n 0, 1)) none))) (cond (Nat.blt pc 96) (cond (Nat.blt pc 94) (cond (Nat.beq pc 91) (some (.sipush 256, 3)) none) (cond (Nat.beq pc 94) (some (.newarray .boolean, 2)) none)) (cond (Nat.blt pc 99) (cond (Nat.beq pc 96) (some (.putfield 42, 3)) none) (cond (Nat.beq pc 99) (some (.aload_n 0, 1)) none))))) (cond (Nat.blt pc 118) (cond (Nat.blt pc 109) (cond (Nat.blt pc 105) (cond (Nat.blt pc 103) (cond (Nat.beq pc 100) (some (.sipush 256, 3)) none) (cond (Nat.beq pc 103) (some (.newarray .boolean, 2)) none)) (cond (Nat.blt pc 108) (cond (Nat.beq pc 105) (some (.putfield 45, 3)) none) (cond (Nat.beq pc 108) (some (.aload_n 0, 1)) none))) (cond (Nat.blt pc 114) (cond (Nat.blt pc 112) (cond (Nat.beq pc 109) (some (.sipush 256, 3)) none) (cond (Nat.beq pc 112) (some (.newarray .boolean, 2)) none)) (cond (Nat.blt pc 117) (cond (Nat.beq pc 114) (some (.putfield 48, 3)) none) (cond (Nat.beq pc 117) (some (.aload_n 0, 1)) none)))) (cond (Nat.blt pc 126) (cond (Nat.blt pc 122) (cond (Nat.blt pc 120) (cond (Nat.beq pc 118) (some (.bipush 16, 2)) none) (cond (Nat.beq pc 120) (some (.newarray .int, 2)) none)) (cond (Nat.blt pc 125) (cond (Nat.beq pc 122) (some (.putfield 51, 3)) none) (cond (Nat.beq pc 125) (some (.aload_n 0, 1)) none))) (cond (Nat.blt pc 130) (cond (Nat.blt pc 128) (cond (Nat.beq pc 126) (some (.bipush 16, 2)) none) (cond (Nat.beq pc 128) (some (.newarray .int, 2)) none)) (cond (Nat.blt pc 133) (cond (Nat.beq pc 130) (some (.putfield 54, 3)) none) (cond (Nat.beq pc 133) (some (.aload_n 0, 1)) none))))))) (cond (Nat.blt pc 197) (cond (Nat.blt pc 165) (cond (Nat.blt pc 149) (cond (Nat.blt pc 141) (cond (Nat.blt pc 136) (cond (Nat.beq pc 134) (some (.bipush 7, 2)) none) (cond (Nat.blt pc 138) (cond (Nat.beq pc 136) (some (.newarray .int, 2)) none) (cond (Nat.beq pc 138) (some (.putfield 57, 3)) none))) (cond (Nat.blt pc 144) (cond (Nat.blt pc 142) (cond (Nat.beq pc 141) (some (.aload_n 0, 1)) none) (cond (Nat.beq pc 142) (some (.bipush 7, 2)) none)) (cond (Nat.blt pc 146) (cond (Nat.beq pc 144) (some (.newarray .int, 2)) none) (cond (Nat.beq pc 146) (some (.putfield 60, 3)) none)))) (cond (Nat.blt pc 157) (cond (Nat.blt pc 152) (cond (Nat.blt pc 150) (cond (Nat.beq pc 149) (some (.aload_n 0, 1)) none) (cond (Nat.beq pc 150) (some (.bipush 7, 2)) none)) (cond (Nat.blt pc 154) (cond (Nat.beq pc 152) (some (.newarray .int, 2)) none) (cond (Nat.beq pc 154) (some (.putfield 63, 3)) none))) (cond (Nat.blt pc 160) (cond (Nat.blt pc 158) (cond (Nat.beq pc 157) (some (.aload_n 0, 1)) none) (cond (Nat.beq pc 158) (some (.bipush 7, 2)) none)) (cond (Nat.blt pc 162) (cond (Nat.beq pc 160) (some (.newarray .int, 2)) none) (cond (Nat.beq pc 162) (some (.putfield 66, 3)) none))))) (cond (Nat.blt pc 181) (cond (Nat.blt pc 173) (cond (Nat.blt pc 168) (cond (Nat.blt pc 166) (cond (Nat.beq pc 165) (some (.aload_n 0, 1)) none) (cond (Nat.beq pc 166) (some (.bipush 7, 2)) none)) (cond (Nat.blt pc 170) (cond (Nat.beq pc 168) (some (.newarray .int, 2)) none) (cond (Nat.beq pc 170) (some (.putfield 69, 3)) none))) (cond (Nat.blt pc 176) (cond (Nat.blt pc 174) (cond (Nat.beq pc 173) (some (.aload_n 0, 1)) none) (cond (Nat.beq pc 174) (some (.bipush 47, 2)) none)) (cond (Nat.blt pc 178) (cond (Nat.beq pc 176) (some (.newarray .int, 2)) none) (cond (Nat.beq pc 178) (some (.putfield 72, 3)) none)))) (cond (Nat.blt pc 189) (cond (Nat.blt pc 184) (cond (Nat.blt pc 182) (cond (Nat.beq pc 181) (some (.aload_n 0, 1)) none) (cond (Nat.beq pc 182) (some (.bipush 19, 2)) none)) (cond (Nat.blt pc 186) (cond (Nat.beq pc 184) (some (.newarray .int, 2)) none) (cond (Nat.beq pc 186) (some (.putfield 75, 3)) none))) (cond (Nat.blt pc 192) (cond (Nat.blt pc 190) (cond (Nat.beq pc 189) (some (.aload_n 0, 1)) none) (cond (Nat.beq pc 190) (some (.bipush 19, 2)) none)) (cond (Nat.blt pc 194) (cond (Nat.beq pc 192) (some (.newarray .int, 2)) none) (cond (Nat.beq pc 194) (some (.putfield 78, 3)) none)))))) (cond (Nat.blt pc 227) (cond (Nat.blt pc 213) (cond (Nat.blt pc 205) (cond (Nat.blt pc 200) (cond (Nat.blt pc 198) (cond (Nat.beq pc 197) (some (.aload_n 0, 1)) none) (cond (Nat.beq pc 198) (some (.ldc 81, 2)) none)) (cond (Nat.blt pc 202) (cond (Nat.beq pc 200) (some (.newarray .byte, 2)) none) (cond (Nat.beq pc 202) (some (.putfield 82, 3)) none))) (cond (Nat.blt pc 208) (cond (Nat.blt pc 206) (cond (Nat.beq pc 205) (some (.aload_n 0, 1)) none) (cond (Nat.beq pc 206) (some (.bipush 7, 2)) none)) (cond (Nat.blt pc 210) (cond (Nat.beq pc 208) (some (.newarray .int, 2)) none) (cond (Nat.beq pc 210) (some (.putfield 86, 3)) none)))) (cond (Nat.blt pc 221) (cond (Nat.blt pc 216) (cond (Nat.blt pc 214) (cond (Nat.beq pc 213) (some (.aload_n 0, 1)) none) (cond (Nat.beq pc 214) (some (.bipush 7, 2)) none)) (cond (Nat.blt pc 218) (cond (Nat.beq pc 216) (some (.newarray .int, 2)) none) (cond (Nat.beq pc 218) (some (.putfield 89, 3)) none))) (cond (Nat.blt pc 223) (cond (Nat.blt pc 222) (cond (Nat.beq pc 221) (some (.aload_n 0, 1)) none) (cond (Nat.beq pc 222) (some (.aload_n 0, 1)) none)) (cond (Nat.blt pc 224) (cond (Nat.beq pc 223) (some (.iload_n 1, 1)) none) (cond (Nat.beq pc 224) (some (.invokevirtual 92, 3)) none))))) (cond (Nat.blt pc 241) (cond (Nat.blt pc 233) (cond (Nat.blt pc 231) (cond (Nat.blt pc 230) (cond (Nat.beq pc 227) (some (.putfield 96, 3)) none) (cond (Nat.beq pc 230) (some (.aload_n 0, 1)) none)) (cond (Nat.blt pc 232) (cond (Nat.beq pc 231) (some (.aload_n 0, 1)) none) (cond (Nat.beq pc 232) (some (.iload_n 2, 1)) none))) (cond (Nat.blt pc 239) (cond (Nat.blt pc 236) (cond (Nat.beq pc 233) (some (.invokevirtual 92, 3)) none) (cond (Nat.beq pc 236) (some (.putfield 99, 3)) none)) (cond (Nat.blt pc 240) (cond (Nat.beq pc 239) (some (.aload_n 0, 1)) none) (cond (Nat.beq pc 240) (some (.aload_n 0, 1)) none)))) (cond (Nat.blt pc 247) (cond (Nat.blt pc 245) (cond (Nat.blt pc 244) (cond (Nat.beq pc 241) (some (.getfield 96, 3)) none) (cond (Nat.beq pc 244) (some (.iconst 1, 1)) none)) (cond (Nat.blt pc 246) (cond (Nat.beq pc 245) (some (.iadd, 1)) none) (cond (Nat.beq pc 246) (some (.iconst 2, 1)) none))) (cond (Nat.blt pc 251) (cond (Nat.blt pc 248) (cond (Nat.beq pc 247) (some (.idiv, 1)) none) (cond (Nat.beq pc 248) (some (.putfield 102, 3)) none)) (cond (Nat.blt pc 252) (cond (Nat.beq pc 251) (some (.aload_n 0, 1)) none) (cond (Nat.beq pc 252) (some (.aload_n 0, 1)) none)))))))) (cond (Nat.blt pc 355) (cond (Nat.blt pc 302) (cond (Nat.blt pc 276) (cond (Nat.blt pc 264) (cond (Nat.blt pc 258) (cond (Nat.blt pc 256) (cond (Nat.beq pc 253) (some (.getfield 99, 3)) none) (cond (Nat.blt pc 257) (cond (Nat.beq pc 256) (some (.iconst 1, 1)) none) (cond (Nat.beq pc 257) (some (.iadd, 1)) none))) (cond (Nat.blt pc 260) (cond (Nat.blt pc 259) (cond (Nat.beq pc 258) (some (.iconst 2, 1)) none) (cond (Nat.beq pc 259) (some (.idiv, 1)) none)) (cond (Nat.blt pc 263) (cond (Nat.beq pc 260) (some (.putfield 105, 3)) none) (cond (Nat.beq pc 263) (some (.aload_n 0, 1)) none)))) (cond (Nat.blt pc 270) (cond (Nat.blt pc 268) (cond (Nat.blt pc 265) (cond (Nat.beq pc 264) (some (.aload_n 0, 1)) none) (cond (Nat.beq pc 265) (some (.getfield 102, 3)) none)) (cond (Nat.blt pc 269) (cond (Nat.beq pc 268) (some (.iconst 1, 1)) none) (cond (Nat.beq pc 269) (some (.iadd, 1)) none))) (cond (Nat.blt pc 272) (cond (Nat.blt pc 271) (cond (Nat.beq pc 270) (some (.iconst 2, 1)) none) (cond (Nat.beq pc 271) (some (.idiv, 1)) none)) (cond (Nat.blt pc 275) (cond (Nat.beq pc 272) (some (.putfield 108, 3)) none) (cond (Nat.beq pc 275) (some (.aload_n 0, 1)) none))))) (cond (Nat.blt pc 288) (cond (Nat.blt pc 282) (cond (Nat.blt pc 280) (cond (Nat.blt pc 277) (cond (Nat.beq pc 276) (some (.aload_n 0, 1)) none) (cond (Nat.beq pc 277) (some (.getfield 105, 3)) none)) (cond (Nat.blt pc 281) (cond (Nat.beq pc 280) (some (.iconst 1, 1)) none) (cond (Nat.beq pc 281) (some (.iadd, 1)) none))) (cond (Nat.blt pc 284) (cond (Nat.blt pc 283) (cond (Nat.beq pc 282) (some (.iconst 2, 1)) none) (cond (Nat.beq pc 283) (some (.idiv, 1)) none)) (cond (Nat.blt pc 287) (cond (Nat.beq pc 284) (some (.putfield 111, 3)) none) (cond (Nat.beq pc 287) (some (.aload_n 0, 1)) none)))) (cond (Nat.blt pc 292) (cond (Nat.blt pc 290) (cond (Nat.blt pc 289) (cond (Nat.beq pc 288) (some (.iconst 0, 1)) none) (cond (Nat.beq pc 289) (some (.iconst 0, 1)) none)) (cond (Nat.blt pc 291) (cond (Nat.beq pc 290) (some (.iconst 0, 1)) none) (cond (Nat.beq pc 291) (some (.aload_n 0, 1)) none))) (cond (Nat.blt pc 296) (cond (Nat.blt pc 295) (cond (Nat.beq pc 292) (some (.getfield 108, 3)) none) (cond (Nat.beq pc 295) (some (.aload_n 0, 1)) none)) (cond (Nat.blt pc 299) (cond (Nat.beq pc 296) (some (.getfield 111, 3)) none) (cond (Nat.beq pc 299) (some (.invokevirtual 114, 3)) none)))))) (cond (Nat.blt pc 327) (cond (Nat.blt pc 313) (cond (Nat.blt pc 305) (cond (Nat.blt pc 303) (cond (Nat.beq pc 302) (some (.aload_n 0, 1)) none) (cond (Nat.blt pc 304) (cond (Nat.beq pc 303) (some (.iconst 1, 1)) none) (cond (Nat.beq pc 304) (some (.aload_n 0, 1)) none))) (cond (Nat.blt pc 309) (cond (Nat.blt pc 308) (cond (Nat.beq pc 305) (some (.getfield 108, 3)) none) (cond (Nat.beq pc 308) (some (.iconst 0, 1)) none)) (cond (Nat.blt pc 310) (cond (Nat.beq pc 309) (some (.aload_n 0, 1)) none) (cond (Nat.beq pc 310) (some (.getfield 102, 3)) none)))) (cond (Nat.blt pc 319) (cond (Nat.blt pc 317) (cond (Nat.blt pc 314) (cond (Nat.beq pc 313) (some (.aload_n 0, 1)) none) (cond (Nat.beq pc 314) (some (.getfield 108, 3)) none)) (cond (Nat.blt pc 318) (cond (Nat.beq pc 317) (some (.isub, 1)) none) (cond (Nat.beq pc 318) (some (.aload_n 0, 1)) none))) (cond (Nat.blt pc 325) (cond (Nat.blt pc 322) (cond (Nat.beq pc 319) (some (.getfield 111, 3)) none) (cond (Nat.beq pc 322) (some (.invokevirtual 114, 3)) none)) (cond (Nat.blt pc 326) (cond (Nat.beq pc 325) (some (.aload_n 0, 1)) none) (cond (Nat.beq pc 326) (some (.iconst 2, 1)) none))))) (cond (Nat.blt pc 341) (cond (Nat.blt pc 333) (cond (Nat.blt pc 329) (cond (Nat.blt pc 328) (cond (Nat.beq pc 327) (some (.iconst 0, 1)) none) (cond (Nat.beq pc 328) (some (.aload_n 0, 1)) none)) (cond (Nat.blt pc 332) (cond (Nat.beq pc 329) (some (.getfield 111, 3)) none) (cond (Nat.beq pc 332) (some (.aload_n 0, 1)) none))) (cond (Nat.blt pc 337) (cond (Nat.blt pc 336) (cond (Nat.beq pc 333) (some (.getfield 108, 3)) none) (cond (Nat.beq pc 336) (some (.aload_n 0, 1)) none)) (cond (Nat.blt pc 340) (cond (Nat.beq pc 337) (some (.getfield 105, 3)) none) (cond (Nat.beq pc 340) (some (.aload_n 0, 1)) none)))) (cond (Nat.blt pc 349) (cond (Nat.blt pc 345) (cond (Nat.blt pc 344) (cond (Nat.beq pc 341) (some (.getfield 111, 3)) none) (cond (Nat.beq pc 344) (some (.isub, 1)) none)) (cond (Nat.blt pc 348) (cond (Nat.beq pc 345) (some (.invokevirtual 114, 3)) none) (cond (Nat.beq pc 348) (some (.aload_n 0, 1)) none))) (cond (Nat.blt pc 351) (cond (Nat.blt pc 350) (cond (Nat.beq pc 349) (some (.iconst 3, 1)) none) (cond (Nat.beq pc 350) (some (.aload_n 0, 1)) none)) (cond (Nat.blt pc 354) (cond (Nat.beq pc 351) (some (.getfield 108, 3)) none) (cond (Nat.beq pc 354) (some (.aload_n 0, 1)) none))))))) (cond (Nat.blt pc 410) (cond (Nat.blt pc 382) (cond (Nat.blt pc 368) (cond (Nat.blt pc 362) (cond (Nat.blt pc 358) (cond (Nat.beq pc 355) (some (.getfield 111, 3)) none) (cond (Nat.blt pc 359) (cond (Nat.beq pc 358) (some (.aload_n 0, 1)) none) (cond (Nat.beq pc 359) (some (.getfield 102, 3)) none))) (cond (Nat.blt pc 366) (cond (Nat.blt pc 363) (cond (Nat.beq pc 362) (some (.aload_n 0, 1)) none) (cond (Nat.beq pc 363) (some (.getfield 108, 3)) none)) (cond (Nat.blt pc 367) (cond (Nat.beq pc 366) (some (.isub, 1)) none) (cond (Nat.beq pc 367) (some (.aload_n 0, 1)) none)))) (cond (Nat.blt pc 376) (cond (Nat.blt pc 372) (cond (Nat.blt pc 371) (cond (Nat.beq pc 368) (some (.getfield 105, 3)) none) (cond (Nat.beq pc 371) (some (.aload_n 0, 1)) none)) (cond (Nat.blt pc 375) (cond (Nat.beq pc 372) (some (.getfield 111, 3)) none) (cond (Nat.beq pc 375) (some (.isub, 1)) none))) (cond (Nat.blt pc 380) (cond (Nat.blt pc 379) (cond (Nat.beq pc 376) (some (.invokevirtual 114, 3)) none) (cond (Nat.beq pc 379) (some (.aload_n 0, 1)) none)) (cond (Nat.blt pc 381) (cond (Nat.beq pc 380) (some (.iconst 4, 1)) none) (cond (Nat.beq pc 381) (some (.aload_n 0, 1)) none))))) (cond (Nat.blt pc 396) (cond (Nat.blt pc 390) (cond (Nat.blt pc 386) (cond (Nat.blt pc 385) (cond (Nat.beq pc 382) (some (.getfield 102, 3)) none) (cond (Nat.beq pc 385) (some (.iconst 0, 1)) none)) (cond (Nat.blt pc 387) (cond (Nat.beq pc 386) (some (.aload_n 0, 1)) none) (cond (Nat.beq pc 387) (some (.getfield 96, 3)) none))) (cond (Nat.blt pc 394) (cond (Nat.blt pc 391) (cond (Nat.beq pc 390) (some (.aload_n 0, 1)) none) (cond (Nat.beq pc 391) (some (.getfield 102, 3)) none)) (cond (Nat.blt pc 395) (cond (Nat.beq pc 394) (some (.isub, 1)) none) (cond (Nat.beq pc 395) (some (.aload_n 0, 1)) none)))) (cond (Nat.blt pc 404) (cond (Nat.blt pc 402) (cond (Nat.blt pc 399) (cond (Nat.beq pc 396) (some (.getfield 105, 3)) none) (cond (Nat.beq pc 399) (some (.invokevirtual 114, 3)) none)) (cond (Nat.blt pc 403) (cond (Nat.beq pc 402) (some (.aload_n 0, 1)) none) (cond (Nat.beq pc 403) (some (.iconst 5, 1)) none))) (cond (Nat.blt pc 406) (cond (Nat.blt pc 405) (cond (Nat.beq pc 404) (some (.iconst 0, 1)) none) (cond (Nat.beq pc 405) (some (.aload_n 0, 1)) none)) (cond (Nat.blt pc 409) (cond (Nat.beq pc 406) (some (.getfield 105, 3)) none) (cond (Nat.beq pc 409) (some (.aload_n 0, 1)) none)))))) (cond (Nat.blt pc 441) (cond (Nat.blt pc 426) (cond (Nat.blt pc 418) (cond (Nat.blt pc 414) (cond (Nat.blt pc 413) (cond (Nat.beq pc 410) (some (.getfield 102, 3)) none) (cond (Nat.beq pc 413) (some (.aload_n 0, 1)) none)) (cond (Nat.blt pc 417) (cond (Nat.beq pc 414) (some (.getfield 99, 3)) none) (cond (Nat.beq pc 417) (some (.aload_n 0, 1)) none))) (cond (Nat.blt pc 422) (cond (Nat.blt pc 421) (cond (Nat.beq pc 418) (some (.getfield 105, 3)) none) (cond (Nat.beq pc 421) (some (.isub, 1)) none)) (cond (Nat.blt pc 425) (cond (Nat.beq pc 422) (some (.invokevirtual 114, 3)) none) (cond (Nat.beq pc 425) (some (.aload_n 0, 1)) none)))) (cond (Nat.blt pc 433) (cond (Nat.blt pc 429) (cond (Nat.blt pc 428) (cond (Nat.beq pc 426) (some (.bipush 6, 2)) none) (cond (Nat.beq pc 428) (some (.aload_n 0, 1)) none)) (cond (Nat.blt pc 432) (cond (Nat.beq pc 429) (some (.getfield 102, 3)) none) (cond (Nat.beq pc 432) (some (.aload_n 0, 1)) none))) (cond (Nat.blt pc 437) (cond (Nat.blt pc 436) (cond (Nat.beq pc 433) (some (.getfield 105, 3)) none) (cond (Nat.beq pc 436) (some (.aload_n 0, 1)) none)) (cond (Nat.blt pc 440) (cond (Nat.beq pc 437) (some (.getfield 96, 3)) none) (cond (Nat.beq pc 440) (some (.aload_n 0, 1)) none))))) (cond (Nat.blt pc 457) (cond (Nat.blt pc 449) (cond (Nat.blt pc 445) (cond (Nat.blt pc 444) (cond (Nat.beq pc 441) (some (.getfield 102, 3)) none) (cond (Nat.beq pc 444) (some (.isub, 1)) none)) (cond (Nat.blt pc 446) (cond (Nat.beq pc 445) (some (.aload_n 0, 1)) none) (cond (Nat.beq pc 446) (some (.getfield 99, 3)) none))) (cond (Nat.blt pc 453) (cond (Nat.blt pc 450) (cond (Nat.beq pc 449) (some (.aload_n 0, 1)) none) (cond (Nat.beq pc 450) (some (.getfield 105, 3)) none)) (cond (Nat.blt pc 454) (cond (Nat.beq pc 453) (some (.isub, 1)) none) (cond (Nat.beq pc 454) (some (.invokevirtual 114, 3)) none)))) (cond (Nat.blt pc 463) (cond (Nat.blt pc 459) (cond (Nat.blt pc 458) (cond (Nat.beq pc 457) (some (.aload_n 0, 1)) none) (cond (Nat.beq pc 458) (some (.iconst 0, 1)) none)) (cond (Nat.blt pc 462) (cond (Nat.beq pc 459) (some (.putfield 118, 3)) none) (cond (Nat.beq pc 462) (some (.aload_n 0, 1)) none))) (cond (Nat.blt pc 467) (cond (Nat.blt pc 466) (cond (Nat.beq pc 463) (some (.invokevirtual 121, 3)) none) (cond (Nat.beq pc 466) (some (.aload_n 0, 1)) none)) (cond (Nat.blt pc 470) (cond (Nat.beq pc 467) (some (.invokevirtual 124, 3)) none) (cond (Nat.beq pc 470) (some (.return_, 1)) none))))))))) none
def cd_1 : Nat → Option (Instr × Nat) := fun pc => cond (Nat.blt pc 18) (cond (Nat.blt pc 8) (cond (Nat.blt pc 5) (cond (Nat.blt pc 1) (cond (Nat.beq pc 0) (some (.iload_n 1, 1)) none) (cond (Nat.blt pc 2) (cond (Nat.beq pc 1) (some (.iconst 4, 1)) none) (cond (Nat.beq pc 2) (some (.if_icmp .ge 5, 3)) none))) (cond (Nat.blt pc 6) (cond (Nat.beq pc 5) (some (.iconst 4, 1)) none) (cond (Nat.blt pc 7) (cond (Nat.beq pc 6) (some (.ireturn, 1)) none) (cond (Nat.beq pc 7) (some (.iload_n 1, 1)) none)))) (cond (Nat.blt pc 15) (cond (Nat.blt pc 10) (cond (Nat.beq pc 8) (some (.bipush 16, 2)) none) (cond (Nat.blt pc 13) (cond (Nat.beq pc 10) (some (.if_icmp .le 6, 3)) none) (cond (Nat.beq pc 13) (some (.bipush 16, 2)) none))) (cond (Nat.blt pc 16) (cond (Nat.beq pc 15) (some (.ireturn, 1)) none) (cond (Nat.blt pc 17) (cond (Nat.beq pc 16) (some (.iload_n 1, 1)) none) (cond (Nat.beq pc 17) (some (.ireturn, 1)) none))))) none
def cd_2 : Nat → Option (Instr × Nat) := fun pc => cond (Nat.blt pc 42) (cond (Nat.blt pc 22) (cond (Nat.blt pc 11) (cond (Nat.blt pc 5) (cond (Nat.blt pc 1) (cond (Nat.beq pc 0) (some (.iload_n 1, 1)) none) (cond (Nat.blt pc 4) (cond (Nat.beq pc 1) (some (.ifCond .lt 9, 3)) none) (cond (Nat.beq pc 4) (some (.iload_n 1, 1)) none))) (cond (Nat.blt pc 7) (cond (Nat.beq pc 5) (some (.bipush 6, 2)) none) (cond (Nat.blt pc 10) (cond (Nat.beq pc 7) (some (.if_icmp .le 4, 3)) none) (cond (Nat.beq pc 10) (some (.return_, 1)) none)))) (cond (Nat.blt pc 16) (cond (Nat.blt pc 12) (cond (Nat.beq pc 11) (some (.aload_n 0, 1)) none) (cond (Nat.blt pc 15) (cond (Nat.beq pc 12) (some (.getfield 57, 3)) none) (cond (Nat.beq pc 15) (some (.iload_n 1, 1)) none))) (cond (Nat.blt pc 18) (cond (Nat.blt pc 17) (cond (Nat.beq pc 16) (some (.iload_n 2, 1)) none) (cond (Nat.beq pc 17) (some (.iastore, 1)) none)) (cond (Nat.blt pc 19) (cond (Nat.beq pc 18) (some (.aload_n 0, 1)) none) (cond (Nat.beq pc 19) (some (.getfield 60, 3)) none))))) (cond (Nat.blt pc 32) (cond (Nat.blt pc 25) (cond (Nat.blt pc 23) (cond (Nat.beq pc 22) (some (.iload_n 1, 1)) none) (cond (Nat.blt pc 24) (cond (Nat.beq pc 23) (some (.iload_n 3, 1)) none) (cond (Nat.beq pc 24) (some (.iastore, 1)) none))) (cond (Nat.blt pc 29) (cond (Nat.blt pc 26) (cond (Nat.beq pc 25) (some (.aload_n 0, 1)) none) (cond (Nat.beq pc 26) (some (.getfield 63, 3)) none)) (cond (Nat.blt pc 30) (cond (Nat.beq pc 29) (some (.iload_n 1, 1)) none) (cond (Nat.beq pc 30) (some (.iload 4, 2)) none)))) (cond (Nat.blt pc 37) (cond (Nat.blt pc 33) (cond (Nat.beq pc 32) (some (.iastore, 1)) none) (cond (Nat.blt pc 34) (cond (Nat.beq pc 33) (some (.aload_n 0, 1)) none) (cond (Nat.beq pc 34) (some (.getfield 66, 3)) none))) (cond (Nat.blt pc 40) (cond (Nat.blt pc 38) (cond (Nat.beq pc 37) (some (.iload_n 1, 1)) none) (cond (Nat.beq pc 38) (some (.iload 5, 2)) none)) (cond (Nat.blt pc 41) (cond (Nat.beq pc 40) (some (.iastore, 1)) none) (cond (Nat.beq pc 41) (some (.return_, 1)) none)))))) none
def cd_3 : Nat → Option (Instr × Nat) := fun pc => cond (Nat.blt pc 169) (cond (Nat.blt pc 84) (cond (Nat.blt pc 42) (cond (Nat.blt pc 21) (cond (Nat.blt pc 8) (cond (Nat.blt pc 4) (cond (Nat.blt pc 1) (cond (Nat.beq pc 0) (some (.aload_n 0, 1)) none) (cond (Nat.beq pc 1) (some (.ldc_w 379, 3)) none)) (cond (Nat.blt pc 7) (cond (Nat.beq pc 4) (some (.invokevirtual 380, 3)) none) (cond (Nat.beq pc 7) (some (.aload_n 0, 1)) none))) (cond (Nat.blt pc 14) (cond (Nat.blt pc 11) (cond (Nat.beq pc 8) (some (.ldc_w 383, 3)) none) (cond (Nat.beq pc 11) (some (.invokevirtual 380, 3)) none)) (cond (Nat.blt pc 15) (cond (Nat.beq pc 14) (some (.aload_n 0, 1)) none) (cond (Nat.blt pc 18) (cond (Nat.beq pc 15) (some (.ldc_w 384, 3)) none) (cond (Nat.beq pc 18) (some (.invokevirtual 380, 3)) none))))) (cond (Nat.blt pc 29) (cond (Nat.blt pc 25) (cond (Nat.blt pc 22) (cond (Nat.beq pc 21) (some (.aload_n 0, 1)) none) (cond (Nat.beq pc 22) (some (.ldc_w 385, 3)) none)) (cond (Nat.blt pc 28) (cond (Nat.beq pc 25) (some (.invokevirtual 380, 3)) none) (cond (Nat.beq pc 28) (some (.aload_n 0, 1)) none))) (cond (Nat.blt pc 35) (cond (Nat.blt pc 32) (cond (Nat.beq pc 29) (some (.ldc_w 386, 3)) none) (cond (Nat.beq pc 32) (some (.invokevirtual 380, 3)) none)) (cond (Nat.blt pc 36) (cond (Nat.beq pc 35) (some (.aload_n 0, 1)) none) (cond (Nat.blt pc 39) (cond (Nat.beq pc 36) (some (.ldc_w 387, 3)) none) (cond (Nat.beq pc 39) (some (.invokevirtual 380, 3)) none)))))) (cond (Nat.blt pc 63) (cond (Nat.blt pc 50) (cond (Nat.blt pc 46) (cond (Nat.blt pc 43) (cond (Nat.beq pc 42) (some (.aload_n 0, 1)) none) (cond (Nat.beq pc 43) (some (.ldc_w 388, 3)) none)) (cond (Nat.blt pc 49) (cond (Nat.beq pc 46) (some (.invokevirtual 380, 3)) none) (cond (Nat.beq pc 49) (some (.aload_n 0, 1)) none))) (cond (Nat.blt pc 56) (cond (Nat.blt pc 53) (cond (Nat.beq pc 50) (some (.ldc_w 389, 3)) none) (cond (Nat.beq pc 53) (some (.invokevirtual 380, 3)) none)) (cond (Nat.blt pc 57) (cond (Nat.beq pc 56) (some (.aload_n 0, 1)) none) (cond (Nat.blt pc 60) (cond (Nat.beq pc 57) (some (.ldc_w 390, 3)) none) (cond (Nat.beq pc 60) (some (.invokevirtual 380, 3)) none))))) (cond (Nat.blt pc 71) (cond (Nat.blt pc 67) (cond (Nat.blt pc 64) (cond (Nat.beq pc 63) (some (.aload_n 0, 1)) none) (cond (Nat.beq pc 64) (some (.ldc_w 391, 3)) none)) (cond (Nat.blt pc 70) (cond (Nat.beq pc 67) (some (.invokevirtual 380, 3)) none) (cond (Nat.beq pc 70) (some (.aload_n 0, 1)) none))) (cond (Nat.blt pc 77) (cond (Nat.blt pc 74) (cond (Nat.beq pc 71) (some (.ldc_w 392, 3)) none) (cond (Nat.beq pc 74) (some (.invokevirtual 380, 3)) none)) (cond (Nat.blt pc 78) (cond (Nat.beq pc 77) (some (.aload_n 0, 1)) none) (cond (Nat.blt pc 81) (cond (Nat.beq pc 78) (some (.ldc_w 393, 3)) none) (cond (Nat.beq pc 81) (some (.invokevirtual 380, 3)) none))))))) (cond (Nat.blt pc 126) (cond (Nat.blt pc 105) (cond (Nat.blt pc 92) (cond (Nat.blt pc 88) (cond (Nat.blt pc 85) (cond (Nat.beq pc 84) (some (.aload_n 0, 1)) none) (cond (Nat.beq pc 85) (some (.ldc_w 394, 3)) none)) (cond (Nat.blt pc 91) (cond (Nat.beq pc 88) (some (.invokevirtual 380, 3)) none) (cond (Nat.beq pc 91) (some (.aload_n 0, 1)) none))) (cond (Nat.blt pc 98) (cond (Nat.blt pc 95) (cond (Nat.beq pc 92) (some (.ldc_w 395, 3)) none) (cond (Nat.beq pc 95) (some (.invokevirtual 380, 3)) none)) (cond (Nat.blt pc 99) (cond (Nat.beq pc 98) (some (.aload_n 0, 1)) none) (cond (Nat.blt pc 102) (cond (Nat.beq pc 99) (some (.ldc_w 396, 3)) none) (cond (Nat.beq pc 102) (some (.invokevirtual 380, 3)) none))))) (cond (Nat.blt pc 113) (cond (Nat.blt pc 109) (cond (Nat.blt pc 106) (cond (Nat.beq pc 105) (some (.aload_n 0, 1)) none) (cond (Nat.beq pc 106) (some (.ldc_w 389, 3)) none)) (cond (Nat.blt pc 112) (cond (Nat.beq pc 109) (some (.invokevirtual 380, 3)) none) (cond (Nat.beq pc 112) (some (.aload_n 0, 1)) none))) (cond (Nat.blt pc 119) (cond (Nat.blt pc 116) (cond (Nat.beq pc 113) (some (.ldc_w 397, 3)) none) (cond (Nat.beq pc 116) (some (.invokevirtual 380, 3)) none)) (cond (Nat.blt pc 120) (cond (Nat.beq pc 119) (some (.aload_n 0, 1)) none) (cond (Nat.blt pc 123) (cond (Nat.beq pc 120) (some (.ldc_w 398, 3)) none) (cond (Nat.beq pc 123) (some (.invokevirtual 380, 3)) none)))))) (cond (Nat.blt pc 147) (cond (Nat.blt pc 134) (cond (Nat.blt pc 130) (cond (Nat.blt pc 127) (cond (Nat.beq pc 126) (some (.aload_n 0, 1)) none) (cond (Nat.beq pc 127) (some (.ldc_w 399, 3)) none)) (cond (Nat.blt pc 133) (cond (Nat.beq pc 130) (some (.invokevirtual 380, 3)) none) (cond (Nat.beq pc 133) (some (.aload_n 0, 1)) none))) (cond (Nat.blt pc 140) (cond (Nat.blt pc 137) (cond (Nat.beq pc 134) (some (.ldc_w 400, 3)) none) (cond (Nat.beq pc 137) (some (.invokevirtual 380, 3)) none)) (cond (Nat.blt pc 141) (cond (Nat.beq pc 140) (some (.aload_n 0, 1)) none) (cond (Nat.blt pc 144) (cond (Nat.beq pc 141) (some (.ldc_w 401, 3)) none) (cond (Nat.beq pc 144) (some (.invokevirtual 380, 3)) none))))) (cond (Nat.blt pc 158) (cond (Nat.blt pc 151) (cond (Nat.blt pc 148) (cond (Nat.beq pc 147) (some (.aload_n 0, 1)) none) (cond (Nat.beq pc 148) (some (.ldc_w 402, 3)) none)) (cond (Nat.blt pc 154) (cond (Nat.beq pc 151) (some (.invokevirtual 380, 3)) none) (cond (Nat.blt pc 155) (cond (Nat.beq pc 154) (some (.aload_n 0, 1)) none) (cond (Nat.beq pc 155) (some (.ldc_w 403, 3)) none)))) (cond (Nat.blt pc 162) (cond (Nat.blt pc 161) (cond (Nat.beq pc 158) (some (.invokevirtual 380, 3)) none) (cond (Nat.beq pc 161) (some (.aload_n 0, 1)) none)) (cond (Nat.blt pc 165) (cond (Nat.beq pc 162) (some (.ldc_w 404, 3)) none) (cond (Nat.blt pc 168) (cond (Nat.beq pc 165) (some (.invokevirtual 380, 3)) none) (cond (Nat.beq pc 168) (some (.return_, 1)) none)))))))) none
def cd_4 : Nat → Option (Instr × Nat) := fun pc => cond (Nat.blt pc 37) (cond (Nat.blt pc 21) (cond (Nat.blt pc 11) (cond (Nat.blt pc 4) (cond (Nat.blt pc 1) (cond (Nat.beq pc 0) (some (.aload_n 0, 1)) none) (cond (Nat.beq pc 1) (some (.getfield 118, 3)) none)) (cond (Nat.blt pc 7) (cond (Nat.beq pc 4) (some (.ifCond .lt 32, 3)) none) (cond (Nat.blt pc 8) (cond (Nat.beq pc 7) (some (.aload_n 0, 1)) none) (cond (Nat.beq pc 8) (some (.getfield 118, 3)) none)))) (cond (Nat.blt pc 16) (cond (Nat.blt pc 13) (cond (Nat.beq pc 11) (some (.bipush 47, 2)) none) (cond (Nat.beq pc 13) (some (.if_icmp .ge 23, 3)) none)) (cond (Nat.blt pc 17) (cond (Nat.beq pc 16) (some (.aload_n 0, 1)) none) (cond (Nat.blt pc 20) (cond (Nat.beq pc 17) (some (.getfield 72, 3)) none) (cond (Nat.beq pc 20) (some (.aload_n 0, 1)) none))))) (cond (Nat.blt pc 28) (cond (Nat.blt pc 25) (cond (Nat.blt pc 24) (cond (Nat.beq pc 21) (some (.getfield 118, 3)) none) (cond (Nat.beq pc 24) (some (.iload_n 1, 1)) none)) (cond (Nat.blt pc 26) (cond (Nat.beq pc 25) (some (.iastore, 1)) none) (cond (Nat.blt pc 27) (cond (Nat.beq pc 26) (some (.aload_n 0, 1)) none) (cond (Nat.beq pc 27) (some (.dup, 1)) none)))) (cond (Nat.blt pc 32) (cond (Nat.blt pc 31) (cond (Nat.beq pc 28) (some (.getfield 118, 3)) none) (cond (Nat.beq pc 31) (some (.iconst 1, 1)) none)) (cond (Nat.blt pc 33) (cond (Nat.beq pc 32) (some (.iadd, 1)) none) (cond (Nat.blt pc 36) (cond (Nat.beq pc 33) (some (.putfield 118, 3)) none) (cond (Nat.beq pc 36) (some (.return_, 1)) none)))))) none
def cd_5 : Nat → Option (Instr × Nat) := fun pc => cond (Nat.blt pc 162) (cond (Nat.blt pc 81) (cond (Nat.blt pc 39) (cond (Nat.blt pc 18) (cond (Nat.blt pc 8) (cond (Nat.blt pc 4) (cond (Nat.blt pc 1) (cond (Nat.beq pc 0) (some (.aload_n 0, 1)) none) (cond (Nat.beq pc 1) (some (.ldc_w 405, 3)) none)) (cond (Nat.blt pc 7) (cond (Nat.beq pc 4) (some (.invokevirtual 380, 3)) none) (cond (Nat.beq pc 7) (some (.aload_n 0, 1)) none))) (cond (Nat.blt pc 14) (cond (Nat.blt pc 11) (cond (Nat.beq pc 8) (some (.ldc_w 406, 3)) none) (cond (Nat.beq pc 11) (some (.invokevirtual 380, 3)) none)) (cond (Nat.blt pc 15) (cond (Nat.beq pc 14) (some (.aload_n 0, 1)) none) (cond (Nat.beq pc 15) (some (.ldc_w 407, 3)) none)))) (cond (Nat.blt pc 28) (cond (Nat.blt pc 22) (cond (Nat.blt pc 21) (cond (Nat.beq pc 18) (some (.invokevirtual 380, 3)) none) (cond (Nat.beq pc 21) (some (.aload_n 0, 1)) none)) (cond (Nat.blt pc 25) (cond (Nat.beq pc 22) (some (.ldc_w 408, 3)) none) (cond (Nat.beq pc 25) (some (.invokevirtual 380, 3)) none))) (cond (Nat.blt pc 32) (cond (Nat.blt pc 29) (cond (Nat.beq pc 28) (some (.aload_n 0, 1)) none) (cond (Nat.beq pc 29) (some (.ldc_w 409, 3)) none)) (cond (Nat.blt pc 35) (cond (Nat.beq pc 32) (some (.invokevirtual 380, 3)) none) (cond (Nat.blt pc 36) (cond (Nat.beq pc 35) (some (.aload_n 0, 1)) none) (cond (Nat.beq pc 36) (some (.ldc_w 410, 3)) none)))))) (cond (Nat.blt pc 60) (cond (Nat.blt pc 49) (cond (Nat.blt pc 43) (cond (Nat.blt pc 42) (cond (Nat.beq pc 39) (some (.invokevirtual 380, 3)) none) (cond (Nat.beq pc 42) (some (.aload_n 0, 1)) none)) (cond (Nat.blt pc 46) (cond (Nat.beq pc 43) (some (.ldc_w 411, 3)) none) (cond (Nat.beq pc 46) (some (.invokevirtual 380, 3)) none))) (cond (Nat.blt pc 53) (cond (Nat.blt pc 50) (cond (Nat.beq pc 49) (some (.aload_n 0, 1)) none) (cond (Nat.beq pc 50) (some (.ldc_w 412, 3)) none)) (cond (Nat.blt pc 56) (cond (Nat.beq pc 53) (some (.invokevirtual 380, 3)) none) (cond (Nat.blt pc 57) (cond (Nat.beq pc 56) (some (.aload_n 0, 1)) none) (cond (Nat.beq pc 57) (some (.ldc_w 413, 3)) none))))) (cond (Nat.blt pc 70) (cond (Nat.blt pc 64) (cond (Nat.blt pc 63) (cond (Nat.beq pc 60) (some (.invokevirtual 380, 3)) none) (cond (Nat.beq pc 63) (some (.aload_n 0, 1)) none)) (cond (Nat.blt pc 67) (cond (Nat.beq pc 64) (some (.ldc_w 414, 3)) none) (cond (Nat.beq pc 67) (some (.invokevirtual 380, 3)) none))) (cond (Nat.blt pc 74) (cond (Nat.blt pc 71) (cond (Nat.beq pc 70) (some (.aload_n 0, 1)) none) (cond (Nat.beq pc 71) (some (.ldc_w 415, 3)) none)) (cond (Nat.blt pc 77) (cond (Nat.beq pc 74) (some (.invokevirtual 380, 3)) none) (cond (Nat.blt pc 78) (cond (Nat.beq pc 77) (some (.aload_n 0, 1)) none) (cond (Nat.beq pc 78) (some (.ldc_w 416, 3)) none))))))) (cond (Nat.blt pc 120) (cond (Nat.blt pc 99) (cond (Nat.blt pc 91) (cond (Nat.blt pc 85) (cond (Nat.blt pc 84) (cond (Nat.beq pc 81) (some (.invokevirtual 380, 3)) none) (cond (Nat.beq pc 84) (some (.aload_n 0, 1)) none)) (cond (Nat.blt pc 88) (cond (Nat.beq pc 85) (some (.ldc_w 417, 3)) none) (cond (Nat.beq pc 88) (some (.invokevirtual 380, 3)) none))) (cond (Nat.blt pc 95) (cond (Nat.blt pc 92) (cond (Nat.beq pc 91) (some (.aload_n 0, 1)) none) (cond (Nat.beq pc 92) (some (.ldc_w 418, 3)) none)) (cond (Nat.blt pc 98) (cond (Nat.beq pc 95) (some (.invokevirtual 380, 3)) none) (cond (Nat.beq pc 98) (some (.aload_n 0, 1)) none)))) (cond (Nat.blt pc 109) (cond (Nat.blt pc 105) (cond (Nat.blt pc 102) (cond (Nat.beq pc 99) (some (.ldc_w 419, 3)) none) (cond (Nat.beq pc 102) (some (.invokevirtual 380, 3)) none)) (cond (Nat.blt pc 106) (cond (Nat.beq pc 105) (some (.aload_n 0, 1)) none) (cond (Nat.beq pc 106) (some (.ldc_w 420, 3)) none))) (cond (Nat.blt pc 113) (cond (Nat.blt pc 112) (cond (Nat.beq pc 109) (some (.invokevirtual 380, 3)) none) (cond (Nat.beq pc 112) (some (.aload_n 0, 1)) none)) (cond (Nat.blt pc 116) (cond (Nat.beq pc 113) (some (.ldc_w 421, 3)) none) (cond (Nat.blt pc 119) (cond (Nat.beq pc 116) (some (.invokevirtual 380, 3)) none) (cond (Nat.beq pc 119) (some (.aload_n 0, 1)) none)))))) (cond (Nat.blt pc 141) (cond (Nat.blt pc 130) (cond (Nat.blt pc 126) (cond (Nat.blt pc 123) (cond (Nat.beq pc 120) (some (.ldc_w 422, 3)) none) (cond (Nat.beq pc 123) (some (.invokevirtual 380, 3)) none)) (cond (Nat.blt pc 127) (cond (Nat.beq pc 126) (some (.aload_n 0, 1)) none) (cond (Nat.beq pc 127) (some (.ldc_w 423, 3)) none))) (cond (Nat.blt pc 134) (cond (Nat.blt pc 133) (cond (Nat.beq pc 130) (some (.invokevirtual 380, 3)) none) (cond (Nat.beq pc 133) (some (.aload_n 0, 1)) none)) (cond (Nat.blt pc 137) (cond (Nat.beq pc 134) (some (.ldc_w 424, 3)) none) (cond (Nat.blt pc 140) (cond (Nat.beq pc 137) (some (.invokevirtual 380, 3)) none) (cond (Nat.beq pc 140) (some (.aload_n 0, 1)) none))))) (cond (Nat.blt pc 151) (cond (Nat.blt pc 147) (cond (Nat.blt pc 144) (cond (Nat.beq pc 141) (some (.ldc_w 425, 3)) none) (cond (Nat.beq pc 144) (some (.invokevirtual 380, 3)) none)) (cond (Nat.blt pc 148) (cond (Nat.beq pc 147) (some (.aload_n 0, 1)) none) (cond (Nat.beq pc 148) (some (.ldc_w 426, 3)) none))) (cond (Nat.blt pc 155) (cond (Nat.blt pc 154) (cond (Nat.beq pc 151) (some (.invokevirtual 380, 3)) none) (cond (Nat.beq pc 154) (some (.aload_n 0, 1)) none)) (cond (Nat.blt pc 158) (cond (Nat.beq pc 155) (some (.ldc_w 427, 3)) none) (cond (Nat.blt pc 161) (cond (Nat.beq pc 158) (some (.invokevirtual 380, 3)) none) (cond (Nat.beq pc 161) (some (.return_, 1)) none)))))))) none
def cd_6 : Nat → Option (Instr × Nat) := fun pc => cond (Nat.blt pc 5) (cond (Nat.blt pc 1) (cond (Nat.beq pc 0) (some (.aload_n 0, 1)) none) (cond (Nat.blt pc 4) (cond (Nat.beq pc 1) (some (.getfield 96, 3)) none) (cond (Nat.beq pc 4) (some (.ireturn, 1)) none))) none
def cd_7 : Nat → Option (Instr × Nat) := fun pc => cond (Nat.blt pc 5) (cond (Nat.blt pc 1) (cond (Nat.beq pc 0) (some (.aload_n 0, 1)) none) (cond (Nat.blt pc 4) (cond (Nat.beq pc 1) (some (.getfield 99, 3)) none) (cond (Nat.beq pc 4) (some (.ireturn, 1)) none))) none
def cd_8 : Nat → Option (Instr × Nat) := fun pc => cond (Nat.blt pc 27) (cond (Nat.blt pc 15) (cond (Nat.blt pc 6) (cond (Nat.blt pc 2) (cond (Nat.blt pc 1) (cond (Nat.beq pc 0) (some (.aload_n 0, 1)) none) (cond (Nat.beq pc 1) (some (.iload_n 1, 1)) none)) (cond (Nat.blt pc 3) (cond (Nat.beq pc 2) (some (.iload_n 2, 1)) none) (cond (Nat.beq pc 3) (some (.invokevirtual 127, 3)) none))) (cond (Nat.blt pc 10) (cond (Nat.blt pc 9) (cond (Nat.beq pc 6) (some (.ifCond .ne 5, 3)) none) (cond (Nat.beq pc 9) (some (.iconst (-1), 1)) none)) (cond (Nat.blt pc 11) (cond (Nat.beq pc 10) (some (.ireturn, 1)) none) (cond (Nat.blt pc 12) (cond (Nat.beq pc 11) (some (.aload_n 0, 1)) none) (cond (Nat.beq pc 12) (some (.getfield 13, 3)) none))))) (cond (Nat.blt pc 20) (cond (Nat.blt pc 18) (cond (Nat.blt pc 16) (cond (Nat.beq pc 15) (some (.iload_n 2, 1)) none) (cond (Nat.beq pc 16) (some (.bipush 16, 2)) none)) (cond (Nat.blt pc 19) (cond (Nat.beq pc 18) (some (.imul, 1)) none) (cond (Nat.beq pc 19) (some (.iload_n 1, 1)) none))) (cond (Nat.blt pc 24) (cond (Nat.blt pc 21) (cond (Nat.beq pc 20) (some (.iadd, 1)) none) (cond (Nat.beq pc 21) (some (.sipush 255, 3)) none)) (cond (Nat.blt pc 25) (cond (Nat.beq pc 24) (some (.iand, 1)) none) (cond (Nat.blt pc 26) (cond (Nat.beq pc 25) (some (.iaload, 1)) none) (cond (Nat.beq pc 26) (some (.ireturn, 1)) none)))))) none
def cd_9 : Nat → Option (Instr × Nat) := fun pc => cond (Nat.blt pc 30) (cond (Nat.blt pc 16) (cond (Nat.blt pc 6) (cond (Nat.blt pc 4) (cond (Nat.blt pc 1) (cond (Nat.beq pc 0) (some (.iload_n 1, 1)) none) (cond (Nat.beq pc 1) (some (.ifCond .lt 27, 3)) none)) (cond (Nat.blt pc 5) (cond (Nat.beq pc 4) (some (.iload_n 1, 1)) none) (cond (Nat.beq pc 5) (some (.aload_n 0, 1)) none))) (cond (Nat.blt pc 12) (cond (Nat.blt pc 9) (cond (Nat.beq pc 6) (some (.getfield 96, 3)) none) (cond (Nat.beq pc 9) (some (.if_icmp .ge 19, 3)) none)) (cond (Nat.blt pc 13) (cond (Nat.beq pc 12) (some (.iload_n 2, 1)) none) (cond (Nat.beq pc 13) (some (.ifCond .lt 15, 3)) none)))) (cond (Nat.blt pc 24) (cond (Nat.blt pc 18) (cond (Nat.blt pc 17) (cond (Nat.beq pc 16) (some (.iload_n 2, 1)) none) (cond (Nat.beq pc 17) (some (.aload_n 0, 1)) none)) (cond (Nat.blt pc 21) (cond (Nat.beq pc 18) (some (.getfield 99, 3)) none) (cond (Nat.beq pc 21) (some (.if_icmp .ge 7, 3)) none))) (cond (Nat.blt pc 28) (cond (Nat.blt pc 25) (cond (Nat.beq pc 24) (some (.iconst 1, 1)) none) (cond (Nat.beq pc 25) (some (.goto 4, 3)) none)) (cond (Nat.blt pc 29) (cond (Nat.beq pc 28) (some (.iconst 0, 1)) none) (cond (Nat.beq pc 29) (some (.ireturn, 1)) none))))) none
def cd_10 : Nat → Option (Instr × Nat) := fun pc => cond (Nat.blt pc 106) (cond (Nat.blt pc 52) (cond (Nat.blt pc 27) (cond (Nat.blt pc 11) (cond (Nat.blt pc 3) (cond (Nat.blt pc 1) (cond (Nat.beq pc 0) (some (.aload_n 0, 1)) none) (cond (Nat.blt pc 2) (cond (Nat.beq pc 1) (some (.iload_n 1, 1)) none) (cond (Nat.beq pc 2) (some (.iload_n 2, 1)) none))) (cond (Nat.blt pc 9) (cond (Nat.blt pc 6) (cond (Nat.beq pc 3) (some (.invokevirtual 127, 3)) none) (cond (Nat.beq pc 6) (some (.ifCond .ne 5, 3)) none)) (cond (Nat.blt pc 10) (cond (Nat.beq pc 9) (some (.iconst (-1), 1)) none) (cond (Nat.beq pc 10) (some (.ireturn, 1)) none)))) (cond (Nat.blt pc 19) (cond (Nat.blt pc 13) (cond (Nat.blt pc 12) (cond (Nat.beq pc 11) (some (.iload_n 1, 1)) none) (cond (Nat.beq pc 12) (some (.aload_n 0, 1)) none)) (cond (Nat.blt pc 16) (cond (Nat.beq pc 13) (some (.getfield 108, 3)) none) (cond (Nat.beq pc 16) (some (.if_icmp .ge 13, 3)) none))) (cond (Nat.blt pc 21) (cond (Nat.blt pc 20) (cond (Nat.beq pc 19) (some (.iload_n 2, 1)) none) (cond (Nat.beq pc 20) (some (.aload_n 0, 1)) none)) (cond (Nat.blt pc 24) (cond (Nat.beq pc 21) (some (.getfield 111, 3)) none) (cond (Nat.beq pc 24) (some (.if_icmp .ge 5, 3)) none))))) (cond (Nat.blt pc 38) (cond (Nat.blt pc 30) (cond (Nat.blt pc 28) (cond (Nat.beq pc 27) (some (.iconst 0, 1)) none) (cond (Nat.blt pc 29) (cond (Nat.beq pc 28) (some (.ireturn, 1)) none) (cond (Nat.beq pc 29) (some (.iload_n 1, 1)) none))) (cond (Nat.blt pc 34) (cond (Nat.blt pc 31) (cond (Nat.beq pc 30) (some (.aload_n 0, 1)) none) (cond (Nat.beq pc 31) (some (.getfield 102, 3)) none)) (cond (Nat.blt pc 37) (cond (Nat.beq pc 34) (some (.if_icmp .ge 13, 3)) none) (cond (Nat.beq pc 37) (some (.iload_n 2, 1)) none)))) (cond (Nat.blt pc 46) (cond (Nat.blt pc 42) (cond (Nat.blt pc 39) (cond (Nat.beq pc 38) (some (.aload_n 0, 1)) none) (cond (Nat.beq pc 39) (some (.getfield 111, 3)) none)) (cond (Nat.blt pc 45) (cond (Nat.beq pc 42) (some (.if_icmp .ge 5, 3)) none) (cond (Nat.beq pc 45) (some (.iconst 1, 1)) none))) (cond (Nat.blt pc 48) (cond (Nat.blt pc 47) (cond (Nat.beq pc 46) (some (.ireturn, 1)) none) (cond (Nat.beq pc 47) (some (.iload_n 1, 1)) none)) (cond (Nat.blt pc 49) (cond (Nat.beq pc 48) (some (.aload_n 0, 1)) none) (cond (Nat.beq pc 49) (some (.getfield 108, 3)) none)))))) (cond (Nat.blt pc 81) (cond (Nat.blt pc 65) (cond (Nat.blt pc 57) (cond (Nat.blt pc 55) (cond (Nat.beq pc 52) (some (.if_icmp .ge 13, 3)) none) (cond (Nat.blt pc 56) (cond (Nat.beq pc 55) (some (.iload_n 2, 1)) none) (cond (Nat.beq pc 56) (some (.aload_n 0, 1)) none))) (cond (Nat.blt pc 63) (cond (Nat.blt pc 60) (cond (Nat.beq pc 57) (some (.getfield 105, 3)) none) (cond (Nat.beq pc 60) (some (.if_icmp .ge 5, 3)) none)) (cond (Nat.blt pc 64) (cond (Nat.beq pc 63) (some (.iconst 2, 1)) none) (cond (Nat.beq pc 64) (some (.ireturn, 1)) none)))) (cond (Nat.blt pc 73) (cond (Nat.blt pc 67) (cond (Nat.blt pc 66) (cond (Nat.beq pc 65) (some (.iload_n 1, 1)) none) (cond (Nat.beq pc 66) (some (.aload_n 0, 1)) none)) (cond (Nat.blt pc 70) (cond (Nat.beq pc 67) (some (.getfield 102, 3)) none) (cond (Nat.beq pc 70) (some (.if_icmp .ge 13, 3)) none))) (cond (Nat.blt pc 75) (cond (Nat.blt pc 74) (cond (Nat.beq pc 73) (some (.iload_n 2, 1)) none) (cond (Nat.beq pc 74) (some (.aload_n 0, 1)) none)) (cond (Nat.blt pc 78) (cond (Nat.beq pc 75) (some (.getfield 105, 3)) none) (cond (Nat.beq pc 78) (some (.if_icmp .ge 5, 3)) none))))) (cond (Nat.blt pc 93) (cond (Nat.blt pc 85) (cond (Nat.blt pc 83) (cond (Nat.blt pc 82) (cond (Nat.beq pc 81) (some (.iconst 3, 1)) none) (cond (Nat.beq pc 82) (some (.ireturn, 1)) none)) (cond (Nat.blt pc 84) (cond (Nat.beq pc 83) (some (.iload_n 2, 1)) none) (cond (Nat.beq pc 84) (some (.aload_n 0, 1)) none))) (cond (Nat.blt pc 91) (cond (Nat.blt pc 88) (cond (Nat.beq pc 85) (some (.getfield 105, 3)) none) (cond (Nat.beq pc 88) (some (.if_icmp .ge 5, 3)) none)) (cond (Nat.blt pc 92) (cond (Nat.beq pc 91) (some (.iconst 4, 1)) none) (cond (Nat.beq pc 92) (some (.ireturn, 1)) none)))) (cond (Nat.blt pc 101) (cond (Nat.blt pc 95) (cond (Nat.blt pc 94) (cond (Nat.beq pc 93) (some (.iload_n 1, 1)) none) (cond (Nat.beq pc 94) (some (.aload_n 0, 1)) none)) (cond (Nat.blt pc 98) (cond (Nat.beq pc 95) (some (.getfield 102, 3)) none) (cond (Nat.beq pc 98) (some (.if_icmp .ge 5, 3)) none))) (cond (Nat.blt pc 103) (cond (Nat.blt pc 102) (cond (Nat.beq pc 101) (some (.iconst 5, 1)) none) (cond (Nat.beq pc 102) (some (.ireturn, 1)) none)) (cond (Nat.blt pc 105) (cond (Nat.beq pc 103) (some (.bipush 6, 2)) none) (cond (Nat.beq pc 105) (some (.ireturn, 1)) none))))))) none
def cd_11 : Nat → Option (Instr × Nat) := fun pc => cond (Nat.blt pc 38) (cond (Nat.blt pc 21) (cond (Nat.blt pc 10) (cond (Nat.blt pc 4) (cond (Nat.blt pc 1) (cond (Nat.beq pc 0) (some (.aload_n 0, 1)) none) (cond (Nat.beq pc 1) (some (.getfield 149, 3)) none)) (cond (Nat.blt pc 7) (cond (Nat.beq pc 4) (some (.ifCond .ne 6, 3)) none) (cond (Nat.blt pc 9) (cond (Nat.beq pc 7) (some (.ldc 155, 2)) none) (cond (Nat.beq pc 9) (some (.ireturn, 1)) none)))) (cond (Nat.blt pc 13) (cond (Nat.blt pc 11) (cond (Nat.beq pc 10) (some (.aload_n 0, 1)) none) (cond (Nat.blt pc 12) (cond (Nat.beq pc 11) (some (.iload_n 1, 1)) none) (cond (Nat.beq pc 12) (some (.iload_n 2, 1)) none))) (cond (Nat.blt pc 16) (cond (Nat.beq pc 13) (some (.invokevirtual 127, 3)) none) (cond (Nat.blt pc 19) (cond (Nat.beq pc 16) (some (.ifCond .ne 6, 3)) none) (cond (Nat.beq pc 19) (some (.ldc 155, 2)) none))))) (cond (Nat.blt pc 30) (cond (Nat.blt pc 26) (cond (Nat.blt pc 22) (cond (Nat.beq pc 21) (some (.ireturn, 1)) none) (cond (Nat.blt pc 23) (cond (Nat.beq pc 22) (some (.aload_n 0, 1)) none) (cond (Nat.beq pc 23) (some (.getfield 20, 3)) none))) (cond (Nat.blt pc 27) (cond (Nat.beq pc 26) (some (.iload_n 2, 1)) none) (cond (Nat.blt pc 29) (cond (Nat.beq pc 27) (some (.bipush 16, 2)) none) (cond (Nat.beq pc 29) (some (.imul, 1)) none)))) (cond (Nat.blt pc 35) (cond (Nat.blt pc 31) (cond (Nat.beq pc 30) (some (.iload_n 1, 1)) none) (cond (Nat.blt pc 32) (cond (Nat.beq pc 31) (some (.iadd, 1)) none) (cond (Nat.beq pc 32) (some (.sipush 255, 3)) none))) (cond (Nat.blt pc 36) (cond (Nat.beq pc 35) (some (.iand, 1)) none) (cond (Nat.blt pc 37) (cond (Nat.beq pc 36) (some (.iaload, 1)) none) (cond (Nat.beq pc 37) (some (.ireturn, 1)) none)))))) none
def cd_12 : Nat → Option (Instr × Nat) := fun pc => cond (Nat.blt pc 67) (cond (Nat.blt pc 31) (cond (Nat.blt pc 16) (cond (Nat.blt pc 8) (cond (Nat.blt pc 4) (cond (Nat.blt pc 1) (cond (Nat.beq pc 0) (some (.aload_n 0, 1)) none) (cond (Nat.beq pc 1) (some (.getfield 149, 3)) none)) (cond (Nat.blt pc 7) (cond (Nat.beq pc 4) (some (.ifCond .ne 5, 3)) none) (cond (Nat.beq pc 7) (some (.iconst (-1), 1)) none))) (cond (Nat.blt pc 10) (cond (Nat.blt pc 9) (cond (Nat.beq pc 8) (some (.ireturn, 1)) none) (cond (Nat.beq pc 9) (some (.iload_n 1, 1)) none)) (cond (Nat.blt pc 13) (cond (Nat.beq pc 10) (some (.ifCond .lt 9, 3)) none) (cond (Nat.blt pc 14) (cond (Nat.beq pc 13) (some (.iload_n 1, 1)) none) (cond (Nat.beq pc 14) (some (.bipush 36, 2)) none))))) (cond (Nat.blt pc 23) (cond (Nat.blt pc 20) (cond (Nat.blt pc 19) (cond (Nat.beq pc 16) (some (.if_icmp .le 5, 3)) none) (cond (Nat.beq pc 19) (some (.iconst (-1), 1)) none)) (cond (Nat.blt pc 21) (cond (Nat.beq pc 20) (some (.ireturn, 1)) none) (cond (Nat.blt pc 22) (cond (Nat.beq pc 21) (some (.aload_n 0, 1)) none) (cond (Nat.beq pc 22) (some (.iconst 0, 1)) none)))) (cond (Nat.blt pc 27) (cond (Nat.blt pc 26) (cond (Nat.beq pc 23) (some (.putfield 135, 3)) none) (cond (Nat.beq pc 26) (some (.iconst 0, 1)) none)) (cond (Nat.blt pc 28) (cond (Nat.beq pc 27) (some (.istore_n 2, 1)) none) (cond (Nat.blt pc 29) (cond (Nat.beq pc 28) (some (.iload_n 2, 1)) none) (cond (Nat.beq pc 29) (some (.bipush 7, 2)) none)))))) (cond (Nat.blt pc 51) (cond (Nat.blt pc 40) (cond (Nat.blt pc 35) (cond (Nat.blt pc 34) (cond (Nat.beq pc 31) (some (.if_icmp .ge 15, 3)) none) (cond (Nat.beq pc 34) (some (.aload_n 0, 1)) none)) (cond (Nat.blt pc 36) (cond (Nat.beq pc 35) (some (.iload_n 2, 1)) none) (cond (Nat.blt pc 37) (cond (Nat.beq pc 36) (some (.iload_n 1, 1)) none) (cond (Nat.beq pc 37) (some (.invokevirtual 156, 3)) none)))) (cond (Nat.blt pc 46) (cond (Nat.blt pc 43) (cond (Nat.beq pc 40) (some (.iinc 2 1, 3)) none) (cond (Nat.beq pc 43) (some (.goto (-15), 3)) none)) (cond (Nat.blt pc 47) (cond (Nat.beq pc 46) (some (.aload_n 0, 1)) none) (cond (Nat.blt pc 50) (cond (Nat.beq pc 47) (some (.invokevirtual 160, 3)) none) (cond (Nat.beq pc 50) (some (.istore_n 2, 1)) none))))) (cond (Nat.blt pc 60) (cond (Nat.blt pc 55) (cond (Nat.blt pc 52) (cond (Nat.beq pc 51) (some (.aload_n 0, 1)) none) (cond (Nat.beq pc 52) (some (.invokevirtual 164, 3)) none)) (cond (Nat.blt pc 56) (cond (Nat.beq pc 55) (some (.aload_n 0, 1)) none) (cond (Nat.blt pc 57) (cond (Nat.beq pc 56) (some (.iload_n 1, 1)) none) (cond (Nat.beq pc 57) (some (.putfield 7, 3)) none)))) (cond (Nat.blt pc 62) (cond (Nat.blt pc 61) (cond (Nat.beq pc 60) (some (.aload_n 0, 1)) none) (cond (Nat.beq pc 61) (some (.iconst 1, 1)) none)) (cond (Nat.blt pc 65) (cond (Nat.beq pc 62) (some (.putfield 152, 3)) none) (cond (Nat.blt pc 66) (cond (Nat.beq pc 65) (some (.iload_n 2, 1)) none) (cond (Nat.beq pc 66) (some (.ireturn, 1)) none))))))) none
def PPcode : CodeT := fun q pc => cond (Nat.blt q 13) (cond (Nat.blt q 6) (cond (Nat.blt q 3) (cond (Nat.blt q 1) (cond (Nat.beq q 0) (cd_0 pc) none) (cond (Nat.blt q 2) (cond (Nat.beq q 1) (cd_1 pc) none) (cond (Nat.beq q 2) (cd_2 pc) none))) (cond (Nat.blt q 4) (cond (Nat.beq q 3) (cd_3 pc) none) (cond (Nat.blt q 5) (cond (Nat.beq q 4) (cd_4 pc) none) (cond (Nat.beq q 5) (cd_5 pc) none)))) (cond (Nat.blt q 9) (cond (Nat.blt q 7) (cond (Nat.beq q 6) (cd_6 pc) none) (cond (Nat.blt q 8) (cond (Nat.beq q 7) (cd_7 pc) none) (cond (Nat.beq q 8) (cd_8 pc) none))) (cond (Nat.blt q 11) (cond (Nat.blt q 10) (cond (Nat.beq q 9) (cd_9 pc) none) (cond (Nat.beq q 10) (cd_10 pc) none)) (cond (Nat.blt q 12) (cond (Nat.beq q 11) (cd_11 pc) none) (cond (Nat.beq q 12) (cd_12 pc) none))))) none
def PPfld : FldT := fun x => cond (Nat.blt x 153) (cond (Nat.blt x 66) (cond (Nat.blt x 38) (cond (Nat.blt x 23) (cond (Nat.blt x 17) (cond (Nat.blt x 13) (cond (Nat.beq x 7) (some (0, 1, 0, false)) none) (cond (Nat.beq x 13) (some (1, 0, 1, false)) none)) (cond (Nat.blt x 20) (cond (Nat.beq x 17) (some (2, 0, 2, false)) none) (cond (Nat.beq x 20) (some (3, 0, 3, false)) none))) (cond (Nat.blt x 29) (cond (Nat.blt x 26) (cond (Nat.beq x 23) (some (4, 0, 4, false)) none) (cond (Nat.beq x 26) (some (5, 0, 5, false)) none)) (cond (Nat.blt x 32) (cond (Nat.beq x 29) (some (6, 0, 6, false)) none) (cond (Nat.blt x 35) (cond (Nat.beq x 32) (some (7, 0, 7, false)) none) (cond (Nat.beq x 35) (some (8, 0, 8, false)) none))))) (cond (Nat.blt x 51) (cond (Nat.blt x 45) (cond (Nat.blt x 42) (cond (Nat.beq x 38) (some (9, 0, 9, false)) none) (cond (Nat.beq x 42) (some (10, 0, 10, false)) none)) (cond (Nat.blt x 48) (cond (Nat.beq x 45) (some (11, 0, 11, false)) none) (cond (Nat.beq x 48) (some (12, 0, 12, false)) none))) (cond (Nat.blt x 57) (cond (Nat.blt x 54) (cond (Nat.beq x 51) (some (13, 0, 13, false)) none) (cond (Nat.beq x 54) (some (14, 0, 14, false)) none)) (cond (Nat.blt x 60) (cond (Nat.beq x 57) (some (15, 0, 15, false)) none) (cond (Nat.blt x 63) (cond (Nat.beq x 60) (some (16, 0, 16, false)) none) (cond (Nat.beq x 63) (some (17, 0, 17, false)) none)))))) (cond (Nat.blt x 99) (cond (Nat.blt x 78) (cond (Nat.blt x 72) (cond (Nat.blt x 69) (cond (Nat.beq x 66) (some (18, 0, 18, false)) none) (cond (Nat.beq x 69) (some (19, 0, 19, false)) none)) (cond (Nat.blt x 75) (cond (Nat.beq x 72) (some (20, 0, 20, false)) none) (cond (Nat.beq x 75) (some (21, 0, 21, false)) none))) (cond (Nat.blt x 86) (cond (Nat.blt x 82) (cond (Nat.beq x 78) (some (22, 0, 22, false)) none) (cond (Nat.beq x 82) (some (23, 0, 23, false)) none)) (cond (Nat.blt x 89) (cond (Nat.beq x 86) (some (24, 0, 24, false)) none) (cond (Nat.blt x 96) (cond (Nat.beq x 89) (some (25, 0, 25, false)) none) (cond (Nat.beq x 96) (some (26, 1, 0, false)) none))))) (cond (Nat.blt x 111) (cond (Nat.blt x 105) (cond (Nat.blt x 102) (cond (Nat.beq x 99) (some (27, 1, 0, false)) none) (cond (Nat.beq x 102) (some (28, 1, 0, false)) none)) (cond (Nat.blt x 108) (cond (Nat.beq x 105) (some (29, 1, 0, false)) none) (cond (Nat.beq x 108) (some (30, 1, 0, false)) none))) (cond (Nat.blt x 135) (cond (Nat.blt x 118) (cond (Nat.beq x 111) (some (31, 1, 0, false)) none) (cond (Nat.beq x 118) (some (32, 1, 0, false)) none)) (cond (Nat.blt x 149) (cond (Nat.beq x 135) (some (33, 2, 0, false)) none) (cond (Nat.blt x 152) (cond (Nat.beq x 149) (some (35, 2, 0, false)) none) (cond (Nat.beq x 152) (some (36, 2, 0, false)) none))))))) none
def PPlay : LayT := fun j => cond (Nat.blt j 26) (cond (Nat.blt j 13) (cond (Nat.blt j 7) (cond (Nat.blt j 4) (cond (Nat.blt j 2) (cond (Nat.beq j 1) (some (1, 256)) none) (cond (Nat.blt j 3) (cond (Nat.beq j 2) (some (1, 256)) none) (cond (Nat.beq j 3) (some (1, 256)) none))) (cond (Nat.blt j 5) (cond (Nat.beq j 4) (some (1, 256)) none) (cond (Nat.blt j 6) (cond (Nat.beq j 5) (some (1, 256)) none) (cond (Nat.beq j 6) (some (1, 256)) none)))) (cond (Nat.blt j 10) (cond (Nat.blt j 8) (cond (Nat.beq j 7) (some (1, 256)) none) (cond (Nat.blt j 9) (cond (Nat.beq j 8) (some (1, 256)) none) (cond (Nat.beq j 9) (some (2, 256)) none))) (cond (Nat.blt j 11) (cond (Nat.beq j 10) (some (2, 256)) none) (cond (Nat.blt j 12) (cond (Nat.beq j 11) (some (2, 256)) none) (cond (Nat.beq j 12) (some (2, 256)) none))))) (cond (Nat.blt j 19) (cond (Nat.blt j 16) (cond (Nat.blt j 14) (cond (Nat.beq j 13) (some (1, 16)) none) (cond (Nat.blt j 15) (cond (Nat.beq j 14) (some (1, 16)) none) (cond (Nat.beq j 15) (some (1, 7)) none))) (cond (Nat.blt j 17) (cond (Nat.beq j 16) (some (1, 7)) none) (cond (Nat.blt j 18) (cond (Nat.beq j 17) (some (1, 7)) none) (cond (Nat.beq j 18) (some (1, 7)) none)))) (cond (Nat.blt j 22) (cond (Nat.blt j 20) (cond (Nat.beq j 19) (some (1, 7)) none) (cond (Nat.blt j 21) (cond (Nat.beq j 20) (some (1, 47)) none) (cond (Nat.beq j 21) (some (1, 19)) none))) (cond (Nat.blt j 24) (cond (Nat.blt j 23) (cond (Nat.beq j 22) (some (1, 19)) none) (cond (Nat.beq j 23) (some (3, 32768)) none)) (cond (Nat.blt j 25) (cond (Nat.beq j 24) (some (1, 7)) none) (cond (Nat.beq j 25) (some (1, 7)) none)))))) none
def PPcst : Nat → Option OV := fun x => cond (Nat.blt x 428) (cond (Nat.blt x 404) (cond (Nat.blt x 392) (cond (Nat.blt x 386) (cond (Nat.blt x 383) (cond (Nat.blt x 155) (cond (Nat.beq x 81) (some (vi 32768)) none) (cond (Nat.blt x 379) (cond (Nat.beq x 155) (some (vi (-1000000))) none) (cond (Nat.beq x 379) (some (vi 87553)) none))) (cond (Nat.blt x 384) (cond (Nat.beq x 383) (some (vi 406529)) none) (cond (Nat.blt x 385) (cond (Nat.beq x 384) (some (vi 595969)) none) (cond (Nat.beq x 385) (some (vi 789185)) none)))) (cond (Nat.blt x 389) (cond (Nat.blt x 387) (cond (Nat.beq x 386) (some (vi 1901857)) none) (cond (Nat.blt x 388) (cond (Nat.beq x 387) (some (vi 2163233)) none) (cond (Nat.beq x 388) (some (vi 415233)) none))) (cond (Nat.blt x 390) (cond (Nat.beq x 389) (some (vi 939009)) none) (cond (Nat.blt x 391) (cond (Nat.beq x 390) (some (vi 935937)) none) (cond (Nat.beq x 391) (some (vi 931841)) none))))) (cond (Nat.blt x 398) (cond (Nat.blt x 395) (cond (Nat.blt x 393) (cond (Nat.beq x 392) (some (vi 1126401)) none) (cond (Nat.blt x 394) (cond (Nat.beq x 393) (some (vi 1188865)) none) (cond (Nat.beq x 394) (some (vi 1317889)) none))) (cond (Nat.blt x 396) (cond (Nat.beq x 395) (some (vi 1381889)) none) (cond (Nat.blt x 397) (cond (Nat.beq x 396) (some (vi 939521)) none) (cond (Nat.beq x 397) (some (vi 1003777)) none)))) (cond (Nat.blt x 401) (cond (Nat.blt x 399) (cond (Nat.beq x 398) (some (vi 1067009)) none) (cond (Nat.blt x 400) (cond (Nat.beq x 399) (some (vi 1128449)) none) (cond (Nat.beq x 400) (some (vi 1192961)) none))) (cond (Nat.blt x 402) (cond (Nat.beq x 401) (some (vi 1257473)) none) (cond (Nat.blt x 403) (cond (Nat.beq x 402) (some (vi 1255425)) none) (cond (Nat.beq x 403) (some (vi 1319937)) none)))))) (cond (Nat.blt x 416) (cond (Nat.blt x 410) (cond (Nat.blt x 407) (cond (Nat.blt x 405) (cond (Nat.beq x 404) (some (vi 1384961)) none) (cond (Nat.blt x 406) (cond (Nat.beq x 405) (some (vi 1448961)) none) (cond (Nat.beq x 406) (some (vi 1513473)) none))) (cond (Nat.blt x 408) (cond (Nat.beq x 407) (some (vi 1578497)) none) (cond (Nat.blt x 409) (cond (Nat.beq x 408) (some (vi 1643521)) none) (cond (Nat.beq x 409) (some (vi 1708545)) none)))) (cond (Nat.blt x 413) (cond (Nat.blt x 411) (cond (Nat.beq x 410) (some (vi 1773825)) none) (cond (Nat.blt x 412) (cond (Nat.beq x 411) (some (vi 1837761)) none) (cond (Nat.beq x 412) (some (vi 1903041)) none))) (cond (Nat.blt x 414) (cond (Nat.beq x 413) (some (vi 1968289)) none) (cond (Nat.blt x 415) (cond (Nat.beq x 414) (some (vi 2032929)) none) (cond (Nat.beq x 415) (some (vi 2098241)) none))))) (cond (Nat.blt x 422) (cond (Nat.blt x 419) (cond (Nat.blt x 417) (cond (Nat.beq x 416) (some (vi 2163361)) none) (cond (Nat.blt x 418) (cond (Nat.beq x 417) (some (vi 2228769)) none) (cond (Nat.beq x 418) (some (vi 2294081)) none))) (cond (Nat.blt x 420) (cond (Nat.beq x 419) (some (vi 2359569)) none) (cond (Nat.blt x 421) (cond (Nat.beq x 420) (some (vi 2424965)) none) (cond (Nat.beq x 421) (some (vi 2490441)) none)))) (cond (Nat.blt x 425) (cond (Nat.blt x 423) (cond (Nat.beq x 422) (some (vi 2555941)) none) (cond (Nat.blt x 424) (cond (Nat.beq x 423) (some (vi 2621461)) none) (cond (Nat.beq x 424) (some (vi 2686985)) none))) (cond (Nat.blt x 426) (cond (Nat.beq x 425) (some (vi 2752517)) none) (cond (Nat.blt x 427) (cond (Nat.beq x 426) (some (vi 2818049)) none) (cond (Nat.beq x 427) (some (vi 3036673)) none))))))) none
def PPmth : Nat → Option Nat := fun x => cond (Nat.blt x 381) (cond (Nat.blt x 124) (cond (Nat.blt x 114) (cond (Nat.beq x 92) (some 1) none) (cond (Nat.blt x 121) (cond (Nat.beq x 114) (some 2) none) (cond (Nat.beq x 121) (some 3) none))) (cond (Nat.blt x 127) (cond (Nat.beq x 124) (some 5) none) (cond (Nat.blt x 380) (cond (Nat.beq x 127) (some 9) none) (cond (Nat.beq x 380) (some 4) none)))) none
def PPinf : InfT := fun q => cond (Nat.blt q 13) (cond (Nat.blt q 6) (cond (Nat.blt q 3) (cond (Nat.blt q 1) (cond (Nat.beq q 0) (some ([false, false], 3, 0, 2, 25)) none) (cond (Nat.blt q 2) (cond (Nat.beq q 1) (some ([false], 2, 1, 0, 0)) none) (cond (Nat.beq q 2) (some ([false, false, false, false, false], 6, 0, 0, 0)) none))) (cond (Nat.blt q 4) (cond (Nat.beq q 3) (some ([], 1, 0, 1, 13)) none) (cond (Nat.blt q 5) (cond (Nat.beq q 4) (some ([false], 2, 0, 0, 0)) none) (cond (Nat.beq q 5) (some ([], 1, 0, 1, 13)) none)))) (cond (Nat.blt q 9) (cond (Nat.blt q 7) (cond (Nat.beq q 6) (some ([], 1, 1, 0, 0)) none) (cond (Nat.blt q 8) (cond (Nat.beq q 7) (some ([], 1, 1, 0, 0)) none) (cond (Nat.beq q 8) (some ([false, false], 3, 1, 1, 14)) none))) (cond (Nat.blt q 11) (cond (Nat.blt q 10) (cond (Nat.beq q 9) (some ([false, false], 3, 2, 0, 0)) none) (cond (Nat.beq q 10) (some ([false, false], 3, 1, 1, 14)) none)) (cond (Nat.blt q 12) (cond (Nat.beq q 11) (some ([false, false], 3, 1, 1, 14)) none) (cond (Nat.beq q 12) (some ([false], 3, 1, 0, 0)) none))))) none
def PPobi : Nat → Bool := fun x => Nat.beq x 1
def PPliv : LivT := fun q pc => cond (Nat.blt q 6) (cond (Nat.blt q 3) (cond (Nat.blt q 1) (cond (Nat.beq q 0) (cond (Nat.beq pc 0) (some [true, true, true]) none) none) (cond (Nat.blt q 2) (cond (Nat.beq q 1) (cond (Nat.blt pc 7) (cond (Nat.blt pc 5) (cond (Nat.beq pc 0) (some [false, true]) none) (cond (Nat.beq pc 5) (some [false, false]) none)) (cond (Nat.blt pc 13) (cond (Nat.beq pc 7) (some [false, true]) none) (cond (Nat.blt pc 16) (cond (Nat.beq pc 13) (some [false, false]) none) (cond (Nat.beq pc 16) (some [false, true]) none)))) none) (cond (Nat.beq q 2) (cond (Nat.blt pc 10) (cond (Nat.blt pc 4) (cond (Nat.beq pc 0) (some [true, true, true, true, true, true]) none) (cond (Nat.beq pc 4) (some [true, true, true, true, true, true]) none)) (cond (Nat.blt pc 11) (cond (Nat.beq pc 10) (some [false, false, false, false, false, false]) none) (cond (Nat.beq pc 11) (some [true, true, true, true, true, true]) none))) none))) (cond (Nat.blt q 4) (cond (Nat.beq q 3) (cond (Nat.beq pc 0) (some [true]) none) none) (cond (Nat.blt q 5) (cond (Nat.beq q 4) (cond (Nat.blt pc 16) (cond (Nat.blt pc 7) (cond (Nat.beq pc 0) (some [true, true]) none) (cond (Nat.beq pc 7) (some [true, true]) none)) (cond (Nat.blt pc 36) (cond (Nat.beq pc 16) (some [true, true]) none) (cond (Nat.beq pc 36) (some [false, false]) none))) none) (cond (Nat.beq q 5) (cond (Nat.beq pc 0) (some [true]) none) none)))) (cond (Nat.blt q 9) (cond (Nat.blt q 7) (cond (Nat.beq q 6) (cond (Nat.beq pc 0) (some [true]) none) none) (cond (Nat.blt q 8) (cond (Nat.beq q 7) (cond (Nat.beq pc 0) (some [true]) none) none) (cond (Nat.beq q 8) (cond (Nat.blt pc 9) (cond (Nat.beq pc 0) (some [true, true, true]) none) (cond (Nat.blt pc 11) (cond (Nat.beq pc 9) (some [false, false, false]) none) (cond (Nat.beq pc 11) (some [true, true, true]) none))) none))) (cond (Nat.blt q 11) (cond (Nat.blt q 10) (cond (Nat.beq q 9) (cond (Nat.blt pc 16) (cond (Nat.blt pc 4) (cond (Nat.beq pc 0) (some [true, true, true]) none) (cond (Nat.blt pc 12) (cond (Nat.beq pc 4) (some [true, true, true]) none) (cond (Nat.beq pc 12) (some [true, false, true]) none))) (cond (Nat.blt pc 28) (cond (Nat.blt pc 24) (cond (Nat.beq pc 16) (some [true, false, true]) none) (cond (Nat.beq pc 24) (some [false, false, false]) none)) (cond (Nat.blt pc 29) (cond (Nat.beq pc 28) (some [false, false, false]) none) (cond (Nat.beq pc 29) (some [false, false, false]) none)))) none) (cond (Nat.beq q 10) (cond (Nat.blt pc 55) (cond (Nat.blt pc 27) (cond (Nat.blt pc 11) (cond (Nat.blt pc 9) (cond (Nat.beq pc 0) (some [true, true, true]) none) (cond (Nat.beq pc 9) (some [false, false, false]) none)) (cond (Nat.blt pc 19) (cond (Nat.beq pc 11) (some [true, true, true]) none) (cond (Nat.beq pc 19) (some [true, true, true]) none))) (cond (Nat.blt pc 37) (cond (Nat.blt pc 29) (cond (Nat.beq pc 27) (some [false, false, false]) none) (cond (Nat.beq pc 29) (some [true, true, true]) none)) (cond (Nat.blt pc 45) (cond (Nat.beq pc 37) (some [true, true, true]) none) (cond (Nat.blt pc 47) (cond (Nat.beq pc 45) (some [false, false, false]) none) (cond (Nat.beq pc 47) (some [true, true, true]) none))))) (cond (Nat.blt pc 83) (cond (Nat.blt pc 65) (cond (Nat.blt pc 63) (cond (Nat.beq pc 55) (some [true, true, true]) none) (cond (Nat.beq pc 63) (some [false, false, false]) none)) (cond (Nat.blt pc 73) (cond (Nat.beq pc 65) (some [true, true, true]) none) (cond (Nat.blt pc 81) (cond (Nat.beq pc 73) (some [true, true, true]) none) (cond (Nat.beq pc 81) (some [false, false, false]) none)))) (cond (Nat.blt pc 93) (cond (Nat.blt pc 91) (cond (Nat.beq pc 83) (some [true, true, true]) none) (cond (Nat.beq pc 91) (some [false, false, false]) none)) (cond (Nat.blt pc 101) (cond (Nat.beq pc 93) (some [true, true, false]) none) (cond (Nat.blt pc 103) (cond (Nat.beq pc 101) (some [false, false, false]) none) (cond (Nat.beq pc 103) (some [false, false, false]) none)))))) none)) (cond (Nat.blt q 12) (cond (Nat.beq q 11) (cond (Nat.blt pc 10) (cond (Nat.blt pc 7) (cond (Nat.beq pc 0) (some [true, true, true]) none) (cond (Nat.beq pc 7) (some [false, false, false]) none)) (cond (Nat.blt pc 19) (cond (Nat.beq pc 10) (some [true, true, true]) none) (cond (Nat.blt pc 22) (cond (Nat.beq pc 19) (some [false, false, false]) none) (cond (Nat.beq pc 22) (some [true, true, true]) none)))) none) (cond (Nat.beq q 12) (cond (Nat.blt pc 19) (cond (Nat.blt pc 9) (cond (Nat.blt pc 7) (cond (Nat.beq pc 0) (some [true, true, false]) none) (cond (Nat.beq pc 7) (some [false, false, false]) none)) (cond (Nat.blt pc 13) (cond (Nat.beq pc 9) (some [true, true, false]) none) (cond (Nat.beq pc 13) (some [true, true, false]) none))) (cond (Nat.blt pc 28) (cond (Nat.blt pc 21) (cond (Nat.beq pc 19) (some [false, false, false]) none) (cond (Nat.beq pc 21) (some [true, true, false]) none)) (cond (Nat.blt pc 34) (cond (Nat.beq pc 28) (some [true, true, true]) none) (cond (Nat.blt pc 46) (cond (Nat.beq pc 34) (some [true, true, true]) none) (cond (Nat.beq pc 46) (some [true, false, false]) none))))) none))))
def PP : PT := (PPcode, PPfld, PPlay, PPcst, PPmth, PPinf, PPobi, PPliv)
abbrev R := runP PP
abbrev Rr (n q pc : Nat) (L : OLs) (S : List OV) (y : Option OV × Nat × OMem) : RT := runP PP n q pc L (pushR y.1 S) y.2.1 y.2.2
def f_clampSize (x1 : Int) (m : OMem) : Option (Int) := if x1 < 4 then (some 4) else (if 16 < x1 then (some 16) else (some x1))
set_option maxRecDepth 65536 in
set_option maxHeartbeats 16000000 in
theorem f_clampSize_ok (t : Nat) (x1 : Int) (m : OMem) : Sim (f_clampSize x1 m) (fun r _ => some (some (vi r), t, m)) (fun n => R n 1 0 [qr 0, qi x1] [] t m) :=
  Sim.shift 3 (G := fun n => if x1 < 4 then R n 1 5 [qn, qi x1] [] t m else R n 1 7 [qn, qi x1] [] t m) (fun _ => rfl) (Sim.ite (fun _ => Sim.shift 2 (G := (fun _ => some (some (vi 4), t, m))) (fun _ => rfl) (Sim.pur _ _)) (fun _ => Sim.shift 3 (G := fun n => if 16 < x1 then R n 1 13 [qn, qi x1] [] t m else R n 1 16 [qn, qi x1] [] t m) (fun _ => rfl) (Sim.ite (fun _ => Sim.shift 2 (G := (fun _ => some (some (vi 16), t, m))) (fun _ => rfl) (Sim.pur _ _)) (fun _ => Sim.shift 2 (G := (fun _ => some (some (vi x1), t, m))) (fun _ => rfl) (Sim.pur _ _)))))
def f_setBandRect_b10 (m : OMem) : Option (OMem) := some m
set_option maxRecDepth 65536 in
set_option maxHeartbeats 16000000 in
theorem f_setBandRect_b10_ok (m : OMem) : Sim (f_setBandRect_b10 m) (fun w0 _ => some (none, 50, w0)) (fun n => R n 2 10 [qn, qn, qn, qn, qn, qn] [] 50 m) :=
  Sim.shift 1 (G := (fun _ => some (none, 50, m))) (fun _ => rfl) (Sim.pur _ _)
def f_setBandRect (x1 x2 x3 x4 x5 : Int) (m : OMem) : Option (OMem) := if x1 < 0 then (f_setBandRect_b10 m) else (if 6 < x1 then (f_setBandRect_b10 m) else (if 0 ≤ x1 ∧ x1 < 7 then (if 0 ≤ x1 ∧ x1 < 7 then (if 0 ≤ x1 ∧ x1 < 7 then (if 0 ≤ x1 ∧ x1 < 7 then (some (sto (sto (sto (sto m 15 x1 x2) 16 x1 x3) 17 x1 x4) 18 x1 x5)) else none) else none) else none) else none))
set_option maxRecDepth 65536 in
set_option maxHeartbeats 16000000 in
theorem f_setBandRect_ok (x1 x2 x3 x4 x5 : Int) (m : OMem) : Sim (f_setBandRect x1 x2 x3 x4 x5 m) (fun w0 _ => some (none, 50, w0)) (fun n => R n 2 0 [qr 0, qi x1, qi x2, qi x3, qi x4, qi x5] [] 50 m) :=
  Sim.shift 2 (G := fun n => if x1 < 0 then R n 2 10 [qr 0, qi x1, qi x2, qi x3, qi x4, qi x5] [] 50 m else R n 2 4 [qr 0, qi x1, qi x2, qi x3, qi x4, qi x5] [] 50 m) (fun _ => rfl) (Sim.ite (fun _ => Sim.jmp (f_setBandRect_b10_ok m) rfl (fun _ => rfl)) (fun _ => Sim.shift 3 (G := fun n => if 6 < x1 then R n 2 10 [qr 0, qi x1, qi x2, qi x3, qi x4, qi x5] [] 50 m else R n 2 11 [qr 0, qi x1, qi x2, qi x3, qi x4, qi x5] [] 50 m) (fun _ => rfl) (Sim.ite (fun _ => Sim.jmp (f_setBandRect_b10_ok m) rfl (fun _ => rfl)) (fun _ => Sim.shift 5 (G := fun n => if 0 ≤ x1 ∧ x1 < 7 then R n 2 18 [qr 0, qi x1, qi x2, qi x3, qi x4, qi x5] [] 50 (sto m 15 x1 x2) else none) (fun _ => rfl) (Sim.grd fun _ => Sim.shift 5 (G := fun n => if 0 ≤ x1 ∧ x1 < 7 then R n 2 25 [qr 0, qi x1, qi x2, qi x3, qi x4, qi x5] [] 50 (sto (sto m 15 x1 x2) 16 x1 x3) else none) (fun _ => rfl) (Sim.grd fun _ => Sim.shift 5 (G := fun n => if 0 ≤ x1 ∧ x1 < 7 then R n 2 33 [qr 0, qi x1, qi x2, qi x3, qi x4, qi x5] [] 50 (sto (sto (sto m 15 x1 x2) 16 x1 x3) 17 x1 x4) else none) (fun _ => rfl) (Sim.grd fun _ => Sim.shift 5 (G := fun n => if 0 ≤ x1 ∧ x1 < 7 then R n 2 41 [qr 0, qi x1, qi x2, qi x3, qi x4, qi x5] [] 50 (sto (sto (sto (sto m 15 x1 x2) 16 x1 x3) 17 x1 x4) 18 x1 x5) else none) (fun _ => rfl) (Sim.grd fun _ => Sim.shift 1 (G := (fun _ => some (none, 50, sto (sto (sto (sto m 15 x1 x2) 16 x1 x3) 17 x1 x4) 18 x1 x5))) (fun _ => rfl) (Sim.pur _ _)))))))))
def f_putState_b36 (m : OMem) : Option (OMem) := some m
set_option maxRecDepth 65536 in
set_option maxHeartbeats 16000000 in
theorem f_putState_b36_ok (m : OMem) : Sim (f_putState_b36 m) (fun w0 _ => some (none, 50, w0)) (fun n => R n 4 36 [qn, qn] [] 50 m) :=
  Sim.shift 1 (G := (fun _ => some (none, 50, m))) (fun _ => rfl) (Sim.pur _ _)
def f_putState (x1 : Int) (m : OMem) : Option (OMem) := if m 0 32 < 0 then (f_putState_b36 m) else (if m 0 32 < 47 then (if 0 ≤ m 0 32 ∧ m 0 32 < 47 then (f_putState_b36 (sto (sto m 20 (m 0 32) x1) 0 32 (w32 ((m 0 32) + 1)))) else none) else (f_putState_b36 m))
set_option maxRecDepth 65536 in
set_option maxHeartbeats 16000000 in
theorem f_putState_ok (x1 : Int) (m : OMem) : Sim (f_putState x1 m) (fun w0 _ => some (none, 50, w0)) (fun n => R n 4 0 [qr 0, qi x1] [] 50 m) :=
  Sim.shift 3 (G := fun n => if m 0 32 < 0 then R n 4 36 [qr 0, qi x1] [] 50 m else R n 4 7 [qr 0, qi x1] [] 50 m) (fun _ => rfl) (Sim.ite (fun _ => Sim.jmp (f_putState_b36_ok m) rfl (fun _ => rfl)) (fun _ => Sim.shift 4 (G := fun n => if m 0 32 < 47 then R n 4 16 [qr 0, qi x1] [] 50 m else R n 4 36 [qr 0, qi x1] [] 50 m) (fun _ => rfl) (Sim.ite (fun _ => Sim.shift 6 (G := fun n => if 0 ≤ m 0 32 ∧ m 0 32 < 47 then R n 4 26 [qr 0, qi x1] [] 50 (sto m 20 (m 0 32) x1) else none) (fun _ => rfl) (Sim.grd fun _ => Sim.shift 6 (G := fun n => R n 4 36 [qr 0, qi x1] [] 50 (sto (sto m 20 (m 0 32) x1) 0 32 (w32 ((m 0 32) + 1)))) (fun _ => rfl) (Sim.jmp (f_putState_b36_ok (sto (sto m 20 (m 0 32) x1) 0 32 (w32 ((m 0 32) + 1)))) rfl (fun _ => rfl)))) (fun _ => Sim.jmp (f_putState_b36_ok m) rfl (fun _ => rfl)))))
def f_loadStatesLow (m : OMem) : Option (OMem) := (f_putState 87553 m).bind fun m_10 => ((f_putState 406529 m_10).bind fun m_11 => ((f_putState 595969 m_11).bind fun m_12 => ((f_putState 789185 m_12).bind fun m_13 => ((f_putState 1901857 m_13).bind fun m_14 => ((f_putState 2163233 m_14).bind fun m_15 => ((f_putState 415233 m_15).bind fun m_16 => ((f_putState 939009 m_16).bind fun m_17 => ((f_putState 935937 m_17).bind fun m_18 => ((f_putState 931841 m_18).bind fun m_19 => ((f_putState 1126401 m_19).bind fun m_20 => ((f_putState 1188865 m_20).bind fun m_21 => ((f_putState 1317889 m_21).bind fun m_22 => ((f_putState 1381889 m_22).bind fun m_23 => ((f_putState 939521 m_23).bind fun m_24 => ((f_putState 939009 m_24).bind fun m_25 => ((f_putState 1003777 m_25).bind fun m_26 => ((f_putState 1067009 m_26).bind fun m_27 => ((f_putState 1128449 m_27).bind fun m_28 => ((f_putState 1192961 m_28).bind fun m_29 => ((f_putState 1257473 m_29).bind fun m_30 => ((f_putState 1255425 m_30).bind fun m_31 => ((f_putState 1319937 m_31).bind fun m_32 => ((f_putState 1384961 m_32).bind fun m_33 => (some m_33))))))))))))))))))))))))
set_option maxRecDepth 65536 in
set_option maxHeartbeats 16000000 in
theorem f_loadStatesLow_ok (m : OMem) : Sim (f_loadStatesLow m) (fun w0 _ => some (none, 50, w0)) (fun n => R n 3 0 [qr 0] [] 50 m) :=
  Sim.shift 3 (G := fun n => (R n 4 0 [qr 0, qi 87553] [] 50 m).bind fun y => Rr n 3 7 [qr 0] [] y) (fun _ => rfl) (Sim.call (f_putState_ok 87553 m) (fun _ _ => rfl) (runP_mono _ _ _ _ _ _) (fun _ => runP_mono _ _ _ _ _ _) (fun m_10 => Sim.shift 0 (G := fun n => R n 3 7 [qr 0] [] 50 m_10) (fun _ => rfl) (Sim.shift 3 (G := fun n => (R n 4 0 [qr 0, qi 406529] [] 50 m_10).bind fun y => Rr n 3 14 [qr 0] [] y) (fun _ => rfl) (Sim.call (f_putState_ok 406529 m_10) (fun _ _ => rfl) (runP_mono _ _ _ _ _ _) (fun _ => runP_mono _ _ _ _ _ _) (fun m_11 => Sim.shift 0 (G := fun n => R n 3 14 [qr 0] [] 50 m_11) (fun _ => rfl) (Sim.shift 3 (G := fun n => (R n 4 0 [qr 0, qi 595969] [] 50 m_11).bind fun y => Rr n 3 21 [qr 0] [] y) (fun _ => rfl) (Sim.call (f_putState_ok 595969 m_11) (fun _ _ => rfl) (runP_mono _ _ _ _ _ _) (fun _ => runP_mono _ _ _ _ _ _) (fun m_12 => Sim.shift 0 (G := fun n => R n 3 21 [qr 0] [] 50 m_12) (fun _ => rfl) (Sim.shift 3 (G := fun n => (R n 4 0 [qr 0, qi 789185] [] 50 m_12).bind fun y => Rr n 3 28 [qr 0] [] y) (fun _ => rfl) (Sim.call (f_putState_ok 789185 m_12) (fun _ _ => rfl) (runP_mono _ _ _ _ _ _) (fun _ => runP_mono _ _ _ _ _ _) (fun m_13 => Sim.shift 0 (G := fun n => R n 3 28 [qr 0] [] 50 m_13) (fun _ => rfl) (Sim.shift 3 (G := fun n => (R n 4 0 [qr 0, qi 1901857] [] 50 m_13).bind fun y => Rr n 3 35 [qr 0] [] y) (fun _ => rfl) (Sim.call (f_putState_ok 1901857 m_13) (fun _ _ => rfl) (runP_mono _ _ _ _ _ _) (fun _ => runP_mono _ _ _ _ _ _) (fun m_14 => Sim.shift 0 (G := fun n => R n 3 35 [qr 0] [] 50 m_14) (fun _ => rfl) (Sim.shift 3 (G := fun n => (R n 4 0 [qr 0, qi 2163233] [] 50 m_14).bind fun y => Rr n 3 42 [qr 0] [] y) (fun _ => rfl) (Sim.call (f_putState_ok 2163233 m_14) (fun _ _ => rfl) (runP_mono _ _ _ _ _ _) (fun _ => runP_mono _ _ _ _ _ _) (fun m_15 => Sim.shift 0 (G := fun n => R n 3 42 [qr 0] [] 50 m_15) (fun _ => rfl) (Sim.shift 3 (G := fun n => (R n 4 0 [qr 0, qi 415233] [] 50 m_15).bind fun y => Rr n 3 49 [qr 0] [] y) (fun _ => rfl) (Sim.call (f_putState_ok 415233 m_15) (fun _ _ => rfl) (runP_mono _ _ _ _ _ _) (fun _ => runP_mono _ _ _ _ _ _) (fun m_16 => Sim.shift 0 (G := fun n => R n 3 49 [qr 0] [] 50 m_16) (fun _ => rfl) (Sim.shift 3 (G := fun n => (R n 4 0 [qr 0, qi 939009] [] 50 m_16).bind fun y => Rr n 3 56 [qr 0] [] y) (fun _ => rfl) (Sim.call (f_putState_ok 939009 m_16) (fun _ _ => rfl) (runP_mono _ _ _ _ _ _) (fun _ => runP_mono _ _ _ _ _ _) (fun m_17 => Sim.shift 0 (G := fun n => R n 3 56 [qr 0] [] 50 m_17) (fun _ => rfl) (Sim.shift 3 (G := fun n => (R n 4 0 [qr 0, qi 935937] [] 50 m_17).bind fun y => Rr n 3 63 [qr 0] [] y) (fun _ => rfl) (Sim.call (f_putState_ok 935937 m_17) (fun _ _ => rfl) (runP_mono _ _ _ _ _ _) (fun _ => runP_mono _ _ _ _ _ _) (fun m_18 => Sim.shift 0 (G := fun n => R n 3 63 [qr 0] [] 50 m_18) (fun _ => rfl) (Sim.shift 3 (G := fun n => (R n 4 0 [qr 0, qi 931841] [] 50 m_18).bind fun y => Rr n 3 70 [qr 0] [] y) (fun _ => rfl) (Sim.call (f_putState_ok 931841 m_18) (fun _ _ => rfl) (runP_mono _ _ _ _ _ _) (fun _ => runP_mono _ _ _ _ _ _) (fun m_19 => Sim.shift 0 (G := fun n => R n 3 70 [qr 0] [] 50 m_19) (fun _ => rfl) (Sim.shift 3 (G := fun n => (R n 4 0 [qr 0, qi 1126401] [] 50 m_19).bind fun y => Rr n 3 77 [qr 0] [] y) (fun _ => rfl) (Sim.call (f_putState_ok 1126401 m_19) (fun _ _ => rfl) (runP_mono _ _ _ _ _ _) (fun _ => runP_mono _ _ _ _ _ _) (fun m_20 => Sim.shift 0 (G := fun n => R n 3 77 [qr 0] [] 50 m_20) (fun _ => rfl) (Sim.shift 3 (G := fun n => (R n 4 0 [qr 0, qi 1188865] [] 50 m_20).bind fun y => Rr n 3 84 [qr 0] [] y) (fun _ => rfl) (Sim.call (f_putState_ok 1188865 m_20) (fun _ _ => rfl) (runP_mono _ _ _ _ _ _) (fun _ => runP_mono _ _ _ _ _ _) (fun m_21 => Sim.shift 0 (G := fun n => R n 3 84 [qr 0] [] 50 m_21) (fun _ => rfl) (Sim.shift 3 (G := fun n => (R n 4 0 [qr 0, qi 1317889] [] 50 m_21).bind fun y => Rr n 3 91 [qr 0] [] y) (fun _ => rfl) (Sim.call (f_putState_ok 1317889 m_21) (fun _ _ => rfl) (runP_mono _ _ _ _ _ _) (fun _ => runP_mono _ _ _ _ _ _) (fun m_22 => Sim.shift 0 (G := fun n => R n 3 91 [qr 0] [] 50 m_22) (fun _ => rfl) (Sim.shift 3 (G := fun n => (R n 4 0 [qr 0, qi 1381889] [] 50 m_22).bind fun y => Rr n 3 98 [qr 0] [] y) (fun _ => rfl) (Sim.call (f_putState_ok 1381889 m_22) (fun _ _ => rfl) (runP_mono _ _ _ _ _ _) (fun _ => runP_mono _ _ _ _ _ _) (fun m_23 => Sim.shift 0 (G := fun n => R n 3 98 [qr 0] [] 50 m_23) (fun _ => rfl) (Sim.shift 3 (G := fun n => (R n 4 0 [qr 0, qi 939521] [] 50 m_23).bind fun y => Rr n 3 105 [qr 0] [] y) (fun _ => rfl) (Sim.call (f_putState_ok 939521 m_23) (fun _ _ => rfl) (runP_mono _ _ _ _ _ _) (fun _ => runP_mono _ _ _ _ _ _) (fun m_24 => Sim.shift 0 (G := fun n => R n 3 105 [qr 0] [] 50 m_24) (fun _ => rfl) (Sim.shift 3 (G := fun n => (R n 4 0 [qr 0, qi 939009] [] 50 m_24).bind fun y => Rr n 3 112 [qr 0] [] y) (fun _ => rfl) (Sim.call (f_putState_ok 939009 m_24) (fun _ _ => rfl) (runP_mono _ _ _ _ _ _) (fun _ => runP_mono _ _ _ _ _ _) (fun m_25 => Sim.shift 0 (G := fun n => R n 3 112 [qr 0] [] 50 m_25) (fun _ => rfl) (Sim.shift 3 (G := fun n => (R n 4 0 [qr 0, qi 1003777] [] 50 m_25).bind fun y => Rr n 3 119 [qr 0] [] y) (fun _ => rfl) (Sim.call (f_putState_ok 1003777 m_25) (fun _ _ => rfl) (runP_mono _ _ _ _ _ _) (fun _ => runP_mono _ _ _ _ _ _) (fun m_26 => Sim.shift 0 (G := fun n => R n 3 119 [qr 0] [] 50 m_26) (fun _ => rfl) (Sim.shift 3 (G := fun n => (R n 4 0 [qr 0, qi 1067009] [] 50 m_26).bind fun y => Rr n 3 126 [qr 0] [] y) (fun _ => rfl) (Sim.call (f_putState_ok 1067009 m_26) (fun _ _ => rfl) (runP_mono _ _ _ _ _ _) (fun _ => runP_mono _ _ _ _ _ _) (fun m_27 => Sim.shift 0 (G := fun n => R n 3 126 [qr 0] [] 50 m_27) (fun _ => rfl) (Sim.shift 3 (G := fun n => (R n 4 0 [qr 0, qi 1128449] [] 50 m_27).bind fun y => Rr n 3 133 [qr 0] [] y) (fun _ => rfl) (Sim.call (f_putState_ok 1128449 m_27) (fun _ _ => rfl) (runP_mono _ _ _ _ _ _) (fun _ => runP_mono _ _ _ _ _ _) (fun m_28 => Sim.shift 0 (G := fun n => R n 3 133 [qr 0] [] 50 m_28) (fun _ => rfl) (Sim.shift 3 (G := fun n => (R n 4 0 [qr 0, qi 1192961] [] 50 m_28).bind fun y => Rr n 3 140 [qr 0] [] y) (fun _ => rfl) (Sim.call (f_putState_ok 1192961 m_28) (fun _ _ => rfl) (runP_mono _ _ _ _ _ _) (fun _ => runP_mono _ _ _ _ _ _) (fun m_29 => Sim.shift 0 (G := fun n => R n 3 140 [qr 0] [] 50 m_29) (fun _ => rfl) (Sim.shift 3 (G := fun n => (R n 4 0 [qr 0, qi 1257473] [] 50 m_29).bind fun y => Rr n 3 147 [qr 0] [] y) (fun _ => rfl) (Sim.call (f_putState_ok 1257473 m_29) (fun _ _ => rfl) (runP_mono _ _ _ _ _ _) (fun _ => runP_mono _ _ _ _ _ _) (fun m_30 => Sim.shift 0 (G := fun n => R n 3 147 [qr 0] [] 50 m_30) (fun _ => rfl) (Sim.shift 3 (G := fun n => (R n 4 0 [qr 0, qi 1255425] [] 50 m_30).bind fun y => Rr n 3 154 [qr 0] [] y) (fun _ => rfl) (Sim.call (f_putState_ok 1255425 m_30) (fun _ _ => rfl) (runP_mono _ _ _ _ _ _) (fun _ => runP_mono _ _ _ _ _ _) (fun m_31 => Sim.shift 0 (G := fun n => R n 3 154 [qr 0] [] 50 m_31) (fun _ => rfl) (Sim.shift 3 (G := fun n => (R n 4 0 [qr 0, qi 1319937] [] 50 m_31).bind fun y => Rr n 3 161 [qr 0] [] y) (fun _ => rfl) (Sim.call (f_putState_ok 1319937 m_31) (fun _ _ => rfl) (runP_mono _ _ _ _ _ _) (fun _ => runP_mono _ _ _ _ _ _) (fun m_32 => Sim.shift 0 (G := fun n => R n 3 161 [qr 0] [] 50 m_32) (fun _ => rfl) (Sim.shift 3 (G := fun n => (R n 4 0 [qr 0, qi 1384961] [] 50 m_32).bind fun y => Rr n 3 168 [qr 0] [] y) (fun _ => rfl) (Sim.call (f_putState_ok 1384961 m_32) (fun _ _ => rfl) (runP_mono _ _ _ _ _ _) (fun _ => runP_mono _ _ _ _ _ _) (fun m_33 => Sim.shift 0 (G := fun n => R n 3 168 [qr 0] [] 50 m_33) (fun _ => rfl) (Sim.shift 1 (G := (fun _ => some (none, 50, m_33))) (fun _ => rfl) (Sim.pur _ _)))))))))))))))))))))))))))))))))))))))))))))))))))))))))))))))))))))))))
def f_loadStatesHigh (m : OMem) : Option (OMem) := (f_putState 1448961 m).bind fun m_35 => ((f_putState 1513473 m_35).bind fun m_36 => ((f_putState 1578497 m_36).bind fun m_37 => ((f_putState 1643521 m_37).bind fun m_38 => ((f_putState 1708545 m_38).bind fun m_39 => ((f_putState 1773825 m_39).bind fun m_40 => ((f_putState 1837761 m_40).bind fun m_41 => ((f_putState 1903041 m_41).bind fun m_42 => ((f_putState 1968289 m_42).bind fun m_43 => ((f_putState 2032929 m_43).bind fun m_44 => ((f_putState 2098241 m_44).bind fun m_45 => ((f_putState 2163361 m_45).bind fun m_46 => ((f_putState 2228769 m_46).bind fun m_47 => ((f_putState 2294081 m_47).bind fun m_48 => ((f_putState 2359569 m_48).bind fun m_49 => ((f_putState 2424965 m_49).bind fun m_50 => ((f_putState 2490441 m_50).bind fun m_51 => ((f_putState 2555941 m_51).bind fun m_52 => ((f_putState 2621461 m_52).bind fun m_53 => ((f_putState 2686985 m_53).bind fun m_54 => ((f_putState 2752517 m_54).bind fun m_55 => ((f_putState 2818049 m_55).bind fun m_56 => ((f_putState 3036673 m_56).bind fun m_57 => (some m_57)))))))))))))))))))))))
set_option maxRecDepth 65536 in
set_option maxHeartbeats 16000000 in
theorem f_loadStatesHigh_ok (m : OMem) : Sim (f_loadStatesHigh m) (fun w0 _ => some (none, 50, w0)) (fun n => R n 5 0 [qr 0] [] 50 m) :=
  Sim.shift 3 (G := fun n => (R n 4 0 [qr 0, qi 1448961] [] 50 m).bind fun y => Rr n 5 7 [qr 0] [] y) (fun _ => rfl) (Sim.call (f_putState_ok 1448961 m) (fun _ _ => rfl) (runP_mono _ _ _ _ _ _) (fun _ => runP_mono _ _ _ _ _ _) (fun m_35 => Sim.shift 0 (G := fun n => R n 5 7 [qr 0] [] 50 m_35) (fun _ => rfl) (Sim.shift 3 (G := fun n => (R n 4 0 [qr 0, qi 1513473] [] 50 m_35).bind fun y => Rr n 5 14 [qr 0] [] y) (fun _ => rfl) (Sim.call (f_putState_ok 1513473 m_35) (fun _ _ => rfl) (runP_mono _ _ _ _ _ _) (fun _ => runP_mono _ _ _ _ _ _) (fun m_36 => Sim.shift 0 (G := fun n => R n 5 14 [qr 0] [] 50 m_36) (fun _ => rfl) (Sim.shift 3 (G := fun n => (R n 4 0 [qr 0, qi 1578497] [] 50 m_36).bind fun y => Rr n 5 21 [qr 0] [] y) (fun _ => rfl) (Sim.call (f_putState_ok 1578497 m_36) (fun _ _ => rfl) (runP_mono _ _ _ _ _ _) (fun _ => runP_mono _ _ _ _ _ _) (fun m_37 => Sim.shift 0 (G := fun n => R n 5 21 [qr 0] [] 50 m_37) (fun _ => rfl) (Sim.shift 3 (G := fun n => (R n 4 0 [qr 0, qi 1643521] [] 50 m_37).bind fun y => Rr n 5 28 [qr 0] [] y) (fun _ => rfl) (Sim.call (f_putState_ok 1643521 m_37) (fun _ _ => rfl) (runP_mono _ _ _ _ _ _) (fun _ => runP_mono _ _ _ _ _ _) (fun m_38 => Sim.shift 0 (G := fun n => R n 5 28 [qr 0] [] 50 m_38) (fun _ => rfl) (Sim.shift 3 (G := fun n => (R n 4 0 [qr 0, qi 1708545] [] 50 m_38).bind fun y => Rr n 5 35 [qr 0] [] y) (fun _ => rfl) (Sim.call (f_putState_ok 1708545 m_38) (fun _ _ => rfl) (runP_mono _ _ _ _ _ _) (fun _ => runP_mono _ _ _ _ _ _) (fun m_39 => Sim.shift 0 (G := fun n => R n 5 35 [qr 0] [] 50 m_39) (fun _ => rfl) (Sim.shift 3 (G := fun n => (R n 4 0 [qr 0, qi 1773825] [] 50 m_39).bind fun y => Rr n 5 42 [qr 0] [] y) (fun _ => rfl) (Sim.call (f_putState_ok 1773825 m_39) (fun _ _ => rfl) (runP_mono _ _ _ _ _ _) (fun _ => runP_mono _ _ _ _ _ _) (fun m_40 => Sim.shift 0 (G := fun n => R n 5 42 [qr 0] [] 50 m_40) (fun _ => rfl) (Sim.shift 3 (G := fun n => (R n 4 0 [qr 0, qi 1837761] [] 50 m_40).bind fun y => Rr n 5 49 [qr 0] [] y) (fun _ => rfl) (Sim.call (f_putState_ok 1837761 m_40) (fun _ _ => rfl) (runP_mono _ _ _ _ _ _) (fun _ => runP_mono _ _ _ _ _ _) (fun m_41 => Sim.shift 0 (G := fun n => R n 5 49 [qr 0] [] 50 m_41) (fun _ => rfl) (Sim.shift 3 (G := fun n => (R n 4 0 [qr 0, qi 1903041] [] 50 m_41).bind fun y => Rr n 5 56 [qr 0] [] y) (fun _ => rfl) (Sim.call (f_putState_ok 1903041 m_41) (fun _ _ => rfl) (runP_mono _ _ _ _ _ _) (fun _ => runP_mono _ _ _ _ _ _) (fun m_42 => Sim.shift 0 (G := fun n => R n 5 56 [qr 0] [] 50 m_42) (fun _ => rfl) (Sim.shift 3 (G := fun n => (R n 4 0 [qr 0, qi 1968289] [] 50 m_42).bind fun y => Rr n 5 63 [qr 0] [] y) (fun _ => rfl) (Sim.call (f_putState_ok 1968289 m_42) (fun _ _ => rfl) (runP_mono _ _ _ _ _ _) (fun _ => runP_mono _ _ _ _ _ _) (fun m_43 => Sim.shift 0 (G := fun n => R n 5 63 [qr 0] [] 50 m_43) (fun _ => rfl) (Sim.shift 3 (G := fun n => (R n 4 0 [qr 0, qi 2032929] [] 50 m_43).bind fun y => Rr n 5 70 [qr 0] [] y) (fun _ => rfl) (Sim.call (f_putState_ok 2032929 m_43) (fun _ _ => rfl) (runP_mono _ _ _ _ _ _) (fun _ => runP_mono _ _ _ _ _ _) (fun m_44 => Sim.shift 0 (G := fun n => R n 5 70 [qr 0] [] 50 m_44) (fun _ => rfl) (Sim.shift 3 (G := fun n => (R n 4 0 [qr 0, qi 2098241] [] 50 m_44).bind fun y => Rr n 5 77 [qr 0] [] y) (fun _ => rfl) (Sim.call (f_putState_ok 2098241 m_44) (fun _ _ => rfl) (runP_mono _ _ _ _ _ _) (fun _ => runP_mono _ _ _ _ _ _) (fun m_45 => Sim.shift 0 (G := fun n => R n 5 77 [qr 0] [] 50 m_45) (fun _ => rfl) (Sim.shift 3 (G := fun n => (R n 4 0 [qr 0, qi 2163361] [] 50 m_45).bind fun y => Rr n 5 84 [qr 0] [] y) (fun _ => rfl) (Sim.call (f_putState_ok 2163361 m_45) (fun _ _ => rfl) (runP_mono _ _ _ _ _ _) (fun _ => runP_mono _ _ _ _ _ _) (fun m_46 => Sim.shift 0 (G := fun n => R n 5 84 [qr 0] [] 50 m_46) (fun _ => rfl) (Sim.shift 3 (G := fun n => (R n 4 0 [qr 0, qi 2228769] [] 50 m_46).bind fun y => Rr n 5 91 [qr 0] [] y) (fun _ => rfl) (Sim.call (f_putState_ok 2228769 m_46) (fun _ _ => rfl) (runP_mono _ _ _ _ _ _) (fun _ => runP_mono _ _ _ _ _ _) (fun m_47 => Sim.shift 0 (G := fun n => R n 5 91 [qr 0] [] 50 m_47) (fun _ => rfl) (Sim.shift 3 (G := fun n => (R n 4 0 [qr 0, qi 2294081] [] 50 m_47).bind fun y => Rr n 5 98 [qr 0] [] y) (fun _ => rfl) (Sim.call (f_putState_ok 2294081 m_47) (fun _ _ => rfl) (runP_mono _ _ _ _ _ _) (fun _ => runP_mono _ _ _ _ _ _) (fun m_48 => Sim.shift 0 (G := fun n => R n 5 98 [qr 0] [] 50 m_48) (fun _ => rfl) (Sim.shift 3 (G := fun n => (R n 4 0 [qr 0, qi 2359569] [] 50 m_48).bind fun y => Rr n 5 105 [qr 0] [] y) (fun _ => rfl) (Sim.call (f_putState_ok 2359569 m_48) (fun _ _ => rfl) (runP_mono _ _ _ _ _ _) (fun _ => runP_mono _ _ _ _ _ _) (fun m_49 => Sim.shift 0 (G := fun n => R n 5 105 [qr 0] [] 50 m_49) (fun _ => rfl) (Sim.shift 3 (G := fun n => (R n 4 0 [qr 0, qi 2424965] [] 50 m_49).bind fun y => Rr n 5 112 [qr 0] [] y) (fun _ => rfl) (Sim.call (f_putState_ok 2424965 m_49) (fun _ _ => rfl) (runP_mono _ _ _ _ _ _) (fun _ => runP_mono _ _ _ _ _ _) (fun m_50 => Sim.shift 0 (G := fun n => R n 5 112 [qr 0] [] 50 m_50) (fun _ => rfl) (Sim.shift 3 (G := fun n => (R n 4 0 [qr 0, qi 2490441] [] 50 m_50).bind fun y => Rr n 5 119 [qr 0] [] y) (fun _ => rfl) (Sim.call (f_putState_ok 2490441 m_50) (fun _ _ => rfl) (runP_mono _ _ _ _ _ _) (fun _ => runP_mono _ _ _ _ _ _) (fun m_51 => Sim.shift 0 (G := fun n => R n 5 119 [qr 0] [] 50 m_51) (fun _ => rfl) (Sim.shift 3 (G := fun n => (R n 4 0 [qr 0, qi 2555941] [] 50 m_51).bind fun y => Rr n 5 126 [qr 0] [] y) (fun _ => rfl) (Sim.call (f_putState_ok 2555941 m_51) (fun _ _ => rfl) (runP_mono _ _ _ _ _ _) (fun _ => runP_mono _ _ _ _ _ _) (fun m_52 => Sim.shift 0 (G := fun n => R n 5 126 [qr 0] [] 50 m_52) (fun _ => rfl) (Sim.shift 3 (G := fun n => (R n 4 0 [qr 0, qi 2621461] [] 50 m_52).bind fun y => Rr n 5 133 [qr 0] [] y) (fun _ => rfl) (Sim.call (f_putState_ok 2621461 m_52) (fun _ _ => rfl) (runP_mono _ _ _ _ _ _) (fun _ => runP_mono _ _ _ _ _ _) (fun m_53 => Sim.shift 0 (G := fun n => R n 5 133 [qr 0] [] 50 m_53) (fun _ => rfl) (Sim.shift 3 (G := fun n => (R n 4 0 [qr 0, qi 2686985] [] 50 m_53).bind fun y => Rr n 5 140 [qr 0] [] y) (fun _ => rfl) (Sim.call (f_putState_ok 2686985 m_53) (fun _ _ => rfl) (runP_mono _ _ _ _ _ _) (fun _ => runP_mono _ _ _ _ _ _) (fun m_54 => Sim.shift 0 (G := fun n => R n 5 140 [qr 0] [] 50 m_54) (fun _ => rfl) (Sim.shift 3 (G := fun n => (R n 4 0 [qr 0, qi 2752517] [] 50 m_54).bind fun y => Rr n 5 147 [qr 0] [] y) (fun _ => rfl) (Sim.call (f_putState_ok 2752517 m_54) (fun _ _ => rfl) (runP_mono _ _ _ _ _ _) (fun _ => runP_mono _ _ _ _ _ _) (fun m_55 => Sim.shift 0 (G := fun n => R n 5 147 [qr 0] [] 50 m_55) (fun _ => rfl) (Sim.shift 3 (G := fun n => (R n 4 0 [qr 0, qi 2818049] [] 50 m_55).bind fun y => Rr n 5 154 [qr 0] [] y) (fun _ => rfl) (Sim.call (f_putState_ok 2818049 m_55) (fun _ _ => rfl) (runP_mono _ _ _ _ _ _) (fun _ => runP_mono _ _ _ _ _ _) (fun m_56 => Sim.shift 0 (G := fun n => R n 5 154 [qr 0] [] 50 m_56) (fun _ => rfl) (Sim.shift 3 (G := fun n => (R n 4 0 [qr 0, qi 3036673] [] 50 m_56).bind fun y => Rr n 5 161 [qr 0] [] y) (fun _ => rfl) (Sim.call (f_putState_ok 3036673 m_56) (fun _ _ => rfl) (runP_mono _ _ _ _ _ _) (fun _ => runP_mono _ _ _ _ _ _) (fun m_57 => Sim.shift 0 (G := fun n => R n 5 161 [qr 0] [] 50 m_57) (fun _ => rfl) (Sim.shift 1 (G := (fun _ => some (none, 50, m_57))) (fun _ => rfl) (Sim.pur _ _))))))))))))))))))))))))))))))))))))))))))))))))))))))))))))))))))))))
def f_init (x1 x2 : Int) (m : OMem) : Option (OMem) := (f_clampSize x1 (sto m 0 0 (-1))).bind fun r_1 => ((f_clampSize x2 (sto (sto m 0 0 (-1)) 0 26 r_1)).bind fun r_2 => ((f_setBandRect 0 0 0 (div32 (w32 ((div32 (w32 (r_1 + 1)) 2) + 1)) 2) (div32 (w32 ((div32 (w32 (r_2 + 1)) 2) + 1)) 2) (sto (sto (sto (sto (sto (sto (sto m 0 0 (-1)) 0 26 r_1) 0 27 r_2) 0 28 (div32 (w32 (r_1 + 1)) 2)) 0 29 (div32 (w32 (r_2 + 1)) 2)) 0 30 (div32 (w32 ((div32 (w32 (r_1 + 1)) 2) + 1)) 2)) 0 31 (div32 (w32 ((div32 (w32 (r_2 + 1)) 2) + 1)) 2))).bind fun m_3 => ((f_setBandRect 1 (m_3 0 30) 0 (w32 ((m_3 0 28) - (m_3 0 30))) (m_3 0 31) m_3).bind fun m_4 => ((f_setBandRect 2 0 (m_4 0 31) (m_4 0 30) (w32 ((m_4 0 29) - (m_4 0 31))) m_4).bind fun m_5 => ((f_setBandRect 3 (m_5 0 30) (m_5 0 31) (w32 ((m_5 0 28) - (m_5 0 30))) (w32 ((m_5 0 29) - (m_5 0 31))) m_5).bind fun m_6 => ((f_setBandRect 4 (m_6 0 28) 0 (w32 ((m_6 0 26) - (m_6 0 28))) (m_6 0 29) m_6).bind fun m_7 => ((f_setBandRect 5 0 (m_7 0 29) (m_7 0 28) (w32 ((m_7 0 27) - (m_7 0 29))) m_7).bind fun m_8 => ((f_setBandRect 6 (m_8 0 28) (m_8 0 29) (w32 ((m_8 0 26) - (m_8 0 28))) (w32 ((m_8 0 27) - (m_8 0 29))) m_8).bind fun m_9 => ((f_loadStatesLow (sto m_9 0 32 0)).bind fun m_34 => ((f_loadStatesHigh m_34).bind fun m_58 => (some m_58)))))))))))
set_option maxRecDepth 65536 in
set_option maxHeartbeats 16000000 in
theorem f_init_ok (x1 x2 : Int) (m : OMem) : Sim (f_init x1 x2 m) (fun w0 _ => some (none, 50, w0)) (fun n => R n 0 0 [qr 0, qi x1, qi x2] [] 0 m) :=
  Sim.shift 12 (G := fun n => R n 0 24 [qr 0, qi x1, qi x2] [vr 2, vr 0] 3 (sto m 0 0 (-1))) (fun _ => rfl) (Sim.shift 12 (G := fun n => R n 0 51 [qr 0, qi x1, qi x2] [vr 5, vr 0] 9 (sto m 0 0 (-1))) (fun _ => rfl) (Sim.shift 12 (G := fun n => R n 0 78 [qr 0, qi x1, qi x2] [vr 8, vr 0] 15 (sto m 0 0 (-1))) (fun _ => rfl) (Sim.shift 12 (G := fun n => R n 0 105 [qr 0, qi x1, qi x2] [vr 11, vr 0] 21 (sto m 0 0 (-1))) (fun _ => rfl) (Sim.shift 12 (G := fun n => R n 0 130 [qr 0, qi x1, qi x2] [vr 14, vr 0] 27 (sto m 0 0 (-1))) (fun _ => rfl) (Sim.shift 12 (G := fun n => R n 0 154 [qr 0, qi x1, qi x2] [vr 17, vr 0] 33 (sto m 0 0 (-1))) (fun _ => rfl) (Sim.shift 12 (G := fun n => R n 0 178 [qr 0, qi x1, qi x2] [vr 20, vr 0] 39 (sto m 0 0 (-1))) (fun _ => rfl) (Sim.shift 12 (G := fun n => R n 0 202 [qr 0, qi x1, qi x2] [vr 23, vr 0] 45 (sto m 0 0 (-1))) (fun _ => rfl) (Sim.shift 12 (G := fun n => R n 0 224 [qr 0, qi x1, qi x2] [vi x1, vr 0, vr 0] 50 (sto m 0 0 (-1))) (fun _ => rfl) (Sim.shift 1 (G := fun n => (R n 1 0 [qr 0, qi x1] [] 50 (sto m 0 0 (-1))).bind fun y => Rr n 0 227 [qr 0, qi x1, qi x2] [vr 0] y) (fun _ => rfl) (Sim.call (f_clampSize_ok 50 x1 (sto m 0 0 (-1))) (fun _ _ => rfl) (runP_mono _ _ _ _ _ _) (fun _ => runP_mono _ _ _ _ _ _) (fun r_1 => Sim.shift 0 (G := fun n => R n 0 227 [qr 0, qi x1, qi x2] [vi r_1, vr 0] 50 (sto m 0 0 (-1))) (fun _ => rfl) (Sim.shift 5 (G := fun n => (R n 1 0 [qr 0, qi x2] [] 50 (sto (sto m 0 0 (-1)) 0 26 r_1)).bind fun y => Rr n 0 236 [qr 0, qi x1, qi x2] [vr 0] y) (fun _ => rfl) (Sim.call (f_clampSize_ok 50 x2 (sto (sto m 0 0 (-1)) 0 26 r_1)) (fun _ _ => rfl) (runP_mono _ _ _ _ _ _) (fun _ => runP_mono _ _ _ _ _ _) (fun r_2 => Sim.shift 0 (G := fun n => R n 0 236 [qr 0, qi x1, qi x2] [vi r_2, vr 0] 50 (sto (sto m 0 0 (-1)) 0 26 r_1)) (fun _ => rfl) (Sim.shift 12 (G := fun n => R n 0 256 [qr 0, qi x1, qi x2] [vi r_2, vr 0] 50 (sto (sto (sto (sto m 0 0 (-1)) 0 26 r_1) 0 27 r_2) 0 28 (div32 (w32 (r_1 + 1)) 2))) (fun _ => rfl) (Sim.shift 12 (G := fun n => R n 0 272 [qr 0, qi x1, qi x2] [vi (div32 (w32 ((div32 (w32 (r_1 + 1)) 2) + 1)) 2), vr 0] 50 (sto (sto (sto (sto (sto m 0 0 (-1)) 0 26 r_1) 0 27 r_2) 0 28 (div32 (w32 (r_1 + 1)) 2)) 0 29 (div32 (w32 (r_2 + 1)) 2))) (fun _ => rfl) (Sim.shift 12 (G := fun n => R n 0 290 [qr 0, qi x1, qi x2] [vi 0, vi 0, vr 0] 50 (sto (sto (sto (sto (sto (sto (sto m 0 0 (-1)) 0 26 r_1) 0 27 r_2) 0 28 (div32 (w32 (r_1 + 1)) 2)) 0 29 (div32 (w32 (r_2 + 1)) 2)) 0 30 (div32 (w32 ((div32 (w32 (r_1 + 1)) 2) + 1)) 2)) 0 31 (div32 (w32 ((div32 (w32 (r_2 + 1)) 2) + 1)) 2))) (fun _ => rfl) (Sim.shift 6 (G := fun n => (R n 2 0 [qr 0, qi 0, qi 0, qi 0, qi (div32 (w32 ((div32 (w32 (r_1 + 1)) 2) + 1)) 2), qi (div32 (w32 ((div32 (w32 (r_2 + 1)) 2) + 1)) 2)] [] 50 (sto (sto (sto (sto (sto (sto (sto m 0 0 (-1)) 0 26 r_1) 0 27 r_2) 0 28 (div32 (w32 (r_1 + 1)) 2)) 0 29 (div32 (w32 (r_2 + 1)) 2)) 0 30 (div32 (w32 ((div32 (w32 (r_1 + 1)) 2) + 1)) 2)) 0 31 (div32 (w32 ((div32 (w32 (r_2 + 1)) 2) + 1)) 2))).bind fun y => Rr n 0 302 [qr 0, qi x1, qi x2] [] y) (fun _ => rfl) (Sim.call (f_setBandRect_ok 0 0 0 (div32 (w32 ((div32 (w32 (r_1 + 1)) 2) + 1)) 2) (div32 (w32 ((div32 (w32 (r_2 + 1)) 2) + 1)) 2) (sto (sto (sto (sto (sto (sto (sto m 0 0 (-1)) 0 26 r_1) 0 27 r_2) 0 28 (div32 (w32 (r_1 + 1)) 2)) 0 29 (div32 (w32 (r_2 + 1)) 2)) 0 30 (div32 (w32 ((div32 (w32 (r_1 + 1)) 2) + 1)) 2)) 0 31 (div32 (w32 ((div32 (w32 (r_2 + 1)) 2) + 1)) 2))) (fun _ _ => rfl) (runP_mono _ _ _ _ _ _) (fun _ => runP_mono _ _ _ _ _ _) (fun m_3 => Sim.shift 0 (G := fun n => R n 0 302 [qr 0, qi x1, qi x2] [] 50 m_3) (fun _ => rfl) (Sim.shift 12 (G := fun n => R n 0 322 [qr 0, qi x1, qi x2] [vi (m_3 0 31), vi (w32 ((m_3 0 28) - (m_3 0 30))), vi 0, vi (m_3 0 30), vi 1, vr 0] 50 m_3) (fun _ => rfl) (Sim.shift 1 (G := fun n => (R n 2 0 [qr 0, qi 1, qi (m_3 0 30), qi 0, qi (w32 ((m_3 0 28) - (m_3 0 30))), qi (m_3 0 31)] [] 50 m_3).bind fun y => Rr n 0 325 [qr 0, qi x1, qi x2] [] y) (fun _ => rfl) (Sim.call (f_setBandRect_ok 1 (m_3 0 30) 0 (w32 ((m_3 0 28) - (m_3 0 30))) (m_3 0 31) m_3) (fun _ _ => rfl) (runP_mono _ _ _ _ _ _) (fun _ => runP_mono _ _ _ _ _ _) (fun m_4 => Sim.shift 0 (G := fun n => R n 0 325 [qr 0, qi x1, qi x2] [] 50 m_4) (fun _ => rfl) (Sim.shift 12 (G := fun n => R n 0 345 [qr 0, qi x1, qi x2] [vi (w32 ((m_4 0 29) - (m_4 0 31))), vi (m_4 0 30), vi (m_4 0 31), vi 0, vi 2, vr 0] 50 m_4) (fun _ => rfl) (Sim.shift 1 (G := fun n => (R n 2 0 [qr 0, qi 2, qi 0, qi (m_4 0 31), qi (m_4 0 30), qi (w32 ((m_4 0 29) - (m_4 0 31)))] [] 50 m_4).bind fun y => Rr n 0 348 [qr 0, qi x1, qi x2] [] y) (fun _ => rfl) (Sim.call (f_setBandRect_ok 2 0 (m_4 0 31) (m_4 0 30) (w32 ((m_4 0 29) - (m_4 0 31))) m_4) (fun _ _ => rfl) (runP_mono _ _ _ _ _ _) (fun _ => runP_mono _ _ _ _ _ _) (fun m_5 => Sim.shift 0 (G := fun n => R n 0 348 [qr 0, qi x1, qi x2] [] 50 m_5) (fun _ => rfl) (Sim.shift 12 (G := fun n => R n 0 368 [qr 0, qi x1, qi x2] [vr 0, vi (w32 ((m_5 0 28) - (m_5 0 30))), vi (m_5 0 31), vi (m_5 0 30), vi 3, vr 0] 50 m_5) (fun _ => rfl) (Sim.shift 5 (G := fun n => (R n 2 0 [qr 0, qi 3, qi (m_5 0 30), qi (m_5 0 31), qi (w32 ((m_5 0 28) - (m_5 0 30))), qi (w32 ((m_5 0 29) - (m_5 0 31)))] [] 50 m_5).bind fun y => Rr n 0 379 [qr 0, qi x1, qi x2] [] y) (fun _ => rfl) (Sim.call (f_setBandRect_ok 3 (m_5 0 30) (m_5 0 31) (w32 ((m_5 0 28) - (m_5 0 30))) (w32 ((m_5 0 29) - (m_5 0 31))) m_5) (fun _ _ => rfl) (runP_mono _ _ _ _ _ _) (fun _ => runP_mono _ _ _ _ _ _) (fun m_6 => Sim.shift 0 (G := fun n => R n 0 379 [qr 0, qi x1, qi x2] [] 50 m_6) (fun _ => rfl) (Sim.shift 12 (G := fun n => R n 0 399 [qr 0, qi x1, qi x2] [vi (m_6 0 29), vi (w32 ((m_6 0 26) - (m_6 0 28))), vi 0, vi (m_6 0 28), vi 4, vr 0] 50 m_6) (fun _ => rfl) (Sim.shift 1 (G := fun n => (R n 2 0 [qr 0, qi 4, qi (m_6 0 28), qi 0, qi (w32 ((m_6 0 26) - (m_6 0 28))), qi (m_6 0 29)] [] 50 m_6).bind fun y => Rr n 0 402 [qr 0, qi x1, qi x2] [] y) (fun _ => rfl) (Sim.call (f_setBandRect_ok 4 (m_6 0 28) 0 (w32 ((m_6 0 26) - (m_6 0 28))) (m_6 0 29) m_6) (fun _ _ => rfl) (runP_mono _ _ _ _ _ _) (fun _ => runP_mono _ _ _ _ _ _) (fun m_7 => Sim.shift 0 (G := fun n => R n 0 402 [qr 0, qi x1, qi x2] [] 50 m_7) (fun _ => rfl) (Sim.shift 12 (G := fun n => R n 0 422 [qr 0, qi x1, qi x2] [vi (w32 ((m_7 0 27) - (m_7 0 29))), vi (m_7 0 28), vi (m_7 0 29), vi 0, vi 5, vr 0] 50 m_7) (fun _ => rfl) (Sim.shift 1 (G := fun n => (R n 2 0 [qr 0, qi 5, qi 0, qi (m_7 0 29), qi (m_7 0 28), qi (w32 ((m_7 0 27) - (m_7 0 29)))] [] 50 m_7).bind fun y => Rr n 0 425 [qr 0, qi x1, qi x2] [] y) (fun _ => rfl) (Sim.call (f_setBandRect_ok 5 0 (m_7 0 29) (m_7 0 28) (w32 ((m_7 0 27) - (m_7 0 29))) m_7) (fun _ _ => rfl) (runP_mono _ _ _ _ _ _) (fun _ => runP_mono _ _ _ _ _ _) (fun m_8 => Sim.shift 0 (G := fun n => R n 0 425 [qr 0, qi x1, qi x2] [] 50 m_8) (fun _ => rfl) (Sim.shift 12 (G := fun n => R n 0 446 [qr 0, qi x1, qi x2] [vr 0, vi (w32 ((m_8 0 26) - (m_8 0 28))), vi (m_8 0 29), vi (m_8 0 28), vi 6, vr 0] 50 m_8) (fun _ => rfl) (Sim.shift 5 (G := fun n => (R n 2 0 [qr 0, qi 6, qi (m_8 0 28), qi (m_8 0 29), qi (w32 ((m_8 0 26) - (m_8 0 28))), qi (w32 ((m_8 0 27) - (m_8 0 29)))] [] 50 m_8).bind fun y => Rr n 0 457 [qr 0, qi x1, qi x2] [] y) (fun _ => rfl) (Sim.call (f_setBandRect_ok 6 (m_8 0 28) (m_8 0 29) (w32 ((m_8 0 26) - (m_8 0 28))) (w32 ((m_8 0 27) - (m_8 0 29))) m_8) (fun _ _ => rfl) (runP_mono _ _ _ _ _ _) (fun _ => runP_mono _ _ _ _ _ _) (fun m_9 => Sim.shift 0 (G := fun n => R n 0 457 [qr 0, qi x1, qi x2] [] 50 m_9) (fun _ => rfl) (Sim.shift 5 (G := fun n => (R n 3 0 [qr 0] [] 50 (sto m_9 0 32 0)).bind fun y => Rr n 0 466 [qr 0, qi x1, qi x2] [] y) (fun _ => rfl) (Sim.call (f_loadStatesLow_ok (sto m_9 0 32 0)) (fun _ _ => rfl) (runP_mono _ _ _ _ _ _) (fun _ => runP_mono _ _ _ _ _ _) (fun m_34 => Sim.shift 0 (G := fun n => R n 0 466 [qr 0, qi x1, qi x2] [] 50 m_34) (fun _ => rfl) (Sim.shift 2 (G := fun n => (R n 5 0 [qr 0] [] 50 m_34).bind fun y => Rr n 0 470 [qr 0, qi x1, qi x2] [] y) (fun _ => rfl) (Sim.call (f_loadStatesHigh_ok m_34) (fun _ _ => rfl) (runP_mono _ _ _ _ _ _) (fun _ => runP_mono _ _ _ _ _ _) (fun m_58 => Sim.shift 0 (G := fun n => R n 0 470 [qr 0, qi x1, qi x2] [] 50 m_58) (fun _ => rfl) (Sim.shift 1 (G := (fun _ => some (none, 50, m_58))) (fun _ => rfl) (Sim.pur _ _))))))))))))))))))))))))))))))))))))))))))))))))))))
def f_getWidth (m : OMem) : Option (Int) := some (m 0 26)
set_option maxRecDepth 65536 in
set_option maxHeartbeats 16000000 in
theorem f_getWidth_ok (t : Nat) (m : OMem) : Sim (f_getWidth m) (fun r _ => some (some (vi r), t, m)) (fun n => R n 6 0 [qr 0] [] t m) :=
  Sim.shift 3 (G := (fun _ => some (some (vi (m 0 26)), t, m))) (fun _ => rfl) (Sim.pur _ _)
def f_getHeight (m : OMem) : Option (Int) := some (m 0 27)
set_option maxRecDepth 65536 in
set_option maxHeartbeats 16000000 in
theorem f_getHeight_ok (t : Nat) (m : OMem) : Sim (f_getHeight m) (fun r _ => some (some (vi r), t, m)) (fun n => R n 7 0 [qr 0] [] t m) :=
  Sim.shift 3 (G := (fun _ => some (some (vi (m 0 27)), t, m))) (fun _ => rfl) (Sim.pur _ _)
def f_inRange_b29 (s0 : Int) (m : OMem) : Option (Int) := some (s0 % 2)
set_option maxRecDepth 65536 in
set_option maxHeartbeats 16000000 in
theorem f_inRange_b29_ok (t : Nat) (s0 : Int) (m : OMem) : Sim (f_inRange_b29 s0 m) (fun r _ => some (some (vi r), t, m)) (fun n => R n 9 29 [qn, qn, qn] [vi s0] t m) :=
  Sim.shift 1 (G := (fun _ => some (some (vi (s0 % 2)), t, m))) (fun _ => rfl) (Sim.pur _ _)
def f_inRange_b28 (m : OMem) : Option (Int) := f_inRange_b29 0 m
set_option maxRecDepth 65536 in
set_option maxHeartbeats 16000000 in
theorem f_inRange_b28_ok (t : Nat) (m : OMem) : Sim (f_inRange_b28 m) (fun r _ => some (some (vi r), t, m)) (fun n => R n 9 28 [qn, qn, qn] [] t m) :=
  Sim.shift 1 (G := fun n => R n 9 29 [qn, qn, qn] [vi 0] t m) (fun _ => rfl) (f_inRange_b29_ok t 0 m)
def f_inRange (x1 x2 : Int) (m : OMem) : Option (Int) := if x1 < 0 then (f_inRange_b28 m) else (if x1 < m 0 26 then (if x2 < 0 then (f_inRange_b28 m) else (if x2 < m 0 27 then (f_inRange_b29 1 m) else (f_inRange_b28 m))) else (f_inRange_b28 m))
set_option maxRecDepth 65536 in
set_option maxHeartbeats 16000000 in
theorem f_inRange_ok (t : Nat) (x1 x2 : Int) (m : OMem) : Sim (f_inRange x1 x2 m) (fun r _ => some (some (vi r), t, m)) (fun n => R n 9 0 [qr 0, qi x1, qi x2] [] t m) :=
  Sim.shift 2 (G := fun n => if x1 < 0 then R n 9 28 [qr 0, qi x1, qi x2] [] t m else R n 9 4 [qr 0, qi x1, qi x2] [] t m) (fun _ => rfl) (Sim.ite (fun _ => Sim.jmp (f_inRange_b28_ok t m) rfl (fun _ => rfl)) (fun _ => Sim.shift 4 (G := fun n => if x1 < m 0 26 then R n 9 12 [qr 0, qi x1, qi x2] [] t m else R n 9 28 [qr 0, qi x1, qi x2] [] t m) (fun _ => rfl) (Sim.ite (fun _ => Sim.shift 2 (G := fun n => if x2 < 0 then R n 9 28 [qr 0, qn, qi x2] [] t m else R n 9 16 [qr 0, qn, qi x2] [] t m) (fun _ => rfl) (Sim.ite (fun _ => Sim.jmp (f_inRange_b28_ok t m) rfl (fun _ => rfl)) (fun _ => Sim.shift 4 (G := fun n => if x2 < m 0 27 then R n 9 24 [qr 0, qn, qi x2] [] t m else R n 9 28 [qr 0, qn, qi x2] [] t m) (fun _ => rfl) (Sim.ite (fun _ => Sim.shift 2 (G := fun n => R n 9 29 [qn, qn, qn] [vi 1] t m) (fun _ => rfl) (f_inRange_b29_ok t 1 m)) (fun _ => Sim.jmp (f_inRange_b28_ok t m) rfl (fun _ => rfl)))))) (fun _ => Sim.jmp (f_inRange_b28_ok t m) rfl (fun _ => rfl)))))
def f_getPixel (x1 x2 : Int) (m : OMem) : Option (Int) := (f_inRange x1 x2 m).bind fun r_59 => (if r_59 = 0 then (some (-1)) else (if 0 ≤ and32 (w32 ((w32 (x2 * 16)) + x1)) 255 ∧ and32 (w32 ((w32 (x2 * 16)) + x1)) 255 < 256 then (some (m 1 (and32 (w32 ((w32 (x2 * 16)) + x1)) 255))) else none))
set_option maxRecDepth 65536 in
set_option maxHeartbeats 16000000 in
theorem f_getPixel_ok (x1 x2 : Int) (m : OMem) : Sim (f_getPixel x1 x2 m) (fun r _ => some (some (vi r), 50, m)) (fun n => R n 8 0 [qr 0, qi x1, qi x2] [] 50 m) :=
  Sim.shift 4 (G := fun n => (R n 9 0 [qr 0, qi x1, qi x2] [] 50 m).bind fun y => Rr n 8 6 [qr 0, qi x1, qi x2] [] y) (fun _ => rfl) (Sim.call (f_inRange_ok 50 x1 x2 m) (fun _ _ => rfl) (runP_mono _ _ _ _ _ _) (fun _ => runP_mono _ _ _ _ _ _) (fun r_59 => Sim.shift 0 (G := fun n => R n 8 6 [qr 0, qi x1, qi x2] [vi r_59] 50 m) (fun _ => rfl) (Sim.shift 1 (G := fun n => if r_59 = 0 then R n 8 9 [qr 0, qi x1, qi x2] [] 50 m else R n 8 11 [qr 0, qi x1, qi x2] [] 50 m) (fun _ => rfl) (Sim.ite (fun _ => Sim.shift 2 (G := (fun _ => some (some (vi (-1)), 50, m))) (fun _ => rfl) (Sim.pur _ _)) (fun _ => Sim.shift 10 (G := fun n => if 0 ≤ and32 (w32 ((w32 (x2 * 16)) + x1)) 255 ∧ and32 (w32 ((w32 (x2 * 16)) + x1)) 255 < 256 then R n 8 26 [qr 0, qi x1, qi x2] [vi (m 1 (and32 (w32 ((w32 (x2 * 16)) + x1)) 255))] 50 m else none) (fun _ => rfl) (Sim.grd fun _ => Sim.shift 1 (G := (fun _ => some (some (vi (m 1 (and32 (w32 ((w32 (x2 * 16)) + x1)) 255))), 50, m))) (fun _ => rfl) (Sim.pur _ _)))))))
def f_getBand_b83 (x1 x2 : Int) (m : OMem) : Option (Int) := if x2 < m 0 29 then (some 4) else (if x1 < m 0 28 then (some 5) else (some 6))
set_option maxRecDepth 65536 in
set_option maxHeartbeats 16000000 in
theorem f_getBand_b83_ok (t : Nat) (x1 x2 : Int) (m : OMem) : Sim (f_getBand_b83 x1 x2 m) (fun r _ => some (some (vi r), t, m)) (fun n => R n 10 83 [qr 0, qi x1, qi x2] [] t m) :=
  Sim.shift 4 (G := fun n => if x2 < m 0 29 then R n 10 91 [qr 0, qi x1, qi x2] [] t m else R n 10 93 [qr 0, qi x1, qi x2] [] t m) (fun _ => rfl) (Sim.ite (fun _ => Sim.shift 2 (G := (fun _ => some (some (vi 4), t, m))) (fun _ => rfl) (Sim.pur _ _)) (fun _ => Sim.shift 4 (G := fun n => if x1 < m 0 28 then R n 10 101 [qr 0, qi x1, qn] [] t m else R n 10 103 [qr 0, qi x1, qn] [] t m) (fun _ => rfl) (Sim.ite (fun _ => Sim.shift 2 (G := (fun _ => some (some (vi 5), t, m))) (fun _ => rfl) (Sim.pur _ _)) (fun _ => Sim.shift 2 (G := (fun _ => some (some (vi 6), t, m))) (fun _ => rfl) (Sim.pur _ _)))))
def f_getBand_b65 (x1 x2 : Int) (m : OMem) : Option (Int) := if x1 < m 0 28 then (if x2 < m 0 29 then (some 3) else (f_getBand_b83 x1 x2 m)) else (f_getBand_b83 x1 x2 m)
set_option maxRecDepth 65536 in
set_option maxHeartbeats 16000000 in
theorem f_getBand_b65_ok (t : Nat) (x1 x2 : Int) (m : OMem) : Sim (f_getBand_b65 x1 x2 m) (fun r _ => some (some (vi r), t, m)) (fun n => R n 10 65 [qr 0, qi x1, qi x2] [] t m) :=
  Sim.shift 4 (G := fun n => if x1 < m 0 28 then R n 10 73 [qr 0, qi x1, qi x2] [] t m else R n 10 83 [qr 0, qi x1, qi x2] [] t m) (fun _ => rfl) (Sim.ite (fun _ => Sim.shift 4 (G := fun n => if x2 < m 0 29 then R n 10 81 [qr 0, qi x1, qi x2] [] t m else R n 10 83 [qr 0, qi x1, qi x2] [] t m) (fun _ => rfl) (Sim.ite (fun _ => Sim.shift 2 (G := (fun _ => some (some (vi 3), t, m))) (fun _ => rfl) (Sim.pur _ _)) (fun _ => f_getBand_b83_ok t x1 x2 m))) (fun _ => f_getBand_b83_ok t x1 x2 m))
def f_getBand_b47 (x1 x2 : Int) (m : OMem) : Option (Int) := if x1 < m 0 30 then (if x2 < m 0 29 then (some 2) else (f_getBand_b65 x1 x2 m)) else (f_getBand_b65 x1 x2 m)
set_option maxRecDepth 65536 in
set_option maxHeartbeats 16000000 in
theorem f_getBand_b47_ok (t : Nat) (x1 x2 : Int) (m : OMem) : Sim (f_getBand_b47 x1 x2 m) (fun r _ => some (some (vi r), t, m)) (fun n => R n 10 47 [qr 0, qi x1, qi x2] [] t m) :=
  Sim.shift 4 (G := fun n => if x1 < m 0 30 then R n 10 55 [qr 0, qi x1, qi x2] [] t m else R n 10 65 [qr 0, qi x1, qi x2] [] t m) (fun _ => rfl) (Sim.ite (fun _ => Sim.shift 4 (G := fun n => if x2 < m 0 29 then R n 10 63 [qr 0, qi x1, qi x2] [] t m else R n 10 65 [qr 0, qi x1, qi x2] [] t m) (fun _ => rfl) (Sim.ite (fun _ => Sim.shift 2 (G := (fun _ => some (some (vi 2), t, m))) (fun _ => rfl) (Sim.pur _ _)) (fun _ => f_getBand_b65_ok t x1 x2 m))) (fun _ => f_getBand_b65_ok t x1 x2 m))
def f_getBand_b29 (x1 x2 : Int) (m : OMem) : Option (Int) := if x1 < m 0 28 then (if x2 < m 0 31 then (some 1) else (f_getBand_b47 x1 x2 m)) else (f_getBand_b47 x1 x2 m)
set_option maxRecDepth 65536 in
set_option maxHeartbeats 16000000 in
theorem f_getBand_b29_ok (t : Nat) (x1 x2 : Int) (m : OMem) : Sim (f_getBand_b29 x1 x2 m) (fun r _ => some (some (vi r), t, m)) (fun n => R n 10 29 [qr 0, qi x1, qi x2] [] t m) :=
  Sim.shift 4 (G := fun n => if x1 < m 0 28 then R n 10 37 [qr 0, qi x1, qi x2] [] t m else R n 10 47 [qr 0, qi x1, qi x2] [] t m) (fun _ => rfl) (Sim.ite (fun _ => Sim.shift 4 (G := fun n => if x2 < m 0 31 then R n 10 45 [qr 0, qi x1, qi x2] [] t m else R n 10 47 [qr 0, qi x1, qi x2] [] t m) (fun _ => rfl) (Sim.ite (fun _ => Sim.shift 2 (G := (fun _ => some (some (vi 1), t, m))) (fun _ => rfl) (Sim.pur _ _)) (fun _ => f_getBand_b47_ok t x1 x2 m))) (fun _ => f_getBand_b47_ok t x1 x2 m))
def f_getBand (x1 x2 : Int) (m : OMem) : Option (Int) := (f_inRange x1 x2 m).bind fun r_60 => (if r_60 = 0 then (some (-1)) else (if x1 < m 0 30 then (if x2 < m 0 31 then (some 0) else (f_getBand_b29 x1 x2 m)) else (f_getBand_b29 x1 x2 m)))
set_option maxRecDepth 65536 in
set_option maxHeartbeats 16000000 in
theorem f_getBand_ok (t : Nat) (x1 x2 : Int) (m : OMem) : Sim (f_getBand x1 x2 m) (fun r _ => some (some (vi r), t, m)) (fun n => R n 10 0 [qr 0, qi x1, qi x2] [] t m) :=
  Sim.shift 4 (G := fun n => (R n 9 0 [qr 0, qi x1, qi x2] [] t m).bind fun y => Rr n 10 6 [qr 0, qi x1, qi x2] [] y) (fun _ => rfl) (Sim.call (f_inRange_ok t x1 x2 m) (fun _ _ => rfl) (runP_mono _ _ _ _ _ _) (fun _ => runP_mono _ _ _ _ _ _) (fun r_60 => Sim.shift 0 (G := fun n => R n 10 6 [qr 0, qi x1, qi x2] [vi r_60] t m) (fun _ => rfl) (Sim.shift 1 (G := fun n => if r_60 = 0 then R n 10 9 [qr 0, qi x1, qi x2] [] t m else R n 10 11 [qr 0, qi x1, qi x2] [] t m) (fun _ => rfl) (Sim.ite (fun _ => Sim.shift 2 (G := (fun _ => some (some (vi (-1)), t, m))) (fun _ => rfl) (Sim.pur _ _)) (fun _ => Sim.shift 4 (G := fun n => if x1 < m 0 30 then R n 10 19 [qr 0, qi x1, qi x2] [] t m else R n 10 29 [qr 0, qi x1, qi x2] [] t m) (fun _ => rfl) (Sim.ite (fun _ => Sim.shift 4 (G := fun n => if x2 < m 0 31 then R n 10 27 [qr 0, qi x1, qi x2] [] t m else R n 10 29 [qr 0, qi x1, qi x2] [] t m) (fun _ => rfl) (Sim.ite (fun _ => Sim.shift 2 (G := (fun _ => some (some (vi 0), t, m))) (fun _ => rfl) (Sim.pur _ _)) (fun _ => f_getBand_b29_ok t x1 x2 m))) (fun _ => f_getBand_b29_ok t x1 x2 m)))))))
def f_getCoefficient (x1 x2 : Int) (m : OMem) : Option (Int) := if m 0 35 = 0 then (some (-1000000)) else ((f_inRange x1 x2 m).bind fun r_61 => (if r_61 = 0 then (some (-1000000)) else (if 0 ≤ and32 (w32 ((w32 (x2 * 16)) + x1)) 255 ∧ and32 (w32 ((w32 (x2 * 16)) + x1)) 255 < 256 then (some (m 3 (and32 (w32 ((w32 (x2 * 16)) + x1)) 255))) else none)))
set_option maxRecDepth 65536 in
set_option maxHeartbeats 16000000 in
theorem f_getCoefficient_ok (x1 x2 : Int) (m : OMem) : Sim (f_getCoefficient x1 x2 m) (fun r _ => some (some (vi r), 50, m)) (fun n => R n 11 0 [qr 0, qi x1, qi x2] [] 50 m) :=
  Sim.shift 3 (G := fun n => if m 0 35 = 0 then R n 11 7 [qr 0, qi x1, qi x2] [] 50 m else R n 11 10 [qr 0, qi x1, qi x2] [] 50 m) (fun _ => rfl) (Sim.ite (fun _ => Sim.shift 2 (G := (fun _ => some (some (vi (-1000000)), 50, m))) (fun _ => rfl) (Sim.pur _ _)) (fun _ => Sim.shift 4 (G := fun n => (R n 9 0 [qr 0, qi x1, qi x2] [] 50 m).bind fun y => Rr n 11 16 [qr 0, qi x1, qi x2] [] y) (fun _ => rfl) (Sim.call (f_inRange_ok 50 x1 x2 m) (fun _ _ => rfl) (runP_mono _ _ _ _ _ _) (fun _ => runP_mono _ _ _ _ _ _) (fun r_61 => Sim.shift 0 (G := fun n => R n 11 16 [qr 0, qi x1, qi x2] [vi r_61] 50 m) (fun _ => rfl) (Sim.shift 1 (G := fun n => if r_61 = 0 then R n 11 19 [qr 0, qi x1, qi x2] [] 50 m else R n 11 22 [qr 0, qi x1, qi x2] [] 50 m) (fun _ => rfl) (Sim.ite (fun _ => Sim.shift 2 (G := (fun _ => some (some (vi (-1000000)), 50, m))) (fun _ => rfl) (Sim.pur _ _)) (fun _ => Sim.shift 10 (G := fun n => if 0 ≤ and32 (w32 ((w32 (x2 * 16)) + x1)) 255 ∧ and32 (w32 ((w32 (x2 * 16)) + x1)) 255 < 256 then R n 11 37 [qr 0, qi x1, qi x2] [vi (m 3 (and32 (w32 ((w32 (x2 * 16)) + x1)) 255))] 50 m else none) (fun _ => rfl) (Sim.grd fun _ => Sim.shift 1 (G := (fun _ => some (some (vi (m 3 (and32 (w32 ((w32 (x2 * 16)) + x1)) 255))), 50, m))) (fun _ => rfl) (Sim.pur _ _)))))))))
def f_decode_b19 (m : OMem) : Option (Int × OMem) := some ((-1), m)
set_option maxRecDepth 65536 in
set_option maxHeartbeats 16000000 in
theorem f_decode_b19_ok (t : Nat) (m : OMem) : Sim (f_decode_b19 m) (fun (r, w0) _ => some (some (vi r), t, w0)) (fun n => R n 12 19 [qn, qn, qn] [] t m) :=
  Sim.shift 2 (G := (fun _ => some (some (vi (-1)), t, m))) (fun _ => rfl) (Sim.pur _ _)
def f_decode (x1 : Int) (m : OMem) : Option (Int × OMem) := if m 0 35 = 0 then (some ((-1), m)) else (if x1 < 0 then (f_decode_b19 m) else (if 36 < x1 then (f_decode_b19 m) else (if (0 : Int) < 7 then (none) else (none))))
set_option maxRecDepth 65536 in
set_option maxHeartbeats 16000000 in
theorem f_decode_ok (t : Nat) (x1 : Int) (m : OMem) : Sim (f_decode x1 m) (fun (r, w0) _ => some (some (vi r), t, w0)) (fun n => R n 12 0 [qr 0, qi x1, qn] [] t m) :=
  Sim.shift 3 (G := fun n => if m 0 35 = 0 then R n 12 7 [qr 0, qi x1, qn] [] t m else R n 12 9 [qr 0, qi x1, qn] [] t m) (fun _ => rfl) (Sim.ite (fun _ => Sim.shift 2 (G := (fun _ => some (some (vi (-1)), t, m))) (fun _ => rfl) (Sim.pur _ _)) (fun _ => Sim.shift 2 (G := fun n => if x1 < 0 then R n 12 19 [qr 0, qi x1, qn] [] t m else R n 12 13 [qr 0, qi x1, qn] [] t m) (fun _ => rfl) (Sim.ite (fun _ => Sim.jmp (f_decode_b19_ok t m) rfl (fun _ => rfl)) (fun _ => Sim.shift 3 (G := fun n => if 36 < x1 then R n 12 19 [qr 0, qi x1, qn] [] t m else R n 12 21 [qr 0, qi x1, qn] [] t m) (fun _ => rfl) (Sim.ite (fun _ => Sim.jmp (f_decode_b19_ok t m) rfl (fun _ => rfl)) (fun _ => Sim.shift 5 (G := fun n => R n 12 28 [qr 0, qi x1, qi 0] [] t (sto m 0 33 0)) (fun _ => rfl) (Sim.shift 3 (G := fun n => if (0 : Int) < 7 then R n 12 34 [qr 0, qi x1, qi 0] [] t (sto m 0 33 0) else R n 12 46 [qr 0, qi x1, qi 0] [] t (sto m 0 33 0)) (fun _ => rfl) (Sim.ite (fun _ => Sim.non) (fun _ => Sim.non)))))))))
def lcd_0 : Nat → Option (Instr × Nat) := fun pc => cond (Nat.blt pc 318) (cond (Nat.blt pc 152) (cond (Nat.blt pc 82) (cond (Nat.blt pc 39) (cond (Nat.blt pc 17) (cond (Nat.blt pc 9) (cond (Nat.blt pc 4) (cond (Nat.blt pc 3) (cond (Nat.beq pc 0) (some (.new 7, 3)) none) (cond (Nat.beq pc 3) (some (.dup, 1)) none)) (cond (Nat.blt pc 5) (cond (Nat.beq pc 4) (some (.iload_n 0, 1)) none) (cond (Nat.blt pc 6) (cond (Nat.beq pc 5) (some (.iload_n 1, 1)) none) (cond (Nat.beq pc 6) (some (.invokespecial 9, 3)) none)))) (cond (Nat.blt pc 12) (cond (Nat.blt pc 11) (cond (Nat.beq pc 9) (some (.astore 5, 2)) none) (cond (Nat.beq pc 11) (some (.iload_n 0, 1)) none)) (cond (Nat.blt pc 13) (cond (Nat.beq pc 12) (some (.iconst 4, 1)) none) (cond (Nat.blt pc 16) (cond (Nat.beq pc 13) (some (.if_icmp .ge 7, 3)) none) (cond (Nat.beq pc 16) (some (.iconst 4, 1)) none))))) (cond (Nat.blt pc 28) (cond (Nat.blt pc 21) (cond (Nat.blt pc 20) (cond (Nat.beq pc 17) (some (.goto 15, 3)) none) (cond (Nat.beq pc 20) (some (.iload_n 0, 1)) none)) (cond (Nat.blt pc 23) (cond (Nat.beq pc 21) (some (.bipush 16, 2)) none) (cond (Nat.blt pc 26) (cond (Nat.beq pc 23) (some (.if_icmp .le 8, 3)) none) (cond (Nat.beq pc 26) (some (.bipush 16, 2)) none)))) (cond (Nat.blt pc 34) (cond (Nat.blt pc 31) (cond (Nat.beq pc 28) (some (.goto 4, 3)) none) (cond (Nat.blt pc 32) (cond (Nat.beq pc 31) (some (.iload_n 0, 1)) none) (cond (Nat.beq pc 32) (some (.istore 6, 2)) none))) (cond (Nat.blt pc 35) (cond (Nat.beq pc 34) (some (.iload_n 1, 1)) none) (cond (Nat.blt pc 36) (cond (Nat.beq pc 35) (some (.iconst 4, 1)) none) (cond (Nat.beq pc 36) (some (.if_icmp .ge 7, 3)) none)))))) (cond (Nat.blt pc 61) (cond (Nat.blt pc 49) (cond (Nat.blt pc 43) (cond (Nat.blt pc 40) (cond (Nat.beq pc 39) (some (.iconst 4, 1)) none) (cond (Nat.beq pc 40) (some (.goto 15, 3)) none)) (cond (Nat.blt pc 44) (cond (Nat.beq pc 43) (some (.iload_n 1, 1)) none) (cond (Nat.blt pc 46) (cond (Nat.beq pc 44) (some (.bipush 16, 2)) none) (cond (Nat.beq pc 46) (some (.if_icmp .le 8, 3)) none)))) (cond (Nat.blt pc 55) (cond (Nat.blt pc 51) (cond (Nat.beq pc 49) (some (.bipush 16, 2)) none) (cond (Nat.blt pc 54) (cond (Nat.beq pc 51) (some (.goto 4, 3)) none) (cond (Nat.beq pc 54) (some (.iload_n 1, 1)) none))) (cond (Nat.blt pc 57) (cond (Nat.beq pc 55) (some (.istore 7, 2)) none) (cond (Nat.blt pc 58) (cond (Nat.beq pc 57) (some (.iload_n 2, 1)) none) (cond (Nat.beq pc 58) (some (.ifCond .lt 23, 3)) none))))) (cond (Nat.blt pc 71) (cond (Nat.blt pc 64) (cond (Nat.blt pc 62) (cond (Nat.beq pc 61) (some (.iload_n 2, 1)) none) (cond (Nat.beq pc 62) (some (.iload 6, 2)) none)) (cond (Nat.blt pc 67) (cond (Nat.beq pc 64) (some (.if_icmp .ge 17, 3)) none) (cond (Nat.blt pc 68) (cond (Nat.beq pc 67) (some (.iload_n 3, 1)) none) (cond (Nat.beq pc 68) (some (.ifCond .lt 13, 3)) none)))) (cond (Nat.blt pc 77) (cond (Nat.blt pc 72) (cond (Nat.beq pc 71) (some (.iload_n 3, 1)) none) (cond (Nat.blt pc 74) (cond (Nat.beq pc 72) (some (.iload 7, 2)) none) (cond (Nat.beq pc 74) (some (.if_icmp .ge 7, 3)) none))) (cond (Nat.blt pc 78) (cond (Nat.beq pc 77) (some (.iconst 1, 1)) none) (cond (Nat.blt pc 81) (cond (Nat.beq pc 78) (some (.goto 4, 3)) none) (cond (Nat.beq pc 81) (some (.iconst 0, 1)) none))))))) (cond (Nat.blt pc 111) (cond (Nat.blt pc 96) (cond (Nat.blt pc 89) (cond (Nat.blt pc 86) (cond (Nat.blt pc 84) (cond (Nat.beq pc 82) (some (.istore 8, 2)) none) (cond (Nat.beq pc 84) (some (.iload 6, 2)) none)) (cond (Nat.blt pc 87) (cond (Nat.beq pc 86) (some (.iconst 1, 1)) none) (cond (Nat.blt pc 88) (cond (Nat.beq pc 87) (some (.iadd, 1)) none) (cond (Nat.beq pc 88) (some (.iconst 2, 1)) none)))) (cond (Nat.blt pc 92) (cond (Nat.blt pc 90) (cond (Nat.beq pc 89) (some (.idiv, 1)) none) (cond (Nat.beq pc 90) (some (.istore 9, 2)) none)) (cond (Nat.blt pc 94) (cond (Nat.beq pc 92) (some (.iload 7, 2)) none) (cond (Nat.blt pc 95) (cond (Nat.beq pc 94) (some (.iconst 1, 1)) none) (cond (Nat.beq pc 95) (some (.iadd, 1)) none))))) (cond (Nat.blt pc 103) (cond (Nat.blt pc 98) (cond (Nat.blt pc 97) (cond (Nat.beq pc 96) (some (.iconst 2, 1)) none) (cond (Nat.beq pc 97) (some (.idiv, 1)) none)) (cond (Nat.blt pc 100) (cond (Nat.beq pc 98) (some (.istore 10, 2)) none) (cond (Nat.blt pc 102) (cond (Nat.beq pc 100) (some (.iload 9, 2)) none) (cond (Nat.beq pc 102) (some (.iconst 1, 1)) none)))) (cond (Nat.blt pc 106) (cond (Nat.blt pc 104) (cond (Nat.beq pc 103) (some (.iadd, 1)) none) (cond (Nat.blt pc 105) (cond (Nat.beq pc 104) (some (.iconst 2, 1)) none) (cond (Nat.beq pc 105) (some (.idiv, 1)) none))) (cond (Nat.blt pc 108) (cond (Nat.beq pc 106) (some (.istore 11, 2)) none) (cond (Nat.blt pc 110) (cond (Nat.beq pc 108) (some (.iload 10, 2)) none) (cond (Nat.beq pc 110) (some (.iconst 1, 1)) none)))))) (cond (Nat.blt pc 130) (cond (Nat.blt pc 118) (cond (Nat.blt pc 113) (cond (Nat.blt pc 112) (cond (Nat.beq pc 111) (some (.iadd, 1)) none) (cond (Nat.beq pc 112) (some (.iconst 2, 1)) none)) (cond (Nat.blt pc 114) (cond (Nat.beq pc 113) (some (.idiv, 1)) none) (cond (Nat.blt pc 116) (cond (Nat.beq pc 114) (some (.istore 12, 2)) none) (cond (Nat.beq pc 116) (some (.iload 8, 2)) none)))) (cond (Nat.blt pc 124) (cond (Nat.blt pc 121) (cond (Nat.beq pc 118) (some (.ifCond .ne 9, 3)) none) (cond (Nat.blt pc 122) (cond (Nat.beq pc 121) (some (.iconst (-1), 1)) none) (cond (Nat.beq pc 122) (some (.istore 13, 2)) none))) (cond (Nat.blt pc 127) (cond (Nat.beq pc 124) (some (.goto 103, 3)) none) (cond (Nat.blt pc 128) (cond (Nat.beq pc 127) (some (.iload_n 2, 1)) none) (cond (Nat.beq pc 128) (some (.iload 11, 2)) none))))) (cond (Nat.blt pc 140) (cond (Nat.blt pc 134) (cond (Nat.blt pc 133) (cond (Nat.beq pc 130) (some (.if_icmp .ge 15, 3)) none) (cond (Nat.beq pc 133) (some (.iload_n 3, 1)) none)) (cond (Nat.blt pc 136) (cond (Nat.beq pc 134) (some (.iload 12, 2)) none) (cond (Nat.blt pc 139) (cond (Nat.beq pc 136) (some (.if_icmp .ge 9, 3)) none) (cond (Nat.beq pc 139) (some (.iconst 0, 1)) none)))) (cond (Nat.blt pc 146) (cond (Nat.blt pc 142) (cond (Nat.beq pc 140) (some (.istore 13, 2)) none) (cond (Nat.blt pc 145) (cond (Nat.beq pc 142) (some (.goto 85, 3)) none) (cond (Nat.beq pc 145) (some (.iload_n 2, 1)) none))) (cond (Nat.blt pc 148) (cond (Nat.beq pc 146) (some (.iload 9, 2)) none) (cond (Nat.blt pc 151) (cond (Nat.beq pc 148) (some (.if_icmp .ge 15, 3)) none) (cond (Nat.beq pc 151) (some (.iload_n 3, 1)) none)))))))) (cond (Nat.blt pc 239) (cond (Nat.blt pc 194) (cond (Nat.blt pc 172) (cond (Nat.blt pc 163) (cond (Nat.blt pc 157) (cond (Nat.blt pc 154) (cond (Nat.beq pc 152) (some (.iload 12, 2)) none) (cond (Nat.beq pc 154) (some (.if_icmp .ge 9, 3)) none)) (cond (Nat.blt pc 158) (cond (Nat.beq pc 157) (some (.iconst 1, 1)) none) (cond (Nat.blt pc 160) (cond (Nat.beq pc 158) (some (.istore 13, 2)) none) (cond (Nat.beq pc 160) (some (.goto 67, 3)) none)))) (cond (Nat.blt pc 166) (cond (Nat.blt pc 164) (cond (Nat.beq pc 163) (some (.iload_n 2, 1)) none) (cond (Nat.beq pc 164) (some (.iload 11, 2)) none)) (cond (Nat.blt pc 169) (cond (Nat.beq pc 166) (some (.if_icmp .ge 15, 3)) none) (cond (Nat.blt pc 170) (cond (Nat.beq pc 169) (some (.iload_n 3, 1)) none) (cond (Nat.beq pc 170) (some (.iload 10, 2)) none))))) (cond (Nat.blt pc 182) (cond (Nat.blt pc 176) (cond (Nat.blt pc 175) (cond (Nat.beq pc 172) (some (.if_icmp .ge 9, 3)) none) (cond (Nat.beq pc 175) (some (.iconst 2, 1)) none)) (cond (Nat.blt pc 178) (cond (Nat.beq pc 176) (some (.istore 13, 2)) none) (cond (Nat.blt pc 181) (cond (Nat.beq pc 178) (some (.goto 49, 3)) none) (cond (Nat.beq pc 181) (some (.iload_n 2, 1)) none)))) (cond (Nat.blt pc 188) (cond (Nat.blt pc 184) (cond (Nat.beq pc 182) (some (.iload 9, 2)) none) (cond (Nat.blt pc 187) (cond (Nat.beq pc 184) (some (.if_icmp .ge 15, 3)) none) (cond (Nat.beq pc 187) (some (.iload_n 3, 1)) none))) (cond (Nat.blt pc 190) (cond (Nat.beq pc 188) (some (.iload 10, 2)) none) (cond (Nat.blt pc 193) (cond (Nat.beq pc 190) (some (.if_icmp .ge 9, 3)) none) (cond (Nat.beq pc 193) (some (.iconst 3, 1)) none)))))) (cond (Nat.blt pc 217) (cond (Nat.blt pc 205) (cond (Nat.blt pc 199) (cond (Nat.blt pc 196) (cond (Nat.beq pc 194) (some (.istore 13, 2)) none) (cond (Nat.beq pc 196) (some (.goto 31, 3)) none)) (cond (Nat.blt pc 200) (cond (Nat.beq pc 199) (some (.iload_n 3, 1)) none) (cond (Nat.blt pc 202) (cond (Nat.beq pc 200) (some (.iload 10, 2)) none) (cond (Nat.beq pc 202) (some (.if_icmp .ge 9, 3)) none)))) (cond (Nat.blt pc 211) (cond (Nat.blt pc 206) (cond (Nat.beq pc 205) (some (.iconst 4, 1)) none) (cond (Nat.blt pc 208) (cond (Nat.beq pc 206) (some (.istore 13, 2)) none) (cond (Nat.beq pc 208) (some (.goto 19, 3)) none))) (cond (Nat.blt pc 212) (cond (Nat.beq pc 211) (some (.iload_n 2, 1)) none) (cond (Nat.blt pc 214) (cond (Nat.beq pc 212) (some (.iload 9, 2)) none) (cond (Nat.beq pc 214) (some (.if_icmp .ge 9, 3)) none))))) (cond (Nat.blt pc 227) (cond (Nat.blt pc 220) (cond (Nat.blt pc 218) (cond (Nat.beq pc 217) (some (.iconst 5, 1)) none) (cond (Nat.beq pc 218) (some (.istore 13, 2)) none)) (cond (Nat.blt pc 223) (cond (Nat.beq pc 220) (some (.goto 7, 3)) none) (cond (Nat.blt pc 225) (cond (Nat.beq pc 223) (some (.bipush 6, 2)) none) (cond (Nat.beq pc 225) (some (.istore 13, 2)) none)))) (cond (Nat.blt pc 234) (cond (Nat.blt pc 229) (cond (Nat.beq pc 227) (some (.aload 5, 2)) none) (cond (Nat.blt pc 232) (cond (Nat.beq pc 229) (some (.invokevirtual 12, 3)) none) (cond (Nat.beq pc 232) (some (.iload 6, 2)) none))) (cond (Nat.blt pc 237) (cond (Nat.beq pc 234) (some (.if_icmp .eq 5, 3)) none) (cond (Nat.blt pc 238) (cond (Nat.beq pc 237) (some (.iconst 0, 1)) none) (cond (Nat.beq pc 238) (some (.ireturn, 1)) none))))))) (cond (Nat.blt pc 277) (cond (Nat.blt pc 258) (cond (Nat.blt pc 250) (cond (Nat.blt pc 244) (cond (Nat.blt pc 241) (cond (Nat.beq pc 239) (some (.aload 5, 2)) none) (cond (Nat.beq pc 241) (some (.invokevirtual 16, 3)) none)) (cond (Nat.blt pc 246) (cond (Nat.beq pc 244) (some (.iload 7, 2)) none) (cond (Nat.blt pc 249) (cond (Nat.beq pc 246) (some (.if_icmp .eq 5, 3)) none) (cond (Nat.beq pc 249) (some (.iconst 0, 1)) none)))) (cond (Nat.blt pc 253) (cond (Nat.blt pc 251) (cond (Nat.beq pc 250) (some (.ireturn, 1)) none) (cond (Nat.beq pc 251) (some (.aload 5, 2)) none)) (cond (Nat.blt pc 254) (cond (Nat.beq pc 253) (some (.iload_n 2, 1)) none) (cond (Nat.blt pc 255) (cond (Nat.beq pc 254) (some (.iload_n 3, 1)) none) (cond (Nat.beq pc 255) (some (.invokevirtual 19, 3)) none))))) (cond (Nat.blt pc 268) (cond (Nat.blt pc 263) (cond (Nat.blt pc 260) (cond (Nat.beq pc 258) (some (.iload 8, 2)) none) (cond (Nat.beq pc 260) (some (.ifCond .eq 7, 3)) none)) (cond (Nat.blt pc 264) (cond (Nat.beq pc 263) (some (.iconst 0, 1)) none) (cond (Nat.blt pc 267) (cond (Nat.beq pc 264) (some (.goto 4, 3)) none) (cond (Nat.beq pc 267) (some (.iconst (-1), 1)) none)))) (cond (Nat.blt pc 273) (cond (Nat.blt pc 271) (cond (Nat.beq pc 268) (some (.if_icmp .eq 5, 3)) none) (cond (Nat.blt pc 272) (cond (Nat.beq pc 271) (some (.iconst 0, 1)) none) (cond (Nat.beq pc 272) (some (.ireturn, 1)) none))) (cond (Nat.blt pc 275) (cond (Nat.beq pc 273) (some (.aload 5, 2)) none) (cond (Nat.blt pc 276) (cond (Nat.beq pc 275) (some (.iload_n 2, 1)) none) (cond (Nat.beq pc 276) (some (.iload_n 3, 1)) none)))))) (cond (Nat.blt pc 299) (cond (Nat.blt pc 287) (cond (Nat.blt pc 282) (cond (Nat.blt pc 280) (cond (Nat.beq pc 277) (some (.invokevirtual 23, 3)) none) (cond (Nat.beq pc 280) (some (.iload 13, 2)) none)) (cond (Nat.blt pc 285) (cond (Nat.beq pc 282) (some (.if_icmp .eq 5, 3)) none) (cond (Nat.blt pc 286) (cond (Nat.beq pc 285) (some (.iconst 0, 1)) none) (cond (Nat.beq pc 286) (some (.ireturn, 1)) none)))) (cond (Nat.blt pc 291) (cond (Nat.blt pc 289) (cond (Nat.beq pc 287) (some (.aload 5, 2)) none) (cond (Nat.blt pc 290) (cond (Nat.beq pc 289) (some (.iload_n 2, 1)) none) (cond (Nat.beq pc 290) (some (.iload_n 3, 1)) none))) (cond (Nat.blt pc 294) (cond (Nat.beq pc 291) (some (.invokevirtual 26, 3)) none) (cond (Nat.blt pc 296) (cond (Nat.beq pc 294) (some (.ldc 29, 2)) none) (cond (Nat.beq pc 296) (some (.if_icmp .eq 5, 3)) none))))) (cond (Nat.blt pc 308) (cond (Nat.blt pc 301) (cond (Nat.blt pc 300) (cond (Nat.beq pc 299) (some (.iconst 0, 1)) none) (cond (Nat.beq pc 300) (some (.ireturn, 1)) none)) (cond (Nat.blt pc 303) (cond (Nat.beq pc 301) (some (.aload 5, 2)) none) (cond (Nat.blt pc 305) (cond (Nat.beq pc 303) (some (.iload 4, 2)) none) (cond (Nat.beq pc 305) (some (.invokevirtual 30, 3)) none)))) (cond (Nat.blt pc 313) (cond (Nat.blt pc 309) (cond (Nat.beq pc 308) (some (.iconst (-1), 1)) none) (cond (Nat.blt pc 312) (cond (Nat.beq pc 309) (some (.if_icmp .ne 7, 3)) none) (cond (Nat.beq pc 312) (some (.iconst 1, 1)) none))) (cond (Nat.blt pc 316) (cond (Nat.beq pc 313) (some (.goto 4, 3)) none) (cond (Nat.blt pc 317) (cond (Nat.beq pc 316) (some (.iconst 0, 1)) none) (cond (Nat.beq pc 317) (some (.ireturn, 1)) none))))))))) none
def LLcode : CodeT := fun q pc => cond (Nat.blt q 1) (cond (Nat.beq q 0) (lcd_0 pc) none) none
def LLcst : Nat → Option OV := fun x => cond (Nat.blt x 30) (cond (Nat.beq x 29) (some (vi (-1000000))) none) none
def LLvm : Nat → Option Nat := fun x => cond (Nat.blt x 31) (cond (Nat.blt x 23) (cond (Nat.blt x 16) (cond (Nat.beq x 12) (some 6) none) (cond (Nat.blt x 19) (cond (Nat.beq x 16) (some 7) none) (cond (Nat.beq x 19) (some 8) none))) (cond (Nat.blt x 26) (cond (Nat.beq x 23) (some 10) none) (cond (Nat.blt x 30) (cond (Nat.beq x 26) (some 11) none) (cond (Nat.beq x 30) (some 12) none)))) none
def LLmk : Nat → Bool := fun x => Nat.beq x 9
def LLsm : Nat → Option Nat := fun x => none
def LLcl : Nat → Bool := fun x => Nat.beq x 7
def LLinf : Nat → Option (List Nat × Nat × Nat × Nat × Nat) := fun x => cond (Nat.blt x 1) (cond (Nat.beq x 0) (some ([0, 0, 0, 0, 0], 14, 2, 3, 40)) none) none
def LLliv : LivT := fun q pc => cond (Nat.beq q 0) (cond (Nat.blt pc 175) (cond (Nat.blt pc 71) (cond (Nat.blt pc 39) (cond (Nat.blt pc 26) (cond (Nat.blt pc 16) (cond (Nat.beq pc 0) (some [true, true, true, true, true, false, false, false, false, false, false, false, false, false]) none) (cond (Nat.blt pc 20) (cond (Nat.beq pc 16) (some [false, true, true, true, true, true, false, false, false, false, false, false, false, false]) none) (cond (Nat.beq pc 20) (some [true, true, true, true, true, true, false, false, false, false, false, false, false, false]) none))) (cond (Nat.blt pc 31) (cond (Nat.beq pc 26) (some [false, true, true, true, true, true, false, false, false, false, false, false, false, false]) none) (cond (Nat.blt pc 32) (cond (Nat.beq pc 31) (some [true, true, true, true, true, true, false, false, false, false, false, false, false, false]) none) (cond (Nat.beq pc 32) (some [false, true, true, true, true, true, false, false, false, false, false, false, false, false]) none)))) (cond (Nat.blt pc 54) (cond (Nat.blt pc 43) (cond (Nat.beq pc 39) (some [false, false, true, true, true, true, true, false, false, false, false, false, false, false]) none) (cond (Nat.blt pc 49) (cond (Nat.beq pc 43) (some [false, true, true, true, true, true, true, false, false, false, false, false, false, false]) none) (cond (Nat.beq pc 49) (some [false, false, true, true, true, true, true, false, false, false, false, false, false, false]) none))) (cond (Nat.blt pc 61) (cond (Nat.blt pc 55) (cond (Nat.beq pc 54) (some [false, true, true, true, true, true, true, false, false, false, false, false, false, false]) none) (cond (Nat.beq pc 55) (some [false, false, true, true, true, true, true, false, false, false, false, false, false, false]) none)) (cond (Nat.blt pc 67) (cond (Nat.beq pc 61) (some [false, false, true, true, true, true, true, true, false, false, false, false, false, false]) none) (cond (Nat.beq pc 67) (some [false, false, true, true, true, true, true, true, false, false, false, false, false, false]) none))))) (cond (Nat.blt pc 133) (cond (Nat.blt pc 82) (cond (Nat.blt pc 77) (cond (Nat.beq pc 71) (some [false, false, true, true, true, true, true, true, false, false, false, false, false, false]) none) (cond (Nat.blt pc 81) (cond (Nat.beq pc 77) (some [false, false, true, true, true, true, true, true, false, false, false, false, false, false]) none) (cond (Nat.beq pc 81) (some [false, false, true, true, true, true, true, true, false, false, false, false, false, false]) none))) (cond (Nat.blt pc 121) (cond (Nat.beq pc 82) (some [false, false, true, true, true, true, true, true, false, false, false, false, false, false]) none) (cond (Nat.blt pc 127) (cond (Nat.beq pc 121) (some [false, false, true, true, true, true, true, true, true, false, false, false, false, false]) none) (cond (Nat.beq pc 127) (some [false, false, true, true, true, true, true, true, true, true, true, true, true, false]) none)))) (cond (Nat.blt pc 151) (cond (Nat.blt pc 139) (cond (Nat.beq pc 133) (some [false, false, true, true, true, true, true, true, true, true, true, true, true, false]) none) (cond (Nat.blt pc 145) (cond (Nat.beq pc 139) (some [false, false, true, true, true, true, true, true, true, false, false, false, false, false]) none) (cond (Nat.beq pc 145) (some [false, false, true, true, true, true, true, true, true, true, true, true, true, false]) none))) (cond (Nat.blt pc 163) (cond (Nat.blt pc 157) (cond (Nat.beq pc 151) (some [false, false, true, true, true, true, true, true, true, true, true, true, true, false]) none) (cond (Nat.beq pc 157) (some [false, false, true, true, true, true, true, true, true, false, false, false, false, false]) none)) (cond (Nat.blt pc 169) (cond (Nat.beq pc 163) (some [false, false, true, true, true, true, true, true, true, true, true, true, false, false]) none) (cond (Nat.beq pc 169) (some [false, false, true, true, true, true, true, true, true, true, true, false, false, false]) none)))))) (cond (Nat.blt pc 251) (cond (Nat.blt pc 211) (cond (Nat.blt pc 193) (cond (Nat.blt pc 181) (cond (Nat.beq pc 175) (some [false, false, true, true, true, true, true, true, true, false, false, false, false, false]) none) (cond (Nat.blt pc 187) (cond (Nat.beq pc 181) (some [false, false, true, true, true, true, true, true, true, true, true, false, false, false]) none) (cond (Nat.beq pc 187) (some [false, false, true, true, true, true, true, true, true, true, true, false, false, false]) none))) (cond (Nat.blt pc 199) (cond (Nat.beq pc 193) (some [false, false, true, true, true, true, true, true, true, false, false, false, false, false]) none) (cond (Nat.blt pc 205) (cond (Nat.beq pc 199) (some [false, false, true, true, true, true, true, true, true, true, true, false, false, false]) none) (cond (Nat.beq pc 205) (some [false, false, true, true, true, true, true, true, true, false, false, false, false, false]) none)))) (cond (Nat.blt pc 227) (cond (Nat.blt pc 217) (cond (Nat.beq pc 211) (some [false, false, true, true, true, true, true, true, true, true, false, false, false, false]) none) (cond (Nat.blt pc 223) (cond (Nat.beq pc 217) (some [false, false, true, true, true, true, true, true, true, false, false, false, false, false]) none) (cond (Nat.beq pc 223) (some [false, false, true, true, true, true, true, true, true, false, false, false, false, false]) none))) (cond (Nat.blt pc 239) (cond (Nat.blt pc 237) (cond (Nat.beq pc 227) (some [false, false, true, true, true, true, true, true, true, false, false, false, false, true]) none) (cond (Nat.beq pc 237) (some [false, false, false, false, false, false, false, false, false, false, false, false, false, false]) none)) (cond (Nat.blt pc 249) (cond (Nat.beq pc 239) (some [false, false, true, true, true, true, false, true, true, false, false, false, false, true]) none) (cond (Nat.beq pc 249) (some [false, false, false, false, false, false, false, false, false, false, false, false, false, false]) none))))) (cond (Nat.blt pc 285) (cond (Nat.blt pc 268) (cond (Nat.blt pc 263) (cond (Nat.beq pc 251) (some [false, false, true, true, true, true, false, false, true, false, false, false, false, true]) none) (cond (Nat.blt pc 267) (cond (Nat.beq pc 263) (some [false, false, true, true, true, true, false, false, false, false, false, false, false, true]) none) (cond (Nat.beq pc 267) (some [false, false, true, true, true, true, false, false, false, false, false, false, false, true]) none))) (cond (Nat.blt pc 271) (cond (Nat.beq pc 268) (some [false, false, true, true, true, true, false, false, false, false, false, false, false, true]) none) (cond (Nat.blt pc 273) (cond (Nat.beq pc 271) (some [false, false, false, false, false, false, false, false, false, false, false, false, false, false]) none) (cond (Nat.beq pc 273) (some [false, false, true, true, true, true, false, false, false, false, false, false, false, true]) none)))) (cond (Nat.blt pc 301) (cond (Nat.blt pc 287) (cond (Nat.beq pc 285) (some [false, false, false, false, false, false, false, false, false, false, false, false, false, false]) none) (cond (Nat.blt pc 299) (cond (Nat.beq pc 287) (some [false, false, true, true, true, true, false, false, false, false, false, false, false, false]) none) (cond (Nat.beq pc 299) (some [false, false, false, false, false, false, false, false, false, false, false, false, false, false]) none))) (cond (Nat.blt pc 316) (cond (Nat.blt pc 312) (cond (Nat.beq pc 301) (some [false, false, false, false, true, true, false, false, false, false, false, false, false, false]) none) (cond (Nat.beq pc 312) (some [false, false, false, false, false, false, false, false, false, false, false, false, false, false]) none)) (cond (Nat.blt pc 317) (cond (Nat.beq pc 316) (some [false, false, false, false, false, false, false, false, false, false, false, false, false, false]) none) (cond (Nat.beq pc 317) (some [false, false, false, false, false, false, false, false, false, false, false, false, false, false]) none))))))) none
def LL : LT := (LLcode, LLcst, LLvm, LLmk, LLsm, LLcl, LLinf, LLliv)
abbrev RL := runL PP LL 50 1 (false, 0, fun _ => 0)
abbrev RLr (n q pc : Nat) (L : OLs) (S : List OV) (y : Option OV × OWd) : RTL := RL n q pc L (pushR y.1 S) y.2
abbrev RLv (n q pc : Nat) (L : OLs) (S : List OV) (W : OWd) (o : Nat) (y : Option OV × Nat × OMem) : RTL := RL n q pc L (pushR y.1 S) (wput W o y.2)
abbrev RLi (n q pc : Nat) (L : OLs) (S : List OV) (W : OWd) (o : Nat) (y : Option OV × Nat × OMem) : RTL := cond (Nat.beq y.2.1 50) (RL n q pc L (pushR y.1 S) (wput W o y.2)) none
def l_law_b317 (s0 : Int) (m0 : OMem) : Option (Int × OWd) := some (s0 % 2, [(50, m0)])
set_option maxRecDepth 65536 in
set_option maxHeartbeats 16000000 in
theorem l_law_b317_ok (s0 : Int) (m0 : OMem) : Sim (l_law_b317 s0 m0) (fun (r, w) _ => some (some (vi r), w)) (fun n => RL n 0 317 [qn, qn, qn, qn, qn, qn, qn, qn, qn, qn, qn, qn, qn, qn] [vi s0] [(50, m0)]) :=
  Sim.shift 1 (G := (fun _ => some (some (vi (s0 % 2)), [(50, m0)]))) (fun _ => rfl) (Sim.pur _ _)
def l_law_b268 (x2 x3 x4 x13 s0 s1 : Int) (m0 : OMem) : Option (Int × OWd) := if s0 = s1 then ((f_getBand x2 x3 m0).bind fun r_66 => (if r_66 = x13 then ((f_getCoefficient x2 x3 m0).bind fun r_67 => (if r_67 = (-1000000) then ((f_decode x4 m0).bind fun (r_68, m_69) => (if r_68 = (-1) then (l_law_b317 1 m_69) else (l_law_b317 0 m_69))) else (some (0, [(50, m0)])))) else (some (0, [(50, m0)])))) else (some (0, [(50, m0)]))
set_option maxRecDepth 65536 in
set_option maxHeartbeats 16000000 in
theorem l_law_b268_ok (x2 x3 x4 x13 s0 s1 : Int) (m0 : OMem) : Sim (l_law_b268 x2 x3 x4 x13 s0 s1 m0) (fun (r, w) _ => some (some (vi r), w)) (fun n => RL n 0 268 [qn, qn, qi x2, qi x3, qi x4, qr 1, qn, qn, qn, qn, qn, qn, qn, qi x13] [vi s1, vi s0] [(50, m0)]) :=
  Sim.shift 1 (G := fun n => if s0 = s1 then RL n 0 273 [qn, qn, qi x2, qi x3, qi x4, qr 1, qn, qn, qn, qn, qn, qn, qn, qi x13] [] [(50, m0)] else RL n 0 271 [qn, qn, qi x2, qi x3, qi x4, qr 1, qn, qn, qn, qn, qn, qn, qn, qi x13] [] [(50, m0)]) (fun _ => rfl) (Sim.ite (fun _ => Sim.shift 4 (G := fun n => (R n 10 0 [qr 0, qi x2, qi x3] [] 50 m0).bind fun y => RLv n 0 280 [qn, qn, qi x2, qi x3, qi x4, qr 1, qn, qn, qn, qn, qn, qn, qn, qi x13] [] [(50, m0)] 0 y) (fun _ => rfl) (Sim.call (f_getBand_ok 50 x2 x3 m0) (fun _ _ => rfl) (runP_mono _ _ _ _ _ _) (fun _ => runL_mono _ _ _ _ _) (fun r_66 => Sim.shift 0 (G := fun n => RL n 0 280 [qn, qn, qi x2, qi x3, qi x4, qr 1, qn, qn, qn, qn, qn, qn, qn, qi x13] [vi r_66] [(50, m0)]) (fun _ => rfl) (Sim.shift 2 (G := fun n => if r_66 = x13 then RL n 0 287 [qn, qn, qi x2, qi x3, qi x4, qr 1, qn, qn, qn, qn, qn, qn, qn, qi x13] [] [(50, m0)] else RL n 0 285 [qn, qn, qi x2, qi x3, qi x4, qr 1, qn, qn, qn, qn, qn, qn, qn, qi x13] [] [(50, m0)]) (fun _ => rfl) (Sim.ite (fun _ => Sim.shift 4 (G := fun n => (R n 11 0 [qr 0, qi x2, qi x3] [] 50 m0).bind fun y => RLv n 0 294 [qn, qn, qi x2, qi x3, qi x4, qr 1, qn, qn, qn, qn, qn, qn, qn, qn] [] [(50, m0)] 0 y) (fun _ => rfl) (Sim.call (f_getCoefficient_ok x2 x3 m0) (fun _ _ => rfl) (runP_mono _ _ _ _ _ _) (fun _ => runL_mono _ _ _ _ _) (fun r_67 => Sim.shift 0 (G := fun n => RL n 0 294 [qn, qn, qi x2, qi x3, qi x4, qr 1, qn, qn, qn, qn, qn, qn, qn, qn] [vi r_67] [(50, m0)]) (fun _ => rfl) (Sim.shift 2 (G := fun n => if r_67 = (-1000000) then RL n 0 301 [qn, qn, qi x2, qi x3, qi x4, qr 1, qn, qn, qn, qn, qn, qn, qn, qn] [] [(50, m0)] else RL n 0 299 [qn, qn, qi x2, qi x3, qi x4, qr 1, qn, qn, qn, qn, qn, qn, qn, qn] [] [(50, m0)]) (fun _ => rfl) (Sim.ite (fun _ => Sim.shift 3 (G := fun n => (R n 12 0 [qr 0, qi x4, qn] [] 50 m0).bind fun y => RLv n 0 308 [qn, qn, qn, qn, qi x4, qr 1, qn, qn, qn, qn, qn, qn, qn, qn] [] [(50, m0)] 0 y) (fun _ => rfl) (Sim.call (f_decode_ok 50 x4 m0) (fun _ _ => rfl) (runP_mono _ _ _ _ _ _) (fun _ => runL_mono _ _ _ _ _) (fun ⟨r_68, m_69⟩ => Sim.shift 0 (G := fun n => RL n 0 308 [qn, qn, qn, qn, qi x4, qr 1, qn, qn, qn, qn, qn, qn, qn, qn] [vi r_68] [(50, m_69)]) (fun _ => rfl) (Sim.shift 2 (G := fun n => if r_68 = (-1) then RL n 0 312 [qn, qn, qn, qn, qi x4, qr 1, qn, qn, qn, qn, qn, qn, qn, qn] [] [(50, m_69)] else RL n 0 316 [qn, qn, qn, qn, qi x4, qr 1, qn, qn, qn, qn, qn, qn, qn, qn] [] [(50, m_69)]) (fun _ => rfl) (Sim.ite (fun _ => Sim.shift 2 (G := fun n => RL n 0 317 [qn, qn, qn, qn, qn, qn, qn, qn, qn, qn, qn, qn, qn, qn] [vi 1] [(50, m_69)]) (fun _ => rfl) (l_law_b317_ok 1 m_69)) (fun _ => Sim.shift 1 (G := fun n => RL n 0 317 [qn, qn, qn, qn, qn, qn, qn, qn, qn, qn, qn, qn, qn, qn] [vi 0] [(50, m_69)]) (fun _ => rfl) (l_law_b317_ok 0 m_69))))))) (fun _ => Sim.shift 2 (G := (fun _ => some (some (vi 0), [(50, m0)]))) (fun _ => rfl) (Sim.pur _ _))))))) (fun _ => Sim.shift 2 (G := (fun _ => some (some (vi 0), [(50, m0)]))) (fun _ => rfl) (Sim.pur _ _))))))) (fun _ => Sim.shift 2 (G := (fun _ => some (some (vi 0), [(50, m0)]))) (fun _ => rfl) (Sim.pur _ _)))
def l_law_b227 (x2 x3 x4 x6 x7 x8 x13 : Int) (m0 : OMem) : Option (Int × OWd) := (f_getWidth m0).bind fun r_63 => (if r_63 = x6 then ((f_getHeight m0).bind fun r_64 => (if r_64 = x7 then ((f_getPixel x2 x3 m0).bind fun r_65 => (if x8 = 0 then (l_law_b268 x2 x3 x4 x13 r_65 (-1) m0) else (l_law_b268 x2 x3 x4 x13 r_65 0 m0))) else (some (0, [(50, m0)])))) else (some (0, [(50, m0)])))
set_option maxRecDepth 65536 in
set_option maxHeartbeats 16000000 in
theorem l_law_b227_ok (x2 x3 x4 x6 x7 x8 x13 : Int) (m0 : OMem) : Sim (l_law_b227 x2 x3 x4 x6 x7 x8 x13 m0) (fun (r, w) _ => some (some (vi r), w)) (fun n => RL n 0 227 [qn, qn, qi x2, qi x3, qi x4, qr 1, qi x6, qi x7, qi x8, qn, qn, qn, qn, qi x13] [] [(50, m0)]) :=
  Sim.shift 2 (G := fun n => (R n 6 0 [qr 0] [] 50 m0).bind fun y => RLv n 0 232 [qn, qn, qi x2, qi x3, qi x4, qr 1, qi x6, qi x7, qi x8, qn, qn, qn, qn, qi x13] [] [(50, m0)] 0 y) (fun _ => rfl) (Sim.call (f_getWidth_ok 50 m0) (fun _ _ => rfl) (runP_mono _ _ _ _ _ _) (fun _ => runL_mono _ _ _ _ _) (fun r_63 => Sim.shift 0 (G := fun n => RL n 0 232 [qn, qn, qi x2, qi x3, qi x4, qr 1, qi x6, qi x7, qi x8, qn, qn, qn, qn, qi x13] [vi r_63] [(50, m0)]) (fun _ => rfl) (Sim.shift 2 (G := fun n => if r_63 = x6 then RL n 0 239 [qn, qn, qi x2, qi x3, qi x4, qr 1, qi x6, qi x7, qi x8, qn, qn, qn, qn, qi x13] [] [(50, m0)] else RL n 0 237 [qn, qn, qi x2, qi x3, qi x4, qr 1, qi x6, qi x7, qi x8, qn, qn, qn, qn, qi x13] [] [(50, m0)]) (fun _ => rfl) (Sim.ite (fun _ => Sim.shift 2 (G := fun n => (R n 7 0 [qr 0] [] 50 m0).bind fun y => RLv n 0 244 [qn, qn, qi x2, qi x3, qi x4, qr 1, qn, qi x7, qi x8, qn, qn, qn, qn, qi x13] [] [(50, m0)] 0 y) (fun _ => rfl) (Sim.call (f_getHeight_ok 50 m0) (fun _ _ => rfl) (runP_mono _ _ _ _ _ _) (fun _ => runL_mono _ _ _ _ _) (fun r_64 => Sim.shift 0 (G := fun n => RL n 0 244 [qn, qn, qi x2, qi x3, qi x4, qr 1, qn, qi x7, qi x8, qn, qn, qn, qn, qi x13] [vi r_64] [(50, m0)]) (fun _ => rfl) (Sim.shift 2 (G := fun n => if r_64 = x7 then RL n 0 251 [qn, qn, qi x2, qi x3, qi x4, qr 1, qn, qi x7, qi x8, qn, qn, qn, qn, qi x13] [] [(50, m0)] else RL n 0 249 [qn, qn, qi x2, qi x3, qi x4, qr 1, qn, qi x7, qi x8, qn, qn, qn, qn, qi x13] [] [(50, m0)]) (fun _ => rfl) (Sim.ite (fun _ => Sim.shift 4 (G := fun n => (R n 8 0 [qr 0, qi x2, qi x3] [] 50 m0).bind fun y => RLv n 0 258 [qn, qn, qi x2, qi x3, qi x4, qr 1, qn, qn, qi x8, qn, qn, qn, qn, qi x13] [] [(50, m0)] 0 y) (fun _ => rfl) (Sim.call (f_getPixel_ok x2 x3 m0) (fun _ _ => rfl) (runP_mono _ _ _ _ _ _) (fun _ => runL_mono _ _ _ _ _) (fun r_65 => Sim.shift 0 (G := fun n => RL n 0 258 [qn, qn, qi x2, qi x3, qi x4, qr 1, qn, qn, qi x8, qn, qn, qn, qn, qi x13] [vi r_65] [(50, m0)]) (fun _ => rfl) (Sim.shift 2 (G := fun n => if x8 = 0 then RL n 0 267 [qn, qn, qi x2, qi x3, qi x4, qr 1, qn, qn, qi x8, qn, qn, qn, qn, qi x13] [vi r_65] [(50, m0)] else RL n 0 263 [qn, qn, qi x2, qi x3, qi x4, qr 1, qn, qn, qi x8, qn, qn, qn, qn, qi x13] [vi r_65] [(50, m0)]) (fun _ => rfl) (Sim.ite (fun _ => Sim.shift 1 (G := fun n => RL n 0 268 [qn, qn, qi x2, qi x3, qi x4, qr 1, qn, qn, qn, qn, qn, qn, qn, qi x13] [vi (-1), vi r_65] [(50, m0)]) (fun _ => rfl) (l_law_b268_ok x2 x3 x4 x13 r_65 (-1) m0)) (fun _ => Sim.shift 2 (G := fun n => RL n 0 268 [qn, qn, qi x2, qi x3, qi x4, qr 1, qn, qn, qn, qn, qn, qn, qn, qi x13] [vi 0, vi r_65] [(50, m0)]) (fun _ => rfl) (l_law_b268_ok x2 x3 x4 x13 r_65 0 m0))))))) (fun _ => Sim.shift 2 (G := (fun _ => some (some (vi 0), [(50, m0)]))) (fun _ => rfl) (Sim.pur _ _))))))) (fun _ => Sim.shift 2 (G := (fun _ => some (some (vi 0), [(50, m0)]))) (fun _ => rfl) (Sim.pur _ _))))))
def l_law_b199 (x2 x3 x4 x6 x7 x8 x9 x10 : Int) (m0 : OMem) : Option (Int × OWd) := if x3 < x10 then (l_law_b227 x2 x3 x4 x6 x7 x8 4 m0) else (if x2 < x9 then (l_law_b227 x2 x3 x4 x6 x7 x8 5 m0) else (l_law_b227 x2 x3 x4 x6 x7 x8 6 m0))
set_option maxRecDepth 65536 in
set_option maxHeartbeats 16000000 in
theorem l_law_b199_ok (x2 x3 x4 x6 x7 x8 x9 x10 : Int) (m0 : OMem) : Sim (l_law_b199 x2 x3 x4 x6 x7 x8 x9 x10 m0) (fun (r, w) _ => some (some (vi r), w)) (fun n => RL n 0 199 [qn, qn, qi x2, qi x3, qi x4, qr 1, qi x6, qi x7, qi x8, qi x9, qi x10, qn, qn, qn] [] [(50, m0)]) :=
  Sim.shift 3 (G := fun n => if x3 < x10 then RL n 0 205 [qn, qn, qi x2, qi x3, qi x4, qr 1, qi x6, qi x7, qi x8, qi x9, qi x10, qn, qn, qn] [] [(50, m0)] else RL n 0 211 [qn, qn, qi x2, qi x3, qi x4, qr 1, qi x6, qi x7, qi x8, qi x9, qi x10, qn, qn, qn] [] [(50, m0)]) (fun _ => rfl) (Sim.ite (fun _ => Sim.shift 3 (G := fun n => RL n 0 227 [qn, qn, qi x2, qi x3, qi x4, qr 1, qi x6, qi x7, qi x8, qn, qn, qn, qn, qi 4] [] [(50, m0)]) (fun _ => rfl) (l_law_b227_ok x2 x3 x4 x6 x7 x8 4 m0)) (fun _ => Sim.shift 3 (G := fun n => if x2 < x9 then RL n 0 217 [qn, qn, qi x2, qi x3, qi x4, qr 1, qi x6, qi x7, qi x8, qi x9, qn, qn, qn, qn] [] [(50, m0)] else RL n 0 223 [qn, qn, qi x2, qi x3, qi x4, qr 1, qi x6, qi x7, qi x8, qi x9, qn, qn, qn, qn] [] [(50, m0)]) (fun _ => rfl) (Sim.ite (fun _ => Sim.shift 3 (G := fun n => RL n 0 227 [qn, qn, qi x2, qi x3, qi x4, qr 1, qi x6, qi x7, qi x8, qn, qn, qn, qn, qi 5] [] [(50, m0)]) (fun _ => rfl) (l_law_b227_ok x2 x3 x4 x6 x7 x8 5 m0)) (fun _ => Sim.shift 2 (G := fun n => RL n 0 227 [qn, qn, qi x2, qi x3, qi x4, qr 1, qi x6, qi x7, qi x8, qn, qn, qn, qn, qi 6] [] [(50, m0)]) (fun _ => rfl) (l_law_b227_ok x2 x3 x4 x6 x7 x8 6 m0)))))
def l_law_b181 (x2 x3 x4 x6 x7 x8 x9 x10 : Int) (m0 : OMem) : Option (Int × OWd) := if x2 < x9 then (if x3 < x10 then (l_law_b227 x2 x3 x4 x6 x7 x8 3 m0) else (l_law_b199 x2 x3 x4 x6 x7 x8 x9 x10 m0)) else (l_law_b199 x2 x3 x4 x6 x7 x8 x9 x10 m0)
set_option maxRecDepth 65536 in
set_option maxHeartbeats 16000000 in
theorem l_law_b181_ok (x2 x3 x4 x6 x7 x8 x9 x10 : Int) (m0 : OMem) : Sim (l_law_b181 x2 x3 x4 x6 x7 x8 x9 x10 m0) (fun (r, w) _ => some (some (vi r), w)) (fun n => RL n 0 181 [qn, qn, qi x2, qi x3, qi x4, qr 1, qi x6, qi x7, qi x8, qi x9, qi x10, qn, qn, qn] [] [(50, m0)]) :=
  Sim.shift 3 (G := fun n => if x2 < x9 then RL n 0 187 [qn, qn, qi x2, qi x3, qi x4, qr 1, qi x6, qi x7, qi x8, qi x9, qi x10, qn, qn, qn] [] [(50, m0)] else RL n 0 199 [qn, qn, qi x2, qi x3, qi x4, qr 1, qi x6, qi x7, qi x8, qi x9, qi x10, qn, qn, qn] [] [(50, m0)]) (fun _ => rfl) (Sim.ite (fun _ => Sim.shift 3 (G := fun n => if x3 < x10 then RL n 0 193 [qn, qn, qi x2, qi x3, qi x4, qr 1, qi x6, qi x7, qi x8, qi x9, qi x10, qn, qn, qn] [] [(50, m0)] else RL n 0 199 [qn, qn, qi x2, qi x3, qi x4, qr 1, qi x6, qi x7, qi x8, qi x9, qi x10, qn, qn, qn] [] [(50, m0)]) (fun _ => rfl) (Sim.ite (fun _ => Sim.shift 3 (G := fun n => RL n 0 227 [qn, qn, qi x2, qi x3, qi x4, qr 1, qi x6, qi x7, qi x8, qn, qn, qn, qn, qi 3] [] [(50, m0)]) (fun _ => rfl) (l_law_b227_ok x2 x3 x4 x6 x7 x8 3 m0)) (fun _ => l_law_b199_ok x2 x3 x4 x6 x7 x8 x9 x10 m0))) (fun _ => l_law_b199_ok x2 x3 x4 x6 x7 x8 x9 x10 m0))
def l_law_b163 (x2 x3 x4 x6 x7 x8 x9 x10 x11 : Int) (m0 : OMem) : Option (Int × OWd) := if x2 < x11 then (if x3 < x10 then (l_law_b227 x2 x3 x4 x6 x7 x8 2 m0) else (l_law_b181 x2 x3 x4 x6 x7 x8 x9 x10 m0)) else (l_law_b181 x2 x3 x4 x6 x7 x8 x9 x10 m0)
set_option maxRecDepth 65536 in
set_option maxHeartbeats 16000000 in
theorem l_law_b163_ok (x2 x3 x4 x6 x7 x8 x9 x10 x11 : Int) (m0 : OMem) : Sim (l_law_b163 x2 x3 x4 x6 x7 x8 x9 x10 x11 m0) (fun (r, w) _ => some (some (vi r), w)) (fun n => RL n 0 163 [qn, qn, qi x2, qi x3, qi x4, qr 1, qi x6, qi x7, qi x8, qi x9, qi x10, qi x11, qn, qn] [] [(50, m0)]) :=
  Sim.shift 3 (G := fun n => if x2 < x11 then RL n 0 169 [qn, qn, qi x2, qi x3, qi x4, qr 1, qi x6, qi x7, qi x8, qi x9, qi x10, qi x11, qn, qn] [] [(50, m0)] else RL n 0 181 [qn, qn, qi x2, qi x3, qi x4, qr 1, qi x6, qi x7, qi x8, qi x9, qi x10, qi x11, qn, qn] [] [(50, m0)]) (fun _ => rfl) (Sim.ite (fun _ => Sim.shift 3 (G := fun n => if x3 < x10 then RL n 0 175 [qn, qn, qi x2, qi x3, qi x4, qr 1, qi x6, qi x7, qi x8, qi x9, qi x10, qn, qn, qn] [] [(50, m0)] else RL n 0 181 [qn, qn, qi x2, qi x3, qi x4, qr 1, qi x6, qi x7, qi x8, qi x9, qi x10, qn, qn, qn] [] [(50, m0)]) (fun _ => rfl) (Sim.ite (fun _ => Sim.shift 3 (G := fun n => RL n 0 227 [qn, qn, qi x2, qi x3, qi x4, qr 1, qi x6, qi x7, qi x8, qn, qn, qn, qn, qi 2] [] [(50, m0)]) (fun _ => rfl) (l_law_b227_ok x2 x3 x4 x6 x7 x8 2 m0)) (fun _ => l_law_b181_ok x2 x3 x4 x6 x7 x8 x9 x10 m0))) (fun _ => Sim.jmp (l_law_b181_ok x2 x3 x4 x6 x7 x8 x9 x10 m0) rfl (fun _ => rfl)))
def l_law_b145 (x2 x3 x4 x6 x7 x8 x9 x10 x11 x12 : Int) (m0 : OMem) : Option (Int × OWd) := if x2 < x9 then (if x3 < x12 then (l_law_b227 x2 x3 x4 x6 x7 x8 1 m0) else (l_law_b163 x2 x3 x4 x6 x7 x8 x9 x10 x11 m0)) else (l_law_b163 x2 x3 x4 x6 x7 x8 x9 x10 x11 m0)
set_option maxRecDepth 65536 in
set_option maxHeartbeats 16000000 in
theorem l_law_b145_ok (x2 x3 x4 x6 x7 x8 x9 x10 x11 x12 : Int) (m0 : OMem) : Sim (l_law_b145 x2 x3 x4 x6 x7 x8 x9 x10 x11 x12 m0) (fun (r, w) _ => some (some (vi r), w)) (fun n => RL n 0 145 [qn, qn, qi x2, qi x3, qi x4, qr 1, qi x6, qi x7, qi x8, qi x9, qi x10, qi x11, qi x12, qn] [] [(50, m0)]) :=
  Sim.shift 3 (G := fun n => if x2 < x9 then RL n 0 151 [qn, qn, qi x2, qi x3, qi x4, qr 1, qi x6, qi x7, qi x8, qi x9, qi x10, qi x11, qi x12, qn] [] [(50, m0)] else RL n 0 163 [qn, qn, qi x2, qi x3, qi x4, qr 1, qi x6, qi x7, qi x8, qi x9, qi x10, qi x11, qi x12, qn] [] [(50, m0)]) (fun _ => rfl) (Sim.ite (fun _ => Sim.shift 3 (G := fun n => if x3 < x12 then RL n 0 157 [qn, qn, qi x2, qi x3, qi x4, qr 1, qi x6, qi x7, qi x8, qi x9, qi x10, qi x11, qi x12, qn] [] [(50, m0)] else RL n 0 163 [qn, qn, qi x2, qi x3, qi x4, qr 1, qi x6, qi x7, qi x8, qi x9, qi x10, qi x11, qi x12, qn] [] [(50, m0)]) (fun _ => rfl) (Sim.ite (fun _ => Sim.shift 3 (G := fun n => RL n 0 227 [qn, qn, qi x2, qi x3, qi x4, qr 1, qi x6, qi x7, qi x8, qn, qn, qn, qn, qi 1] [] [(50, m0)]) (fun _ => rfl) (l_law_b227_ok x2 x3 x4 x6 x7 x8 1 m0)) (fun _ => Sim.jmp (l_law_b163_ok x2 x3 x4 x6 x7 x8 x9 x10 x11 m0) rfl (fun _ => rfl)))) (fun _ => Sim.jmp (l_law_b163_ok x2 x3 x4 x6 x7 x8 x9 x10 x11 m0) rfl (fun _ => rfl)))
def l_law_b82 (x2 x3 x4 x6 x7 s0 : Int) (m0 : OMem) : Option (Int × OWd) := if s0 = 0 then (l_law_b227 x2 x3 x4 x6 x7 s0 (-1) m0) else (if x2 < div32 (w32 ((div32 (w32 (x6 + 1)) 2) + 1)) 2 then (if x3 < div32 (w32 ((div32 (w32 (x7 + 1)) 2) + 1)) 2 then (l_law_b227 x2 x3 x4 x6 x7 s0 0 m0) else (l_law_b145 x2 x3 x4 x6 x7 s0 (div32 (w32 (x6 + 1)) 2) (div32 (w32 (x7 + 1)) 2) (div32 (w32 ((div32 (w32 (x6 + 1)) 2) + 1)) 2) (div32 (w32 ((div32 (w32 (x7 + 1)) 2) + 1)) 2) m0)) else (l_law_b145 x2 x3 x4 x6 x7 s0 (div32 (w32 (x6 + 1)) 2) (div32 (w32 (x7 + 1)) 2) (div32 (w32 ((div32 (w32 (x6 + 1)) 2) + 1)) 2) (div32 (w32 ((div32 (w32 (x7 + 1)) 2) + 1)) 2) m0))
set_option maxRecDepth 65536 in
set_option maxHeartbeats 16000000 in
theorem l_law_b82_ok (x2 x3 x4 x6 x7 s0 : Int) (m0 : OMem) : Sim (l_law_b82 x2 x3 x4 x6 x7 s0 m0) (fun (r, w) _ => some (some (vi r), w)) (fun n => RL n 0 82 [qn, qn, qi x2, qi x3, qi x4, qr 1, qi x6, qi x7, qn, qn, qn, qn, qn, qn] [vi s0] [(50, m0)]) :=
  Sim.shift 12 (G := fun n => RL n 0 98 [qn, qn, qi x2, qi x3, qi x4, qr 1, qi x6, qi x7, qi s0, qi (div32 (w32 (x6 + 1)) 2), qn, qn, qn, qn] [vi (div32 (w32 (x7 + 1)) 2)] [(50, m0)]) (fun _ => rfl) (Sim.shift 12 (G := fun n => RL n 0 114 [qn, qn, qi x2, qi x3, qi x4, qr 1, qi x6, qi x7, qi s0, qi (div32 (w32 (x6 + 1)) 2), qi (div32 (w32 (x7 + 1)) 2), qi (div32 (w32 ((div32 (w32 (x6 + 1)) 2) + 1)) 2), qn, qn] [vi (div32 (w32 ((div32 (w32 (x7 + 1)) 2) + 1)) 2)] [(50, m0)]) (fun _ => rfl) (Sim.shift 3 (G := fun n => if s0 = 0 then RL n 0 121 [qn, qn, qi x2, qi x3, qi x4, qr 1, qi x6, qi x7, qi s0, qi (div32 (w32 (x6 + 1)) 2), qi (div32 (w32 (x7 + 1)) 2), qi (div32 (w32 ((div32 (w32 (x6 + 1)) 2) + 1)) 2), qi (div32 (w32 ((div32 (w32 (x7 + 1)) 2) + 1)) 2), qn] [] [(50, m0)] else RL n 0 127 [qn, qn, qi x2, qi x3, qi x4, qr 1, qi x6, qi x7, qi s0, qi (div32 (w32 (x6 + 1)) 2), qi (div32 (w32 (x7 + 1)) 2), qi (div32 (w32 ((div32 (w32 (x6 + 1)) 2) + 1)) 2), qi (div32 (w32 ((div32 (w32 (x7 + 1)) 2) + 1)) 2), qn] [] [(50, m0)]) (fun _ => rfl) (Sim.ite (fun _ => Sim.shift 3 (G := fun n => RL n 0 227 [qn, qn, qi x2, qi x3, qi x4, qr 1, qi x6, qi x7, qi s0, qn, qn, qn, qn, qi (-1)] [] [(50, m0)]) (fun _ => rfl) (l_law_b227_ok x2 x3 x4 x6 x7 s0 (-1) m0)) (fun _ => Sim.shift 3 (G := fun n => if x2 < div32 (w32 ((div32 (w32 (x6 + 1)) 2) + 1)) 2 then RL n 0 133 [qn, qn, qi x2, qi x3, qi x4, qr 1, qi x6, qi x7, qi s0, qi (div32 (w32 (x6 + 1)) 2), qi (div32 (w32 (x7 + 1)) 2), qi (div32 (w32 ((div32 (w32 (x6 + 1)) 2) + 1)) 2), qi (div32 (w32 ((div32 (w32 (x7 + 1)) 2) + 1)) 2), qn] [] [(50, m0)] else RL n 0 145 [qn, qn, qi x2, qi x3, qi x4, qr 1, qi x6, qi x7, qi s0, qi (div32 (w32 (x6 + 1)) 2), qi (div32 (w32 (x7 + 1)) 2), qi (div32 (w32 ((div32 (w32 (x6 + 1)) 2) + 1)) 2), qi (div32 (w32 ((div32 (w32 (x7 + 1)) 2) + 1)) 2), qn] [] [(50, m0)]) (fun _ => rfl) (Sim.ite (fun _ => Sim.shift 3 (G := fun n => if x3 < div32 (w32 ((div32 (w32 (x7 + 1)) 2) + 1)) 2 then RL n 0 139 [qn, qn, qi x2, qi x3, qi x4, qr 1, qi x6, qi x7, qi s0, qi (div32 (w32 (x6 + 1)) 2), qi (div32 (w32 (x7 + 1)) 2), qi (div32 (w32 ((div32 (w32 (x6 + 1)) 2) + 1)) 2), qi (div32 (w32 ((div32 (w32 (x7 + 1)) 2) + 1)) 2), qn] [] [(50, m0)] else RL n 0 145 [qn, qn, qi x2, qi x3, qi x4, qr 1, qi x6, qi x7, qi s0, qi (div32 (w32 (x6 + 1)) 2), qi (div32 (w32 (x7 + 1)) 2), qi (div32 (w32 ((div32 (w32 (x6 + 1)) 2) + 1)) 2), qi (div32 (w32 ((div32 (w32 (x7 + 1)) 2) + 1)) 2), qn] [] [(50, m0)]) (fun _ => rfl) (Sim.ite (fun _ => Sim.shift 3 (G := fun n => RL n 0 227 [qn, qn, qi x2, qi x3, qi x4, qr 1, qi x6, qi x7, qi s0, qn, qn, qn, qn, qi 0] [] [(50, m0)]) (fun _ => rfl) (l_law_b227_ok x2 x3 x4 x6 x7 s0 0 m0)) (fun _ => l_law_b145_ok x2 x3 x4 x6 x7 s0 (div32 (w32 (x6 + 1)) 2) (div32 (w32 (x7 + 1)) 2) (div32 (w32 ((div32 (w32 (x6 + 1)) 2) + 1)) 2) (div32 (w32 ((div32 (w32 (x7 + 1)) 2) + 1)) 2) m0))) (fun _ => l_law_b145_ok x2 x3 x4 x6 x7 s0 (div32 (w32 (x6 + 1)) 2) (div32 (w32 (x7 + 1)) 2) (div32 (w32 ((div32 (w32 (x6 + 1)) 2) + 1)) 2) (div32 (w32 ((div32 (w32 (x7 + 1)) 2) + 1)) 2) m0))))))
def l_law_b81 (x2 x3 x4 x6 x7 : Int) (m0 : OMem) : Option (Int × OWd) := l_law_b82 x2 x3 x4 x6 x7 0 m0
set_option maxRecDepth 65536 in
set_option maxHeartbeats 16000000 in
theorem l_law_b81_ok (x2 x3 x4 x6 x7 : Int) (m0 : OMem) : Sim (l_law_b81 x2 x3 x4 x6 x7 m0) (fun (r, w) _ => some (some (vi r), w)) (fun n => RL n 0 81 [qn, qn, qi x2, qi x3, qi x4, qr 1, qi x6, qi x7, qn, qn, qn, qn, qn, qn] [] [(50, m0)]) :=
  Sim.shift 1 (G := fun n => RL n 0 82 [qn, qn, qi x2, qi x3, qi x4, qr 1, qi x6, qi x7, qn, qn, qn, qn, qn, qn] [vi 0] [(50, m0)]) (fun _ => rfl) (l_law_b82_ok x2 x3 x4 x6 x7 0 m0)
def l_law_b55 (x2 x3 x4 x6 s0 : Int) (m0 : OMem) : Option (Int × OWd) := if x2 < 0 then (l_law_b81 x2 x3 x4 x6 s0 m0) else (if x2 < x6 then (if x3 < 0 then (l_law_b81 x2 x3 x4 x6 s0 m0) else (if x3 < s0 then (l_law_b82 x2 x3 x4 x6 s0 1 m0) else (l_law_b81 x2 x3 x4 x6 s0 m0))) else (l_law_b81 x2 x3 x4 x6 s0 m0))
set_option maxRecDepth 65536 in
set_option maxHeartbeats 16000000 in
theorem l_law_b55_ok (x2 x3 x4 x6 s0 : Int) (m0 : OMem) : Sim (l_law_b55 x2 x3 x4 x6 s0 m0) (fun (r, w) _ => some (some (vi r), w)) (fun n => RL n 0 55 [qn, qn, qi x2, qi x3, qi x4, qr 1, qi x6, qn, qn, qn, qn, qn, qn, qn] [vi s0] [(50, m0)]) :=
  Sim.shift 3 (G := fun n => if x2 < 0 then RL n 0 81 [qn, qn, qi x2, qi x3, qi x4, qr 1, qi x6, qi s0, qn, qn, qn, qn, qn, qn] [] [(50, m0)] else RL n 0 61 [qn, qn, qi x2, qi x3, qi x4, qr 1, qi x6, qi s0, qn, qn, qn, qn, qn, qn] [] [(50, m0)]) (fun _ => rfl) (Sim.ite (fun _ => l_law_b81_ok x2 x3 x4 x6 s0 m0) (fun _ => Sim.shift 3 (G := fun n => if x2 < x6 then RL n 0 67 [qn, qn, qi x2, qi x3, qi x4, qr 1, qi x6, qi s0, qn, qn, qn, qn, qn, qn] [] [(50, m0)] else RL n 0 81 [qn, qn, qi x2, qi x3, qi x4, qr 1, qi x6, qi s0, qn, qn, qn, qn, qn, qn] [] [(50, m0)]) (fun _ => rfl) (Sim.ite (fun _ => Sim.shift 2 (G := fun n => if x3 < 0 then RL n 0 81 [qn, qn, qi x2, qi x3, qi x4, qr 1, qi x6, qi s0, qn, qn, qn, qn, qn, qn] [] [(50, m0)] else RL n 0 71 [qn, qn, qi x2, qi x3, qi x4, qr 1, qi x6, qi s0, qn, qn, qn, qn, qn, qn] [] [(50, m0)]) (fun _ => rfl) (Sim.ite (fun _ => l_law_b81_ok x2 x3 x4 x6 s0 m0) (fun _ => Sim.shift 3 (G := fun n => if x3 < s0 then RL n 0 77 [qn, qn, qi x2, qi x3, qi x4, qr 1, qi x6, qi s0, qn, qn, qn, qn, qn, qn] [] [(50, m0)] else RL n 0 81 [qn, qn, qi x2, qi x3, qi x4, qr 1, qi x6, qi s0, qn, qn, qn, qn, qn, qn] [] [(50, m0)]) (fun _ => rfl) (Sim.ite (fun _ => Sim.shift 2 (G := fun n => RL n 0 82 [qn, qn, qi x2, qi x3, qi x4, qr 1, qi x6, qi s0, qn, qn, qn, qn, qn, qn] [vi 1] [(50, m0)]) (fun _ => rfl) (l_law_b82_ok x2 x3 x4 x6 s0 1 m0)) (fun _ => l_law_b81_ok x2 x3 x4 x6 s0 m0))))) (fun _ => l_law_b81_ok x2 x3 x4 x6 s0 m0))))
def l_law_b32 (x1 x2 x3 x4 s0 : Int) (m0 : OMem) : Option (Int × OWd) := if x1 < 4 then (l_law_b55 x2 x3 x4 s0 4 m0) else (if 16 < x1 then (l_law_b55 x2 x3 x4 s0 16 m0) else (l_law_b55 x2 x3 x4 s0 x1 m0))
set_option maxRecDepth 65536 in
set_option maxHeartbeats 16000000 in
theorem l_law_b32_ok (x1 x2 x3 x4 s0 : Int) (m0 : OMem) : Sim (l_law_b32 x1 x2 x3 x4 s0 m0) (fun (r, w) _ => some (some (vi r), w)) (fun n => RL n 0 32 [qn, qi x1, qi x2, qi x3, qi x4, qr 1, qn, qn, qn, qn, qn, qn, qn, qn] [vi s0] [(50, m0)]) :=
  Sim.shift 4 (G := fun n => if x1 < 4 then RL n 0 39 [qn, qi x1, qi x2, qi x3, qi x4, qr 1, qi s0, qn, qn, qn, qn, qn, qn, qn] [] [(50, m0)] else RL n 0 43 [qn, qi x1, qi x2, qi x3, qi x4, qr 1, qi s0, qn, qn, qn, qn, qn, qn, qn] [] [(50, m0)]) (fun _ => rfl) (Sim.ite (fun _ => Sim.shift 2 (G := fun n => RL n 0 55 [qn, qn, qi x2, qi x3, qi x4, qr 1, qi s0, qn, qn, qn, qn, qn, qn, qn] [vi 4] [(50, m0)]) (fun _ => rfl) (l_law_b55_ok x2 x3 x4 s0 4 m0)) (fun _ => Sim.shift 3 (G := fun n => if 16 < x1 then RL n 0 49 [qn, qi x1, qi x2, qi x3, qi x4, qr 1, qi s0, qn, qn, qn, qn, qn, qn, qn] [] [(50, m0)] else RL n 0 54 [qn, qi x1, qi x2, qi x3, qi x4, qr 1, qi s0, qn, qn, qn, qn, qn, qn, qn] [] [(50, m0)]) (fun _ => rfl) (Sim.ite (fun _ => Sim.shift 2 (G := fun n => RL n 0 55 [qn, qn, qi x2, qi x3, qi x4, qr 1, qi s0, qn, qn, qn, qn, qn, qn, qn] [vi 16] [(50, m0)]) (fun _ => rfl) (l_law_b55_ok x2 x3 x4 s0 16 m0)) (fun _ => Sim.shift 1 (G := fun n => RL n 0 55 [qn, qi x1, qi x2, qi x3, qi x4, qr 1, qi s0, qn, qn, qn, qn, qn, qn, qn] [vi x1] [(50, m0)]) (fun _ => rfl) (Sim.jmp (l_law_b55_ok x2 x3 x4 s0 x1 m0) rfl (fun _ => rfl))))))
def l_law (x0 x1 x2 x3 x4 : Int) : Option (Int × OWd) := (f_init x0 x1 z0).bind fun m_62 => (if x0 < 4 then (l_law_b32 x1 x2 x3 x4 4 m_62) else (if 16 < x0 then (l_law_b32 x1 x2 x3 x4 16 m_62) else (l_law_b32 x1 x2 x3 x4 x0 m_62)))
set_option maxRecDepth 65536 in
set_option maxHeartbeats 16000000 in
theorem l_law_ok (x0 x1 x2 x3 x4 : Int) : Sim (l_law x0 x1 x2 x3 x4) (fun (r, w) _ => some (some (vi r), w)) (fun n => RL n 0 0 [qi x0, qi x1, qi x2, qi x3, qi x4, qn, qn, qn, qn, qn, qn, qn, qn, qn] [] []) :=
  Sim.shift 5 (G := fun n => (R n 0 0 [qr 0, qi x0, qi x1] [] 0 z0).bind fun y => RLi n 0 9 [qi x0, qi x1, qi x2, qi x3, qi x4, qn, qn, qn, qn, qn, qn, qn, qn, qn] [vr 1] [(0, z0)] 0 y) (fun _ => rfl) (Sim.call (f_init_ok x0 x1 z0) (fun _ _ => rfl) (runP_mono _ _ _ _ _ _) (fun _ => cond_Mono (runL_mono _ _ _ _ _)) (fun m_62 => Sim.shift 0 (G := fun n => RL n 0 9 [qi x0, qi x1, qi x2, qi x3, qi x4, qn, qn, qn, qn, qn, qn, qn, qn, qn] [vr 1] [(50, m_62)]) (fun _ => rfl) (Sim.shift 4 (G := fun n => if x0 < 4 then RL n 0 16 [qi x0, qi x1, qi x2, qi x3, qi x4, qr 1, qn, qn, qn, qn, qn, qn, qn, qn] [] [(50, m_62)] else RL n 0 20 [qi x0, qi x1, qi x2, qi x3, qi x4, qr 1, qn, qn, qn, qn, qn, qn, qn, qn] [] [(50, m_62)]) (fun _ => rfl) (Sim.ite (fun _ => Sim.shift 2 (G := fun n => RL n 0 32 [qn, qi x1, qi x2, qi x3, qi x4, qr 1, qn, qn, qn, qn, qn, qn, qn, qn] [vi 4] [(50, m_62)]) (fun _ => rfl) (l_law_b32_ok x1 x2 x3 x4 4 m_62)) (fun _ => Sim.shift 3 (G := fun n => if 16 < x0 then RL n 0 26 [qi x0, qi x1, qi x2, qi x3, qi x4, qr 1, qn, qn, qn, qn, qn, qn, qn, qn] [] [(50, m_62)] else RL n 0 31 [qi x0, qi x1, qi x2, qi x3, qi x4, qr 1, qn, qn, qn, qn, qn, qn, qn, qn] [] [(50, m_62)]) (fun _ => rfl) (Sim.ite (fun _ => Sim.shift 2 (G := fun n => RL n 0 32 [qn, qi x1, qi x2, qi x3, qi x4, qr 1, qn, qn, qn, qn, qn, qn, qn, qn] [vi 16] [(50, m_62)]) (fun _ => rfl) (l_law_b32_ok x1 x2 x3 x4 16 m_62)) (fun _ => Sim.shift 1 (G := fun n => RL n 0 32 [qi x0, qi x1, qi x2, qi x3, qi x4, qr 1, qn, qn, qn, qn, qn, qn, qn, qn] [vi x0] [(50, m_62)]) (fun _ => rfl) (Sim.jmp (l_law_b32_ok x1 x2 x3 x4 x0 m_62) rfl (fun _ => rfl)))))))))
def nmT : Nat → MethodName := fun q => cond (Nat.blt q 6) (cond (Nat.blt q 3) (cond (Nat.blt q 1) (cond (Nat.beq q 0) ((⟨"BitplaneMqCoder", "<init>", "(II)V"⟩ : MethodName)) (⟨"BitplaneMqCoder", "<init>", "(II)V"⟩ : MethodName)) (cond (Nat.blt q 2) (cond (Nat.beq q 1) ((⟨"BitplaneMqCoder", "clampSize", "(I)I"⟩ : MethodName)) (⟨"BitplaneMqCoder", "<init>", "(II)V"⟩ : MethodName)) (cond (Nat.beq q 2) ((⟨"BitplaneMqCoder", "setBandRect", "(IIIII)V"⟩ : MethodName)) (⟨"BitplaneMqCoder", "<init>", "(II)V"⟩ : MethodName)))) (cond (Nat.blt q 4) (cond (Nat.beq q 3) ((⟨"BitplaneMqCoder", "loadStatesLow", "()V"⟩ : MethodName)) (⟨"BitplaneMqCoder", "<init>", "(II)V"⟩ : MethodName)) (cond (Nat.blt q 5) (cond (Nat.beq q 4) ((⟨"BitplaneMqCoder", "putState", "(I)V"⟩ : MethodName)) (⟨"BitplaneMqCoder", "<init>", "(II)V"⟩ : MethodName)) (cond (Nat.beq q 5) ((⟨"BitplaneMqCoder", "loadStatesHigh", "()V"⟩ : MethodName)) (⟨"BitplaneMqCoder", "<init>", "(II)V"⟩ : MethodName))))) (cond (Nat.blt q 9) (cond (Nat.blt q 7) (cond (Nat.beq q 6) ((⟨"BitplaneMqCoder", "getWidth", "()I"⟩ : MethodName)) (⟨"BitplaneMqCoder", "<init>", "(II)V"⟩ : MethodName)) (cond (Nat.blt q 8) (cond (Nat.beq q 7) ((⟨"BitplaneMqCoder", "getHeight", "()I"⟩ : MethodName)) (⟨"BitplaneMqCoder", "<init>", "(II)V"⟩ : MethodName)) (cond (Nat.beq q 8) ((⟨"BitplaneMqCoder", "getPixel", "(II)I"⟩ : MethodName)) (⟨"BitplaneMqCoder", "<init>", "(II)V"⟩ : MethodName)))) (cond (Nat.blt q 11) (cond (Nat.blt q 10) (cond (Nat.beq q 9) ((⟨"BitplaneMqCoder", "inRange", "(II)Z"⟩ : MethodName)) (⟨"BitplaneMqCoder", "<init>", "(II)V"⟩ : MethodName)) (cond (Nat.beq q 10) ((⟨"BitplaneMqCoder", "getBand", "(II)I"⟩ : MethodName)) (⟨"BitplaneMqCoder", "<init>", "(II)V"⟩ : MethodName))) (cond (Nat.blt q 12) (cond (Nat.beq q 11) ((⟨"BitplaneMqCoder", "getCoefficient", "(II)I"⟩ : MethodName)) (⟨"BitplaneMqCoder", "<init>", "(II)V"⟩ : MethodName)) (cond (Nat.beq q 12) ((⟨"BitplaneMqCoder", "decode", "(I)I"⟩ : MethodName)) (⟨"BitplaneMqCoder", "<init>", "(II)V"⟩ : MethodName)))))
def byT : Nat → ByteArray := fun q => cond (Nat.blt q 6) (cond (Nat.blt q 3) (cond (Nat.blt q 1) (cond (Nat.beq q 0) (prog_1_method_1_code) prog_1_method_1_code) (cond (Nat.blt q 2) (cond (Nat.beq q 1) (prog_1_method_17_code) prog_1_method_1_code) (cond (Nat.beq q 2) (prog_1_method_21_code) prog_1_method_1_code))) (cond (Nat.blt q 4) (cond (Nat.beq q 3) (prog_1_method_77_code) prog_1_method_1_code) (cond (Nat.blt q 5) (cond (Nat.beq q 4) (prog_1_method_76_code) prog_1_method_1_code) (cond (Nat.beq q 5) (prog_1_method_78_code) prog_1_method_1_code)))) (cond (Nat.blt q 9) (cond (Nat.blt q 7) (cond (Nat.beq q 6) (prog_1_method_2_code) prog_1_method_1_code) (cond (Nat.blt q 8) (cond (Nat.beq q 7) (prog_1_method_3_code) prog_1_method_1_code) (cond (Nat.beq q 8) (prog_1_method_5_code) prog_1_method_1_code))) (cond (Nat.blt q 11) (cond (Nat.blt q 10) (cond (Nat.beq q 9) (prog_1_method_18_code) prog_1_method_1_code) (cond (Nat.beq q 10) (prog_1_method_9_code) prog_1_method_1_code)) (cond (Nat.blt q 12) (cond (Nat.beq q 11) (prog_1_method_8_code) prog_1_method_1_code) (cond (Nat.beq q 12) (prog_1_method_11_code) prog_1_method_1_code))))
def fnmN : Nat → String × String := fun n => cond (Nat.blt n 18) (cond (Nat.blt n 9) (cond (Nat.blt n 4) (cond (Nat.blt n 2) (cond (Nat.blt n 1) (cond (Nat.beq n 0) (("decPasses", "I")) ("", "")) (cond (Nat.beq n 1) (("pix", "[I")) ("", ""))) (cond (Nat.blt n 3) (cond (Nat.beq n 2) (("encPix", "[I")) ("", "")) (cond (Nat.beq n 3) (("coef", "[I")) ("", "")))) (cond (Nat.blt n 6) (cond (Nat.blt n 5) (cond (Nat.beq n 4) (("work", "[I")) ("", "")) (cond (Nat.beq n 5) (("decCoef", "[I")) ("", ""))) (cond (Nat.blt n 7) (cond (Nat.beq n 6) (("decPix", "[I")) ("", "")) (cond (Nat.blt n 8) (cond (Nat.beq n 7) (("known", "[I")) ("", "")) (cond (Nat.beq n 8) (("mag", "[I")) ("", "")))))) (cond (Nat.blt n 13) (cond (Nat.blt n 11) (cond (Nat.blt n 10) (cond (Nat.beq n 9) (("sig", "[Z")) ("", "")) (cond (Nat.beq n 10) (("mark", "[Z")) ("", ""))) (cond (Nat.blt n 12) (cond (Nat.beq n 11) (("neg", "[Z")) ("", "")) (cond (Nat.beq n 12) (("refined", "[Z")) ("", "")))) (cond (Nat.blt n 15) (cond (Nat.blt n 14) (cond (Nat.beq n 13) (("lineA", "[I")) ("", "")) (cond (Nat.beq n 14) (("lineB", "[I")) ("", ""))) (cond (Nat.blt n 16) (cond (Nat.beq n 15) (("bandX0", "[I")) ("", "")) (cond (Nat.blt n 17) (cond (Nat.beq n 16) (("bandY0", "[I")) ("", "")) (cond (Nat.beq n 17) (("bandW", "[I")) ("", ""))))))) (cond (Nat.blt n 27) (cond (Nat.blt n 22) (cond (Nat.blt n 20) (cond (Nat.blt n 19) (cond (Nat.beq n 18) (("bandH", "[I")) ("", "")) (cond (Nat.beq n 19) (("bandPlanes", "[I")) ("", ""))) (cond (Nat.blt n 21) (cond (Nat.beq n 20) (("stateTab", "[I")) ("", "")) (cond (Nat.beq n 21) (("cxI", "[I")) ("", "")))) (cond (Nat.blt n 24) (cond (Nat.blt n 23) (cond (Nat.beq n 22) (("cxMps", "[I")) ("", "")) (cond (Nat.beq n 23) (("buf", "[B")) ("", ""))) (cond (Nat.blt n 25) (cond (Nat.beq n 24) (("segStart", "[I")) ("", "")) (cond (Nat.blt n 26) (cond (Nat.beq n 25) (("segEnd", "[I")) ("", "")) (cond (Nat.beq n 26) (("w", "I")) ("", "")))))) (cond (Nat.blt n 31) (cond (Nat.blt n 29) (cond (Nat.blt n 28) (cond (Nat.beq n 27) (("h", "I")) ("", "")) (cond (Nat.beq n 28) (("cw1", "I")) ("", ""))) (cond (Nat.blt n 30) (cond (Nat.beq n 29) (("ch1", "I")) ("", "")) (cond (Nat.beq n 30) (("cw2", "I")) ("", "")))) (cond (Nat.blt n 33) (cond (Nat.blt n 32) (cond (Nat.beq n 31) (("ch2", "I")) ("", "")) (cond (Nat.beq n 32) (("tabCount", "I")) ("", ""))) (cond (Nat.blt n 35) (cond (Nat.beq n 33) (("encoding", "Z")) ("", "")) (cond (Nat.blt n 36) (cond (Nat.beq n 35) (("encoded", "Z")) ("", "")) (cond (Nat.beq n 36) (("decoded", "Z")) ("", "")))))))
def fkdN : Nat → Option (Nat × Nat × Bool) := fun n => cond (Nat.blt n 37) (cond (Nat.blt n 18) (cond (Nat.blt n 9) (cond (Nat.blt n 4) (cond (Nat.blt n 2) (cond (Nat.blt n 1) (cond (Nat.beq n 0) (some (1, 0, false)) none) (cond (Nat.beq n 1) (some (0, 1, false)) none)) (cond (Nat.blt n 3) (cond (Nat.beq n 2) (some (0, 2, false)) none) (cond (Nat.beq n 3) (some (0, 3, false)) none))) (cond (Nat.blt n 6) (cond (Nat.blt n 5) (cond (Nat.beq n 4) (some (0, 4, false)) none) (cond (Nat.beq n 5) (some (0, 5, false)) none)) (cond (Nat.blt n 7) (cond (Nat.beq n 6) (some (0, 6, false)) none) (cond (Nat.blt n 8) (cond (Nat.beq n 7) (some (0, 7, false)) none) (cond (Nat.beq n 8) (some (0, 8, false)) none))))) (cond (Nat.blt n 13) (cond (Nat.blt n 11) (cond (Nat.blt n 10) (cond (Nat.beq n 9) (some (0, 9, false)) none) (cond (Nat.beq n 10) (some (0, 10, false)) none)) (cond (Nat.blt n 12) (cond (Nat.beq n 11) (some (0, 11, false)) none) (cond (Nat.beq n 12) (some (0, 12, false)) none))) (cond (Nat.blt n 15) (cond (Nat.blt n 14) (cond (Nat.beq n 13) (some (0, 13, false)) none) (cond (Nat.beq n 14) (some (0, 14, false)) none)) (cond (Nat.blt n 16) (cond (Nat.beq n 15) (some (0, 15, false)) none) (cond (Nat.blt n 17) (cond (Nat.beq n 16) (some (0, 16, false)) none) (cond (Nat.beq n 17) (some (0, 17, false)) none)))))) (cond (Nat.blt n 27) (cond (Nat.blt n 22) (cond (Nat.blt n 20) (cond (Nat.blt n 19) (cond (Nat.beq n 18) (some (0, 18, false)) none) (cond (Nat.beq n 19) (some (0, 19, false)) none)) (cond (Nat.blt n 21) (cond (Nat.beq n 20) (some (0, 20, false)) none) (cond (Nat.beq n 21) (some (0, 21, false)) none))) (cond (Nat.blt n 24) (cond (Nat.blt n 23) (cond (Nat.beq n 22) (some (0, 22, false)) none) (cond (Nat.beq n 23) (some (0, 23, false)) none)) (cond (Nat.blt n 25) (cond (Nat.beq n 24) (some (0, 24, false)) none) (cond (Nat.blt n 26) (cond (Nat.beq n 25) (some (0, 25, false)) none) (cond (Nat.beq n 26) (some (1, 0, false)) none))))) (cond (Nat.blt n 31) (cond (Nat.blt n 29) (cond (Nat.blt n 28) (cond (Nat.beq n 27) (some (1, 0, false)) none) (cond (Nat.beq n 28) (some (1, 0, false)) none)) (cond (Nat.blt n 30) (cond (Nat.beq n 29) (some (1, 0, false)) none) (cond (Nat.beq n 30) (some (1, 0, false)) none))) (cond (Nat.blt n 33) (cond (Nat.blt n 32) (cond (Nat.beq n 31) (some (1, 0, false)) none) (cond (Nat.beq n 32) (some (1, 0, false)) none)) (cond (Nat.blt n 35) (cond (Nat.beq n 33) (some (2, 0, false)) none) (cond (Nat.blt n 36) (cond (Nat.beq n 35) (some (2, 0, false)) none) (cond (Nat.beq n 36) (some (2, 0, false)) none))))))) none
def fnmT : FN := fnmOf fnmN
def fkdT : FK := fkdOf fkdN
set_option maxRecDepth 65536 in
set_option maxHeartbeats 8000000 in
theorem cdk_0 : ∀ pc i len, cd_0 pc = some (i, len) → decode prog_1_method_1_code pc = .ok (i, len) ∧ chk pc i len = true := code_all 471 (fun _ h => cond_ge h) (by decide +kernel)
set_option maxRecDepth 65536 in
set_option maxHeartbeats 8000000 in
theorem cdk_1 : ∀ pc i len, cd_1 pc = some (i, len) → decode prog_1_method_17_code pc = .ok (i, len) ∧ chk pc i len = true := code_all 18 (fun _ h => cond_ge h) (by decide +kernel)
set_option maxRecDepth 65536 in
set_option maxHeartbeats 8000000 in
theorem cdk_2 : ∀ pc i len, cd_2 pc = some (i, len) → decode prog_1_method_21_code pc = .ok (i, len) ∧ chk pc i len = true := code_all 42 (fun _ h => cond_ge h) (by decide +kernel)
set_option maxRecDepth 65536 in
set_option maxHeartbeats 8000000 in
theorem cdk_3 : ∀ pc i len, cd_3 pc = some (i, len) → decode prog_1_method_77_code pc = .ok (i, len) ∧ chk pc i len = true := code_all 169 (fun _ h => cond_ge h) (by decide +kernel)
set_option maxRecDepth 65536 in
set_option maxHeartbeats 8000000 in
theorem cdk_4 : ∀ pc i len, cd_4 pc = some (i, len) → decode prog_1_method_76_code pc = .ok (i, len) ∧ chk pc i len = true := code_all 37 (fun _ h => cond_ge h) (by decide +kernel)
set_option maxRecDepth 65536 in
set_option maxHeartbeats 8000000 in
theorem cdk_5 : ∀ pc i len, cd_5 pc = some (i, len) → decode prog_1_method_78_code pc = .ok (i, len) ∧ chk pc i len = true := code_all 162 (fun _ h => cond_ge h) (by decide +kernel)
set_option maxRecDepth 65536 in
set_option maxHeartbeats 8000000 in
theorem cdk_6 : ∀ pc i len, cd_6 pc = some (i, len) → decode prog_1_method_2_code pc = .ok (i, len) ∧ chk pc i len = true := code_all 5 (fun _ h => cond_ge h) (by decide +kernel)
set_option maxRecDepth 65536 in
set_option maxHeartbeats 8000000 in
theorem cdk_7 : ∀ pc i len, cd_7 pc = some (i, len) → decode prog_1_method_3_code pc = .ok (i, len) ∧ chk pc i len = true := code_all 5 (fun _ h => cond_ge h) (by decide +kernel)
set_option maxRecDepth 65536 in
set_option maxHeartbeats 8000000 in
theorem cdk_8 : ∀ pc i len, cd_8 pc = some (i, len) → decode prog_1_method_5_code pc = .ok (i, len) ∧ chk pc i len = true := code_all 27 (fun _ h => cond_ge h) (by decide +kernel)
set_option maxRecDepth 65536 in
set_option maxHeartbeats 8000000 in
theorem cdk_9 : ∀ pc i len, cd_9 pc = some (i, len) → decode prog_1_method_18_code pc = .ok (i, len) ∧ chk pc i len = true := code_all 30 (fun _ h => cond_ge h) (by decide +kernel)
set_option maxRecDepth 65536 in
set_option maxHeartbeats 8000000 in
theorem cdk_10 : ∀ pc i len, cd_10 pc = some (i, len) → decode prog_1_method_9_code pc = .ok (i, len) ∧ chk pc i len = true := code_all 106 (fun _ h => cond_ge h) (by decide +kernel)
set_option maxRecDepth 65536 in
set_option maxHeartbeats 8000000 in
theorem cdk_11 : ∀ pc i len, cd_11 pc = some (i, len) → decode prog_1_method_8_code pc = .ok (i, len) ∧ chk pc i len = true := code_all 38 (fun _ h => cond_ge h) (by decide +kernel)
set_option maxRecDepth 65536 in
set_option maxHeartbeats 8000000 in
theorem cdk_12 : ∀ pc i len, cd_12 pc = some (i, len) → decode prog_1_method_11_code pc = .ok (i, len) ∧ chk pc i len = true := code_all 67 (fun _ h => cond_ge h) (by decide +kernel)
theorem t_code : ∀ q pc i len, pcode PP q pc = some (i, len) → decode (byT q) pc = .ok (i, len) ∧ chk pc i len = true := by
  intro q
  by_cases hq : q < 13
  · exact allN (Q := fun q => ∀ pc i len, pcode PP q pc = some (i, len) → decode (byT q) pc = .ok (i, len) ∧ chk pc i len = true) (N := 13) (⟨⟨⟨⟨⟨⟨⟨⟨⟨⟨⟨⟨⟨trivial, cdk_0⟩, cdk_1⟩, cdk_2⟩, cdk_3⟩, cdk_4⟩, cdk_5⟩, cdk_6⟩, cdk_7⟩, cdk_8⟩, cdk_9⟩, cdk_10⟩, cdk_11⟩, cdk_12⟩) q hq
  · intro pc i len h
    have h0 : PPcode q pc = none := cond_ge (by omega)
    have h1 : PPcode q pc = some (i, len) := h
    rw [h0] at h1; cases h1
set_option maxRecDepth 65536 in
set_option maxHeartbeats 8000000 in
theorem t_fld0 {a0 : Array Value} {Z : State} (hw : ∀ d ∈ tables_1, d.before a0 Z = true) : ∀ x e, PPfld x = some e → (Jvm.Cond.fieldLink "BitplaneMqCoder" x "BitplaneMqCoder" (fnmT e.1).1 (fnmT e.1).2).before a0 Z = true ∧ fkdT e.1 = some (e.2.1, e.2.2.1, e.2.2.2) :=
  tab_all (f := PPfld) 153 [(7, (0, 1, 0, false)), (13, (1, 0, 1, false)), (17, (2, 0, 2, false)), (20, (3, 0, 3, false)), (23, (4, 0, 4, false)), (26, (5, 0, 5, false)), (29, (6, 0, 6, false)), (32, (7, 0, 7, false)), (35, (8, 0, 8, false)), (38, (9, 0, 9, false)), (42, (10, 0, 10, false)), (45, (11, 0, 11, false)), (48, (12, 0, 12, false)), (51, (13, 0, 13, false)), (54, (14, 0, 14, false)), (57, (15, 0, 15, false)), (60, (16, 0, 16, false)), (63, (17, 0, 17, false)), (66, (18, 0, 18, false)), (69, (19, 0, 19, false)), (72, (20, 0, 20, false)), (75, (21, 0, 21, false)), (78, (22, 0, 22, false)), (82, (23, 0, 23, false)), (86, (24, 0, 24, false)), (89, (25, 0, 25, false)), (96, (26, 1, 0, false)), (99, (27, 1, 0, false)), (102, (28, 1, 0, false)), (105, (29, 1, 0, false)), (108, (30, 1, 0, false)), (111, (31, 1, 0, false)), (118, (32, 1, 0, false)), (135, (33, 2, 0, false)), (149, (35, 2, 0, false)), (152, (36, 2, 0, false))] (fun _ h => cond_ge h) (by decide +kernel) (Q := fun x e => (Jvm.Cond.fieldLink "BitplaneMqCoder" x "BitplaneMqCoder" (fnmT e.1).1 (fnmT e.1).2).before a0 Z = true ∧ fkdT e.1 = some (e.2.1, e.2.2.1, e.2.2.2)) ⟨⟨hw _ (List.mem_of_getElem? (i := 9) rfl), rfl⟩, ⟨hw _ (List.mem_of_getElem? (i := 12) rfl), rfl⟩, ⟨hw _ (List.mem_of_getElem? (i := 14) rfl), rfl⟩, ⟨hw _ (List.mem_of_getElem? (i := 16) rfl), rfl⟩, ⟨hw _ (List.mem_of_getElem? (i := 18) rfl), rfl⟩, ⟨hw _ (List.mem_of_getElem? (i := 20) rfl), rfl⟩, ⟨hw _ (List.mem_of_getElem? (i := 22) rfl), rfl⟩, ⟨hw _ (List.mem_of_getElem? (i := 24) rfl), rfl⟩, ⟨hw _ (List.mem_of_getElem? (i := 26) rfl), rfl⟩, ⟨hw _ (List.mem_of_getElem? (i := 29) rfl), rfl⟩, ⟨hw _ (List.mem_of_getElem? (i := 31) rfl), rfl⟩, ⟨hw _ (List.mem_of_getElem? (i := 33) rfl), rfl⟩, ⟨hw _ (List.mem_of_getElem? (i := 35) rfl), rfl⟩, ⟨hw _ (List.mem_of_getElem? (i := 37) rfl), rfl⟩, ⟨hw _ (List.mem_of_getElem? (i := 39) rfl), rfl⟩, ⟨hw _ (List.mem_of_getElem? (i := 41) rfl), rfl⟩, ⟨hw _ (List.mem_of_getElem? (i := 43) rfl), rfl⟩, ⟨hw _ (List.mem_of_getElem? (i := 45) rfl), rfl⟩, ⟨hw _ (List.mem_of_getElem? (i := 47) rfl), rfl⟩, ⟨hw _ (List.mem_of_getElem? (i := 49) rfl), rfl⟩, ⟨hw _ (List.mem_of_getElem? (i := 51) rfl), rfl⟩, ⟨hw _ (List.mem_of_getElem? (i := 53) rfl), rfl⟩, ⟨hw _ (List.mem_of_getElem? (i := 55) rfl), rfl⟩, ⟨hw _ (List.mem_of_getElem? (i := 59) rfl), rfl⟩, ⟨hw _ (List.mem_of_getElem? (i := 61) rfl), rfl⟩, ⟨hw _ (List.mem_of_getElem? (i := 63) rfl), rfl⟩, ⟨hw _ (List.mem_of_getElem? (i := 69) rfl), rfl⟩, ⟨hw _ (List.mem_of_getElem? (i := 71) rfl), rfl⟩, ⟨hw _ (List.mem_of_getElem? (i := 73) rfl), rfl⟩, ⟨hw _ (List.mem_of_getElem? (i := 75) rfl), rfl⟩, ⟨hw _ (List.mem_of_getElem? (i := 77) rfl), rfl⟩, ⟨hw _ (List.mem_of_getElem? (i := 79) rfl), rfl⟩, ⟨hw _ (List.mem_of_getElem? (i := 85) rfl), rfl⟩, ⟨hw _ (List.mem_of_getElem? (i := 183) rfl), rfl⟩, ⟨hw _ (List.mem_of_getElem? (i := 174) rfl), rfl⟩, ⟨hw _ (List.mem_of_getElem? (i := 185) rfl), rfl⟩, trivial⟩
theorem t_fld {a0 : Array Value} {Z : State} (hw : ∀ d ∈ tables_1, d.before a0 Z = true) : ∀ x f kd j fin, pfld PP x = some (f, kd, j, fin) → (Jvm.Cond.fieldLink "BitplaneMqCoder" x "BitplaneMqCoder" (fnmT f).1 (fnmT f).2).before a0 Z = true ∧ fkdT f = some (kd, j, fin) := fun x f kd j fin h =>
  t_fld0 hw x (f, kd, j, fin) h
set_option maxRecDepth 65536 in
set_option maxHeartbeats 8000000 in
theorem t_fkd {a0 : Array Value} {Z : State} (hw : ∀ d ∈ tables_1, d.before a0 Z = true) : ∀ f kd j fin, fkdT f = some (kd, j, fin) → ((fin = false ∧ (Jvm.Cond.lays "BitplaneMqCoder" "BitplaneMqCoder" (fnmT f).1 (fnmT f).2).before a0 Z = true) ∨ (fin = true ∧ (Jvm.Cond.laysFinal "BitplaneMqCoder" "BitplaneMqCoder" (fnmT f).1 (fnmT f).2).before a0 Z = true)) ∧ parseFieldDescriptor (fnmT f).2 = some (fty PP kd j) ∧ (kd = 0 → 1 ≤ j) ∧ kd ≤ 4 :=
  fkd_all (f := fkdN) (tab_all 37 [(0, (1, 0, false)), (1, (0, 1, false)), (2, (0, 2, false)), (3, (0, 3, false)), (4, (0, 4, false)), (5, (0, 5, false)), (6, (0, 6, false)), (7, (0, 7, false)), (8, (0, 8, false)), (9, (0, 9, false)), (10, (0, 10, false)), (11, (0, 11, false)), (12, (0, 12, false)), (13, (0, 13, false)), (14, (0, 14, false)), (15, (0, 15, false)), (16, (0, 16, false)), (17, (0, 17, false)), (18, (0, 18, false)), (19, (0, 19, false)), (20, (0, 20, false)), (21, (0, 21, false)), (22, (0, 22, false)), (23, (0, 23, false)), (24, (0, 24, false)), (25, (0, 25, false)), (26, (1, 0, false)), (27, (1, 0, false)), (28, (1, 0, false)), (29, (1, 0, false)), (30, (1, 0, false)), (31, (1, 0, false)), (32, (1, 0, false)), (33, (2, 0, false)), (35, (2, 0, false)), (36, (2, 0, false))] (fun _ h => cond_ge h) (by decide +kernel) ⟨⟨Or.inl ⟨rfl, hw _ (List.mem_of_getElem? (i := 10) rfl)⟩, by decide +kernel, by decide, by decide⟩, ⟨Or.inl ⟨rfl, hw _ (List.mem_of_getElem? (i := 13) rfl)⟩, by decide +kernel, by decide, by decide⟩, ⟨Or.inl ⟨rfl, hw _ (List.mem_of_getElem? (i := 15) rfl)⟩, by decide +kernel, by decide, by decide⟩, ⟨Or.inl ⟨rfl, hw _ (List.mem_of_getElem? (i := 17) rfl)⟩, by decide +kernel, by decide, by decide⟩, ⟨Or.inl ⟨rfl, hw _ (List.mem_of_getElem? (i := 19) rfl)⟩, by decide +kernel, by decide, by decide⟩, ⟨Or.inl ⟨rfl, hw _ (List.mem_of_getElem? (i := 21) rfl)⟩, by decide +kernel, by decide, by decide⟩, ⟨Or.inl ⟨rfl, hw _ (List.mem_of_getElem? (i := 23) rfl)⟩, by decide +kernel, by decide, by decide⟩, ⟨Or.inl ⟨rfl, hw _ (List.mem_of_getElem? (i := 25) rfl)⟩, by decide +kernel, by decide, by decide⟩, ⟨Or.inl ⟨rfl, hw _ (List.mem_of_getElem? (i := 27) rfl)⟩, by decide +kernel, by decide, by decide⟩, ⟨Or.inl ⟨rfl, hw _ (List.mem_of_getElem? (i := 30) rfl)⟩, by decide +kernel, by decide, by decide⟩, ⟨Or.inl ⟨rfl, hw _ (List.mem_of_getElem? (i := 32) rfl)⟩, by decide +kernel, by decide, by decide⟩, ⟨Or.inl ⟨rfl, hw _ (List.mem_of_getElem? (i := 34) rfl)⟩, by decide +kernel, by decide, by decide⟩, ⟨Or.inl ⟨rfl, hw _ (List.mem_of_getElem? (i := 36) rfl)⟩, by decide +kernel, by decide, by decide⟩, ⟨Or.inl ⟨rfl, hw _ (List.mem_of_getElem? (i := 38) rfl)⟩, by decide +kernel, by decide, by decide⟩, ⟨Or.inl ⟨rfl, hw _ (List.mem_of_getElem? (i := 40) rfl)⟩, by decide +kernel, by decide, by decide⟩, ⟨Or.inl ⟨rfl, hw _ (List.mem_of_getElem? (i := 42) rfl)⟩, by decide +kernel, by decide, by decide⟩, ⟨Or.inl ⟨rfl, hw _ (List.mem_of_getElem? (i := 44) rfl)⟩, by decide +kernel, by decide, by decide⟩, ⟨Or.inl ⟨rfl, hw _ (List.mem_of_getElem? (i := 46) rfl)⟩, by decide +kernel, by decide, by decide⟩, ⟨Or.inl ⟨rfl, hw _ (List.mem_of_getElem? (i := 48) rfl)⟩, by decide +kernel, by decide, by decide⟩, ⟨Or.inl ⟨rfl, hw _ (List.mem_of_getElem? (i := 50) rfl)⟩, by decide +kernel, by decide, by decide⟩, ⟨Or.inl ⟨rfl, hw _ (List.mem_of_getElem? (i := 52) rfl)⟩, by decide +kernel, by decide, by decide⟩, ⟨Or.inl ⟨rfl, hw _ (List.mem_of_getElem? (i := 54) rfl)⟩, by decide +kernel, by decide, by decide⟩, ⟨Or.inl ⟨rfl, hw _ (List.mem_of_getElem? (i := 56) rfl)⟩, by decide +kernel, by decide, by decide⟩, ⟨Or.inl ⟨rfl, hw _ (List.mem_of_getElem? (i := 60) rfl)⟩, by decide +kernel, by decide, by decide⟩, ⟨Or.inl ⟨rfl, hw _ (List.mem_of_getElem? (i := 62) rfl)⟩, by decide +kernel, by decide, by decide⟩, ⟨Or.inl ⟨rfl, hw _ (List.mem_of_getElem? (i := 64) rfl)⟩, by decide +kernel, by decide, by decide⟩, ⟨Or.inl ⟨rfl, hw _ (List.mem_of_getElem? (i := 70) rfl)⟩, by decide +kernel, by decide, by decide⟩, ⟨Or.inl ⟨rfl, hw _ (List.mem_of_getElem? (i := 72) rfl)⟩, by decide +kernel, by decide, by decide⟩, ⟨Or.inl ⟨rfl, hw _ (List.mem_of_getElem? (i := 74) rfl)⟩, by decide +kernel, by decide, by decide⟩, ⟨Or.inl ⟨rfl, hw _ (List.mem_of_getElem? (i := 76) rfl)⟩, by decide +kernel, by decide, by decide⟩, ⟨Or.inl ⟨rfl, hw _ (List.mem_of_getElem? (i := 78) rfl)⟩, by decide +kernel, by decide, by decide⟩, ⟨Or.inl ⟨rfl, hw _ (List.mem_of_getElem? (i := 80) rfl)⟩, by decide +kernel, by decide, by decide⟩, ⟨Or.inl ⟨rfl, hw _ (List.mem_of_getElem? (i := 86) rfl)⟩, by decide +kernel, by decide, by decide⟩, ⟨Or.inl ⟨rfl, hw _ (List.mem_of_getElem? (i := 184) rfl)⟩, by decide +kernel, by decide, by decide⟩, ⟨Or.inl ⟨rfl, hw _ (List.mem_of_getElem? (i := 175) rfl)⟩, by decide +kernel, by decide, by decide⟩, ⟨Or.inl ⟨rfl, hw _ (List.mem_of_getElem? (i := 186) rfl)⟩, by decide +kernel, by decide, by decide⟩, trivial⟩)
set_option maxRecDepth 65536 in
set_option maxHeartbeats 8000000 in
theorem t_lay0 {a0 : Array Value} {Z : State} (hw : ∀ d ∈ tables_1, d.before a0 Z = true) : ∀ j e, PPlay j = some e → 1 ≤ j ∧ j ≤ 25 ∧ 0 ≤ e.2 ∧ e.2 ≤ 60000000 ∧ (e.1 = 1 ∨ e.1 = 2 ∨ e.1 = 3 ∨ e.1 = 4) ∧ (Jvm.Cond.arrayClass (kty e.1)).before a0 Z = true :=
  tab_all (f := PPlay) 26 [(1, (1, 256)), (2, (1, 256)), (3, (1, 256)), (4, (1, 256)), (5, (1, 256)), (6, (1, 256)), (7, (1, 256)), (8, (1, 256)), (9, (2, 256)), (10, (2, 256)), (11, (2, 256)), (12, (2, 256)), (13, (1, 16)), (14, (1, 16)), (15, (1, 7)), (16, (1, 7)), (17, (1, 7)), (18, (1, 7)), (19, (1, 7)), (20, (1, 47)), (21, (1, 19)), (22, (1, 19)), (23, (3, 32768)), (24, (1, 7)), (25, (1, 7))] (fun _ h => cond_ge h) (by decide +kernel) (Q := fun j e => 1 ≤ j ∧ j ≤ 25 ∧ 0 ≤ e.2 ∧ e.2 ≤ 60000000 ∧ (e.1 = 1 ∨ e.1 = 2 ∨ e.1 = 3 ∨ e.1 = 4) ∧ (Jvm.Cond.arrayClass (kty e.1)).before a0 Z = true) ⟨⟨by decide, by decide, by decide, by decide, by decide, hw _ (List.mem_of_getElem? (i := 11) rfl)⟩, ⟨by decide, by decide, by decide, by decide, by decide, hw _ (List.mem_of_getElem? (i := 11) rfl)⟩, ⟨by decide, by decide, by decide, by decide, by decide, hw _ (List.mem_of_getElem? (i := 11) rfl)⟩, ⟨by decide, by decide, by decide, by decide, by decide, hw _ (List.mem_of_getElem? (i := 11) rfl)⟩, ⟨by decide, by decide, by decide, by decide, by decide, hw _ (List.mem_of_getElem? (i := 11) rfl)⟩, ⟨by decide, by decide, by decide, by decide, by decide, hw _ (List.mem_of_getElem? (i := 11) rfl)⟩, ⟨by decide, by decide, by decide, by decide, by decide, hw _ (List.mem_of_getElem? (i := 11) rfl)⟩, ⟨by decide, by decide, by decide, by decide, by decide, hw _ (List.mem_of_getElem? (i := 11) rfl)⟩, ⟨by decide, by decide, by decide, by decide, by decide, hw _ (List.mem_of_getElem? (i := 28) rfl)⟩, ⟨by decide, by decide, by decide, by decide, by decide, hw _ (List.mem_of_getElem? (i := 28) rfl)⟩, ⟨by decide, by decide, by decide, by decide, by decide, hw _ (List.mem_of_getElem? (i := 28) rfl)⟩, ⟨by decide, by decide, by decide, by decide, by decide, hw _ (List.mem_of_getElem? (i := 28) rfl)⟩, ⟨by decide, by decide, by decide, by decide, by decide, hw _ (List.mem_of_getElem? (i := 11) rfl)⟩, ⟨by decide, by decide, by decide, by decide, by decide, hw _ (List.mem_of_getElem? (i := 11) rfl)⟩, ⟨by decide, by decide, by decide, by decide, by decide, hw _ (List.mem_of_getElem? (i := 11) rfl)⟩, ⟨by decide, by decide, by decide, by decide, by decide, hw _ (List.mem_of_getElem? (i := 11) rfl)⟩, ⟨by decide, by decide, by decide, by decide, by decide, hw _ (List.mem_of_getElem? (i := 11) rfl)⟩, ⟨by decide, by decide, by decide, by decide, by decide, hw _ (List.mem_of_getElem? (i := 11) rfl)⟩, ⟨by decide, by decide, by decide, by decide, by decide, hw _ (List.mem_of_getElem? (i := 11) rfl)⟩, ⟨by decide, by decide, by decide, by decide, by decide, hw _ (List.mem_of_getElem? (i := 11) rfl)⟩, ⟨by decide, by decide, by decide, by decide, by decide, hw _ (List.mem_of_getElem? (i := 11) rfl)⟩, ⟨by decide, by decide, by decide, by decide, by decide, hw _ (List.mem_of_getElem? (i := 11) rfl)⟩, ⟨by decide, by decide, by decide, by decide, by decide, hw _ (List.mem_of_getElem? (i := 58) rfl)⟩, ⟨by decide, by decide, by decide, by decide, by decide, hw _ (List.mem_of_getElem? (i := 11) rfl)⟩, ⟨by decide, by decide, by decide, by decide, by decide, hw _ (List.mem_of_getElem? (i := 11) rfl)⟩, trivial⟩
theorem t_lay {a0 : Array Value} {Z : State} (hw : ∀ d ∈ tables_1, d.before a0 Z = true) : ∀ j kd n, play PP j = some (kd, n) → 1 ≤ j ∧ j ≤ 25 ∧ 0 ≤ n ∧ n ≤ 60000000 ∧ (kd = 1 ∨ kd = 2 ∨ kd = 3 ∨ kd = 4) ∧ (Jvm.Cond.arrayClass (kty kd)).before a0 Z = true := fun j kd n h =>
  t_lay0 hw j (kd, n) h
set_option maxRecDepth 65536 in
set_option maxHeartbeats 8000000 in
theorem t_cst0 {a0 : Array Value} {Z : State} (hw : ∀ d ∈ tables_1, d.before a0 Z = true) : ∀ x e, PPcst x = some e → (∀ z, e = .inl z → ∃ v : Int32, (Jvm.Cond.constant "BitplaneMqCoder" x v).before a0 Z = true ∧ v.toInt = z) ∧ (∀ z, e = .inr (.inl z) → ∃ v : Int64, (Jvm.Cond.constantLong "BitplaneMqCoder" x v).before a0 Z = true ∧ v.toInt = z) :=
  tab_all (f := PPcst) 428 [(81, (vi 32768)), (155, (vi (-1000000))), (379, (vi 87553)), (383, (vi 406529)), (384, (vi 595969)), (385, (vi 789185)), (386, (vi 1901857)), (387, (vi 2163233)), (388, (vi 415233)), (389, (vi 939009)), (390, (vi 935937)), (391, (vi 931841)), (392, (vi 1126401)), (393, (vi 1188865)), (394, (vi 1317889)), (395, (vi 1381889)), (396, (vi 939521)), (397, (vi 1003777)), (398, (vi 1067009)), (399, (vi 1128449)), (400, (vi 1192961)), (401, (vi 1257473)), (402, (vi 1255425)), (403, (vi 1319937)), (404, (vi 1384961)), (405, (vi 1448961)), (406, (vi 1513473)), (407, (vi 1578497)), (408, (vi 1643521)), (409, (vi 1708545)), (410, (vi 1773825)), (411, (vi 1837761)), (412, (vi 1903041)), (413, (vi 1968289)), (414, (vi 2032929)), (415, (vi 2098241)), (416, (vi 2163361)), (417, (vi 2228769)), (418, (vi 2294081)), (419, (vi 2359569)), (420, (vi 2424965)), (421, (vi 2490441)), (422, (vi 2555941)), (423, (vi 2621461)), (424, (vi 2686985)), (425, (vi 2752517)), (426, (vi 2818049)), (427, (vi 3036673))] (fun _ h => cond_ge h) (by decide +kernel) ⟨⟨fun z h => (by cases h; exact ⟨32768, hw _ (List.mem_of_getElem? (i := 57) rfl), by decide⟩), fun z h => (by cases h)⟩, ⟨fun z h => (by cases h; exact ⟨(-1000000), hw _ (List.mem_of_getElem? (i := 176) rfl), by decide⟩), fun z h => (by cases h)⟩, ⟨fun z h => (by cases h; exact ⟨87553, hw _ (List.mem_of_getElem? (i := 91) rfl), by decide⟩), fun z h => (by cases h)⟩, ⟨fun z h => (by cases h; exact ⟨406529, hw _ (List.mem_of_getElem? (i := 96) rfl), by decide⟩), fun z h => (by cases h)⟩, ⟨fun z h => (by cases h; exact ⟨595969, hw _ (List.mem_of_getElem? (i := 97) rfl), by decide⟩), fun z h => (by cases h)⟩, ⟨fun z h => (by cases h; exact ⟨789185, hw _ (List.mem_of_getElem? (i := 98) rfl), by decide⟩), fun z h => (by cases h)⟩, ⟨fun z h => (by cases h; exact ⟨1901857, hw _ (List.mem_of_getElem? (i := 99) rfl), by decide⟩), fun z h => (by cases h)⟩, ⟨fun z h => (by cases h; exact ⟨2163233, hw _ (List.mem_of_getElem? (i := 100) rfl), by decide⟩), fun z h => (by cases h)⟩, ⟨fun z h => (by cases h; exact ⟨415233, hw _ (List.mem_of_getElem? (i := 101) rfl), by decide⟩), fun z h => (by cases h)⟩, ⟨fun z h => (by cases h; exact ⟨939009, hw _ (List.mem_of_getElem? (i := 102) rfl), by decide⟩), fun z h => (by cases h)⟩, ⟨fun z h => (by cases h; exact ⟨935937, hw _ (List.mem_of_getElem? (i := 103) rfl), by decide⟩), fun z h => (by cases h)⟩, ⟨fun z h => (by cases h; exact ⟨931841, hw _ (List.mem_of_getElem? (i := 104) rfl), by decide⟩), fun z h => (by cases h)⟩, ⟨fun z h => (by cases h; exact ⟨1126401, hw _ (List.mem_of_getElem? (i := 105) rfl), by decide⟩), fun z h => (by cases h)⟩, ⟨fun z h => (by cases h; exact ⟨1188865, hw _ (List.mem_of_getElem? (i := 106) rfl), by decide⟩), fun z h => (by cases h)⟩, ⟨fun z h => (by cases h; exact ⟨1317889, hw _ (List.mem_of_getElem? (i := 107) rfl), by decide⟩), fun z h => (by cases h)⟩, ⟨fun z h => (by cases h; exact ⟨1381889, hw _ (List.mem_of_getElem? (i := 108) rfl), by decide⟩), fun z h => (by cases h)⟩, ⟨fun z h => (by cases h; exact ⟨939521, hw _ (List.mem_of_getElem? (i := 109) rfl), by decide⟩), fun z h => (by cases h)⟩, ⟨fun z h => (by cases h; exact ⟨1003777, hw _ (List.mem_of_getElem? (i := 110) rfl), by decide⟩), fun z h => (by cases h)⟩, ⟨fun z h => (by cases h; exact ⟨1067009, hw _ (List.mem_of_getElem? (i := 111) rfl), by decide⟩), fun z h => (by cases h)⟩, ⟨fun z h => (by cases h; exact ⟨1128449, hw _ (List.mem_of_getElem? (i := 112) rfl), by decide⟩), fun z h => (by cases h)⟩, ⟨fun z h => (by cases h; exact ⟨1192961, hw _ (List.mem_of_getElem? (i := 113) rfl), by decide⟩), fun z h => (by cases h)⟩, ⟨fun z h => (by cases h; exact ⟨1257473, hw _ (List.mem_of_getElem? (i := 114) rfl), by decide⟩), fun z h => (by cases h)⟩, ⟨fun z h => (by cases h; exact ⟨1255425, hw _ (List.mem_of_getElem? (i := 115) rfl), by decide⟩), fun z h => (by cases h)⟩, ⟨fun z h => (by cases h; exact ⟨1319937, hw _ (List.mem_of_getElem? (i := 116) rfl), by decide⟩), fun z h => (by cases h)⟩, ⟨fun z h => (by cases h; exact ⟨1384961, hw _ (List.mem_of_getElem? (i := 117) rfl), by decide⟩), fun z h => (by cases h)⟩, ⟨fun z h => (by cases h; exact ⟨1448961, hw _ (List.mem_of_getElem? (i := 122) rfl), by decide⟩), fun z h => (by cases h)⟩, ⟨fun z h => (by cases h; exact ⟨1513473, hw _ (List.mem_of_getElem? (i := 123) rfl), by decide⟩), fun z h => (by cases h)⟩, ⟨fun z h => (by cases h; exact ⟨1578497, hw _ (List.mem_of_getElem? (i := 124) rfl), by decide⟩), fun z h => (by cases h)⟩, ⟨fun z h => (by cases h; exact ⟨1643521, hw _ (List.mem_of_getElem? (i := 125) rfl), by decide⟩), fun z h => (by cases h)⟩, ⟨fun z h => (by cases h; exact ⟨1708545, hw _ (List.mem_of_getElem? (i := 126) rfl), by decide⟩), fun z h => (by cases h)⟩, ⟨fun z h => (by cases h; exact ⟨1773825, hw _ (List.mem_of_getElem? (i := 127) rfl), by decide⟩), fun z h => (by cases h)⟩, ⟨fun z h => (by cases h; exact ⟨1837761, hw _ (List.mem_of_getElem? (i := 128) rfl), by decide⟩), fun z h => (by cases h)⟩, ⟨fun z h => (by cases h; exact ⟨1903041, hw _ (List.mem_of_getElem? (i := 129) rfl), by decide⟩), fun z h => (by cases h)⟩, ⟨fun z h => (by cases h; exact ⟨1968289, hw _ (List.mem_of_getElem? (i := 130) rfl), by decide⟩), fun z h => (by cases h)⟩, ⟨fun z h => (by cases h; exact ⟨2032929, hw _ (List.mem_of_getElem? (i := 131) rfl), by decide⟩), fun z h => (by cases h)⟩, ⟨fun z h => (by cases h; exact ⟨2098241, hw _ (List.mem_of_getElem? (i := 132) rfl), by decide⟩), fun z h => (by cases h)⟩, ⟨fun z h => (by cases h; exact ⟨2163361, hw _ (List.mem_of_getElem? (i := 133) rfl), by decide⟩), fun z h => (by cases h)⟩, ⟨fun z h => (by cases h; exact ⟨2228769, hw _ (List.mem_of_getElem? (i := 134) rfl), by decide⟩), fun z h => (by cases h)⟩, ⟨fun z h => (by cases h; exact ⟨2294081, hw _ (List.mem_of_getElem? (i := 135) rfl), by decide⟩), fun z h => (by cases h)⟩, ⟨fun z h => (by cases h; exact ⟨2359569, hw _ (List.mem_of_getElem? (i := 136) rfl), by decide⟩), fun z h => (by cases h)⟩, ⟨fun z h => (by cases h; exact ⟨2424965, hw _ (List.mem_of_getElem? (i := 137) rfl), by decide⟩), fun z h => (by cases h)⟩, ⟨fun z h => (by cases h; exact ⟨2490441, hw _ (List.mem_of_getElem? (i := 138) rfl), by decide⟩), fun z h => (by cases h)⟩, ⟨fun z h => (by cases h; exact ⟨2555941, hw _ (List.mem_of_getElem? (i := 139) rfl), by decide⟩), fun z h => (by cases h)⟩, ⟨fun z h => (by cases h; exact ⟨2621461, hw _ (List.mem_of_getElem? (i := 140) rfl), by decide⟩), fun z h => (by cases h)⟩, ⟨fun z h => (by cases h; exact ⟨2686985, hw _ (List.mem_of_getElem? (i := 141) rfl), by decide⟩), fun z h => (by cases h)⟩, ⟨fun z h => (by cases h; exact ⟨2752517, hw _ (List.mem_of_getElem? (i := 142) rfl), by decide⟩), fun z h => (by cases h)⟩, ⟨fun z h => (by cases h; exact ⟨2818049, hw _ (List.mem_of_getElem? (i := 143) rfl), by decide⟩), fun z h => (by cases h)⟩, ⟨fun z h => (by cases h; exact ⟨3036673, hw _ (List.mem_of_getElem? (i := 144) rfl), by decide⟩), fun z h => (by cases h)⟩, trivial⟩
theorem t_cst {a0 : Array Value} {Z : State} (hw : ∀ d ∈ tables_1, d.before a0 Z = true) : ((∀ x z, pcst PP x = some (.inl z) → ∃ v : Int32, (Jvm.Cond.constant "BitplaneMqCoder" x v).before a0 Z = true ∧ v.toInt = z) ∧ (∀ x z, pcst PP x = some (.inr (.inl z)) → ∃ v : Int64, (Jvm.Cond.constantLong "BitplaneMqCoder" x v).before a0 Z = true ∧ v.toInt = z)) := ⟨fun x z h => (t_cst0 hw x _ h).1 z rfl, fun x z h => (t_cst0 hw x _ h).2 z rfl⟩
set_option maxRecDepth 65536 in
set_option maxHeartbeats 8000000 in
theorem t_mth {a0 : Array Value} {Z : State} (hw : ∀ d ∈ tables_1, d.before a0 Z = true) : ∀ x q, pmth PP x = some q → (Jvm.Cond.methodLink "BitplaneMqCoder" x (nmT q)).before a0 Z = true :=
  tab_all (f := PPmth) 381 [(92, 1), (114, 2), (121, 3), (124, 5), (127, 9), (380, 4)] (fun _ h => cond_ge h) (by decide +kernel) ⟨hw _ (List.mem_of_getElem? (i := 65) rfl), hw _ (List.mem_of_getElem? (i := 81) rfl), hw _ (List.mem_of_getElem? (i := 87) rfl), hw _ (List.mem_of_getElem? (i := 118) rfl), hw _ (List.mem_of_getElem? (i := 160) rfl), hw _ (List.mem_of_getElem? (i := 92) rfl), trivial⟩
set_option maxRecDepth 65536 in
set_option maxHeartbeats 8000000 in
theorem t_inf0 {a0 : Array Value} {Z : State} (hw : ∀ d ∈ tables_1, d.before a0 Z = true) : ∀ q e, PPinf q = some e → (nmT q).cls = "BitplaneMqCoder" ∧ (Jvm.Cond.instanceMethod (nmT q)).before a0 Z = true ∧ (Jvm.Cond.code (nmT q) (byT q) e.2.1 (rty e.2.2.1)).before a0 Z = true ∧ (q ≠ 0 → (Jvm.Cond.privateMethod (nmT q)).before a0 Z = true ∨ ((Jvm.Cond.declares (nmT q)).before a0 Z = true ∧ (Jvm.Cond.selects "BitplaneMqCoder" (nmT q) (nmT q)).before a0 Z = true)) ∧ ∃ params, parseMethodDescriptor (nmT q).desc = some ⟨params, rty e.2.2.1⟩ ∧ params.length = e.1.length :=
  tab_all (f := PPinf) 13 [(0, ([false, false], 3, 0, 2, 25)), (1, ([false], 2, 1, 0, 0)), (2, ([false, false, false, false, false], 6, 0, 0, 0)), (3, ([], 1, 0, 1, 13)), (4, ([false], 2, 0, 0, 0)), (5, ([], 1, 0, 1, 13)), (6, ([], 1, 1, 0, 0)), (7, ([], 1, 1, 0, 0)), (8, ([false, false], 3, 1, 1, 14)), (9, ([false, false], 3, 2, 0, 0)), (10, ([false, false], 3, 1, 1, 14)), (11, ([false, false], 3, 1, 1, 14)), (12, ([false], 3, 1, 0, 0))] (fun _ h => cond_ge h) (by decide +kernel) (Q := fun q e => (nmT q).cls = "BitplaneMqCoder" ∧ (Jvm.Cond.instanceMethod (nmT q)).before a0 Z = true ∧ (Jvm.Cond.code (nmT q) (byT q) e.2.1 (rty e.2.2.1)).before a0 Z = true ∧ (q ≠ 0 → (Jvm.Cond.privateMethod (nmT q)).before a0 Z = true ∨ ((Jvm.Cond.declares (nmT q)).before a0 Z = true ∧ (Jvm.Cond.selects "BitplaneMqCoder" (nmT q) (nmT q)).before a0 Z = true)) ∧ ∃ params, parseMethodDescriptor (nmT q).desc = some ⟨params, rty e.2.2.1⟩ ∧ params.length = e.1.length) ⟨⟨rfl, hw _ (List.mem_of_getElem? (i := 4) rfl), hw _ (List.mem_of_getElem? (i := 5) rfl), fun h => absurd rfl h, [.int, .int], by decide +kernel, rfl⟩, ⟨rfl, hw _ (List.mem_of_getElem? (i := 66) rfl), hw _ (List.mem_of_getElem? (i := 68) rfl), fun _ => Or.inl (hw _ (List.mem_of_getElem? (i := 67) rfl)), [.int], by decide +kernel, rfl⟩, ⟨rfl, hw _ (List.mem_of_getElem? (i := 82) rfl), hw _ (List.mem_of_getElem? (i := 84) rfl), fun _ => Or.inl (hw _ (List.mem_of_getElem? (i := 83) rfl)), [.int, .int, .int, .int, .int], by decide +kernel, rfl⟩, ⟨rfl, hw _ (List.mem_of_getElem? (i := 88) rfl), hw _ (List.mem_of_getElem? (i := 90) rfl), fun _ => Or.inl (hw _ (List.mem_of_getElem? (i := 89) rfl)), [], by decide +kernel, rfl⟩, ⟨rfl, hw _ (List.mem_of_getElem? (i := 93) rfl), hw _ (List.mem_of_getElem? (i := 95) rfl), fun _ => Or.inl (hw _ (List.mem_of_getElem? (i := 94) rfl)), [.int], by decide +kernel, rfl⟩, ⟨rfl, hw _ (List.mem_of_getElem? (i := 119) rfl), hw _ (List.mem_of_getElem? (i := 121) rfl), fun _ => Or.inl (hw _ (List.mem_of_getElem? (i := 120) rfl)), [], by decide +kernel, rfl⟩, ⟨rfl, hw _ (List.mem_of_getElem? (i := 147) rfl), hw _ (List.mem_of_getElem? (i := 149) rfl), fun _ => Or.inr ⟨hw _ (List.mem_of_getElem? (i := 146) rfl), hw _ (List.mem_of_getElem? (i := 148) rfl)⟩, [], by decide +kernel, rfl⟩, ⟨rfl, hw _ (List.mem_of_getElem? (i := 152) rfl), hw _ (List.mem_of_getElem? (i := 154) rfl), fun _ => Or.inr ⟨hw _ (List.mem_of_getElem? (i := 151) rfl), hw _ (List.mem_of_getElem? (i := 153) rfl)⟩, [], by decide +kernel, rfl⟩, ⟨rfl, hw _ (List.mem_of_getElem? (i := 157) rfl), hw _ (List.mem_of_getElem? (i := 159) rfl), fun _ => Or.inr ⟨hw _ (List.mem_of_getElem? (i := 156) rfl), hw _ (List.mem_of_getElem? (i := 158) rfl)⟩, [.int, .int], by decide +kernel, rfl⟩, ⟨rfl, hw _ (List.mem_of_getElem? (i := 161) rfl), hw _ (List.mem_of_getElem? (i := 163) rfl), fun _ => Or.inl (hw _ (List.mem_of_getElem? (i := 162) rfl)), [.int, .int], by decide +kernel, rfl⟩, ⟨rfl, hw _ (List.mem_of_getElem? (i := 166) rfl), hw _ (List.mem_of_getElem? (i := 168) rfl), fun _ => Or.inr ⟨hw _ (List.mem_of_getElem? (i := 165) rfl), hw _ (List.mem_of_getElem? (i := 167) rfl)⟩, [.int, .int], by decide +kernel, rfl⟩, ⟨rfl, hw _ (List.mem_of_getElem? (i := 171) rfl), hw _ (List.mem_of_getElem? (i := 173) rfl), fun _ => Or.inr ⟨hw _ (List.mem_of_getElem? (i := 170) rfl), hw _ (List.mem_of_getElem? (i := 172) rfl)⟩, [.int, .int], by decide +kernel, rfl⟩, ⟨rfl, hw _ (List.mem_of_getElem? (i := 180) rfl), hw _ (List.mem_of_getElem? (i := 182) rfl), fun _ => Or.inr ⟨hw _ (List.mem_of_getElem? (i := 179) rfl), hw _ (List.mem_of_getElem? (i := 181) rfl)⟩, [.int], by decide +kernel, rfl⟩, trivial⟩
theorem t_inf {a0 : Array Value} {Z : State} (hw : ∀ d ∈ tables_1, d.before a0 Z = true) : ∀ q ps ml rk fr lc, pinf PP q = some (ps, ml, rk, fr, lc) → (nmT q).cls = "BitplaneMqCoder" ∧ (Jvm.Cond.instanceMethod (nmT q)).before a0 Z = true ∧ (Jvm.Cond.code (nmT q) (byT q) ml (rty rk)).before a0 Z = true ∧ (q ≠ 0 → (Jvm.Cond.privateMethod (nmT q)).before a0 Z = true ∨ ((Jvm.Cond.declares (nmT q)).before a0 Z = true ∧ (Jvm.Cond.selects "BitplaneMqCoder" (nmT q) (nmT q)).before a0 Z = true)) ∧ ∃ params, parseMethodDescriptor (nmT q).desc = some ⟨params, rty rk⟩ ∧ params.length = ps.length := fun q ps ml rk fr lc h =>
  t_inf0 hw q (ps, ml, rk, fr, lc) h
set_option maxRecDepth 65536 in
set_option maxHeartbeats 8000000 in
theorem tabP {a0 : Array Value} {Z : State} (hw : ∀ d ∈ tables_1, d.before a0 Z = true) : TabP PP "BitplaneMqCoder" fnmT fkdT nmT byT 25 53 a0 Z :=
  ⟨t_code, t_fld hw, t_fkd hw, names_all 37 (fun _ h => cond_ge h) (by decide +kernel), ptrs_all 37 (fun _ h => cond_ge h) (by decide +kernel), t_lay hw, t_cst hw, t_mth hw, t_inf hw, fun x h => by cases Nat.eq_of_beq_eq_true h; exact hw _ (List.mem_of_getElem? (i := 6) rfl), ⟨hw _ (List.mem_of_getElem? (i := 7) rfl), hw _ (List.mem_of_getElem? (i := 8) rfl)⟩, hw _ (List.mem_of_getElem? (i := 1) rfl), hw _ (List.mem_of_getElem? (i := 2) rfl), by first | (simp [plainName, overriddenIn]; done) | decide +kernel, by decide, rfl, fun ps ml rk fr lc h => by cases h; rfl⟩
def lnmT : Nat → MethodName := fun q => cond (Nat.beq q 0) ((⟨"BitplaneMqCoderL1", "law", "(IIIII)Z"⟩ : MethodName)) (⟨"BitplaneMqCoderL1", "law", "(IIIII)Z"⟩ : MethodName)
def lbyT : Nat → ByteArray := fun q => cond (Nat.beq q 0) (code) code
set_option maxRecDepth 65536 in
set_option maxHeartbeats 8000000 in
theorem lcdk_0 : ∀ pc i len, lcd_0 pc = some (i, len) → decode code pc = .ok (i, len) ∧ chk pc i len = true := code_all 318 (fun _ h => cond_ge h) (by decide +kernel)
theorem tl_code : ∀ q pc i len, lcode LL q pc = some (i, len) → decode (lbyT q) pc = .ok (i, len) ∧ chk pc i len = true := by
  intro q
  by_cases hq : q < 1
  · exact allN (Q := fun q => ∀ pc i len, lcode LL q pc = some (i, len) → decode (lbyT q) pc = .ok (i, len) ∧ chk pc i len = true) (N := 1) (⟨trivial, lcdk_0⟩) q hq
  · intro pc i len h
    have h0 : LLcode q pc = none := cond_ge (by omega)
    have h1 : LLcode q pc = some (i, len) := h
    rw [h0] at h1; cases h1
set_option maxRecDepth 65536 in
set_option maxHeartbeats 8000000 in
theorem tl_cst0 {a0 : Array Value} {Z : State} (hw : ∀ d ∈ tables_1, d.before a0 Z = true) : ∀ x e, LLcst x = some e → (∀ z, e = .inl z → ∃ v : Int32, (Jvm.Cond.constant "BitplaneMqCoderL1" x v).before a0 Z = true ∧ v.toInt = z) ∧ (∀ z, e = .inr (.inl z) → ∃ v : Int64, (Jvm.Cond.constantLong "BitplaneMqCoderL1" x v).before a0 Z = true ∧ v.toInt = z) :=
  tab_all (f := LLcst) 30 [(29, (vi (-1000000)))] (fun _ h => cond_ge h) (by decide +kernel) ⟨⟨fun z h => (by cases h; exact ⟨(-1000000), hw _ (List.mem_of_getElem? (i := 177) rfl), by decide⟩), fun z h => (by cases h)⟩, trivial⟩
theorem tl_cst {a0 : Array Value} {Z : State} (hw : ∀ d ∈ tables_1, d.before a0 Z = true) : ((∀ x z, lcst LL x = some (.inl z) → ∃ v : Int32, (Jvm.Cond.constant "BitplaneMqCoderL1" x v).before a0 Z = true ∧ v.toInt = z) ∧ (∀ x z, lcst LL x = some (.inr (.inl z)) → ∃ v : Int64, (Jvm.Cond.constantLong "BitplaneMqCoderL1" x v).before a0 Z = true ∧ v.toInt = z)) := ⟨fun x z h => (tl_cst0 hw x _ h).1 z rfl, fun x z h => (tl_cst0 hw x _ h).2 z rfl⟩
set_option maxRecDepth 65536 in
set_option maxHeartbeats 8000000 in
theorem tl_vm {a0 : Array Value} {Z : State} (hw : ∀ d ∈ tables_1, d.before a0 Z = true) : ∀ x q, lvm LL x = some q → (Jvm.Cond.methodLink "BitplaneMqCoderL1" x (nmT q)).before a0 Z = true ∧ (Jvm.Cond.declares (nmT q)).before a0 Z = true ∧ (Jvm.Cond.selects "BitplaneMqCoder" (nmT q) (nmT q)).before a0 Z = true :=
  tab_all (f := LLvm) 31 [(12, 6), (16, 7), (19, 8), (23, 10), (26, 11), (30, 12)] (fun _ h => cond_ge h) (by decide +kernel) ⟨⟨hw _ (List.mem_of_getElem? (i := 145) rfl), hw _ (List.mem_of_getElem? (i := 146) rfl), hw _ (List.mem_of_getElem? (i := 148) rfl)⟩, ⟨hw _ (List.mem_of_getElem? (i := 150) rfl), hw _ (List.mem_of_getElem? (i := 151) rfl), hw _ (List.mem_of_getElem? (i := 153) rfl)⟩, ⟨hw _ (List.mem_of_getElem? (i := 155) rfl), hw _ (List.mem_of_getElem? (i := 156) rfl), hw _ (List.mem_of_getElem? (i := 158) rfl)⟩, ⟨hw _ (List.mem_of_getElem? (i := 164) rfl), hw _ (List.mem_of_getElem? (i := 165) rfl), hw _ (List.mem_of_getElem? (i := 167) rfl)⟩, ⟨hw _ (List.mem_of_getElem? (i := 169) rfl), hw _ (List.mem_of_getElem? (i := 170) rfl), hw _ (List.mem_of_getElem? (i := 172) rfl)⟩, ⟨hw _ (List.mem_of_getElem? (i := 178) rfl), hw _ (List.mem_of_getElem? (i := 179) rfl), hw _ (List.mem_of_getElem? (i := 181) rfl)⟩, trivial⟩
theorem tl_sm {a0 : Array Value} {Z : State} (hw : ∀ d ∈ tables_1, d.before a0 Z = true) : ∀ x q, lsm LL x = some q → (Jvm.Cond.methodLink "BitplaneMqCoderL1" x (lnmT q)).before a0 Z = true := fun x q h => by cases h
set_option maxRecDepth 65536 in
set_option maxHeartbeats 8000000 in
theorem tl_inf {a0 : Array Value} {Z : State} (hw : ∀ d ∈ tables_1, d.before a0 Z = true) : ∀ q ps ml rk fr lc, linf LL q = some (ps, ml, rk, fr, lc) → q ≠ 0 → (lnmT q).cls = "BitplaneMqCoderL1" ∧ (Jvm.Cond.static (lnmT q)).before a0 Z = true ∧ (Jvm.Cond.initialized "BitplaneMqCoderL1").before a0 Z = true ∧ (Jvm.Cond.code (lnmT q) (lbyT q) ml (rty rk)).before a0 Z = true ∧ ∃ params, parseMethodDescriptor (lnmT q).desc = some ⟨params, rty rk⟩ ∧ params.length = ps.length := fun q ps ml rk fr lc h =>
  tab_all (f := LLinf) 1 [(0, ([0, 0, 0, 0, 0], 14, 2, 3, 40))] (fun _ h => cond_ge h) (by decide +kernel) (Q := fun q e => q ≠ 0 → (lnmT q).cls = "BitplaneMqCoderL1" ∧ (Jvm.Cond.static (lnmT q)).before a0 Z = true ∧ (Jvm.Cond.initialized "BitplaneMqCoderL1").before a0 Z = true ∧ (Jvm.Cond.code (lnmT q) (lbyT q) e.2.1 (rty e.2.2.1)).before a0 Z = true ∧ ∃ params, parseMethodDescriptor (lnmT q).desc = some ⟨params, rty e.2.2.1⟩ ∧ params.length = e.1.length) ⟨fun h => absurd rfl h, trivial⟩ q _ h
theorem tabL {a0 : Array Value} {Z : State} (hw : ∀ d ∈ tables_1, d.before a0 Z = true) : TabL PP LL "BitplaneMqCoder" "BitplaneMqCoderL1" nmT lnmT lbyT a0 Z :=
  ⟨tl_code, tl_cst hw, tl_vm hw, fun x h => by cases Nat.eq_of_beq_eq_true h; exact hw _ (List.mem_of_getElem? (i := 3) rfl), tl_sm hw, fun x h => by cases Nat.eq_of_beq_eq_true h; exact hw _ (List.mem_of_getElem? (i := 0) rfl), tl_inf hw, by first | (simp [plainName, overriddenIn]; done) | decide +kernel, by decide⟩
def own_cl (x : Int) : Int := if x < 4 then 4 else if 16 < x then 16 else x
set_option maxRecDepth 65536 in
set_option maxHeartbeats 16000000 in
theorem own_clamp (x : Int) (m : OMem) : f_clampSize x m = some (own_cl x) := by
  unfold f_clampSize own_cl
  by_cases h : x < 4
  · rw [if_pos h, if_pos h]
  · rw [if_neg h, if_neg h]
    by_cases h' : 16 < x
    · rw [if_pos h', if_pos h']
    · rw [if_neg h', if_neg h']
def own_Fr (m m' : OMem) : Prop := ∀ k i, k ≤ 14 → (k = 0 → i ≠ 32) → m' k i = m k i
set_option maxRecDepth 65536 in
set_option maxHeartbeats 16000000 in
theorem own_ps {m0 m : OMem} (x : Int) (hf : own_Fr m0 m) : Ok (f_putState x m) (own_Fr m0) := by
  repeat' (first | ((with_reducible refine Ok.grd ?_ ?_); (focus (first | omega | (simp [sto, z0_at, w32]; done) | (simp [sto, z0_at, w32]; omega)))) | ((with_reducible refine Ok.ite (fun h => ?_) (fun h => ?_)) <;> (try simp [sto, z0_at, w32] at h) <;> (try (exfalso; omega))) | (with_reducible refine Ok.bind' ?_) | ((with_reducible refine Ok.ret ?_); (try dsimp only)) | (with_reducible refine Ok.lpNN ?_) | (with_reducible refine Ok.lp1 ?_) | ((conv => arg 1; rw [f_putState]); (try dsimp only)) | ((conv => arg 1; rw [f_putState_b36]); (try dsimp only)))
  all_goals (intro k i hk hi; rw [← hf k i hk hi]; try (simp [sto]; omega))
set_option maxRecDepth 65536 in
set_option maxHeartbeats 16000000 in
theorem own_sbr {m0 m : OMem} {x1 : Int} (x2 x3 x4 x5 : Int) (hf : own_Fr m0 m) (hx : 0 ≤ x1 ∧ x1 ≤ 6) : Ok (f_setBandRect x1 x2 x3 x4 x5 m) (own_Fr m0) := by
  repeat' (first | ((with_reducible refine Ok.grd ?_ ?_); (focus (first | omega | (simp [sto, z0_at, w32]; done) | (simp [sto, z0_at, w32]; omega)))) | ((with_reducible refine Ok.ite (fun h => ?_) (fun h => ?_)) <;> (try simp [sto, z0_at, w32] at h) <;> (try (exfalso; omega))) | (with_reducible refine Ok.bind' ?_) | ((with_reducible refine Ok.ret ?_); (try dsimp only)) | (with_reducible refine Ok.lpNN ?_) | (with_reducible refine Ok.lp1 ?_) | ((conv => arg 1; rw [f_setBandRect]); (try dsimp only)) | ((conv => arg 1; rw [f_setBandRect_b10]); (try dsimp only)))
  all_goals (intro k i hk hi; rw [← hf k i hk hi]; try (simp [sto]; omega))
set_option maxRecDepth 65536 in
set_option maxHeartbeats 16000000 in
theorem own_low {m0 m : OMem} (hfr : own_Fr m0 m) : Ok (f_loadStatesLow m) (own_Fr m0) := by
  unfold f_loadStatesLow
  iterate 24 refine Ok.bind (own_ps _ hfr) fun m hfr => ?_
  exact Ok.ret hfr
set_option maxRecDepth 65536 in
set_option maxHeartbeats 16000000 in
theorem own_high {m0 m : OMem} (hfr : own_Fr m0 m) : Ok (f_loadStatesHigh m) (own_Fr m0) := by
  unfold f_loadStatesHigh
  iterate 23 refine Ok.bind (own_ps _ hfr) fun m hfr => ?_
  exact Ok.ret hfr
set_option maxRecDepth 65536 in
set_option maxHeartbeats 16000000 in
theorem own_s32 {m0 m : OMem} (z : Int) (h : own_Fr m0 m) : own_Fr m0 (sto m 0 32 z) := fun k i hk hi => by
  rw [← h k i hk hi]; simp only [sto]; exact if_neg (fun hh => hi hh.1 hh.2)
set_option maxRecDepth 65536 in
set_option maxHeartbeats 16000000 in
theorem own_init (x0 x1 : Int) : Ok (f_init x0 x1 z0) (fun m => m 0 26 = own_cl x0 ∧ m 0 27 = own_cl x1 ∧ m 0 28 = div32 (w32 (own_cl x0 + 1)) 2 ∧ m 0 29 = div32 (w32 (own_cl x1 + 1)) 2 ∧ m 0 30 = div32 (w32 ((div32 (w32 (own_cl x0 + 1)) 2) + 1)) 2 ∧ m 0 31 = div32 (w32 ((div32 (w32 (own_cl x1 + 1)) 2) + 1)) 2 ∧ m 0 35 = 0 ∧ m 0 36 = 0 ∧ ∀ i, m 1 i = 0) := by
  unfold f_init
  refine Ok.bindE (own_clamp _ _) ?_
  refine Ok.bindE (own_clamp _ _) ?_
  refine Ok.bind (own_sbr _ _ _ _ (fun _ _ _ _ => rfl) (by omega)) fun m hfr => ?_
  iterate 6 refine Ok.bind (own_sbr _ _ _ _ hfr (by omega)) fun m hfr => ?_
  refine Ok.bind (own_low (own_s32 0 hfr)) fun m hfr => ?_
  refine Ok.bind (own_high hfr) fun m hfr => Ok.ret ?_
  refine ⟨?_, ?_, ?_, ?_, ?_, ?_, ?_, ?_, fun i => ?_⟩
  all_goals (rw [hfr _ _ (by omega) (by omega)]; simp [sto, z0_at])
set_option maxRecDepth 65536 in
set_option maxHeartbeats 16000000 in
theorem own_cl_rng (x : Int) : 4 ≤ own_cl x ∧ own_cl x ≤ 16 := by unfold own_cl; omega

set_option maxRecDepth 65536 in
set_option maxHeartbeats 16000000 in
theorem own_1 (x2 x3 x4 W H a b c d : Int) (m : OMem) (hW : 4 ≤ W ∧ W ≤ 16) (hH : 4 ≤ H ∧ H ≤ 16) (a1 : m 0 26 = W) (a2 : m 0 27 = H) (ha : div32 (w32 (W + 1)) 2 = a) (hb : div32 (w32 (H + 1)) 2 = b) (hc : div32 (w32 (a + 1)) 2 = c) (hd : div32 (w32 (b + 1)) 2 = d) (b1 : m 0 28 = a) (b2 : m 0 29 = b) (b3 : m 0 30 = c) (b4 : m 0 31 = d) (a3 : m 0 35 = 0) (a5 : ∀ i, m 1 i = 0) : Ok (l_law_b55 x2 x3 x4 W H m) (fun r => r.1 = 1) := by
  have key : ∀ s0 : Int, (s0 = 1 ↔ 0 ≤ x2 ∧ x2 < W ∧ 0 ≤ x3 ∧ x3 < H) → (s0 = 0 ∨ s0 = 1) → Ok (l_law_b82 x2 x3 x4 W H s0 m) (fun r => r.1 = 1) := by
    intro s0 hs hs'
    unfold l_law_b82
    rw [ha, hb, hc, hd]
    clear ha hb hc hd
    repeat' (first | ((with_reducible refine Ok.grd ?_ ?_); (focus (first | omega | (simp [sto, z0_at, w32, a1, a2, a3, a5, b1, b2, b3, b4, and32_255]; done) | (simp [sto, z0_at, w32, a1, a2, a3, a5, b1, b2, b3, b4, and32_255]; omega)))) | ((with_reducible refine Ok.ite (fun h => ?_) (fun h => ?_)) <;> (try simp [sto, z0_at, w32, a1, a2, a3, a5, b1, b2, b3, b4, and32_255] at h) <;> (try (exfalso; omega))) | (with_reducible refine Ok.bind' ?_) | ((with_reducible refine Ok.ret ?_); (try dsimp only)) | (with_reducible refine Ok.lpNN ?_) | (with_reducible refine Ok.lp1 ?_) | ((conv => arg 1; rw [f_clampSize]); (try dsimp only)) | ((conv => arg 1; rw [f_setBandRect_b10]); (try dsimp only)) | ((conv => arg 1; rw [f_setBandRect]); (try dsimp only)) | ((conv => arg 1; rw [f_putState_b36]); (try dsimp only)) | ((conv => arg 1; rw [f_putState]); (try dsimp only)) | ((conv => arg 1; rw [f_loadStatesLow]); (try dsimp only)) | ((conv => arg 1; rw [f_loadStatesHigh]); (try dsimp only)) | ((conv => arg 1; rw [f_init]); (try dsimp only)) | ((conv => arg 1; rw [f_getWidth]); (try dsimp only)) | ((conv => arg 1; rw [f_getHeight]); (try dsimp only)) | ((conv => arg 1; rw [f_inRange_b29]); (try dsimp only)) | ((conv => arg 1; rw [f_inRange_b28]); (try dsimp only)) | ((conv => arg 1; rw [f_inRange]); (try dsimp only)) | ((conv => arg 1; rw [f_getPixel]); (try dsimp only)) | ((conv => arg 1; rw [f_getBand_b83]); (try dsimp only)) | ((conv => arg 1; rw [f_getBand_b65]); (try dsimp only)) | ((conv => arg 1; rw [f_getBand_b47]); (try dsimp only)) | ((conv => arg 1; rw [f_getBand_b29]); (try dsimp only)) | ((conv => arg 1; rw [f_getBand]); (try dsimp only)) | ((conv => arg 1; rw [f_getCoefficient]); (try dsimp only)) | ((conv => arg 1; rw [f_decode_b19]); (try dsimp only)) | ((conv => arg 1; rw [f_decode]); (try dsimp only)) | ((conv => arg 1; rw [l_law_b317]); (try dsimp only)) | ((conv => arg 1; rw [l_law_b268]); (try dsimp only)) | ((conv => arg 1; rw [l_law_b227]); (try dsimp only)) | ((conv => arg 1; rw [l_law_b199]); (try dsimp only)) | ((conv => arg 1; rw [l_law_b181]); (try dsimp only)) | ((conv => arg 1; rw [l_law_b163]); (try dsimp only)) | ((conv => arg 1; rw [l_law_b145]); (try dsimp only)) | ((conv => arg 1; rw [l_law_b82]); (try dsimp only)) | ((conv => arg 1; rw [l_law_b81]); (try dsimp only)) | ((conv => arg 1; rw [l_law_b55]); (try dsimp only)) | ((conv => arg 1; rw [l_law_b32]); (try dsimp only)) | ((conv => arg 1; rw [l_law]); (try dsimp only)))
    all_goals (first | trivial | omega | (unfold w32; omega) | (simp [sto, z0_at, w32, a1, a2, a3, a5, b1, b2, b3, b4, and32_255]; done) | (simp [sto, z0_at, w32, a1, a2, a3, a5, b1, b2, b3, b4, and32_255]; omega))
  unfold l_law_b55 l_law_b81
  refine Ok.ite (fun h => key 0 (by omega) (by omega)) (fun h => Ok.ite (fun h' => Ok.ite (fun h2 => key 0 (by omega) (by omega)) (fun h2 => Ok.ite (fun h3 => key 1 (by omega) (by omega)) (fun h3 => key 0 (by omega) (by omega)))) (fun h' => key 0 (by omega) (by omega)))
set_option maxRecDepth 65536 in
set_option maxHeartbeats 16000000 in
theorem law_true (x0 x1 x2 x3 x4 : Int) (h0 : -2147483648 ≤ x0 ∧ x0 < 2147483648) (h1 : -2147483648 ≤ x1 ∧ x1 < 2147483648) (h2 : -2147483648 ≤ x2 ∧ x2 < 2147483648) (h3 : -2147483648 ≤ x3 ∧ x3 < 2147483648) (h4 : -2147483648 ≤ x4 ∧ x4 < 2147483648) : ∃ W, l_law x0 x1 x2 x3 x4 = some (1, W) := by
  refine Ok.law ?_
  unfold l_law
  refine Ok.bind (own_init x0 x1) fun m ⟨a1, a2, b1, b2, b3, b4, a3, a4, a5⟩ => ?_
  have key : Ok (l_law_b55 x2 x3 x4 (own_cl x0) (own_cl x1) m) (fun r => r.1 = 1) := own_1 x2 x3 x4 _ _ _ _ _ _ m (own_cl_rng x0) (own_cl_rng x1) a1 a2 rfl rfl rfl rfl b1 b2 b3 b4 a3 a5
  have k32 : ∀ s, s = own_cl x0 → Ok (l_law_b32 x1 x2 x3 x4 s m) (fun r => r.1 = 1) := by
    rintro s rfl
    unfold l_law_b32
    unfold own_cl at key
    refine Ok.ite (fun h => ?_) (fun h => Ok.ite (fun h' => ?_) (fun h' => ?_))
    · rw [if_pos h] at key; exact key
    · rw [if_neg h, if_pos h'] at key; exact key
    · rw [if_neg h, if_neg h'] at key; exact key
  refine Ok.ite (fun h => ?_) (fun h => Ok.ite (fun h' => ?_) (fun h' => ?_))
  · exact k32 _ (by unfold own_cl; omega)
  · exact k32 _ (by unfold own_cl; omega)
  · exact k32 _ (by unfold own_cl; omega)

set_option maxRecDepth 65536 in
set_option maxHeartbeats 8000000 in
set_option maxHeartbeats 4000000 in
theorem comes_1 {Post : Tables → Env → Array Value → State → Outcome → State → Prop} (hpost : ∀ tb e args s v u, (limb_1_1.after args s (.returned v) u = true ∧ limb_1_2.after args s (.returned v) u = true ∧ True) → FrameEnd s (.returned v) u (Jvm.fieldLocs frame_1_writes args s ++ Jvm.arrayLocs frame_1_arrays args s ++ Jvm.staticLocs frame_1_statics s) 64 72192 → Post tb e args s (.returned v) u) :
    ArmFor flags0 classFile x code maxLocals ret World_1 tables_1 room_1 Calls_1 rest_1 Pre_1 Post := by
  intro l hfl _ _ p e ha hc hk s m args below hf hA hF happ hP
  obtain ⟨hcalls, hrest, hpre⟩ := hP
  obtain ⟨-, -, -, hnamed, -, -, -, hat⟩ := (Spec.applies_iff hf).mp happ
  obtain ⟨hg, hn⟩ := and_e (Cond.before_iff.mp (show (Jvm.Cond.and given_1 narrow_1).before args s = true from hpre))
  have hw := fun d (hd : d ∈ tables_1) => atoms_spec (ws := Jvm.Cond.code x code maxLocals ret :: tables_1) hat d (List.mem_cons_of_mem _ hd)
  have hfit : Fit s := fun {y c} hc i hi => by
    obtain ⟨ha, rfl⟩ := Array.getElem?_eq_some_iff.mp hc
    have q := List.all_eq_true.mp ((Array.all_eq_true_iff_forall_mem.mp hF) _ (Array.getElem_mem ha)) i (List.mem_range.mpr hi)
    simpa [Array.getElem?_eq_getElem hi] using q
  obtain ⟨hcnt, g0⟩ := and_e hg
  obtain ⟨w0, w1, w2, w3, w4, rfl⟩ : ∃ w0 w1 w2 w3 w4 : Value, args = #[w0, w1, w2, w3, w4] := by
    have hs : args.size = 5 := by simpa [Cond.value, given_1] using hcnt
    obtain ⟨L⟩ := args
    match L, hs with
    | [w0, w1, w2, w3, w4], _ => exact ⟨w0, w1, w2, w3, w4, rfl⟩
  obtain ⟨k0, g1⟩ := and_e g0
  obtain ⟨k1, g2⟩ := and_e g1
  obtain ⟨k2, g3⟩ := and_e g2
  obtain ⟨k3, g4⟩ := and_e g3
  obtain ⟨i0, ei0⟩ := is_v k0
  obtain rfl : w0 = (.int i0) := Option.some.inj ei0
  obtain ⟨i1, ei1⟩ := is_v k1
  obtain rfl : w1 = (.int i1) := Option.some.inj ei1
  obtain ⟨i2, ei2⟩ := is_v k2
  obtain rfl : w2 = (.int i2) := Option.some.inj ei2
  obtain ⟨i3, ei3⟩ := is_v k3
  obtain rfl : w3 = (.int i3) := Option.some.inj ei3
  obtain ⟨i4, ei4⟩ := is_v g4
  obtain rfl : w4 = (.int i4) := Option.some.inj ei4
  obtain ⟨W, hlaw⟩ := law_true i0.toInt i1.toInt i2.toInt i3.toInt i4.toInt (rng32 i0) (rng32 i1) (rng32 i2) (rng32 i3) (rng32 i4)
  obtain ⟨N, hN⟩ := l_law_ok i0.toInt i1.toInt i2.toInt i3.toInt i4.toInt _ hlaw _ ⟨0, rfl⟩
  have hM := lawMet (sc := (false, 0, fun _ => 0)) (mo := 1) (as := [vi i0.toInt, vi i1.toInt, vi i2.toInt, vi i3.toInt, vi i4.toInt]) (vals := [.int i0, .int i1, .int i2, .int i3, .int i4]) (A := (fun _ => 0)) (rm := room_1) (n0 := s.heap.size) (h := s.heap) (tabP hw) (tabL hw) (by decide) l (x := x) rfl (ps := [0, 0, 0, 0, 0]) (ml := 14) (fr := 3) (lc := 40) rfl hN (Nat.le_of_eq rfl) tables_1 (by decide) (by decide) (by decide) (by decide +kernel) (Nat.le_refl _) (fun q => by cases q) ⟨⟨i0, rfl, rfl⟩, ⟨i1, rfl, rfl⟩, ⟨i2, rfl, rfl⟩, ⟨i3, rfl, rfl⟩, ⟨i4, rfl, rfl⟩, trivial⟩
  obtain ⟨n, o, h1, h2, h3, L, rfl, N, hq⟩ := hM p e ha hc hk s m _ below hf ((Spec.applies_iff_loose hf).mp happ).1 ⟨rfl, State.Warmed39.refl s, rfl⟩ trivial
  exact ⟨n, _, h1, h2, h3, hpost _ _ _ _ _ _ ⟨Cond.after_iff.mpr rfl, Cond.after_iff.mpr (eq_i res_at (Term.int_eval (1)) rfl), trivial⟩ ⟨hq.1, hq.2.1, (hq.2.2.sift fun y hy => Or.inr (N y hy)).mono (by decide) (by decide)⟩⟩
theorem main_1_1 : Claimed_1_1 := comes_1 fun _ _ _ _ _ _ h hF => ⟨h.1, hF⟩
theorem main_1_2 : Claimed_1_2 := comes_1 fun _ _ _ _ _ _ h hF => ⟨h.2.1, hF⟩
end Jvm.Pilot.@@N@@
namespace Jvm.Pilot.@@N@@
open Jvm Jvm.ClassFile Sem Op Lib Jvm.Free Jvm.Stand Jvm.Pilot.@@N@@.Jvm.D
/-! MADE BY PROGRAM (witnessworld.py) out of the Statement's table words and the real class files: 11 classes; the members and pool entries that the words name. The judged class is class 1, her method 1. -/
namespace start1
open Jvm.ClassFile
def u (s : String) : CpInfo := .utf8 (stringToUtf16 s)
/-- a pool by its gaps: so many unusable entries, then the entry; so many at the end -/
def gap : Nat → List CpInfo → List CpInfo
  | 0, r => r
  | n + 1, r => .unusable :: gap n r
def poolList (es : List (Nat × CpInfo)) (last : Nat) : List CpInfo := es.foldr (fun e r => gap e.1 (e.2 :: r)) (gap last [])
def pool (es : List (Nat × CpInfo)) (last : Nat) : Array CpInfo := ⟨poolList es last⟩
def fileOf (pool : Array CpInfo) (this : Nat) (attrs : Array Attribute := #[]) (ms : Array MethodInfo := #[]) (fl : Nat := 33) (sup : Nat := 0) (ifs : Array Nat := #[]) (fds : Array FieldInfo := #[]) : ClassFile where
  minorVersion := 0
  majorVersion := 65
  constantPool := pool
  accessFlags := fl
  thisClass := this
  superClass := sup
  interfaces := ifs
  fields := fds
  methods := ms
  attributes := attrs
def plain (name : String) (sup : Option ClassId) : Class where
  name := name
  kind := .ordinary
  loader := none
  accessFlags := 33
  super := sup
  interfaces := #[]
  cf := none
  fields := #[]
  methods := #[]
  instanceTypes := #[]
  staticTypes := #[]
  resolved := #[]
  callSites := []
  init := .initialized
  statics := none
  mirror := none

def pool0 : Array CpInfo := pool [(5, u "<init>"), (0, u "()V"), (1, .class_ 10), (1, u "java/lang/Object")] 113

def k0c0 : Code := { maxStack := 0, maxLocals := 1, code := object_method_1_code, exceptionTable := #[], attributes := #[] }
def k0m0 : Method := { name := "<init>", desc := "()V", sig := { parameters := [], returnType := none }, accessFlags := 1, code := some k0c0 }
/-- java/lang/Object -/
def k0 : Class := { plain "java/lang/Object" none with
  accessFlags := 33
  interfaces := #[]
  cf := some (fileOf pool0 8 #[] #[{ accessFlags := 1, nameIndex := 5, descriptorIndex := 6, attributes := #[] }] 33 0 #[] #[])
  fields := #[]
  methods := #[k0m0]
  instanceTypes := #[]
  staticTypes := #[]
  resolved := Array.replicate 124 none
  statics := none }

def pool1 : Array CpInfo := pool [(2, .class_ 4), (1, u "java/lang/Object"), (0, u "<init>"), (0, u "()V"), (0, .class_ 8), (0, u "BitplaneMqCoder"), (0, .methodref 7 10), (0, .nameAndType 5 11), (0, u "(II)V"), (0, .methodref 7 13), (0, .nameAndType 14 15), (0, u "getWidth"), (0, u "()I"), (0, .methodref 7 17), (0, .nameAndType 18 15), (0, u "getHeight"), (0, .methodref 7 20), (0, .nameAndType 21 22), (0, u "getPixel"), (0, u "(II)I"), (0, .methodref 7 24), (0, .nameAndType 25 22), (0, u "getBand"), (0, .methodref 7 27), (0, .nameAndType 28 22), (0, u "getCoefficient"), (0, .integer 4293967296), (0, .methodref 7 31), (0, .nameAndType 32 33), (0, u "decode"), (0, u "(I)I"), (0, .class_ 35), (0, u "BitplaneMqCoderL1"), (2, u "law"), (0, u "(IIIII)Z")] 3

def k1m0 : Method := { name := "<init>", desc := "()V", sig := { parameters := [], returnType := none }, accessFlags := 1, code := none }
def k1c1 : Code := { maxStack := 4, maxLocals := 14, code := code, exceptionTable := #[], attributes := #[] }
def k1m1 : Method := { name := "law", desc := "(IIIII)Z", sig := { parameters := [.int, .int, .int, .int, .int], returnType := some .boolean }, accessFlags := 9, code := some k1c1 }
/-- BitplaneMqCoderL1 -/
def k1 : Class := { plain "BitplaneMqCoderL1" (some 0) with
  accessFlags := 49
  interfaces := #[]
  cf := some (fileOf pool1 34 #[] #[{ accessFlags := 1, nameIndex := 5, descriptorIndex := 6, attributes := #[] }, { accessFlags := 9, nameIndex := 38, descriptorIndex := 39, attributes := #[] }] 49 2 #[] #[])
  fields := #[]
  methods := #[k1m0, k1m1]
  instanceTypes := #[]
  staticTypes := #[]
  resolved := Array.replicate 43 none
  statics := none }

def pool2 : Array CpInfo := pool [(1, .methodref 2 3), (0, .class_ 4), (0, .nameAndType 5 6), (0, u "java/lang/Object"), (0, u "<init>"), (0, u "()V"), (0, .fieldref 8 9), (0, .class_ 10), (0, .nameAndType 11 12), (0, u "BitplaneMqCoder"), (0, u "decPasses"), (0, u "I"), (0, .fieldref 8 14), (0, .nameAndType 15 16), (0, u "pix"), (0, u "[I"), (0, .fieldref 8 18), (0, .nameAndType 19 16), (0, u "encPix"), (0, .fieldref 8 21), (0, .nameAndType 22 16), (0, u "coef"), (0, .fieldref 8 24), (0, .nameAndType 25 16), (0, u "work"), (0, .fieldref 8 27), (0, .nameAndType 28 16), (0, u "decCoef"), (0, .fieldref 8 30), (0, .nameAndType 31 16), (0, u "decPix"), (0, .fieldref 8 33), (0, .nameAndType 34 16), (0, u "known"), (0, .fieldref 8 36), (0, .nameAndType 37 16), (0, u "mag"), (0, .fieldref 8 39), (0, .nameAndType 40 41), (0, u "sig"), (0, u "[Z"), (0, .fieldref 8 43), (0, .nameAndType 44 41), (0, u "mark"), (0, .fieldref 8 46), (0, .nameAndType 47 41), (0, u "neg"), (0, .fieldref 8 49), (0, .nameAndType 50 41), (0, u "refined"), (0, .fieldref 8 52), (0, .nameAndType 53 16), (0, u "lineA"), (0, .fieldref 8 55), (0, .nameAndType 56 16), (0, u "lineB"), (0, .fieldref 8 58), (0, .nameAndType 59 16), (0, u "bandX0"), (0, .fieldref 8 61), (0, .nameAndType 62 16), (0, u "bandY0"), (0, .fieldref 8 64), (0, .nameAndType 65 16), (0, u "bandW"), (0, .fieldref 8 67), (0, .nameAndType 68 16), (0, u "bandH"), (0, .fieldref 8 70), (0, .nameAndType 71 16), (0, u "bandPlanes"), (0, .fieldref 8 73), (0, .nameAndType 74 16), (0, u "stateTab"), (0, .fieldref 8 76), (0, .nameAndType 77 16), (0, u "cxI"), (0, .fieldref 8 79), (0, .nameAndType 80 16), (0, u "cxMps"), (0, .integer 32768), (0, .fieldref 8 83), (0, .nameAndType 84 85), (0, u "buf"), (0, u "[B"), (0, .fieldref 8 87), (0, .nameAndType 88 16), (0, u "segStart"), (0, .fieldref 8 90), (0, .nameAndType 91 16), (0, u "segEnd"), (0, .methodref 8 93), (0, .nameAndType 94 95), (0, u "clampSize"), (0, u "(I)I"), (0, .fieldref 8 97), (0, .nameAndType 98 12), (0, u "w"), (0, .fieldref 8 100), (0, .nameAndType 101 12), (0, u "h"), (0, .fieldref 8 103), (0, .nameAndType 104 12), (0, u "cw1"), (0, .fieldref 8 106), (0, .nameAndType 107 12), (0, u "ch1"), (0, .fieldref 8 109), (0, .nameAndType 110 12), (0, u "cw2"), (0, .fieldref 8 112), (0, .nameAndType 113 12), (0, u "ch2"), (0, .methodref 8 115), (0, .nameAndType 116 117), (0, u "setBandRect"), (0, u "(IIIII)V"), (0, .fieldref 8 119), (0, .nameAndType 120 12), (0, u "tabCount"), (0, .methodref 8 122), (0, .nameAndType 123 6), (0, u "loadStatesLow"), (0, .methodref 8 125), (0, .nameAndType 126 6), (0, u "loadStatesHigh"), (0, .methodref 8 128), (0, .nameAndType 129 130), (0, u "inRange"), (0, u "(II)Z"), (4, .fieldref 8 136), (0, .nameAndType 137 138), (0, u "encoding"), (0, u "Z"), (2, u "streamLen"), (6, u "(I)V"), (0, .fieldref 8 150), (0, .nameAndType 151 138), (0, u "encoded"), (0, .fieldref 8 153), (0, .nameAndType 154 138), (0, u "decoded"), (0, .integer 4293967296), (3, u "(II)V"), (3, u "()I"), (8, u "curBand"), (2, u "curX0"), (2, u "curY0"), (2, u "curW"), (2, u "curH"), (6, u "(II)I"), (35, u "eA"), (2, u "eC"), (2, u "eCT"), (2, u "eBP"), (2, u "eB"), (109, u "dStart"), (2, u "dEnd"), (2, u "dBP"), (5, u "dC"), (0, u "J"), (5, u "dCT"), (2, u "dA"), (7, .integer 87553), (0, .methodref 8 381), (0, .nameAndType 382 148), (0, u "putState"), (0, .integer 406529), (0, .integer 595969), (0, .integer 789185), (0, .integer 1901857), (0, .integer 2163233), (0, .integer 415233), (0, .integer 939009), (0, .integer 935937), (0, .integer 931841), (0, .integer 1126401), (0, .integer 1188865), (0, .integer 1317889), (0, .integer 1381889), (0, .integer 939521), (0, .integer 1003777), (0, .integer 1067009), (0, .integer 1128449), (0, .integer 1192961), (0, .integer 1257473), (0, .integer 1255425), (0, .integer 1319937), (0, .integer 1384961), (0, .integer 1448961), (0, .integer 1513473), (0, .integer 1578497), (0, .integer 1643521), (0, .integer 1708545), (0, .integer 1773825), (0, .integer 1837761), (0, .integer 1903041), (0, .integer 1968289), (0, .integer 2032929), (0, .integer 2098241), (0, .integer 2163361), (0, .integer 2228769), (0, .integer 2294081), (0, .integer 2359569), (0, .integer 2424965), (0, .integer 2490441), (0, .integer 2555941), (0, .integer 2621461), (0, .integer 2686985), (0, .integer 2752517), (0, .integer 2818049), (0, .integer 3036673), (0, u "MIN_SIZE"), (2, u "MAX_SIZE"), (1, u "PLANES"), (1, u "MAX_PASSES"), (1, u "KIND_SPP"), (1, u "KIND_MRP"), (1, u "KIND_CUP"), (1, u "BAND_LL2"), (0, u "BAND_HL2"), (0, u "BAND_LH2"), (0, u "BAND_HH2"), (1, u "BAND_HL1"), (0, u "BAND_LH1"), (1, u "BAND_HH1"), (1, u "NO_VALUE"), (2, u "getWidth"), (0, u "getHeight"), (3, u "getPixel"), (2, u "getCoefficient"), (0, u "getBand"), (1, u "decode")] 8

def k2c0 : Code := { maxStack := 7, maxLocals := 3, code := prog_1_method_1_code, exceptionTable := #[], attributes := #[] }
def k2m0 : Method := { name := "<init>", desc := "(II)V", sig := { parameters := [.int, .int], returnType := none }, accessFlags := 1, code := some k2c0 }
def k2c1 : Code := { maxStack := 1, maxLocals := 1, code := prog_1_method_2_code, exceptionTable := #[], attributes := #[] }
def k2m1 : Method := { name := "getWidth", desc := "()I", sig := { parameters := [], returnType := some .int }, accessFlags := 1, code := some k2c1 }
def k2c2 : Code := { maxStack := 1, maxLocals := 1, code := prog_1_method_3_code, exceptionTable := #[], attributes := #[] }
def k2m2 : Method := { name := "getHeight", desc := "()I", sig := { parameters := [], returnType := some .int }, accessFlags := 1, code := some k2c2 }
def k2c3 : Code := { maxStack := 3, maxLocals := 3, code := prog_1_method_5_code, exceptionTable := #[], attributes := #[] }
def k2m3 : Method := { name := "getPixel", desc := "(II)I", sig := { parameters := [.int, .int], returnType := some .int }, accessFlags := 1, code := some k2c3 }
def k2c4 : Code := { maxStack := 3, maxLocals := 3, code := prog_1_method_8_code, exceptionTable := #[], attributes := #[] }
def k2m4 : Method := { name := "getCoefficient", desc := "(II)I", sig := { parameters := [.int, .int], returnType := some .int }, accessFlags := 1, code := some k2c4 }
def k2c5 : Code := { maxStack := 3, maxLocals := 3, code := prog_1_method_9_code, exceptionTable := #[], attributes := #[] }
def k2m5 : Method := { name := "getBand", desc := "(II)I", sig := { parameters := [.int, .int], returnType := some .int }, accessFlags := 1, code := some k2c5 }
def k2c6 : Code := { maxStack := 3, maxLocals := 3, code := prog_1_method_11_code, exceptionTable := #[], attributes := #[] }
def k2m6 : Method := { name := "decode", desc := "(I)I", sig := { parameters := [.int], returnType := some .int }, accessFlags := 1, code := some k2c6 }
def k2c7 : Code := { maxStack := 2, maxLocals := 2, code := prog_1_method_17_code, exceptionTable := #[], attributes := #[] }
def k2m7 : Method := { name := "clampSize", desc := "(I)I", sig := { parameters := [.int], returnType := some .int }, accessFlags := 2, code := some k2c7 }
def k2c8 : Code := { maxStack := 2, maxLocals := 3, code := prog_1_method_18_code, exceptionTable := #[], attributes := #[] }
def k2m8 : Method := { name := "inRange", desc := "(II)Z", sig := { parameters := [.int, .int], returnType := some .boolean }, accessFlags := 2, code := some k2c8 }
def k2c9 : Code := { maxStack := 3, maxLocals := 6, code := prog_1_method_21_code, exceptionTable := #[], attributes := #[] }
def k2m9 : Method := { name := "setBandRect", desc := "(IIIII)V", sig := { parameters := [.int, .int, .int, .int, .int], returnType := none }, accessFlags := 2, code := some k2c9 }
def k2c10 : Code := { maxStack := 3, maxLocals := 2, code := prog_1_method_76_code, exceptionTable := #[], attributes := #[] }
def k2m10 : Method := { name := "putState", desc := "(I)V", sig := { parameters := [.int], returnType := none }, accessFlags := 2, code := some k2c10 }
def k2c11 : Code := { maxStack := 2, maxLocals := 1, code := prog_1_method_77_code, exceptionTable := #[], attributes := #[] }
def k2m11 : Method := { name := "loadStatesLow", desc := "()V", sig := { parameters := [], returnType := none }, accessFlags := 2, code := some k2c11 }
def k2c12 : Code := { maxStack := 2, maxLocals := 1, code := prog_1_method_78_code, exceptionTable := #[], attributes := #[] }
def k2m12 : Method := { name := "loadStatesHigh", desc := "()V", sig := { parameters := [], returnType := none }, accessFlags := 2, code := some k2c12 }
/-- BitplaneMqCoder -/
def k2 : Class := { plain "BitplaneMqCoder" (some 0) with
  accessFlags := 49
  interfaces := #[]
  cf := some (fileOf pool2 8 #[] #[{ accessFlags := 1, nameIndex := 5, descriptorIndex := 159, attributes := #[] }, { accessFlags := 1, nameIndex := 456, descriptorIndex := 163, attributes := #[] }, { accessFlags := 1, nameIndex := 457, descriptorIndex := 163, attributes := #[] }, { accessFlags := 1, nameIndex := 461, descriptorIndex := 191, attributes := #[] }, { accessFlags := 1, nameIndex := 464, descriptorIndex := 191, attributes := #[] }, { accessFlags := 1, nameIndex := 465, descriptorIndex := 191, attributes := #[] }, { accessFlags := 1, nameIndex := 467, descriptorIndex := 95, attributes := #[] }, { accessFlags := 2, nameIndex := 94, descriptorIndex := 95, attributes := #[] }, { accessFlags := 2, nameIndex := 129, descriptorIndex := 130, attributes := #[] }, { accessFlags := 2, nameIndex := 116, descriptorIndex := 117, attributes := #[] }, { accessFlags := 2, nameIndex := 382, descriptorIndex := 148, attributes := #[] }, { accessFlags := 2, nameIndex := 123, descriptorIndex := 6, attributes := #[] }, { accessFlags := 2, nameIndex := 126, descriptorIndex := 6, attributes := #[] }] 49 2 #[] #[{ accessFlags := 25, nameIndex := 428, descriptorIndex := 12, attributes := #[] }, { accessFlags := 25, nameIndex := 431, descriptorIndex := 12, attributes := #[] }, { accessFlags := 25, nameIndex := 433, descriptorIndex := 12, attributes := #[] }, { accessFlags := 25, nameIndex := 435, descriptorIndex := 12, attributes := #[] }, { accessFlags := 25, nameIndex := 437, descriptorIndex := 12, attributes := #[] }, { accessFlags := 25, nameIndex := 439, descriptorIndex := 12, attributes := #[] }, { accessFlags := 25, nameIndex := 441, descriptorIndex := 12, attributes := #[] }, { accessFlags := 25, nameIndex := 443, descriptorIndex := 12, attributes := #[] }, { accessFlags := 25, nameIndex := 444, descriptorIndex := 12, attributes := #[] }, { accessFlags := 25, nameIndex := 445, descriptorIndex := 12, attributes := #[] }, { accessFlags := 25, nameIndex := 446, descriptorIndex := 12, attributes := #[] }, { accessFlags := 25, nameIndex := 448, descriptorIndex := 12, attributes := #[] }, { accessFlags := 25, nameIndex := 449, descriptorIndex := 12, attributes := #[] }, { accessFlags := 25, nameIndex := 451, descriptorIndex := 12, attributes := #[] }, { accessFlags := 25, nameIndex := 453, descriptorIndex := 12, attributes := #[] }, { accessFlags := 2, nameIndex := 98, descriptorIndex := 12, attributes := #[] }, { accessFlags := 2, nameIndex := 101, descriptorIndex := 12, attributes := #[] }, { accessFlags := 2, nameIndex := 104, descriptorIndex := 12, attributes := #[] }, { accessFlags := 2, nameIndex := 107, descriptorIndex := 12, attributes := #[] }, { accessFlags := 2, nameIndex := 110, descriptorIndex := 12, attributes := #[] }, { accessFlags := 2, nameIndex := 113, descriptorIndex := 12, attributes := #[] }, { accessFlags := 2, nameIndex := 151, descriptorIndex := 138, attributes := #[] }, { accessFlags := 2, nameIndex := 154, descriptorIndex := 138, attributes := #[] }, { accessFlags := 2, nameIndex := 11, descriptorIndex := 12, attributes := #[] }, { accessFlags := 2, nameIndex := 137, descriptorIndex := 138, attributes := #[] }, { accessFlags := 2, nameIndex := 15, descriptorIndex := 16, attributes := #[] }, { accessFlags := 2, nameIndex := 19, descriptorIndex := 16, attributes := #[] }, { accessFlags := 2, nameIndex := 22, descriptorIndex := 16, attributes := #[] }, { accessFlags := 2, nameIndex := 25, descriptorIndex := 16, attributes := #[] }, { accessFlags := 2, nameIndex := 28, descriptorIndex := 16, attributes := #[] }, { accessFlags := 2, nameIndex := 31, descriptorIndex := 16, attributes := #[] }, { accessFlags := 2, nameIndex := 34, descriptorIndex := 16, attributes := #[] }, { accessFlags := 2, nameIndex := 37, descriptorIndex := 16, attributes := #[] }, { accessFlags := 2, nameIndex := 40, descriptorIndex := 41, attributes := #[] }, { accessFlags := 2, nameIndex := 44, descriptorIndex := 41, attributes := #[] }, { accessFlags := 2, nameIndex := 47, descriptorIndex := 41, attributes := #[] }, { accessFlags := 2, nameIndex := 50, descriptorIndex := 41, attributes := #[] }, { accessFlags := 2, nameIndex := 53, descriptorIndex := 16, attributes := #[] }, { accessFlags := 2, nameIndex := 56, descriptorIndex := 16, attributes := #[] }, { accessFlags := 2, nameIndex := 59, descriptorIndex := 16, attributes := #[] }, { accessFlags := 2, nameIndex := 62, descriptorIndex := 16, attributes := #[] }, { accessFlags := 2, nameIndex := 65, descriptorIndex := 16, attributes := #[] }, { accessFlags := 2, nameIndex := 68, descriptorIndex := 16, attributes := #[] }, { accessFlags := 2, nameIndex := 71, descriptorIndex := 16, attributes := #[] }, { accessFlags := 2, nameIndex := 172, descriptorIndex := 12, attributes := #[] }, { accessFlags := 2, nameIndex := 175, descriptorIndex := 12, attributes := #[] }, { accessFlags := 2, nameIndex := 178, descriptorIndex := 12, attributes := #[] }, { accessFlags := 2, nameIndex := 181, descriptorIndex := 12, attributes := #[] }, { accessFlags := 2, nameIndex := 184, descriptorIndex := 12, attributes := #[] }, { accessFlags := 2, nameIndex := 74, descriptorIndex := 16, attributes := #[] }, { accessFlags := 2, nameIndex := 120, descriptorIndex := 12, attributes := #[] }, { accessFlags := 2, nameIndex := 77, descriptorIndex := 16, attributes := #[] }, { accessFlags := 2, nameIndex := 80, descriptorIndex := 16, attributes := #[] }, { accessFlags := 2, nameIndex := 84, descriptorIndex := 85, attributes := #[] }, { accessFlags := 2, nameIndex := 141, descriptorIndex := 12, attributes := #[] }, { accessFlags := 2, nameIndex := 88, descriptorIndex := 16, attributes := #[] }, { accessFlags := 2, nameIndex := 91, descriptorIndex := 16, attributes := #[] }, { accessFlags := 2, nameIndex := 227, descriptorIndex := 12, attributes := #[] }, { accessFlags := 2, nameIndex := 230, descriptorIndex := 12, attributes := #[] }, { accessFlags := 2, nameIndex := 233, descriptorIndex := 12, attributes := #[] }, { accessFlags := 2, nameIndex := 236, descriptorIndex := 12, attributes := #[] }, { accessFlags := 2, nameIndex := 239, descriptorIndex := 12, attributes := #[] }, { accessFlags := 2, nameIndex := 371, descriptorIndex := 12, attributes := #[] }, { accessFlags := 2, nameIndex := 361, descriptorIndex := 362, attributes := #[] }, { accessFlags := 2, nameIndex := 368, descriptorIndex := 12, attributes := #[] }, { accessFlags := 2, nameIndex := 355, descriptorIndex := 12, attributes := #[] }, { accessFlags := 2, nameIndex := 349, descriptorIndex := 12, attributes := #[] }, { accessFlags := 2, nameIndex := 352, descriptorIndex := 12, attributes := #[] }])
  fields := #[{ name := "MIN_SIZE", type := .int, accessFlags := 25, slot := 0, constantValue := 0 }, { name := "MAX_SIZE", type := .int, accessFlags := 25, slot := 1, constantValue := 0 }, { name := "PLANES", type := .int, accessFlags := 25, slot := 2, constantValue := 0 }, { name := "MAX_PASSES", type := .int, accessFlags := 25, slot := 3, constantValue := 0 }, { name := "KIND_SPP", type := .int, accessFlags := 25, slot := 4, constantValue := 0 }, { name := "KIND_MRP", type := .int, accessFlags := 25, slot := 5, constantValue := 0 }, { name := "KIND_CUP", type := .int, accessFlags := 25, slot := 6, constantValue := 0 }, { name := "BAND_LL2", type := .int, accessFlags := 25, slot := 7, constantValue := 0 }, { name := "BAND_HL2", type := .int, accessFlags := 25, slot := 8, constantValue := 0 }, { name := "BAND_LH2", type := .int, accessFlags := 25, slot := 9, constantValue := 0 }, { name := "BAND_HH2", type := .int, accessFlags := 25, slot := 10, constantValue := 0 }, { name := "BAND_HL1", type := .int, accessFlags := 25, slot := 11, constantValue := 0 }, { name := "BAND_LH1", type := .int, accessFlags := 25, slot := 12, constantValue := 0 }, { name := "BAND_HH1", type := .int, accessFlags := 25, slot := 13, constantValue := 0 }, { name := "NO_VALUE", type := .int, accessFlags := 25, slot := 14, constantValue := 0 }, { name := "w", type := .int, accessFlags := 2, slot := 0, constantValue := 0 }, { name := "h", type := .int, accessFlags := 2, slot := 1, constantValue := 0 }, { name := "cw1", type := .int, accessFlags := 2, slot := 2, constantValue := 0 }, { name := "ch1", type := .int, accessFlags := 2, slot := 3, constantValue := 0 }, { name := "cw2", type := .int, accessFlags := 2, slot := 4, constantValue := 0 }, { name := "ch2", type := .int, accessFlags := 2, slot := 5, constantValue := 0 }, { name := "encoded", type := .boolean, accessFlags := 2, slot := 6, constantValue := 0 }, { name := "decoded", type := .boolean, accessFlags := 2, slot := 7, constantValue := 0 }, { name := "decPasses", type := .int, accessFlags := 2, slot := 8, constantValue := 0 }, { name := "encoding", type := .boolean, accessFlags := 2, slot := 9, constantValue := 0 }, { name := "pix", type := (.array .int), accessFlags := 2, slot := 10, constantValue := 0 }, { name := "encPix", type := (.array .int), accessFlags := 2, slot := 11, constantValue := 0 }, { name := "coef", type := (.array .int), accessFlags := 2, slot := 12, constantValue := 0 }, { name := "work", type := (.array .int), accessFlags := 2, slot := 13, constantValue := 0 }, { name := "decCoef", type := (.array .int), accessFlags := 2, slot := 14, constantValue := 0 }, { name := "decPix", type := (.array .int), accessFlags := 2, slot := 15, constantValue := 0 }, { name := "known", type := (.array .int), accessFlags := 2, slot := 16, constantValue := 0 }, { name := "mag", type := (.array .int), accessFlags := 2, slot := 17, constantValue := 0 }, { name := "sig", type := (.array .boolean), accessFlags := 2, slot := 18, constantValue := 0 }, { name := "mark", type := (.array .boolean), accessFlags := 2, slot := 19, constantValue := 0 }, { name := "neg", type := (.array .boolean), accessFlags := 2, slot := 20, constantValue := 0 }, { name := "refined", type := (.array .boolean), accessFlags := 2, slot := 21, constantValue := 0 }, { name := "lineA", type := (.array .int), accessFlags := 2, slot := 22, constantValue := 0 }, { name := "lineB", type := (.array .int), accessFlags := 2, slot := 23, constantValue := 0 }, { name := "bandX0", type := (.array .int), accessFlags := 2, slot := 24, constantValue := 0 }, { name := "bandY0", type := (.array .int), accessFlags := 2, slot := 25, constantValue := 0 }, { name := "bandW", type := (.array .int), accessFlags := 2, slot := 26, constantValue := 0 }, { name := "bandH", type := (.array .int), accessFlags := 2, slot := 27, constantValue := 0 }, { name := "bandPlanes", type := (.array .int), accessFlags := 2, slot := 28, constantValue := 0 }, { name := "curBand", type := .int, accessFlags := 2, slot := 29, constantValue := 0 }, { name := "curX0", type := .int, accessFlags := 2, slot := 30, constantValue := 0 }, { name := "curY0", type := .int, accessFlags := 2, slot := 31, constantValue := 0 }, { name := "curW", type := .int, accessFlags := 2, slot := 32, constantValue := 0 }, { name := "curH", type := .int, accessFlags := 2, slot := 33, constantValue := 0 }, { name := "stateTab", type := (.array .int), accessFlags := 2, slot := 34, constantValue := 0 }, { name := "tabCount", type := .int, accessFlags := 2, slot := 35, constantValue := 0 }, { name := "cxI", type := (.array .int), accessFlags := 2, slot := 36, constantValue := 0 }, { name := "cxMps", type := (.array .int), accessFlags := 2, slot := 37, constantValue := 0 }, { name := "buf", type := (.array .byte), accessFlags := 2, slot := 38, constantValue := 0 }, { name := "streamLen", type := .int, accessFlags := 2, slot := 39, constantValue := 0 }, { name := "segStart", type := (.array .int), accessFlags := 2, slot := 40, constantValue := 0 }, { name := "segEnd", type := (.array .int), accessFlags := 2, slot := 41, constantValue := 0 }, { name := "eA", type := .int, accessFlags := 2, slot := 42, constantValue := 0 }, { name := "eC", type := .int, accessFlags := 2, slot := 43, constantValue := 0 }, { name := "eCT", type := .int, accessFlags := 2, slot := 44, constantValue := 0 }, { name := "eBP", type := .int, accessFlags := 2, slot := 45, constantValue := 0 }, { name := "eB", type := .int, accessFlags := 2, slot := 46, constantValue := 0 }, { name := "dA", type := .int, accessFlags := 2, slot := 47, constantValue := 0 }, { name := "dC", type := .long, accessFlags := 2, slot := 48, constantValue := 0 }, { name := "dCT", type := .int, accessFlags := 2, slot := 49, constantValue := 0 }, { name := "dBP", type := .int, accessFlags := 2, slot := 50, constantValue := 0 }, { name := "dStart", type := .int, accessFlags := 2, slot := 51, constantValue := 0 }, { name := "dEnd", type := .int, accessFlags := 2, slot := 52, constantValue := 0 }]
  methods := #[k2m0, k2m1, k2m2, k2m3, k2m4, k2m5, k2m6, k2m7, k2m8, k2m9, k2m10, k2m11, k2m12]
  instanceTypes := #[.int, .int, .int, .int, .int, .int, .boolean, .boolean, .int, .boolean, (.array .int), (.array .int), (.array .int), (.array .int), (.array .int), (.array .int), (.array .int), (.array .int), (.array .boolean), (.array .boolean), (.array .boolean), (.array .boolean), (.array .int), (.array .int), (.array .int), (.array .int), (.array .int), (.array .int), (.array .int), .int, .int, .int, .int, .int, (.array .int), .int, (.array .int), (.array .int), (.array .byte), .int, (.array .int), (.array .int), .int, .int, .int, .int, .int, .int, .long, .int, .int, .int, .int]
  staticTypes := #[.int, .int, .int, .int, .int, .int, .int, .int, .int, .int, .int, .int, .int, .int, .int]
  resolved := Array.replicate 476 none
  statics := none }

def pool3 : Array CpInfo := pool [(1, u "java/lang/Cloneable"), (0, .class_ 1), (0, u "java/lang/Object"), (0, .class_ 3)] 3

/-- java/lang/Cloneable -/
def k3 : Class := { plain "java/lang/Cloneable" (some 0) with
  accessFlags := 1537
  interfaces := #[]
  cf := some (fileOf pool3 2 #[] #[] 1537 4 #[] #[])
  fields := #[]
  methods := #[]
  instanceTypes := #[]
  staticTypes := #[]
  resolved := Array.replicate 8 none
  statics := none }

def pool4 : Array CpInfo := pool [(1, u "java/io/Serializable"), (0, .class_ 1), (0, u "java/lang/Object"), (0, .class_ 3)] 3

/-- java/io/Serializable -/
def k4 : Class := { plain "java/io/Serializable" (some 0) with
  accessFlags := 1537
  interfaces := #[]
  cf := some (fileOf pool4 2 #[] #[] 1537 4 #[] #[])
  fields := #[]
  methods := #[]
  instanceTypes := #[]
  staticTypes := #[]
  resolved := Array.replicate 8 none
  statics := none }

/-- the primitive boolean -/
def k5 : Class := { plain "boolean" none with kind := .primitive 'Z', accessFlags := 0x411 }
/-- [Z -/
def k6 : Class := { plain "[Z" (some 0) with kind := .array 5 .boolean, interfaces := #[3, 4], accessFlags := 1041 }

/-- the primitive byte -/
def k7 : Class := { plain "byte" none with kind := .primitive 'B', accessFlags := 0x411 }
/-- [B -/
def k8 : Class := { plain "[B" (some 0) with kind := .array 7 .byte, interfaces := #[3, 4], accessFlags := 1041 }

/-- the primitive int -/
def k9 : Class := { plain "int" none with kind := .primitive 'I', accessFlags := 0x411 }
/-- [I -/
def k10 : Class := { plain "[I" (some 0) with kind := .array 9 .int, interfaces := #[3, 4], accessFlags := 1041 }

def heap : Heap := #[]
def classes : Array Class := #[k0, k1, k2, k3, k4, k5, k6, k7, k8, k9, k10]
def interned : List (Array UInt16 × Addr) := []
def slotsUsed : Nat := 0
def theMethod : MethodId := ⟨1, 1⟩
def args0 : Array Value := #[.int 5, .int 5, .int 5, .int 5, .int 5]
def aboutOver (below : List Frame) : State where
  vm := { classes := classes, interned := interned.toArray }
  heap := heap
  slotsUsed := slotsUsed
  threads := #[{ frames := .invoking theMethod args0 :: below }]
def below0 : List Frame := [.native { method := ⟨0, 0⟩, args := #[] }]
def about1 : State := aboutOver below0
def p0 : Program := .bare "" "" ""
def e0 : Env := launch0.env 0 0 0
theorem w_frames : about1.frames = Frame.invoking theMethod args0 :: below0 := rfl
set_option maxRecDepth 65536 in
theorem w_args : argsFit about1.vm theMethod args0 = true := by decide +kernel
set_option maxRecDepth 65536 in
theorem w_heap : heapFits about1 = true := by decide +kernel
set_option maxRecDepth 65536 in
theorem w_runnable : about1.curStatus? = some .runnable := by decide +kernel
set_option maxRecDepth 65536 in
theorem w_alone : about1.alone = true := by decide +kernel
set_option maxRecDepth 65536 in
theorem w_named : about1.methodNamed? x = some theMethod := by decide +kernel
set_option maxRecDepth 65536 in
theorem w_hears : about1.hears theMethod below0 = true := by decide +kernel
set_option maxRecDepth 65536 in
theorem w_ripe : about1.ripe theMethod args0 below0 = true := by decide +kernel
theorem w_running : about1.status = .running := rfl
set_option maxRecDepth 65536 in
theorem w_room : about1.hasRoom e0.platform room_1 = true :=
  launch0.hasRoom_least _ room_1 (by decide +kernel) (by decide +kernel) (by decide +kernel) (by decide +kernel) (by decide +kernel) (by decide +kernel)
theorem allAtoms_all (ts : List Jvm.Cond) (a : Array Jvm.Value) (st : Jvm.State) : (allAtoms ts).before a st = ts.all (fun c => c.before a st) := by
  induction ts with
  | nil => rfl
  | cons c t ih =>
    show (Jvm.Cond.and c (allAtoms t)).before a st = _
    rw [Jvm.Cond.before_and, ih, List.all_cons]
def words1 : List Jvm.Cond := Jvm.Cond.code x code maxLocals ret :: tables_1
/-- a 'code' word, met by the world's own term for the bytes: nothing is compared byte by byte -/
theorem code_word {y : MethodName} {bytes : ByteArray} {mx : Nat} {rt : Option FieldType} {a : Array Value} {s : State} {m : MethodId} {meth : Method} {c : Code} (h1 : s.methodNamed? y = some m) (h2 : s.vm.method? m = some meth) (h3 : meth.code = some c) (h4 : c.code = bytes)
    (h5 : (c.maxLocals == mx && c.exceptionTable.isEmpty && decide (c.maxStack ≤ mostOperands) && decide (meth.sig.returnType = rt) && !meth.locks && decide (parseMethodDescriptor y.desc = some meth.sig)) = true) : (Jvm.Cond.code y bytes mx rt).before a s = true := by
  simp only [Bool.and_eq_true, beq_iff_eq, Bool.not_eq_true', decide_eq_true_eq] at h5
  obtain ⟨⟨⟨⟨⟨g1, g2⟩, g3⟩, g4⟩, g5⟩, g6⟩ := h5
  simp [Cond.before, Cond.holds, Cond.value, h1, h2, h3, h4, g1, g2, g3, g4, g5, g6]
def isCode : Jvm.Cond → Bool
  | .code _ _ _ _ => true
  | _ => false
theorem all_split {L : List Jvm.Cond} {P : Jvm.Cond → Bool} (h1 : L.all (fun c => isCode c || P c) = true) (h2 : ∀ c ∈ L.filter isCode, P c = true) : L.all P = true := by
  refine List.all_eq_true.mpr fun c hc => ?_
  have h := List.all_eq_true.mp h1 c hc
  rcases Bool.eq_false_or_eq_true (isCode c) with hi | hi
  · exact h2 c (List.mem_filter.mpr ⟨hc, hi⟩)
  · simpa [hi] using h
set_option maxRecDepth 65536 in
theorem w_c0 : (Jvm.Cond.code x code maxLocals ret).before args0 about1 = true := code_word (m := ⟨1, 1⟩) (meth := k1m1) (c := k1c1) (by decide +kernel) rfl rfl rfl (by decide +kernel)
set_option maxRecDepth 65536 in
theorem w_c1 : (Jvm.Cond.code ({ cls := "BitplaneMqCoder", name := "<init>", desc := "(II)V" } : Jvm.MethodName) prog_1_method_1_code (3 : Nat) (Option.none : Option Jvm.ClassFile.FieldType)).before args0 about1 = true := code_word (m := ⟨2, 0⟩) (meth := k2m0) (c := k2c0) (by decide +kernel) rfl rfl rfl (by decide +kernel)
set_option maxRecDepth 65536 in
theorem w_c2 : (Jvm.Cond.code ({ cls := "java/lang/Object", name := "<init>", desc := "()V" } : Jvm.MethodName) object_method_1_code (1 : Nat) (Option.none : Option Jvm.ClassFile.FieldType)).before args0 about1 = true := code_word (m := ⟨0, 0⟩) (meth := k0m0) (c := k0c0) (by decide +kernel) rfl rfl rfl (by decide +kernel)
set_option maxRecDepth 65536 in
theorem w_c3 : (Jvm.Cond.code ({ cls := "BitplaneMqCoder", name := "clampSize", desc := "(I)I" } : Jvm.MethodName) prog_1_method_17_code (2 : Nat) (Option.some Jvm.ClassFile.FieldType.int)).before args0 about1 = true := code_word (m := ⟨2, 7⟩) (meth := k2m7) (c := k2c7) (by decide +kernel) rfl rfl rfl (by decide +kernel)
set_option maxRecDepth 65536 in
theorem w_c4 : (Jvm.Cond.code ({ cls := "BitplaneMqCoder", name := "setBandRect", desc := "(IIIII)V" } : Jvm.MethodName) prog_1_method_21_code (6 : Nat) (Option.none : Option Jvm.ClassFile.FieldType)).before args0 about1 = true := code_word (m := ⟨2, 9⟩) (meth := k2m9) (c := k2c9) (by decide +kernel) rfl rfl rfl (by decide +kernel)
set_option maxRecDepth 65536 in
theorem w_c5 : (Jvm.Cond.code ({ cls := "BitplaneMqCoder", name := "loadStatesLow", desc := "()V" } : Jvm.MethodName) prog_1_method_77_code (1 : Nat) (Option.none : Option Jvm.ClassFile.FieldType)).before args0 about1 = true := code_word (m := ⟨2, 11⟩) (meth := k2m11) (c := k2c11) (by decide +kernel) rfl rfl rfl (by decide +kernel)
set_option maxRecDepth 65536 in
theorem w_c6 : (Jvm.Cond.code ({ cls := "BitplaneMqCoder", name := "putState", desc := "(I)V" } : Jvm.MethodName) prog_1_method_76_code (2 : Nat) (Option.none : Option Jvm.ClassFile.FieldType)).before args0 about1 = true := code_word (m := ⟨2, 10⟩) (meth := k2m10) (c := k2c10) (by decide +kernel) rfl rfl rfl (by decide +kernel)
set_option maxRecDepth 65536 in
theorem w_c7 : (Jvm.Cond.code ({ cls := "BitplaneMqCoder", name := "loadStatesHigh", desc := "()V" } : Jvm.MethodName) prog_1_method_78_code (1 : Nat) (Option.none : Option Jvm.ClassFile.FieldType)).before args0 about1 = true := code_word (m := ⟨2, 12⟩) (meth := k2m12) (c := k2c12) (by decide +kernel) rfl rfl rfl (by decide +kernel)
set_option maxRecDepth 65536 in
theorem w_c8 : (Jvm.Cond.code ({ cls := "BitplaneMqCoder", name := "getWidth", desc := "()I" } : Jvm.MethodName) prog_1_method_2_code (1 : Nat) (Option.some Jvm.ClassFile.FieldType.int)).before args0 about1 = true := code_word (m := ⟨2, 1⟩) (meth := k2m1) (c := k2c1) (by decide +kernel) rfl rfl rfl (by decide +kernel)
set_option maxRecDepth 65536 in
theorem w_c9 : (Jvm.Cond.code ({ cls := "BitplaneMqCoder", name := "getHeight", desc := "()I" } : Jvm.MethodName) prog_1_method_3_code (1 : Nat) (Option.some Jvm.ClassFile.FieldType.int)).before args0 about1 = true := code_word (m := ⟨2, 2⟩) (meth := k2m2) (c := k2c2) (by decide +kernel) rfl rfl rfl (by decide +kernel)
set_option maxRecDepth 65536 in
theorem w_c10 : (Jvm.Cond.code ({ cls := "BitplaneMqCoder", name := "getPixel", desc := "(II)I" } : Jvm.MethodName) prog_1_method_5_code (3 : Nat) (Option.some Jvm.ClassFile.FieldType.int)).before args0 about1 = true := code_word (m := ⟨2, 3⟩) (meth := k2m3) (c := k2c3) (by decide +kernel) rfl rfl rfl (by decide +kernel)
set_option maxRecDepth 65536 in
theorem w_c11 : (Jvm.Cond.code ({ cls := "BitplaneMqCoder", name := "inRange", desc := "(II)Z" } : Jvm.MethodName) prog_1_method_18_code (3 : Nat) (Option.some Jvm.ClassFile.FieldType.boolean)).before args0 about1 = true := code_word (m := ⟨2, 8⟩) (meth := k2m8) (c := k2c8) (by decide +kernel) rfl rfl rfl (by decide +kernel)
set_option maxRecDepth 65536 in
theorem w_c12 : (Jvm.Cond.code ({ cls := "BitplaneMqCoder", name := "getBand", desc := "(II)I" } : Jvm.MethodName) prog_1_method_9_code (3 : Nat) (Option.some Jvm.ClassFile.FieldType.int)).before args0 about1 = true := code_word (m := ⟨2, 5⟩) (meth := k2m5) (c := k2c5) (by decide +kernel) rfl rfl rfl (by decide +kernel)
set_option maxRecDepth 65536 in
theorem w_c13 : (Jvm.Cond.code ({ cls := "BitplaneMqCoder", name := "getCoefficient", desc := "(II)I" } : Jvm.MethodName) prog_1_method_8_code (3 : Nat) (Option.some Jvm.ClassFile.FieldType.int)).before args0 about1 = true := code_word (m := ⟨2, 4⟩) (meth := k2m4) (c := k2c4) (by decide +kernel) rfl rfl rfl (by decide +kernel)
set_option maxRecDepth 65536 in
theorem w_c14 : (Jvm.Cond.code ({ cls := "BitplaneMqCoder", name := "decode", desc := "(I)I" } : Jvm.MethodName) prog_1_method_11_code (3 : Nat) (Option.some Jvm.ClassFile.FieldType.int)).before args0 about1 = true := code_word (m := ⟨2, 6⟩) (meth := k2m6) (c := k2c6) (by decide +kernel) rfl rfl rfl (by decide +kernel)
def codes1 : List Jvm.Cond := [Jvm.Cond.code x code maxLocals ret, Jvm.Cond.code ({ cls := "BitplaneMqCoder", name := "<init>", desc := "(II)V" } : Jvm.MethodName) prog_1_method_1_code (3 : Nat) (Option.none : Option Jvm.ClassFile.FieldType), Jvm.Cond.code ({ cls := "java/lang/Object", name := "<init>", desc := "()V" } : Jvm.MethodName) object_method_1_code (1 : Nat) (Option.none : Option Jvm.ClassFile.FieldType), Jvm.Cond.code ({ cls := "BitplaneMqCoder", name := "clampSize", desc := "(I)I" } : Jvm.MethodName) prog_1_method_17_code (2 : Nat) (Option.some Jvm.ClassFile.FieldType.int), Jvm.Cond.code ({ cls := "BitplaneMqCoder", name := "setBandRect", desc := "(IIIII)V" } : Jvm.MethodName) prog_1_method_21_code (6 : Nat) (Option.none : Option Jvm.ClassFile.FieldType), Jvm.Cond.code ({ cls := "BitplaneMqCoder", name := "loadStatesLow", desc := "()V" } : Jvm.MethodName) prog_1_method_77_code (1 : Nat) (Option.none : Option Jvm.ClassFile.FieldType), Jvm.Cond.code ({ cls := "BitplaneMqCoder", name := "putState", desc := "(I)V" } : Jvm.MethodName) prog_1_method_76_code (2 : Nat) (Option.none : Option Jvm.ClassFile.FieldType), Jvm.Cond.code ({ cls := "BitplaneMqCoder", name := "loadStatesHigh", desc := "()V" } : Jvm.MethodName) prog_1_method_78_code (1 : Nat) (Option.none : Option Jvm.ClassFile.FieldType), Jvm.Cond.code ({ cls := "BitplaneMqCoder", name := "getWidth", desc := "()I" } : Jvm.MethodName) prog_1_method_2_code (1 : Nat) (Option.some Jvm.ClassFile.FieldType.int), Jvm.Cond.code ({ cls := "BitplaneMqCoder", name := "getHeight", desc := "()I" } : Jvm.MethodName) prog_1_method_3_code (1 : Nat) (Option.some Jvm.ClassFile.FieldType.int), Jvm.Cond.code ({ cls := "BitplaneMqCoder", name := "getPixel", desc := "(II)I" } : Jvm.MethodName) prog_1_method_5_code (3 : Nat) (Option.some Jvm.ClassFile.FieldType.int), Jvm.Cond.code ({ cls := "BitplaneMqCoder", name := "inRange", desc := "(II)Z" } : Jvm.MethodName) prog_1_method_18_code (3 : Nat) (Option.some Jvm.ClassFile.FieldType.boolean), Jvm.Cond.code ({ cls := "BitplaneMqCoder", name := "getBand", desc := "(II)I" } : Jvm.MethodName) prog_1_method_9_code (3 : Nat) (Option.some Jvm.ClassFile.FieldType.int), Jvm.Cond.code ({ cls := "BitplaneMqCoder", name := "getCoefficient", desc := "(II)I" } : Jvm.MethodName) prog_1_method_8_code (3 : Nat) (Option.some Jvm.ClassFile.FieldType.int), Jvm.Cond.code ({ cls := "BitplaneMqCoder", name := "decode", desc := "(I)I" } : Jvm.MethodName) prog_1_method_11_code (3 : Nat) (Option.some Jvm.ClassFile.FieldType.int)]
set_option maxRecDepth 65536 in
theorem codes_eq : words1.filter isCode = codes1 := rfl
theorem w_codes : ∀ c ∈ words1.filter isCode, c.before args0 about1 = true := by
  rw [codes_eq]
  intro c hc
  simp only [codes1, List.mem_cons, List.not_mem_nil, or_false] at hc
  rcases hc with rfl | rfl | rfl | rfl | rfl | rfl | rfl | rfl | rfl | rfl | rfl | rfl | rfl | rfl | rfl
  · exact w_c0
  · exact w_c1
  · exact w_c2
  · exact w_c3
  · exact w_c4
  · exact w_c5
  · exact w_c6
  · exact w_c7
  · exact w_c8
  · exact w_c9
  · exact w_c10
  · exact w_c11
  · exact w_c12
  · exact w_c13
  · exact w_c14
set_option maxRecDepth 65536 in
theorem w_t1 : (words1.take 24).all (fun c => isCode c || c.before args0 about1) = true := by decide +kernel
set_option maxRecDepth 65536 in
theorem w_t2 : ((words1.drop 24).take 24).all (fun c => isCode c || c.before args0 about1) = true := by decide +kernel
set_option maxRecDepth 65536 in
theorem w_t3 : (((words1.drop 24).drop 24).take 24).all (fun c => isCode c || c.before args0 about1) = true := by decide +kernel
set_option maxRecDepth 65536 in
theorem w_t4 : ((((words1.drop 24).drop 24).drop 24).take 24).all (fun c => isCode c || c.before args0 about1) = true := by decide +kernel
set_option maxRecDepth 65536 in
theorem w_t5 : (((((words1.drop 24).drop 24).drop 24).drop 24).take 24).all (fun c => isCode c || c.before args0 about1) = true := by decide +kernel
set_option maxRecDepth 65536 in
theorem w_t6 : ((((((words1.drop 24).drop 24).drop 24).drop 24).drop 24).take 24).all (fun c => isCode c || c.before args0 about1) = true := by decide +kernel
set_option maxRecDepth 65536 in
theorem w_t7 : (((((((words1.drop 24).drop 24).drop 24).drop 24).drop 24).drop 24).take 24).all (fun c => isCode c || c.before args0 about1) = true := by decide +kernel
set_option maxRecDepth 65536 in
theorem w_t8 : (((((((words1.drop 24).drop 24).drop 24).drop 24).drop 24).drop 24).drop 24).all (fun c => isCode c || c.before args0 about1) = true := by decide +kernel
theorem w_tables : (allAtoms (Jvm.Cond.code x code maxLocals ret :: tables_1)).before args0 about1 = true := by
  rw [allAtoms_all]
  show words1.all (fun c => c.before args0 about1) = true
  refine all_split ?_ w_codes
  rw [← List.take_append_drop 24 words1, List.all_append, w_t1, ← List.take_append_drop 24 (words1.drop 24), List.all_append, w_t2, ← List.take_append_drop 24 ((words1.drop 24).drop 24), List.all_append, w_t3, ← List.take_append_drop 24 (((words1.drop 24).drop 24).drop 24), List.all_append, w_t4, ← List.take_append_drop 24 ((((words1.drop 24).drop 24).drop 24).drop 24), List.all_append, w_t5, ← List.take_append_drop 24 (((((words1.drop 24).drop 24).drop 24).drop 24).drop 24), List.all_append, w_t6, ← List.take_append_drop 24 ((((((words1.drop 24).drop 24).drop 24).drop 24).drop 24).drop 24), List.all_append, w_t7, w_t8]
  rfl
set_option maxRecDepth 65536 in
theorem w_case : (Jvm.Cond.and given_1 narrow_1).before args0 about1 = true := by decide +kernel
theorem w_applies : (headSpec (Jvm.Cond.code x code maxLocals ret :: tables_1) room_1).applies x e0.platform about1 = true :=
  (Spec.applies_iff w_frames).mpr ⟨w_running, w_runnable, w_alone, w_named, w_hears, w_ripe, w_room, w_tables⟩
theorem atStart : AtStart classFile x code maxLocals ret World_1 tables_1 room_1 Calls_1 rest_1 Pre_1 launch0 p0 e0 about1 theMethod args0 below0 :=
  ⟨lists_1, trivial, launch0.admits_env _ _ _, launch0.least_env, fairChoices_fair.cas, fairChoices_fair.clock, w_frames, w_args, w_heap, w_applies, trivial, trivial, w_case⟩
end start1
theorem witness_1 : WitnessClaimed_1 := ⟨start1.p0, start1.e0, start1.about1, start1.theMethod, start1.args0, start1.below0, start1.atStart⟩
end Jvm.Pilot.@@N@@
